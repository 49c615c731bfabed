/-
  Kt3: texts joined: Am17d Am18 RdN Ev1 Rn1 Rn2 Cv0 Zr1 Zr2 Rn3 Sl1 Gn1 Gn2 Gn3 Px1. Own work.
-/
import Derived.Test.YtlahcgdnieenpaaGreatDoorKt2
import Derived.WalkKit
import Derived.ProofKit
import Derived.OpenShut
import Derived.ChangeOld
import Derived.Below
import Derived.Deep.Slices
import GoSem.ClaimGoes
import Derived.ChangeKeysEq
import Derived.Laws.StructEq
set_option linter.all false
set_option linter.unusedSimpArgs false
set_option linter.unusedVariables false
set_option linter.unusedSectionVars false

namespace Go.AM
open Go.RowKit
section
variable {P:Program} {E:HE} {N:Nat} {ro:Option Nat} {n:Nat}
def Zn : Nat -> List AV -> List (Nat × AV)
 | _,[]=>[]
 | k,x::xs=>(k,x)::Zn (k+1) xs
theorem Jh : ∀ (xs : List AV) (k t : Nat),get (Zn k xs) t = if k <= t then xs.getD (t - k) .any else .any
 | [],k,t=>by simp [Zn,get]
 | x::xs, k, t=>by
   simp only [Zn,get];split
   . rename_i e;subst e;simp
   rename_i e;rw [Jh xs (k+1) t];by_cases h:k+1<=t
   . rw [if_pos h,if_pos (by omega)];obtain ⟨d,rfl⟩:∃ d,t=k+1+d:=⟨t - (k+1),by omega⟩;rw [show k+1+d - (k+1)=d by omega,show k+1+d - k=d+1 by omega];rfl
   rw [if_neg h,if_neg (by omega)]
def qN : List ResultVar -> Option (List Nat)
 | []=>some []
 | .tmp t::r=>(qN r).map (t::·)
 | _=>none
def qdB (ts:List Nat) (fr:List (Nat × AV)):AV:=match ts with
 | [t]=>get fr t
 | _ => .tup (ts.map (get fr))
abbrev RC:=List (Nat × Option (Bool × Nat))
def Q7 (P : Program) : List ResultVar -> Option RC
 | []=>some []
 | .tmp t::r=>(Q7 P r).map ((t,none)::·)
 | .cell a t::r=>match qE P t,Q7 P r with
   | some i,some l=>some ((a,some i)::l)
   | _,_=>none
def qak (hp : Hp) (fr : List (Nat × AV)) : RC -> List AV -> Prop
 | [],[]=>True
 | (t,none)::r,x::xs=>x=get fr t/\qak hp fr r xs
 | (a,some (agg,sz))::r,x::xs=>Q0 hp x [] agg sz (get fr a)/\qak hp fr r xs
 | _,_=>False
def VR : List AV -> AV
 | [x]=>x
 | xs => .tup xs
theorem Xt {hp g w} (hok : HeapOK hp g w) {fr : List (Nat × AV)} {a : Act} (hF : FrOK w g (get fr) a) : ∀ {rs : List ResultVar} {rc : RC} {xs : List AV} (f : ResultVar -> Sem Value),
 (∀ t,f (.tmp t)=pure (a.tmps.getD t undef))->(∀ b t,f (.cell b t)=(do loadVar t (<-asAddr (a.tmps.getD b undef))))->Q7 P rs=some rc->qak hp fr rc xs ->
 ∃ vs:List Value,(rs.mapM f).run P w = .ok vs w/\vs.length=xs.length/\∀ i (h:i<xs.length),Rep w g false xs[i] (vs.getD i undef)
 | [],rc,xs,f,h1,h2,h,hx=>by
   simp [Q7] at h;subst h;cases xs with
   | nil=>exact ⟨[],rfl,rfl,fun i hi=>by simp at hi⟩
   | cons _ _=>exact hx.elim
 | .tmp t::rs,rc,xs,f,h1,h2,h,hx=>by
   simp only [Q7,Option.map_eq_some_iff] at h;obtain ⟨l,h',rfl⟩:=h;cases xs with
   | nil=>exact hx.elim
   | cons x xs =>
     obtain ⟨rfl,hx⟩:=hx;obtain ⟨vs,k1,k2,k3⟩:=Xt hok hF f h1 h2 h' hx;refine ⟨a.tmps.getD t undef::vs,?_,by simp [k2],fun i hi=>?_⟩
     . rw [List.mapM_cons,h1];simp only [Sem.run_bind,Sem.run_pure,Result.andThen_ok,k1]
     cases i with
     | zero=>exact hF t
     | succ i=>simpa using k3 i (by simpa using hi)
 | .cell b t::rs, rc, xs, f, h1, h2, h, hx=>by
   simp only [Q7] at h;split at h
   . rename_i i l hi hl;cases h;obtain ⟨agg,sz⟩:=i;cases xs with
     | nil=>exact hx.elim
     | cons x xs =>
       obtain ⟨hld,hx⟩:=hx;obtain ⟨vs,k1,k2,k3⟩:=Xt hok hF f h1 h2 hl hx;have e1:=hF b
       have main:∃ v, ((do loadVar t (<-asAddr (a.tmps.getD b undef)):Sem Value)).run P w = .ok v w/\Rep w g false x v:=by
        simp only [Q0] at hld;split at hld
        . rename_i cs off hu;rw [hu] at e1;obtain ⟨c,q,hv,hrow⟩:=Yg e1;obtain ⟨v,j1,j2⟩:=ZP hi hrow hld.2;exact ⟨v,by rw [hv];simp [asAddr,j1],j2⟩
        . rename_i id off hu;split at hld
          . rename_i cs hid;rw [hu] at e1;obtain ⟨c,q,hv,hrow,_⟩:=Yh e1 hok hid;obtain ⟨v,j1,j2⟩:=ZP hi hrow hld.2;exact ⟨v,by rw [hv];simp [asAddr,j1],j2⟩
          exact hld.elim
        exact hld.elim
       obtain ⟨v,m1,m2⟩:=main;refine ⟨v::vs,?_,by simp [k2],fun i hi=>?_⟩
       . rw [List.mapM_cons,h2];simp only [Sem.run_bind,Result.andThen_ok] at m1 ⊢;rw [m1];simp only [Result.andThen_ok,k1,Sem.run_pure]
       cases i with
       | zero=>exact m2
       | succ i=>simpa using k3 i (by simpa using hi)
   cases h
theorem jh {hp g w} (hok : HeapOK hp g w) {fr : List (Nat × AV)} {a : Act} (hF : FrOK w g (get fr) a) {fn : Func} {rc : RC} {xs : List AV} (h : Q7 P fn.results.toList = some rc) (hx : qak hp fr rc xs) :
 ∃ v,(results fn a.tmps).run P w = .ok v w/\Rep w g false (VR xs) v:=by
 simp only [results];rw [Array.mapM_eq_mapM_toList];simp only [Sem.run_bind,Sem.run_pure,map_eq_pure_bind];obtain ⟨vs,k1,k2,k3⟩:=Xt hok hF (fun x=>match x with | .tmp t=>pure (a.tmps.getD t undef) | .cell b t=>do loadVar t (<-asAddr (a.tmps.getD b undef))) (fun _=>rfl) (fun _ _=>rfl) h hx
 have gen : xs.length ≠ 1 -> ∃ v,(Result.ok (if h : vs.toArray.size = 1 then vs.toArray[0] else Value.tuple vs.toArray) w : Result Value) = .ok v w /\ Rep w g false (.tup xs) v := fun hne => by
  refine ⟨.tuple vs.toArray,?_,.tup _ _ _ k2 k3⟩;have:¬ vs.toArray.size=1:=by simp;omega
  rw [dif_neg this]
 have key:∃ v,(Result.ok (if h:vs.toArray.size=1 then vs.toArray[0] else Value.tuple vs.toArray) w:Result Value) = .ok v w/\Rep w g false (VR xs) v:=by
  match xs,k2,k3,gen with
  | [],k2,k3,gen=>exact gen (by simp)
  | [x], k2, k3, _ =>
    obtain ⟨v,rfl⟩:∃ v,vs=[v]:=by
     cases vs with
     | nil=>simp at k2
     | cons v vs=>cases vs with
       | nil=>exact ⟨v,rfl⟩
       | cons _ _=>simp at k2
    exact ⟨v,by simp,k3 0 (by simp)⟩
  | x::y::xs,k2,k3,gen=>exact gen (by simp)
 obtain ⟨v,h1,h2⟩:=key;refine ⟨v,?_,h2⟩;refine (congrArg (fun r=>Result.andThen (Result.andThen r (fun a w'=>Result.ok a.toArray w')) (fun (a:Array Value) w'=>Result.ok (if h:a.size=1 then a[0] else Value.tuple a) w')) k1).trans ?_
 simp only [Result.andThen_ok,Sem.run_pure];exact h1
def qhf (rc : RC) (K : AV -> List HObj -> Prop) : Exit -> St -> Prop
 | .normal,st | .ret,st=>∃ xs,qak (hpf st.hp) st.fr rc xs/\K (VR xs) st.hp
 | _,_=>False
theorem Zd {fn : Func} {tmps : Array Value} {R : Ending -> World -> Prop} : ∀ (ms : List Nat) (w : World),ms.Nodup -> (∀ D ∈ ms,w.heap[D]? = some (.deferred (some []))) ->
 (∃ v,(results fn tmps).run P (ms.foldl (fun w D=>w.putObj D (.deferred none)) w) = .ok v (ms.foldl (fun w D=>w.putObj D (.deferred none)) w)/\R (.returned v) (ms.foldl (fun w D=>w.putObj D (.deferred none)) w)) ->
 LeavesInM (W ro) n P fn tmps R (ms.map mark) .returning w
 | [],w,hn,hD,h=>h
 | D::ms,w,hn,hD,h=>by refine ⟨by simp,.inl ⟨D,_,rfl,run_takeDeferred (hD D (by simp)),?_⟩⟩;rw [List.nodup_cons] at hn;exact Zd ms _ hn.2 (fun D' hD'=>(World.putObj_heap_other (fun e=>hn.1 (by rw [<-e];exact hD'))).trans (hD D' (by simp [hD']))) h
theorem jD {hp0 g0 w0 hp g} : ∀ (ms : List Nat) (w : World),ms.Nodup -> (∀ D ∈ ms,w0.heap.size <= D /\ w.heap[D]? = some (.deferred (some [])) /\ ¬ qaI hp g D) -> HeapOK hp g w -> Upd hp0 g0 w0 hp g w ->
 HeapOK hp g (ms.foldl (fun w D=>w.putObj D (.deferred none)) w)/\Upd hp0 g0 w0 hp g (ms.foldl (fun w D=>w.putObj D (.deferred none)) w)/\Trans w g (ms.foldl (fun w D=>w.putObj D (.deferred none)) w) g
 | [],w,hn,hD,h,u=>⟨h,u,.refl _ _⟩
 | D::ms,w,hn,hD,h,u=>by rw [List.nodup_cons] at hn;obtain ⟨k1,k2,k3⟩:=hD D (by simp);obtain ⟨h1,u1,t1⟩:=qgL h u k2 k3 k1;obtain ⟨h2,u2,t2⟩:=jD ms _ hn.2 (fun D' hD'=>by obtain ⟨q1,q2,q3⟩:=hD D' (by simp [hD']);exact ⟨q1,(World.putObj_heap_other (fun e=>hn.1 (by rw [<-e];exact hD'))).trans q2,q3⟩) h1 u1;exact ⟨h2,u2,t1.trans t2⟩
theorem qbW {w1 : World} {g1 : G} (hY : YS P E w1 g1) (hR : RS P E) {f : FuncId} {fn : Func} {c : Code} {ac : AC} {rc : RC} {xs : List AV} {hp : List HObj} {K : AV -> List HObj -> Prop} (hf : P.funcs[f]? = some fn) (hb : fn.body = some c) (hc : VL P fn.ntmps c ac)
 (hr:Q7 P fn.results.toList=some rc) (hl:xs.length<=fn.ntmps) (h:AWP P E ac { fr:=Zn 0 xs,hp:=hp } (qhf rc K)):VK P w1 g1 f xs hp K:=by
 intro ro n w g vs hok htr hvs hrep
 have go : CallsIn (W none) n P f vs w fun e w' => ∃ v r hp' g', e = .returned v /\ K r hp' /\ Rep w' g' false r v /\ HeapOK (hpf hp') g' w' /\ Upd (hpf hp) g w (hpf hp') g' w' := by
  refine callsIn_of_wp_marks hf hb trivial (q6 hY hR hc (.inl rfl) h htr (g:=g) ?_ ?_) rfl
  . refine ⟨by simp [hvs]; omega,fun t => ?_,hok⟩;show Rep w g false (get (Zn 0 xs) t) _;rw [Jh];simp only [Nat.zero_le,if_true,Nat.sub_zero];by_cases ht:t<xs.length
    . have e1 : xs.getD t .any = xs[t] := by simp [ht]
      rw [e1];have:=hrep t ht;simp only [Array.getD_eq_getD_getElem?] at this ⊢;rw [Array.getElem?_append_left (by omega)];exact this
    have e1:xs.getD t .any = .any:=by simp [Nat.le_of_not_lt ht]
    rw [e1];exact .any _ _
  intro e st' a' w' g' hq hs hu hd;obtain ⟨ms,d1,d2,d3⟩:=hd;simp only [List.append_nil] at d1;have fin:(∃ xs,qak (hpf st'.hp) st'.fr rc xs/\K (VR xs) st'.hp)->LeavesInM (W none) n P fn a'.tmps (fun e w'=>∃ v r hp' g',e = .returned v/\K r hp'/\Rep w' g' false r v/\HeapOK (hpf hp') g' w'/\Upd (hpf hp) g w (hpf hp') g' w') a'.defers .returning w':=fun ⟨ys,hy,hK⟩=>by rw [d1];obtain ⟨k1,k2,k3⟩:=jD ms w' d2 d3 hs.2.2 hu;refine Zd ms w' d2 (fun D hD=>(d3 D hD).2.1) ?_;obtain ⟨v,j1,j2⟩:=jh (P:=P) k1 (fun i=>(hs.2.1 i).mono k3) hr hy;exact ⟨v,j1,v,_,_,g',rfl,hK,j2,k1,k2⟩
  cases e with
  | normal=>exact fin hq
  | ret=>exact fin hq
  | _=>exact hq.elim
 exact go
def noY:Nat->List AV->List HObj->(AV->List HObj->Prop)->Prop:=fun _ _ _ _=>False
def noR:AV->List HObj->(List AV->List HObj->(AV->List HObj->Prop)->Prop)->(List HObj->Prop)->Prop:=fun _ _ _ _=>False
def qJ (P:Program) (fn:Func) (ts:List Nat):Option AC:=fn.body.map fun c=>(ann ts (comp P fn.ntmps c) [] ts).1
def R1 (P:Program):AV->List HObj->(List AV->List HObj->(AV->List HObj->Prop)->Prop)->(List HObj->Prop)->Prop:=fun v hp H K0 =>
 ∃ f caps fn ac ts rc,v = .fn (.func f) [] caps /\ ja P f = true /\ P.funcs[f]? = some fn /\ qJ P fn ts = some ac /\ Q7 P fn.results.toList = some rc /\ caps.length + 1 <= fn.ntmps /\
   AWP P ⟨fun id xs hp' K=>id=hp.length/\H xs hp' K,noR⟩ ac { fr:=Zn 0 (.yl hp.length::caps),hp:=hp++[.lp .ready (hp.length+1),.gone] } (qhf rc fun _ hp'=>K0 hp')
def E1 (P:Program):HE:=⟨noY,R1 P⟩
theorem qny {Y}:RS P ⟨Y,noR⟩:=fun _ _ _ _ h=>h.elim
theorem qr5:RS P (E1 P):=by rintro v hp H K0 ⟨f,caps,fn,ac,ts,rc,rfl,hfun,hf,hc,hr,hl,h⟩;refine ⟨f,caps,rfl,hfun,fun w1 g1 hH=>?_⟩;simp only [qJ,Option.map_eq_some_iff] at hc;obtain ⟨c,hb,rfl⟩:=hc;exact qbW (E:=⟨fun id xs hp' K=>id=hp.length/\H xs hp' K,noR⟩) (fun id xs hp' K ⟨e,hh⟩=>by subst e;exact hH xs hp' K hh) qny hf hb (zR (ze c)) hr (by simp;omega) h
theorem qjH {w1 g1}:YS P (E1 P) w1 g1:=fun _ _ _ _ h=>h.elim
theorem qhF {f : FuncId} {fn : Func} {ac : AC} {ts : List Nat} {rc : RC} {xs : List AV} {hp : List HObj} {K : AV -> List HObj -> Prop} (hf : P.funcs[f]? = some fn) (hc : qJ P fn ts = some ac)
 (hr:Q7 P fn.results.toList=some rc) (hl:xs.length<=fn.ntmps) (h:AWP P (E1 P) ac { fr:=Zn 0 xs,hp:=hp } (qhf rc K)):qw P f xs hp K:=by
 simp only [qJ,Option.map_eq_some_iff] at hc;obtain ⟨c,hb,rfl⟩:=hc;exact fun ro n w g vs hok hvs hrep=>qbW (E:=E1 P) (w1:=w) (g1:=g) qjH qr5 hf hb (zR (ze c)) hr hl h ro n w g vs hok (.refl _ _) hvs hrep
theorem JB : ∀ {rs : List ResultVar} {ts : List Nat},qN rs = some ts -> Q7 P rs = some (ts.map (·,none))
 | [],ts,h=>by simp [qN] at h;subst h;rfl
 | .tmp t::r,ts,h=>by simp only [qN,Option.map_eq_some_iff] at h;obtain ⟨ts',h',rfl⟩:=h;simp [Q7,JB h']
 | .cell a t::r,ts,h=>by cases h
theorem Vy {hp : Hp} {fr : List (Nat × AV)} : ∀ (ts : List Nat) (xs : List AV),qak hp fr (ts.map (·,none)) xs ↔ xs = ts.map (get fr)
 | [],[]=>by simp [qak]
 | [],x::xs=>by simp [qak]
 | t::ts,[]=>by simp [qak]
 | t::ts,x::xs=>by simp [qak,Vy ts xs]
theorem qaj (ts:List Nat) (fr:List (Nat × AV)):VR (ts.map (get fr))=qdB ts fr:=by
 match ts with
 | []=>rfl
 | [t]=>rfl
 | t::u::r=>rfl
def qly (ts : List Nat) (K : AV -> List HObj -> Prop) : Exit -> St -> Prop
 | .normal,st | .ret,st=>K (qdB ts st.fr) st.hp
 | _,_=>False
theorem qal {ts:List Nat} {K:AV->List HObj->Prop}:qhf (ts.map (·,none)) K=qly ts K:=by have key:∀ st:St,(∃ xs,qak (hpf st.hp) st.fr (ts.map (·,none)) xs/\K (VR xs) st.hp)=K (qdB ts st.fr) st.hp:=fun st=>propext ⟨fun ⟨xs,h1,h2⟩=>by rw [Vy] at h1;subst h1;rw [qaj] at h2;exact h2,fun h=>⟨_,(Vy _ _).2 rfl,by rw [qaj];exact h⟩⟩;funext e st;cases e <;> first | exact key st | rfl
theorem qc2 {f : FuncId} {fn : Func} {ac : AC} {ts : List Nat} {xs : List AV} {hp : List HObj} {K : AV -> List HObj -> Prop} (hf : P.funcs[f]? = some fn) (hc : qJ P fn ts = some ac) (hr : qN fn.results.toList = some ts)
 (hl:xs.length<=fn.ntmps) (h:AWP P (E1 P) ac { fr:=Zn 0 xs,hp:=hp } (qly ts K)):qw P f xs hp K :=
 qhF hf hc (JB hr) hl (by rw [qal];exact h)
def G.bare (g:G):G:={ S:=g.S,ρ:=fun _=>none }
theorem HeapOK.bare {hp g w} (h:HeapOK hp g w):HeapOK (fun _=>none) g.bare w :=
 ⟨fun _ _=>rfl,fun _ _ h=>(by cases h),fun _ _ _ _ _ _ _ h=>(by cases h),h.ex,h.tab⟩
theorem Upd.bare {g w hp' g' w'} (h0:HeapOK (fun _=>none) g w) (h:Upd (fun _=>none) g w hp' g' w'):Upd (fun _=>none) g w (fun _=>none) g'.bare w' :=
 ⟨⟨h.tr.S,h.tr.cell,fun id l hl=>(by rw [h0.dom id rfl] at hl;cases hl),h.tr.shp,h.tr.os,h.tr.tape,h.tr.output,h.tr.size,h.tr.drawn⟩,fun c ⟨_,_,_,h,_⟩=>(by cases h),h.S,h.keep⟩
theorem Rep.bare {w g v x} (h:Rep w g true x v):Rep w g.bare true x v:=by
 generalize hp:true=p at h
 induction h with
 | v p x=>exact .v _ x
 | any p x=>exact .any _ x
 | sl p full n cs a cap vs hn hf hc hr ih=>exact .sl _ full n cs a cap vs hn hf hc (fun i h=>ih i h rfl)
 | agg p cs vs hl hr ih=>exact .agg _ cs vs hl (fun i h=>ih i h hp)
 | tup p cs vs hl hr ih=>exact .tup _ cs vs hl (fun i h=>ih i h hp)
 | ptr p cs off b o vs hc hr ih=>exact .ptr _ cs off b o vs hc (fun i h=>ih i h rfl)
 | ref=>cases hp
 | ms=>cases hp
 | msz=>cases hp
 | fn p f as bs xs ys hl hl' hr hr' ih ih'=>exact .fn _ f as bs xs ys hl hl' (fun i h=>ih i h hp) (fun i h=>ih' i h hp)
 | mp=>cases hp
 | mc=>cases hp
 | mcz=>cases hp
 | yl=>cases hp
def Out (r:AV) (x:AV) (hp:List HObj):Prop:=∃ is,qv (hpf hp) x=some (r,is)
theorem J8 {f:FuncId} {xs:List AV} {r:AV} (h:qw P f xs [] (Out r)):z8 P f xs r:=by
 intro ro n w g vs hok hvs hrep;have e0:hpf []=fun _=>none:=by funext i;simp [hpf]
 refine (h ro n w g vs (by rw [e0];exact hok) hvs (fun i hi=>(hrep i hi).of)).mono ?_;rintro e w' ⟨v,x,hp',g',rfl,⟨is,hpur⟩,hx,hok',hu⟩;rw [e0] at hu;have q:=jC hok' (ids:=is) hpur (fun i hi=>hi) hx;obtain ⟨k1,k2⟩:=hok'.giveAll is (Zy hpur);exact ⟨v,_,rfl,q.bare,k1.bare,(hu.trans k2).bare hok⟩
end
def qpN (P:Program) (f:FuncId) (xs:List AV) (hp:List HObj) (K:AV->List (Nat × HObj)->Prop):Prop :=
 ∃ ys ids,qh (hpf hp) xs=some (ys,ids)/\((∃ r,z8 P f ys r/\K r (bif r.scalar then [] else gones ids))\/(∃ m sz cs,jK P f ys m sz cs/\K (.ms hp.length 0 m sz) (JH cs ids++[(hp.length,.cells cs)]))\/∃ Φ,Wt P f ys Φ/\K (.mp hp.length) (gones ids++[(hp.length,.mpp Φ)]))
def AOp.wp (P:Program) (o:AOp) (F:Nat->AV) (hp:List HObj) (K:AV->List (Nat × HObj)->Prop):Prop :=
 ∃ r ws,o.sem P (evF F) (hpf hp) hp.length r ws/\K r ws
def qY (P:Program) (E:HE) (os:List AOp) (d:Option Nat) (fr:List (Nat × AV)) (hp:List HObj) (K:St->Prop) (r:AV) (ws:List (Nat × HObj)):Prop:=zb P E os ⟨qH fr d r,qc hp ws⟩ K
def qmf (P:Program) (E:HE) (os:List AOp) (d:Nat) (fr:List (Nat × AV)) (K:St->Prop) (r:AV) (hp:List HObj):Prop:=zb P E os ⟨(d,r)::fr,hp⟩ K
def qU (P:Program) (os:List AOp) (d:Option Nat) (fr:List (Nat × AV)) (hp:List HObj) (tr:Tr) (ft:List Nat) (K:St->Tr->Prop) (r:AV) (ws:List (Nat × HObj)):Prop :=
 Qc P os ⟨qH fr d r,qc hp ws⟩ (tr++[(ft,ws.map (·.1))]) K
section
variable {P:Program} {E:HE} {fr:List (Nat × AV)} {hp:List HObj} {F:Nat->AV} {os:List AOp} {KS:St->Prop} {KD:St->Tr->Prop} {tr:Tr} {K:AV->List (Nat × HObj)->Prop}
theorem qfr:gones []=[]:=rfl
theorem qdl {i is}:gones (i::is)=(i,.gone)::gones is:=rfl
theorem Jp {k t x}:get ((k,x)::fr) t=if k=t then x else get fr t:=rfl
theorem qmw {t}:get [] t = .any:=rfl
theorem qEo {t}:evF F (.t t)=F t:=rfl
theorem qEn {x}:evF F (.k x)=x:=rfl
theorem qgY {d:Option Nat} {r ws}:qY P E os d fr hp KS r ws=zb P E os ⟨qH fr d r,qc hp ws⟩ KS:=rfl
theorem qoG {d:Nat} {r hp}:qmf P E os d fr KS r hp=zb P E os ⟨(d,r)::fr,hp⟩ KS:=rfl
theorem qoH {d:Option Nat} {ft r ws}:qU P os d fr hp tr ft KD r ws=Qc P os ⟨qH fr d r,qc hp ws⟩ (tr++[(ft,ws.map (·.1))]) KD:=rfl
theorem qCX:zb P E [] ⟨fr,hp⟩ KS=KS ⟨fr,hp⟩:=rfl
theorem qvt:Qc P [] ⟨fr,hp⟩ tr KD=KD ⟨fr,hp⟩ tr:=rfl
theorem qvr {d f args}:zb P (E1 P) (.call d f args::os) ⟨fr,hp⟩ KS=qw P f (args.map (evF (get fr))) hp (qmf P (E1 P) os d fr KS) :=
 propext ⟨fun h ro n w g vs a b c=>h w g qjH ro n w g vs a (.refl _ _) b c,fun h=>WF h⟩
def qdZ (P:Program) (E:HE) (x:AV) (args:List AV) (hp:List HObj) (KC:AV->List HObj->Prop):Prop:=match x with
 | .fn (.func f) first caps=>ja P f=true/\qw P f (first++args++caps) hp KC
 | .yl id=>∃ K0,E.Y id args hp K0/\∀ r hp',K0 r hp'->KC r hp'
 | _=>False
theorem qoF {d x args}:zb P E (.callv d x args::os) ⟨fr,hp⟩ KS=qdZ P E (evF (get fr) x) (args.map (evF (get fr))) hp (qmf P E os d fr KS):=by
 simp only [zb,aop,qdZ];generalize evF (get fr) x=u;cases u with
 | fn f as bs=>cases f <;> rfl
 | _=>rfl
theorem qzv {f first caps args} {KC:AV->List HObj->Prop}:qdZ P E (.fn (.func f) first caps) args hp KC=(ja P f=true/\qw P f (first++args++caps) hp KC):=rfl
theorem qzJ {a0 a1}:Qc P (.mv a0 a1::os) ⟨fr,hp⟩ tr KD=(AOp.mv a0 a1).wp P (get fr) hp (qU P os (some a0) fr hp tr ([]) KD):=rfl
theorem qmo {a0 a1 a2 a3}:Qc P (.pick a0 a1 a2 a3::os) ⟨fr,hp⟩ tr KD=(AOp.pick a0 a1 a2 a3).wp P (get fr) hp (qU P os (some a0) fr hp tr ([]) KD):=rfl
theorem qqs {a0 a1 a2 a3}:Qc P (.bin a0 a1 a2 a3::os) ⟨fr,hp⟩ tr KD=(AOp.bin a0 a1 a2 a3).wp P (get fr) hp (qU P os (some a0) fr hp tr ([]) KD):=rfl
theorem qml {a0 a1 a2 a3 a4}:Qc P (.bing a0 a1 a2 a3 a4::os) ⟨fr,hp⟩ tr KD=(AOp.bing a0 a1 a2 a3 a4).wp P (get fr) hp (qU P os (some a0) fr hp tr ([]) KD):=rfl
theorem qzM {a0 a1 a2}:Qc P (.un a0 a1 a2::os) ⟨fr,hp⟩ tr KD=(AOp.un a0 a1 a2).wp P (get fr) hp (qU P os (some a0) fr hp tr ([]) KD):=rfl
theorem qqD {a0 a1 a2}:Qc P (.ext a0 a1 a2::os) ⟨fr,hp⟩ tr KD=(AOp.ext a0 a1 a2).wp P (get fr) hp (qU P os (some a0) fr hp tr ([]) KD):=rfl
theorem qzI {a0 a1 a2 a3}:Qc P (.ld a0 a1 a2 a3::os) ⟨fr,hp⟩ tr KD=(AOp.ld a0 a1 a2 a3).wp P (get fr) hp (qU P os (some a0) fr hp tr ((evF (get fr) a3).ids) KD):=by simp [Qc,AOp.wp,qU,AOp.foot,AOp.looks,AOp.heapy,AOp.more,AOp.opds,AOp.dst,St.step]
theorem qzL {a0 a1 a2}:Qc P (.st a0 a1 a2::os) ⟨fr,hp⟩ tr KD=(AOp.st a0 a1 a2).wp P (get fr) hp (qU P os none fr hp tr ((evF (get fr) a1).ids++(evF (get fr) a2).ids) KD):=by simp [Qc,AOp.wp,qU,AOp.foot,AOp.looks,AOp.heapy,AOp.more,AOp.opds,AOp.dst,St.step]
theorem qqu {a0 a1 a2}:Qc P (.box a0 a1 a2::os) ⟨fr,hp⟩ tr KD=(AOp.box a0 a1 a2).wp P (get fr) hp (qU P os (some a0) fr hp tr ([]) KD):=rfl
theorem qzF {a0 a1}:Qc P (.al a0 a1::os) ⟨fr,hp⟩ tr KD=(AOp.al a0 a1).wp P (get fr) hp (qU P os (some a0) fr hp tr ([]) KD):=rfl
theorem qqv {a0 a1 a2 a3 a4}:Qc P (.bsl a0 a1 a2 a3 a4::os) ⟨fr,hp⟩ tr KD=(AOp.bsl a0 a1 a2 a3 a4).wp P (get fr) hp (qU P os (some a0) fr hp tr (qij (hpf hp) (a4.map fun p=>evF (get fr) p.2)) KD):=rfl
theorem qqt {a0 a1 a2}:Qc P (.bld a0 a1 a2::os) ⟨fr,hp⟩ tr KD=(AOp.bld a0 a1 a2).wp P (get fr) hp (qU P os (some a0) fr hp tr ([]) KD):=rfl
theorem qzG {a0 a1 a2}:Qc P (.fa a0 a1 a2::os) ⟨fr,hp⟩ tr KD=(AOp.fa a0 a1 a2).wp P (get fr) hp (qU P os (some a0) fr hp tr ([]) KD):=rfl
theorem qqE {a0 a1 a2 a3 a4}:Qc P (.fld a0 a1 a2 a3 a4::os) ⟨fr,hp⟩ tr KD=(AOp.fld a0 a1 a2 a3 a4).wp P (get fr) hp (qU P os (some a0) fr hp tr ([]) KD):=rfl
theorem qzH {a0 a1 a2 a3}:Qc P (.ia a0 a1 a2 a3::os) ⟨fr,hp⟩ tr KD=(AOp.ia a0 a1 a2 a3).wp P (get fr) hp (qU P os (some a0) fr hp tr ([]) KD):=rfl
theorem qqF {a0 a1 a2 a3 a4}:Qc P (.iaa a0 a1 a2 a3 a4::os) ⟨fr,hp⟩ tr KD=(AOp.iaa a0 a1 a2 a3 a4).wp P (get fr) hp (qU P os (some a0) fr hp tr ([]) KD):=rfl
theorem qqH {a0 a1 a2 a3 a4 a5}:Qc P (.idx a0 a1 a2 a3 a4 a5::os) ⟨fr,hp⟩ tr KD=(AOp.idx a0 a1 a2 a3 a4 a5).wp P (get fr) hp (qU P os (some a0) fr hp tr ([]) KD):=rfl
theorem qqG {a0 a1 a2}:Qc P (.ids a0 a1 a2::os) ⟨fr,hp⟩ tr KD=(AOp.ids a0 a1 a2).wp P (get fr) hp (qU P os (some a0) fr hp tr ([]) KD):=rfl
theorem qqJ {a0 a1}:Qc P (.len a0 a1::os) ⟨fr,hp⟩ tr KD=(AOp.len a0 a1).wp P (get fr) hp (qU P os (some a0) fr hp tr ([]) KD):=rfl
theorem qqM {a0 a1}:Qc P (.lns a0 a1::os) ⟨fr,hp⟩ tr KD=(AOp.lns a0 a1).wp P (get fr) hp (qU P os (some a0) fr hp tr ([]) KD):=rfl
theorem qqL {a0 a1}:Qc P (.lnm a0 a1::os) ⟨fr,hp⟩ tr KD=(AOp.lnm a0 a1).wp P (get fr) hp (qU P os (some a0) fr hp tr ((evF (get fr) a1).ids) KD):=by simp [Qc,AOp.wp,qU,AOp.foot,AOp.looks,AOp.heapy,AOp.more,AOp.opds,AOp.dst,St.step]
theorem qqR {a0 a1 a2 a3 a4 a5}:Qc P (.slc a0 a1 a2 a3 a4 a5::os) ⟨fr,hp⟩ tr KD=(AOp.slc a0 a1 a2 a3 a4 a5).wp P (get fr) hp (qU P os (some a0) fr hp tr ([]) KD):=rfl
theorem qqT {a0 a1 a2 a3}:Qc P (.sls a0 a1 a2 a3::os) ⟨fr,hp⟩ tr KD=(AOp.sls a0 a1 a2 a3).wp P (get fr) hp (qU P os (some a0) fr hp tr ([]) KD):=rfl
theorem qqr {a0 a1 a2 a3 a4}:Qc P (.app a0 a1 a2 a3 a4::os) ⟨fr,hp⟩ tr KD=(AOp.app a0 a1 a2 a3 a4).wp P (get fr) hp (qU P os (some a0) fr hp tr ((evF (get fr) a3).ids++(evF (get fr) a4).ids) KD):=by simp [Qc,AOp.wp,qU,AOp.foot,AOp.looks,AOp.heapy,AOp.more,AOp.opds,AOp.dst,St.step]
theorem qqz {a0 a1 a2 a3}:Qc P (.cpy a0 a1 a2 a3::os) ⟨fr,hp⟩ tr KD=(AOp.cpy a0 a1 a2 a3).wp P (get fr) hp (qU P os (some a0) fr hp tr ((evF (get fr) a2).ids++(evF (get fr) a3).ids) KD):=by simp [Qc,AOp.wp,qU,AOp.foot,AOp.looks,AOp.heapy,AOp.more,AOp.opds,AOp.dst,St.step]
theorem qqP {a0 a1 a2 a3 a4 a5}:Qc P (.mks a0 a1 a2 a3 a4 a5::os) ⟨fr,hp⟩ tr KD=(AOp.mks a0 a1 a2 a3 a4 a5).wp P (get fr) hp (qU P os (some a0) fr hp tr ([]) KD):=rfl
theorem qqy {a0 a1 a2}:Qc P (.cnv a0 a1 a2::os) ⟨fr,hp⟩ tr KD=(AOp.cnv a0 a1 a2).wp P (get fr) hp (qU P os (some a0) fr hp tr ([]) KD):=rfl
theorem qzK {a0 a1 a2 a3}:Qc P (.mx a0 a1 a2 a3::os) ⟨fr,hp⟩ tr KD=(AOp.mx a0 a1 a2 a3).wp P (get fr) hp (qU P os (some a0) fr hp tr ([]) KD):=rfl
theorem qmn {a0 a1}:Qc P (.nilc a0 a1::os) ⟨fr,hp⟩ tr KD=(AOp.nilc a0 a1).wp P (get fr) hp (qU P os (some a0) fr hp tr ([]) KD):=rfl
theorem qqN {a0 a1 a2 a3}:Qc P (.mkf a0 a1 a2 a3::os) ⟨fr,hp⟩ tr KD=(AOp.mkf a0 a1 a2 a3).wp P (get fr) hp (qU P os (some a0) fr hp tr ([]) KD):=rfl
theorem qmm {a0 a1 a2}:Qc P (.call a0 a1 a2::os) ⟨fr,hp⟩ tr KD=(AOp.call a0 a1 a2).wp P (get fr) hp (qU P os (some a0) fr hp tr (qij (hpf hp) (a2.map (evF (get fr)))) KD):=rfl
theorem qz4 {x}:(AV.v x).ids=[]:=rfl
theorem qrr {a b c}:(AV.sl a b c).ids=[]:=rfl
theorem qmO {a b}:(AV.ptr a b).ids=[]:=rfl
theorem qmP {a b}:(AV.ref a b).ids=[a]:=rfl
theorem qrq {a b c d}:(AV.ms a b c d).ids=[a]:=rfl
theorem qrp {a}:(AV.mp a).ids=[a]:=rfl
theorem qmN:AV.any.ids=[]:=rfl
theorem qro {a b c}:(AV.fn a b c).ids=b.flatMap AV.ids0++c.flatMap AV.ids0:=rfl
theorem qim {cs}:(AV.agg cs).ids1=cs.flatMap AV.ids0:=rfl
theorem qrm {x}:(AV.v x).ids0=[]:=rfl
theorem qmG {a b c}:(AV.sl a b c).ids0=[]:=rfl
theorem qik {a b}:(AV.ptr a b).ids0=[]:=rfl
theorem qil {a b}:(AV.ref a b).ids0=[a]:=rfl
theorem qmF {a b c d}:(AV.ms a b c d).ids0=[a]:=rfl
theorem qmE {a}:(AV.mp a).ids0=[a]:=rfl
theorem qmM {cs}:(AV.agg cs).ids=cs.flatMap AV.ids1:=rfl
theorem qmQ {cs}:(AV.tup cs).ids=cs.flatMap AV.ids1:=rfl
theorem qrn {x}:(AV.v x).ids1=[]:=rfl
theorem qmK {a b c}:(AV.sl a b c).ids1=[]:=rfl
theorem qio {a b}:(AV.ptr a b).ids1=[]:=rfl
theorem qip {a b}:(AV.ref a b).ids1=[a]:=rfl
theorem qmJ {a b c d}:(AV.ms a b c d).ids1=[a]:=rfl
theorem qmI {a}:(AV.mp a).ids1=[a]:=rfl
theorem qin:AV.any.ids1=[]:=rfl
theorem qmH {a b c}:(AV.fn a b c).ids1=b.flatMap AV.ids0++c.flatMap AV.ids0:=rfl
theorem qoJ {d f args}:(AOp.call d f args).wp P F hp K=qpN P f (args.map (evF F)) hp K:=by
 apply propext;constructor
 . rintro ⟨r,ws,⟨ys,ids,h1,h2⟩,h3⟩;rcases h2 with ⟨h2,rfl⟩ | ⟨m,sz,cs,h2,rfl,rfl⟩ | ⟨Φ,h2,rfl,rfl⟩
   . exact ⟨ys,ids,h1,.inl ⟨r,h2,h3⟩⟩
   . exact ⟨ys,ids,h1,.inr (.inl ⟨m,sz,cs,h2,h3⟩)⟩
   exact ⟨ys,ids,h1,.inr (.inr ⟨Φ,h2,h3⟩)⟩
 rintro ⟨ys,ids,h1,h2⟩;rcases h2 with ⟨r,h2,h3⟩ | ⟨m,sz,cs,h2,h3⟩ | ⟨Φ,h2,h3⟩
 . exact ⟨r,_,⟨ys,ids,h1,.inl ⟨h2,rfl⟩⟩,h3⟩
 . exact ⟨_,_,⟨ys,ids,h1,.inr (.inl ⟨m,sz,cs,h2,rfl,rfl⟩)⟩,h3⟩
 exact ⟨_,_,⟨ys,ids,h1,.inr (.inr ⟨Φ,h2,rfl,rfl⟩)⟩,h3⟩
theorem qC5 {a0 a1}:zb P E (.mv a0 a1::os) ⟨fr,hp⟩ KS=(AOp.mv a0 a1).wp P (get fr) hp (qY P E os (some a0) fr hp KS):=rfl
theorem qoN {a0 a1 a2 a3}:zb P E (.pick a0 a1 a2 a3::os) ⟨fr,hp⟩ KS=(AOp.pick a0 a1 a2 a3).wp P (get fr) hp (qY P E os (some a0) fr hp KS):=rfl
theorem qvy {a0 a1 a2 a3}:zb P E (.bin a0 a1 a2 a3::os) ⟨fr,hp⟩ KS=(AOp.bin a0 a1 a2 a3).wp P (get fr) hp (qY P E os (some a0) fr hp KS):=rfl
theorem qoL {a0 a1 a2 a3 a4}:zb P E (.bing a0 a1 a2 a3 a4::os) ⟨fr,hp⟩ KS=(AOp.bing a0 a1 a2 a3 a4).wp P (get fr) hp (qY P E os (some a0) fr hp KS):=rfl
theorem qC8 {a0 a1 a2}:zb P E (.un a0 a1 a2::os) ⟨fr,hp⟩ KS=(AOp.un a0 a1 a2).wp P (get fr) hp (qY P E os (some a0) fr hp KS):=rfl
theorem qvJ {a0 a1 a2}:zb P E (.ext a0 a1 a2::os) ⟨fr,hp⟩ KS=(AOp.ext a0 a1 a2).wp P (get fr) hp (qY P E os (some a0) fr hp KS):=rfl
theorem qC4 {a0 a1 a2 a3}:zb P E (.ld a0 a1 a2 a3::os) ⟨fr,hp⟩ KS=(AOp.ld a0 a1 a2 a3).wp P (get fr) hp (qY P E os (some a0) fr hp KS):=rfl
theorem qC7 {a0 a1 a2}:zb P E (.st a0 a1 a2::os) ⟨fr,hp⟩ KS=(AOp.st a0 a1 a2).wp P (get fr) hp (qY P E os none fr hp KS):=rfl
theorem qvA {a0 a1 a2}:zb P E (.box a0 a1 a2::os) ⟨fr,hp⟩ KS=(AOp.box a0 a1 a2).wp P (get fr) hp (qY P E os (some a0) fr hp KS):=rfl
theorem qC1 {a0 a1}:zb P E (.al a0 a1::os) ⟨fr,hp⟩ KS=(AOp.al a0 a1).wp P (get fr) hp (qY P E os (some a0) fr hp KS):=rfl
theorem qvB {a0 a1 a2 a3 a4}:zb P E (.bsl a0 a1 a2 a3 a4::os) ⟨fr,hp⟩ KS=(AOp.bsl a0 a1 a2 a3 a4).wp P (get fr) hp (qY P E os (some a0) fr hp KS):=rfl
theorem qvz {a0 a1 a2}:zb P E (.bld a0 a1 a2::os) ⟨fr,hp⟩ KS=(AOp.bld a0 a1 a2).wp P (get fr) hp (qY P E os (some a0) fr hp KS):=rfl
theorem qC2 {a0 a1 a2}:zb P E (.fa a0 a1 a2::os) ⟨fr,hp⟩ KS=(AOp.fa a0 a1 a2).wp P (get fr) hp (qY P E os (some a0) fr hp KS):=rfl
theorem qvK {a0 a1 a2 a3 a4}:zb P E (.fld a0 a1 a2 a3 a4::os) ⟨fr,hp⟩ KS=(AOp.fld a0 a1 a2 a3 a4).wp P (get fr) hp (qY P E os (some a0) fr hp KS):=rfl
theorem qC3 {a0 a1 a2 a3}:zb P E (.ia a0 a1 a2 a3::os) ⟨fr,hp⟩ KS=(AOp.ia a0 a1 a2 a3).wp P (get fr) hp (qY P E os (some a0) fr hp KS):=rfl
theorem qvL {a0 a1 a2 a3 a4}:zb P E (.iaa a0 a1 a2 a3 a4::os) ⟨fr,hp⟩ KS=(AOp.iaa a0 a1 a2 a3 a4).wp P (get fr) hp (qY P E os (some a0) fr hp KS):=rfl
theorem qvN {a0 a1 a2 a3 a4 a5}:zb P E (.idx a0 a1 a2 a3 a4 a5::os) ⟨fr,hp⟩ KS=(AOp.idx a0 a1 a2 a3 a4 a5).wp P (get fr) hp (qY P E os (some a0) fr hp KS):=rfl
theorem qvM {a0 a1 a2}:zb P E (.ids a0 a1 a2::os) ⟨fr,hp⟩ KS=(AOp.ids a0 a1 a2).wp P (get fr) hp (qY P E os (some a0) fr hp KS):=rfl
theorem qvP {a0 a1}:zb P E (.len a0 a1::os) ⟨fr,hp⟩ KS=(AOp.len a0 a1).wp P (get fr) hp (qY P E os (some a0) fr hp KS):=rfl
theorem qvS {a0 a1}:zb P E (.lns a0 a1::os) ⟨fr,hp⟩ KS=(AOp.lns a0 a1).wp P (get fr) hp (qY P E os (some a0) fr hp KS):=rfl
theorem qvR {a0 a1}:zb P E (.lnm a0 a1::os) ⟨fr,hp⟩ KS=(AOp.lnm a0 a1).wp P (get fr) hp (qY P E os (some a0) fr hp KS):=rfl
theorem qvX {a0 a1 a2 a3 a4 a5}:zb P E (.slc a0 a1 a2 a3 a4 a5::os) ⟨fr,hp⟩ KS=(AOp.slc a0 a1 a2 a3 a4 a5).wp P (get fr) hp (qY P E os (some a0) fr hp KS):=rfl
theorem qvZ {a0 a1 a2 a3}:zb P E (.sls a0 a1 a2 a3::os) ⟨fr,hp⟩ KS=(AOp.sls a0 a1 a2 a3).wp P (get fr) hp (qY P E os (some a0) fr hp KS):=rfl
theorem qvx {a0 a1 a2 a3 a4}:zb P E (.app a0 a1 a2 a3 a4::os) ⟨fr,hp⟩ KS=(AOp.app a0 a1 a2 a3 a4).wp P (get fr) hp (qY P E os (some a0) fr hp KS):=rfl
theorem qvF {a0 a1 a2 a3}:zb P E (.cpy a0 a1 a2 a3::os) ⟨fr,hp⟩ KS=(AOp.cpy a0 a1 a2 a3).wp P (get fr) hp (qY P E os (some a0) fr hp KS):=rfl
theorem qvV {a0 a1 a2 a3 a4 a5}:zb P E (.mks a0 a1 a2 a3 a4 a5::os) ⟨fr,hp⟩ KS=(AOp.mks a0 a1 a2 a3 a4 a5).wp P (get fr) hp (qY P E os (some a0) fr hp KS):=rfl
theorem qvE {a0 a1 a2}:zb P E (.cnv a0 a1 a2::os) ⟨fr,hp⟩ KS=(AOp.cnv a0 a1 a2).wp P (get fr) hp (qY P E os (some a0) fr hp KS):=rfl
theorem qC6 {a0 a1 a2 a3}:zb P E (.mx a0 a1 a2 a3::os) ⟨fr,hp⟩ KS=(AOp.mx a0 a1 a2 a3).wp P (get fr) hp (qY P E os (some a0) fr hp KS):=rfl
theorem qoM {a0 a1}:zb P E (.nilc a0 a1::os) ⟨fr,hp⟩ KS=(AOp.nilc a0 a1).wp P (get fr) hp (qY P E os (some a0) fr hp KS):=rfl
theorem qvT {a0 a1 a2 a3}:zb P E (.mkf a0 a1 a2 a3::os) ⟨fr,hp⟩ KS=(AOp.mkf a0 a1 a2 a3).wp P (get fr) hp (qY P E os (some a0) fr hp KS):=rfl
theorem qeX {α β:Type} {a:α} {b:β} {K:α->β->Prop} {p:Prop}:(∃ r ws,(p/\r=a/\ws=b)/\K r ws)=(p/\K a b) :=
 propext ⟨fun ⟨_,_,⟨h,e1,e2⟩,k⟩=>⟨h,by subst e1;subst e2;exact k⟩,fun ⟨h,k⟩=>⟨a,b,⟨h,rfl,rfl⟩,k⟩⟩
theorem ZW {α β:Type} {a:α} {b:β} {K:α->β->Prop}:(∃ r ws,(r=a/\ws=b)/\K r ws)=K a b :=
 propext ⟨fun ⟨_,_,⟨e1,e2⟩,k⟩=>by subst e1;subst e2;exact k,fun k=>⟨a,b,⟨rfl,rfl⟩,k⟩⟩
theorem qzU {α β γ:Type} {p:γ->Prop} {f:γ->α} {b:β} {K:α->β->Prop}:(∃ r ws,(∃ z,p z/\r=f z/\ws=b)/\K r ws)=∃ z,p z/\K (f z) b :=
 propext ⟨fun ⟨_,_,⟨z,h,e1,e2⟩,k⟩=>⟨z,h,by subst e1;subst e2;exact k⟩,fun ⟨z,h,k⟩=>⟨_,_,⟨z,h,rfl,rfl⟩,k⟩⟩
theorem Z2 {α β:Type} {K:α->β->Prop}:(∃ r ws,False/\K r ws)=False:=by simp
theorem qEY {d x}:(AOp.mv d x).wp P F hp K=K (evF F x) []:=ZW
def qpM (c a b:AV) (K:AV->List (Nat × HObj)->Prop):Prop:=match c with
 | .v (.bool t)=>K (bif t then a else b) []
 | _=>False
theorem qvp {d c a b}:(AOp.pick d c a b).wp P F hp K=qpM (evF F c) (evF F a) (evF F b) K:=by
 unfold AOp.wp;simp only [AOp.sem];generalize evF F c=u;cases u with
 | v x=>cases x <;> first | exact ZW | exact Z2
 | _=>exact Z2
theorem qoC {t a b}:qpM (B t) a b K=K (bif t then a else b) []:=rfl
def YE (op:BinOp) (x y:AV) (K:AV->List (Nat × HObj)->Prop):Prop:=match x,y with
 | .v a,.v b=>∃ z,Zo op a b=some z/\K (.v z) []
 | _,_=>False
theorem qCH {d op x y}:(AOp.bin d op x y).wp P F hp K=YE op (evF F x) (evF F y) K:=by unfold AOp.wp;simp only [AOp.sem];generalize evF F x=u;generalize evF F y=v;cases u <;> cases v <;> first | exact qzU | exact Z2
theorem QD {op a b z} (h:Zo op a b=some z):YE op (.v a) (.v b) K=K (.v z) []:=by unfold YE;simp only [h,Option.some.injEq,exists_eq_left']
theorem qlD {k:IntKind} {a b:Int}:YE .add (.v (.int k a)) (.v (.int k b)) K=K (.v (.int k (k.wrap (a+b)))) []:=QD (by simp [Zo])
theorem qlG {k:IntKind} {a b:Int}:YE .sub (.v (.int k a)) (.v (.int k b)) K=K (.v (.int k (k.wrap (a - b)))) []:=QD (by simp [Zo])
theorem qyT {k:IntKind} {a b:Int}:YE .mul (.v (.int k a)) (.v (.int k b)) K=K (.v (.int k (k.wrap (a*b)))) []:=QD (by simp [Zo])
theorem qyW {k:IntKind} {a b:Int} (h:b≠0):YE .quo (.v (.int k a)) (.v (.int k b)) K=K (.v (.int k (k.wrap (a.tdiv b)))) []:=QD (by simp [Zo,h])
theorem qhu {k:IntKind} {a b:Int} (h:b≠0):YE .rem (.v (.int k a)) (.v (.int k b)) K=K (.v (.int k (a.tmod b))) []:=QD (by simp [Zo,h])
theorem qyO {k:IntKind} {a b:Int}:YE .and (.v (.int k a)) (.v (.int k b)) K=K (.v (.int k (k.wrap (BitVec.ofInt k.bits a &&& BitVec.ofInt k.bits b).toNat))) []:=QD (by simp [Zo])
theorem qyV {k:IntKind} {a b:Int}:YE .or (.v (.int k a)) (.v (.int k b)) K=K (.v (.int k (k.wrap (BitVec.ofInt k.bits a ||| BitVec.ofInt k.bits b).toNat))) []:=QD (by simp [Zo])
theorem qyY {k:IntKind} {a b:Int}:YE .xor (.v (.int k a)) (.v (.int k b)) K=K (.v (.int k (k.wrap (BitVec.ofInt k.bits a ^^^ BitVec.ofInt k.bits b).toNat))) []:=QD (by simp [Zo])
theorem qht {k:IntKind} {a b:Int}:YE .andNot (.v (.int k a)) (.v (.int k b)) K=K (.v (.int k (k.wrap (BitVec.ofInt k.bits a &&& ~~~ BitVec.ofInt k.bits b).toNat))) []:=QD (by simp [Zo])
theorem qlF {k k':IntKind} {a b:Int} (h:0<=b):YE .shl (.v (.int k a)) (.v (.int k' b)) K=K (.v (.int k (k.wrap (a*2 ^ (min b.toNat k.bits))))) []:=QD (by simp [Zo];omega)
theorem qyX {k k':IntKind} {a b:Int} (h:0<=b):YE .shr (.v (.int k a)) (.v (.int k' b)) K=K (.v (.int k (a.fdiv (2 ^ (min b.toNat k.bits))))) []:=QD (by simp [Zo];omega)
theorem qyP {k:IntKind} {a b:Int}:YE .eql (.v (.int k a)) (.v (.int k b)) K=K (B (a==b)) []:=QD (by simp [Zo])
theorem qyU {k:IntKind} {a b:Int}:YE .neq (.v (.int k a)) (.v (.int k b)) K=K (B (a != b)) []:=QD (by simp [Zo])
theorem qyS {k:IntKind} {a b:Int}:YE .lss (.v (.int k a)) (.v (.int k b)) K=K (B (decide (a<b))) []:=QD (by simp [Zo])
theorem qlE {k:IntKind} {a b:Int}:YE .leq (.v (.int k a)) (.v (.int k b)) K=K (B (decide (a<=b))) []:=QD (by simp [Zo])
theorem qyR {k:IntKind} {a b:Int}:YE .gtr (.v (.int k a)) (.v (.int k b)) K=K (B (decide (a>b))) []:=QD (by simp [Zo])
theorem qyQ {k:IntKind} {a b:Int}:YE .geq (.v (.int k a)) (.v (.int k b)) K=K (B (decide (a≥b))) []:=QD (by simp [Zo])
def qyy (P:Program) (op:BinOp) (ty:TypeId) (x y:AV) (K:AV->List (Nat × HObj)->Prop):Prop :=
 ∃ a b z,x.val=some a/\y.val=some b/\(∀ w,(binOp op ty a b).run P w = .ok z w)/\(∀ p q w,(eqGuard op ty p q a b).run P w = .ok () w)/\K (.v z) []
theorem qvn {d op ty x y}:(AOp.bing d op ty x y).wp P F hp K=qyy P op ty (evF F x) (evF F y) K:=by
 apply propext;constructor
 . rintro ⟨r,ws,⟨a,b,z,h1,h2,h3,h4,rfl,rfl⟩,k⟩;exact ⟨a,b,z,h1,h2,h3,h4,k⟩
 rintro ⟨a,b,z,h1,h2,h3,h4,k⟩;exact ⟨_,_,⟨a,b,z,h1,h2,h3,h4,rfl,rfl⟩,k⟩
def UnW (op:UnOp) (x:AV) (K:AV->List (Nat × HObj)->Prop):Prop:=match x with
 | .v a=>∃ z,unV op a=some z/\K (.v z) []
 | _=>False
theorem qE1 {d op x}:(AOp.un d op x).wp P F hp K=UnW op (evF F x) K:=by unfold AOp.wp;simp only [AOp.sem];generalize evF F x=u;cases u <;> first | exact qzU | exact Z2
theorem qCm {k:IntKind} {a:Int}:UnW .neg (.v (.int k a)) K=K (.v (.int k (k.wrap (0 - a)))) []:=by unfold UnW;simp [unV]
theorem qCn {b:Bool}:UnW .not (B b) K=K (B !b) []:=by unfold UnW;simp [unV]
def qDw (x:AV) (i:Nat) (K:AV->List (Nat × HObj)->Prop):Prop:=match x with
 | .tup vs=>∃ y,vs[i]?=some y/\K y []
 | _=>False
theorem qCO {d x i}:(AOp.ext d x i).wp P F hp K=qDw (evF F x) i K:=by unfold AOp.wp;simp only [AOp.sem];generalize evF F x=u;cases u <;> first | exact qzU | exact Z2
def qfT : List AV -> Nat -> Option AV
 | [],_=>none
 | a::l,n=>if n=0 then some a else qfT l (n - 1)
theorem Vn : ∀ (l : List AV) (n : Nat),qfT l n = l[n]?
 | [],n=>by simp [qfT]
 | a::l,0=>by simp [qfT]
 | a::l,n+1=>by simp [qfT,Vn l n]
theorem qfU {a:AV} {l:List AV} {n}:qfT (a::l) n=if n=0 then some a else qfT l (n - 1):=rfl
def qpL (o:Option AV) (K:AV->List (Nat × HObj)->Prop):Prop:=match o with
 | some y=>K y []
 | none=>False
theorem qiR {y:AV}:qpL (some y) K=K y []:=rfl
theorem qkr {o:Option AV}:(∃ y,o=some y/\K y [])=qpL o K:=by cases o <;> simp [qpL]
theorem qzN {vs:List AV} {i}:qDw (.tup vs) i K=qpL (qfT vs i) K:=by rw [Vn];exact qkr
def Zl (cs:List AV) (off sz:Nat) (agg:Bool) (K:AV->List (Nat × HObj)->Prop):Prop:=match agg with
 | true=>off+sz<=cs.length/\K (.agg (qy cs off sz)) []
 | false=>∃ y,cs[off]?=some y/\K y []
theorem qeC {cs:List AV} {off sz}:Zl cs off sz true K=(off+sz<=cs.length/\K (.agg (qy cs off sz)) []):=rfl
theorem qeD {cs:List AV} {off sz}:Zl cs off sz false K=qpL (qfT cs off) K:=by rw [Vn];exact qkr
theorem WJ {cs:List AV} {off sz agg} {p:Prop}:(∃ r ws,((match agg with | true=>off+sz<=cs.length/\r = .agg (qy cs off sz) | false=>∃ y,cs[off]?=some y/\r=y)/\ws=[])/\K r ws)=Zl cs off sz agg K:=by
 apply propext;cases agg with
 | true =>
   constructor
   . rintro ⟨r,ws,⟨⟨h,rfl⟩,rfl⟩,k⟩;exact ⟨h,k⟩
   rintro ⟨h,k⟩;exact ⟨_,_,⟨⟨h,rfl⟩,rfl⟩,k⟩
 | false =>
   constructor
   . rintro ⟨r,ws,⟨⟨y,h,rfl⟩,rfl⟩,k⟩;exact ⟨_,h,k⟩
   rintro ⟨y,h,k⟩;exact ⟨_,_,⟨⟨y,h,rfl⟩,rfl⟩,k⟩
def LdW (hp:List HObj) (agg:Bool) (sz:Nat) (x:AV) (K:AV->List (Nat × HObj)->Prop):Prop:=match x with
 | .ptr cs off=>Zl cs off sz agg K
 | .ref id off=>match hp[id]? with
   | some (.cells cs)=>Zl cs off sz agg K
   | _=>False
 | _=>False
theorem qEX {d agg sz x}:(AOp.ld d agg sz x).wp P F hp K=LdW hp agg sz (evF F x) K:=by
 unfold AOp.wp;simp only [AOp.sem,Q0];have sw:∀ (cs:List AV) (off:Nat),(∃ r ws,(ws=[]/\(match agg with | true=>off+sz<=cs.length/\r = .agg (qy cs off sz) | false=>∃ y,cs[off]?=some y/\r=y))/\K r ws)=Zl cs off sz agg K:=fun cs off=>by rw [<-WJ (p:=True)];exact propext ⟨fun ⟨r,ws,⟨a,b⟩,k⟩=>⟨r,ws,⟨b,a⟩,k⟩,fun ⟨r,ws,⟨a,b⟩,k⟩=>⟨r,ws,⟨b,a⟩,k⟩⟩
 generalize evF F x=u;cases u with
 | ptr cs off=>exact sw cs off
 | ref id off =>
   simp only [hpf,LdW];generalize hp[id]?=o;cases o with
   | none=>exact Z2
   | some o=>cases o <;> first | exact sw _ _ | exact Z2
 | _=>exact Z2
theorem qrC {agg sz cs off}:LdW hp agg sz (.ptr cs off) K=Zl cs off sz agg K:=rfl
def qz : List HObj -> Nat -> Option HObj
 | [],_=>none
 | a::l,n=>if n=0 then some a else qz l (n - 1)
theorem qk : ∀ (l : List HObj) (n : Nat),qz l n = l[n]?
 | [],n=>by simp [qz]
 | a::l,0=>by simp [qz]
 | a::l,n+1=>by simp [qz,qk l n]
theorem qfV {a:HObj} {l:List HObj} {n}:qz (a::l) n=if n=0 then some a else qz l (n - 1):=rfl
theorem qiO {l:List HObj} {o:HObj}:qz (l++[o]) l.length=some o:=by simp [qk]
theorem J3 {l k:List HObj} {n} (h:n<l.length):qz (l++k) n=qz l n:=by rw [qk,qk,List.getElem?_append_left h]
theorem qnD {l:List HObj} {o o':HObj}:(l++[o]).set l.length o'=l++[o']:=by simp
def LdR (o:Option HObj) (agg:Bool) (sz off:Nat) (K:AV->List (Nat × HObj)->Prop):Prop:=match o with
 | some (.cells cs)=>Zl cs off sz agg K
 | _=>False
theorem QQ {cs agg sz off}:LdR (some (.cells cs)) agg sz off K=Zl cs off sz agg K:=rfl
theorem qrD {agg sz id off}:LdW hp agg sz (.ref id off) K=LdR (qz hp id) agg sz off K:=by simp only [LdW,qk];rfl
def StW (hp:List HObj) (sz:Nat) (a x:AV) (K:AV->List (Nat × HObj)->Prop):Prop:=match a with
 | .ref id off=>match hp[id]? with
   | some (.cells cs)=>(x.cells.length=sz/\(x.cells.all AV.isCell)=true/\off+sz<=cs.length)/\K .any [(id,.cells (splice cs off x.cells))]
   | _=>False
 | _=>False
theorem qE0 {sz a x}:(AOp.st sz a x).wp P F hp K=StW hp sz (evF F a) (evF F x) K:=by
 unfold AOp.wp;simp only [AOp.sem,qaq];generalize evF F a=u;cases u with
 | ref id off =>
   simp only [hpf,StW];generalize hp[id]?=o;cases o with
   | none=>exact Z2
   | some o =>
     cases o with
     | cells cs =>
       apply propext;constructor
       . rintro ⟨r,ws,⟨h1,h2,h3,rfl,rfl⟩,k⟩;exact ⟨⟨h1,h2,h3⟩,k⟩
       rintro ⟨⟨h1,h2,h3⟩,k⟩;exact ⟨_,_,⟨h1,h2,h3,rfl,rfl⟩,k⟩
     | _=>exact Z2
 | _=>exact Z2
def StR (o:Option HObj) (sz id off:Nat) (x:AV) (K:AV->List (Nat × HObj)->Prop):Prop:=match o with
 | some (.cells cs)=>(x.cells.length=sz/\(x.cells.all AV.isCell)=true/\off+sz<=cs.length)/\K .any [(id,.cells (splice cs off x.cells))]
 | _=>False
theorem XB {cs sz id off x}:StR (some (.cells cs)) sz id off x K=((x.cells.length=sz/\(x.cells.all AV.isCell)=true/\off+sz<=cs.length)/\K .any [(id,.cells (splice cs off x.cells))]):=rfl
theorem qso {sz id off x}:StW hp sz (.ref id off) x K=StR (qz hp id) sz id off x K:=by simp only [StW,qk];rfl
theorem qCJ {d sz x}:(AOp.box d sz x).wp P F hp K=(((evF F x).cells.length=sz/\((evF F x).cells.all AV.isCell)=true)/\K (.ref hp.length 0) [(hp.length,.cells (evF F x).cells)]):=by
 unfold AOp.wp;simp only [AOp.sem];apply propext;constructor
 . rintro ⟨r,ws,⟨h1,h2,rfl,rfl⟩,k⟩;exact ⟨⟨h1,h2⟩,k⟩
 rintro ⟨⟨h1,h2⟩,k⟩;exact ⟨_,_,⟨h1,h2,rfl,rfl⟩,k⟩
theorem qEU {d z}:(AOp.al d z).wp P F hp K=K (.ref hp.length 0) [(hp.length,.cells z)]:=ZW
def qDu (P:Program) (hp:List HObj) (n sz:Nat) (zero:List AV) (is:List Nat) (xs:List AV) (K:AV->List (Nat × HObj)->Prop):Prop :=
 ∃ ys ids,qh (hpf hp) xs=some (ys,ids)/\(ys.all fun y=>y.cells.all AV.isCell&&y.cells.all AV.isPure&&(y.cells.length==sz))=true/\(K (.sl true n (Qp (zE n zero) sz (is.zip ys))) (gones ids)\/K (.mc hp.length 0 n n sz) (gones ids++[(hp.length,.cells (Qp (zE n zero) sz (is.zip ys)))]))
theorem qj2 {n sz : Nat} {zero : List AV} {is : List Nat} {xs ys : List AV} {ids : List Nat} (h1 : qh (hpf hp) xs = some (ys,ids)) (h2 : (ys.all fun y => y.cells.all AV.isCell && y.cells.all AV.isPure && (y.cells.length == sz)) = true)
 (h3:K (.sl true n (Qp (zE n zero) sz (is.zip ys))) (gones ids)):qDu P hp n sz zero is xs K:=⟨ys,ids,h1,h2,.inl h3⟩
theorem qf4 {cs:List AV} {sz:Nat}:Qp cs sz []=cs:=rfl
theorem qdw {cs:List AV} {sz i:Nat} {x:AV} {r}:Qp cs sz ((i,x)::r)=Qp (splice cs (i*sz) x.cells) sz r:=rfl
theorem qdv {cs:List AV}:ZY cs []=cs:=rfl
theorem qbw {cs:List AV} {off n:Nat} {x:AV} {r}:ZY cs ((off,n,x)::r)=ZY (splice cs off x.cells) r:=rfl
theorem qCK {d n sz z ps}:(AOp.bsl d n sz z ps).wp P F hp K=qDu P hp n sz z (ps.map (·.1)) (ps.map fun p=>evF F p.2) K:=by
 apply propext;constructor
 . rintro ⟨r,ws,⟨ys,ids,h1,h2,h3⟩,k⟩;rcases h3 with ⟨rfl,rfl⟩ | ⟨rfl,rfl⟩
   . exact ⟨ys,ids,h1,h2,.inl k⟩
   exact ⟨ys,ids,h1,h2,.inr k⟩
 rintro ⟨ys,ids,h1,h2,k | k⟩
 . exact ⟨_,_,⟨ys,ids,h1,h2,.inl ⟨rfl,rfl⟩⟩,k⟩
 exact ⟨_,_,⟨ys,ids,h1,h2,.inr ⟨rfl,rfl⟩⟩,k⟩
theorem qCI {d z ps}:(AOp.bld d z ps).wp P F hp K=((ps.all fun p=>(evF F p.2.2).cells.all AV.isCell&&((evF F p.2.2).cells.length==p.2.1))=true/\K (.agg (ZY z (ps.map fun p=>(p.1,p.2.1,evF F p.2.2)))) []):=qeX
def FaW (x:AV) (off:Nat) (K:AV->List (Nat × HObj)->Prop):Prop:=match x with
 | .ptr cs o=>K (.ptr cs (o+off)) []
 | .ref id o=>K (.ref id (o+off)) []
 | _=>False
theorem qEV {d x off}:(AOp.fa d x off).wp P F hp K=FaW (evF F x) off K:=by unfold AOp.wp;simp only [AOp.sem];generalize evF F x=u;cases u <;> first | exact ZW | exact Z2
theorem qq5 {cs o off}:FaW (.ptr cs o) off K=K (.ptr cs (o+off)) []:=rfl
theorem qq6 {id o off}:FaW (.ref id o) off K=K (.ref id (o+off)) []:=rfl
def qDx (agg:Bool) (sz off:Nat) (x:AV) (K:AV->List (Nat × HObj)->Prop):Prop:=match x with
 | .agg cs=>Zl cs off sz agg K
 | _=>False
theorem qCP {d agg sz off x}:(AOp.fld d agg sz off x).wp P F hp K=qDx agg sz off (evF F x) K:=by unfold AOp.wp;simp only [AOp.sem];generalize evF F x=u;cases u <;> first | exact WJ (p:=True) | exact Z2
theorem qmu {agg sz off cs}:qDx agg sz off (.agg cs) K=Zl cs off sz agg K:=rfl
def IaW (sz:Nat) (x i:AV) (K:AV->List (Nat × HObj)->Prop):Prop:=match x,i with
 | .sl _ n cs,.v (.int _ j)=>(0<=j/\j<n)/\cs.length=n*sz/\K (.ptr cs (j.toNat*sz)) []
 | .ms id off n sz',.v (.int _ j)=>(0<=j/\j<n)/\sz'=sz/\K (.ref id (off+j.toNat*sz)) []
 | .mc id off n _ sz',.v (.int _ j)=>(0<=j/\j<n)/\sz'=sz/\K (.ref id (off+j.toNat*sz)) []
 | _,_=>False
theorem qEW {d sz x i}:(AOp.ia d sz x i).wp P F hp K=IaW sz (evF F x) (evF F i) K:=by
 unfold AOp.wp;simp only [AOp.sem];generalize evF F x=u;generalize evF F i=v;cases u with
 | sl f n cs =>
   cases v with
   | v y =>
     cases y <;> first | exact Z2 | skip
     apply propext;constructor
     . rintro ⟨r,ws,⟨h1,rfl,rfl,h2⟩,k⟩;exact ⟨h1,h2,k⟩
     rintro ⟨h1,h2,k⟩;exact ⟨_,_,⟨h1,rfl,rfl,h2⟩,k⟩
   | _=>exact Z2
 | ms id off n sz' =>
   cases v with
   | v y =>
     cases y <;> first | exact Z2 | skip
     apply propext;constructor
     . rintro ⟨r,ws,⟨h1,h2,rfl,rfl⟩,k⟩;exact ⟨h1,h2,k⟩
     rintro ⟨h1,h2,k⟩;exact ⟨_,_,⟨h1,h2,rfl,rfl⟩,k⟩
   | _=>exact Z2
 | mc id off n c sz' =>
   cases v with
   | v y =>
     cases y <;> first | exact Z2 | skip
     apply propext;constructor
     . rintro ⟨r,ws,⟨h1,h2,rfl,rfl⟩,k⟩;exact ⟨h1,h2,k⟩
     rintro ⟨h1,h2,k⟩;exact ⟨_,_,⟨h1,h2,rfl,rfl⟩,k⟩
   | _=>exact Z2
 | _=>cases v <;> exact Z2
theorem qz1 {sz id off n c sz' j k}:IaW sz (.mc id off n c sz') (.v (.int k j)) K=((0<=j/\j<n)/\sz'=sz/\K (.ref id (off+j.toNat*sz)) []):=rfl
theorem qz3 {sz f n cs j k}:IaW sz (.sl f n cs) (.v (.int k j)) K=((0<=j/\j<n)/\cs.length=n*sz/\K (.ptr cs (j.toNat*sz)) []):=rfl
theorem qz2 {sz id off n sz' j k}:IaW sz (.ms id off n sz') (.v (.int k j)) K=((0<=j/\j<n)/\sz'=sz/\K (.ref id (off+j.toNat*sz)) []):=rfl
def qyC (ln sz:Nat) (x i:AV) (K:AV->List (Nat × HObj)->Prop):Prop:=match x,i with
 | .ptr cs o,.v (.int _ j)=>(0<=j/\j<ln)/\K (.ptr cs (o+j.toNat*sz)) []
 | .ref id o,.v (.int _ j)=>(0<=j/\j<ln)/\K (.ref id (o+j.toNat*sz)) []
 | _,_=>False
theorem qCQ {d ln sz x i}:(AOp.iaa d ln sz x i).wp P F hp K=qyC ln sz (evF F x) (evF F i) K:=by
 unfold AOp.wp;simp only [AOp.sem];generalize evF F x=u;generalize evF F i=v;cases u with
 | ptr cs o =>
   cases v with
   | v y=>cases y <;> first | exact Z2 | exact qeX
   | _=>exact Z2
 | ref id o =>
   cases v with
   | v y=>cases y <;> first | exact Z2 | exact qeX
   | _=>exact Z2
 | _=>cases v <;> exact Z2
theorem qmC {ln sz cs o j k}:qyC ln sz (.ptr cs o) (.v (.int k j)) K=((0<=j/\j<ln)/\K (.ptr cs (o+j.toNat*sz)) []):=rfl
theorem qmD {ln sz id o j k}:qyC ln sz (.ref id o) (.v (.int k j)) K=((0<=j/\j<ln)/\K (.ref id (o+j.toNat*sz)) []):=rfl
def qyD (ln:Nat) (agg:Bool) (sz:Nat) (x i:AV) (K:AV->List (Nat × HObj)->Prop):Prop:=match x,i with
 | .agg cs,.v (.int _ j)=>(0<=j/\j<ln)/\Zl cs (j.toNat*sz) sz agg K
 | _,_=>False
theorem qCR {d ln agg sz x i}:(AOp.idx d ln agg sz x i).wp P F hp K=qyD ln agg sz (evF F x) (evF F i) K:=by
 unfold AOp.wp;simp only [AOp.sem];generalize evF F x=u;generalize evF F i=v;cases u with
 | agg cs =>
   cases v with
   | v y =>
     cases y <;> first | exact Z2 | skip
     simp only [qyD];rw [<-WJ (p:=True)];apply propext;constructor
     . rintro ⟨r,ws,⟨h1,h2,h3⟩,k⟩;exact ⟨h1,r,ws,⟨h2,h3⟩,k⟩
     rintro ⟨h1,r,ws,⟨h2,h3⟩,k⟩;exact ⟨r,ws,⟨h1,h2,h3⟩,k⟩
   | _=>exact Z2
 | _=>cases v <;> exact Z2
theorem qmR {ln agg sz cs j k}:qyD ln agg sz (.agg cs) (.v (.int k j)) K=((0<=j/\j<ln)/\Zl cs (j.toNat*sz) sz agg K):=rfl
def qlx (x:AV) (K:AV->List (Nat × HObj)->Prop):Prop:=match x with
 | .sl _ n _=>K (I n) []
 | .ms _ _ n _=>K (I n) []
 | .mc _ _ n _ _=>K (I n) []
 | _=>False
theorem qCS {d x}:(AOp.len d x).wp P F hp K=qlx (evF F x) K:=by unfold AOp.wp;simp only [AOp.sem];generalize evF F x=u;cases u <;> first | exact ZW | exact Z2
theorem qrH {f n cs}:qlx (.sl f n cs) K=K (I n) []:=rfl
theorem qrF {id off n c sz}:qlx (.mc id off n c sz) K=K (I n) []:=rfl
theorem qrG {id off n sz}:qlx (.ms id off n sz) K=K (I n) []:=rfl
def qpl (sz:Nat) (x:AV) (lo hi mx:Option AV) (K:AV->List (Nat × HObj)->Prop):Prop:=∃ r ws,YA r ws sz x lo hi mx/\K r ws
theorem qCV {d sz x lo hi mx}:(AOp.slc d sz x lo hi mx).wp P F hp K=qpl sz (evF F x) (lo.map (evF F)) (hi.map (evF F)) (mx.map (evF F)) K:=rfl
theorem qcQ {a b:Int}:(I a=I b)=(a=b):=by simp [I]
theorem qsf {sz f n cs j}:qpl sz (.sl f n cs) none (some (I j)) none K=((0<=j/\j<=n/\cs.length=n*sz)/\K (.sl (f&&decide (j.toNat=n)) j.toNat (qy cs 0 (j.toNat*sz))) []):=by
 apply propext;constructor
 . rintro ⟨r,ws,⟨l,h,h1,h2,h3,h4,h5,h6,h7⟩,k⟩;simp only [qcQ] at h2;subst h1;subst h2;simp only [Nat.sub_zero,Nat.zero_mul] at h6;subst h6;subst h7;exact ⟨⟨by omega,by omega,h5⟩,by simpa using k⟩
 rintro ⟨⟨h1,h2,h3⟩,k⟩;exact ⟨_,_,⟨0,j.toNat,rfl,by rw [Int.toNat_of_nonneg h1],by omega,by omega,h3,rfl,rfl⟩,by simpa using k⟩
theorem qsg {sz f n cs j}:qpl sz (.sl f n cs) (some (I j)) none none K=((0<=j/\j<=n/\cs.length=n*sz)/\K (.sl f (n - j.toNat) (qy cs (j.toNat*sz) ((n - j.toNat)*sz))) []):=by
 apply propext;constructor
 . rintro ⟨r,ws,⟨l,h,h1,h2,h3,h4,h5,h6,h7⟩,k⟩;simp only [qcQ] at h1;subst h1;subst h2;simp only [decide_true,Bool.and_true] at h6;subst h6;subst h7;exact ⟨⟨by omega,by omega,h5⟩,by simpa using k⟩
 rintro ⟨⟨h1,h2,h3⟩,k⟩;exact ⟨_,_,⟨j.toNat,n,by rw [Int.toNat_of_nonneg h1],rfl,by omega,by omega,h3,rfl,rfl⟩,by simpa using k⟩
theorem qjk {sz f n cs i j}:qpl sz (.sl f n cs) (some (I i)) (some (I j)) none K=((0<=i/\i<=j/\j<=n/\cs.length=n*sz)/\K (.sl (f&&decide (j.toNat=n)) (j.toNat - i.toNat) (qy cs (i.toNat*sz) ((j.toNat - i.toNat)*sz))) []):=by
 apply propext;constructor
 . rintro ⟨r,ws,⟨l,h,h1,h2,h3,h4,h5,h6,h7⟩,k⟩;simp only [qcQ] at h1 h2;subst h1;subst h2;subst h6;subst h7;exact ⟨⟨by omega,by omega,by omega,h5⟩,by simpa using k⟩
 rintro ⟨⟨h1,h2,h3,h4⟩,k⟩;exact ⟨_,_,⟨i.toNat,j.toNat,by rw [Int.toNat_of_nonneg h1],by rw [Int.toNat_of_nonneg (by omega)],by omega,by omega,h4,rfl,rfl⟩,by simpa using k⟩
def qDv (k:IntKind) (x:AV) (K:AV->List (Nat × HObj)->Prop):Prop:=match x with
 | .v (.int _ n)=>K (.v (.int k (k.wrap n))) []
 | _=>False
theorem qCM {d k x}:(AOp.cnv d k x).wp P F hp K=qDv k (evF F x) K:=by
 unfold AOp.wp;simp only [AOp.sem];generalize evF F x=u;cases u with
 | v y=>cases y <;> first | exact ZW | exact Z2
 | _=>exact Z2
theorem qme {k k' n}:qDv k (.v (.int k' n)) K=K (.v (.int k (k.wrap n))) []:=rfl
def MxW (max:Bool) (x y:AV) (K:AV->List (Nat × HObj)->Prop):Prop:=match x,y with
 | .v (.int k a),.v (.int _ b)=>K (.v (.int k (bif max then (if b>a then b else a) else (if b<a then b else a)))) []
 | _,_=>False
theorem qEZ {d max x y}:(AOp.mx d max x y).wp P F hp K=MxW max (evF F x) (evF F y) K:=by
 unfold AOp.wp;simp only [AOp.sem];generalize evF F x=u;generalize evF F y=v;cases u with
 | v a =>
   cases v with
   | v b=>cases a <;> cases b <;> first | exact ZW | exact Z2
   | _=>cases a <;> exact Z2
 | _=>cases v <;> exact Z2
theorem qkq {max k a k' b}:MxW max (.v (.int k a)) (.v (.int k' b)) K=K (.v (.int k (bif max then (if b>a then b else a) else (if b<a then b else a)))) []:=rfl
theorem qrN {k a k' b}:MxW true (.v (.int k a)) (.v (.int k' b)) K=K (.v (.int k (max a b))) []:=by
 rw [qkq,cond_true];have:(if b>a then b else a)=max a b:=by by_cases h:b>a <;> simp [h] <;> omega
 rw [this]
theorem qrO {k a k' b}:MxW false (.v (.int k a)) (.v (.int k' b)) K=K (.v (.int k (min a b))) []:=by
 rw [qkq,cond_false];have:(if b<a then b else a)=min a b:=by by_cases h:b<a <;> simp [h] <;> omega
 rw [this]
def qhe (x:AV) (K:AV->List (Nat × HObj)->Prop):Prop:=match x with
 | .ptr cs o=>K (.ptr cs o) []
 | .ref id o=>K (.ref id o) []
 | .fn (.func f) as bs=>K (.fn (.func f) as bs) []
 | _=>False
theorem qvo {d x}:(AOp.nilc d x).wp P F hp K=qhe (evF F x) K:=by
 unfold AOp.wp;simp only [AOp.sem];generalize evF F x=u;cases u with
 | fn f as bs=>cases f <;> first | exact ZW | exact Z2
 | ptr=>exact ZW
 | ref=>exact ZW
 | _=>exact Z2
theorem qiM {cs o}:qhe (.ptr cs o) K=K (.ptr cs o) []:=rfl
theorem qiN {id o}:qhe (.ref id o) K=K (.ref id o) []:=rfl
theorem qnh {f as bs}:qhe (.fn (.func f) as bs) K=K (.fn (.func f) as bs) []:=rfl
theorem qCT {d f as bs}:(AOp.mkf d f as bs).wp P F hp K=K (.fn f (as.map (evF F)) (bs.map (evF F))) []:=ZW
def qpi (hp:List HObj) (sz bytes:Nat) (x y:AV) (K:AV->List (Nat × HObj)->Prop):Prop:=∃ m ys,elems (hpf hp) sz y=some (m,ys)/\(ys.all AV.isPC)=true/\∃ r ws,zl (hpf hp) hp.length r ws sz bytes x m ys/\K r ws
theorem qCG {d sz bytes x y}:(AOp.app d sz bytes x y).wp P F hp K=qpi hp sz bytes (evF F x) (evF F y) K:=by
 apply propext;constructor
 . rintro ⟨r,ws,⟨m,ys,h1,h2,h3⟩,k⟩;exact ⟨m,ys,h1,h2,r,ws,h3,k⟩
 rintro ⟨m,ys,h1,h2,r,ws,h3,k⟩;exact ⟨r,ws,⟨m,ys,h1,h2,h3⟩,k⟩
theorem qj1 {sz bytes n m f g} {cs ys : List AV} : qpi hp sz bytes (.sl f n cs) (.sl g m ys) K =
 ((f=true/\ys.length=m*sz/\(ys.all AV.isPC)=true/\cs.length=n*sz/\(n+m)*bytes<=140737488355328/\n+m<=140737488355328/\(n=0\/0<m))/\K (.ms hp.length 0 (n+m) sz) [(hp.length,.cells (cs++ys))]):=by
 apply propext;constructor
 . rintro ⟨m',ys',h1,h2,r,ws,h3,k⟩;simp only [elems] at h1;split at h1
   . rename_i hl;cases h1;obtain ⟨a1,a2,a3,a4,a5,rfl,rfl⟩:=h3;exact ⟨⟨a1,hl,h2,a2,a3,a4,a5⟩,k⟩
   cases h1
 rintro ⟨⟨a1,a2,a3,a4,a5,a6,a7⟩,k⟩;exact ⟨m,ys,by simp [elems,a2],a3,_,_,⟨a1,a4,a5,a6,a7,rfl,rfl⟩,k⟩
def qDt (o:Option HObj) (new sz bytes id off n sz' m:Nat) (ys:List AV) (K:AV->List (Nat × HObj)->Prop):Prop:=match o with
 | some (.cells cs)=>(ys.length=m*sz/\(ys.all AV.isPC)=true/\sz'=sz/\off+n*sz<=cs.length/\(n+m)*bytes<=140737488355328/\n+m<=140737488355328)/\K (.ms new 0 (n+m) sz) [(id,.gone),(new,.cells (qy cs off (n*sz)++ys))]
 | _=>False
theorem XN {cs new sz bytes id off n sz' m ys}:qDt (some (.cells cs)) new sz bytes id off n sz' m ys K=((ys.length=m*sz/\(ys.all AV.isPC)=true/\sz'=sz/\off+n*sz<=cs.length/\(n+m)*bytes<=140737488355328/\n+m<=140737488355328)/\K (.ms new 0 (n+m) sz) [(id,.gone),(new,.cells (qy cs off (n*sz)++ys))]):=rfl
theorem qj0 {sz bytes id off n sz' m g} {ys:List AV}:qpi hp sz bytes (.ms id off n sz') (.sl g m ys) K=qDt (qz hp id) hp.length sz bytes id off n sz' m ys K:=by
 apply propext;rw [qk];constructor
 . rintro ⟨m',ys',h1,h2,r,ws,h3,k⟩;simp only [elems] at h1;split at h1
   . rename_i hl;cases h1;simp only [zl,hpf] at h3;cases ho:hp[id]? with
     | none=>rw [ho] at h3;exact h3.elim
     | some o =>
       rw [ho] at h3;cases o with
       | cells cs =>obtain ⟨a1,a2,a3,a4,rfl,rfl⟩:=h3;exact ⟨⟨hl,h2,a1,a2,a3,a4⟩,k⟩
       | _=>exact h3.elim
   cases h1
 intro h;cases ho:hp[id]? with
 | none=>rw [ho] at h;exact h.elim
 | some o =>
   rw [ho] at h;cases o with
   | cells cs =>obtain ⟨⟨a1,a2,a3,a4,a5,a6⟩,k⟩:=h;refine ⟨m,ys,by simp [elems,a1],a2,_,_,?_,k⟩;simp only [zl,hpf,ho];exact ⟨a3,a4,a5,a6,trivial,trivial⟩
   | _=>exact h.elim
def qD7 (hp:List HObj) (sz bytes:Nat) (zero:List AV) (x y:AV) (K:AV->List (Nat × HObj)->Prop):Prop :=
 ∃ k:Nat,x=I k/\y=I k/\k*bytes<=140737488355328/\k<=140737488355328/\zero.length=sz/\K (.ms hp.length 0 k sz) [(hp.length,.cells (zE k zero))]
theorem qCU {d sz bytes z n c}:(AOp.mks d sz bytes z n c).wp P F hp K=qD7 hp sz bytes z (evF F n) (evF F c) K:=by
 apply propext;constructor
 . rintro ⟨r,ws,⟨k,h1,h2,h3,h4,h5,rfl,rfl⟩,hk⟩;exact ⟨k,h1,h2,h3,h4,h5,hk⟩
 rintro ⟨k,h1,h2,h3,h4,h5,hk⟩;exact ⟨_,_,⟨k,h1,h2,h3,h4,h5,rfl,rfl⟩,hk⟩
theorem qvC {a0 a1}:zb P E (.cap a0 a1::os) ⟨fr,hp⟩ KS=(AOp.cap a0 a1).wp P (get fr) hp (qY P E os (some a0) fr hp KS):=rfl
theorem qvD {a0 a1 a2}:zb P E (.clr a0 a1 a2::os) ⟨fr,hp⟩ KS=(AOp.clr a0 a1 a2).wp P (get fr) hp (qY P E os none fr hp KS):=rfl
theorem qoK {a0 a1 a2 a3 a4 a5}:zb P E (.appz a0 a1 a2 a3 a4 a5::os) ⟨fr,hp⟩ KS=(AOp.appz a0 a1 a2 a3 a4 a5).wp P (get fr) hp (qY P E os (some a0) fr hp KS):=rfl
theorem qvY {a0 a1 a2 a3 a4 a5 a6}:zb P E (.slp a0 a1 a2 a3 a4 a5 a6::os) ⟨fr,hp⟩ KS=(AOp.slp a0 a1 a2 a3 a4 a5 a6).wp P (get fr) hp (qY P E os (some a0) fr hp KS):=rfl
theorem qvU {a0}:zb P E (.mkm a0::os) ⟨fr,hp⟩ KS=(AOp.mkm a0).wp P (get fr) hp (qY P E os (some a0) fr hp KS):=rfl
theorem qvO {a0 a1 a2 a3}:zb P E (.ins a0 a1 a2 a3::os) ⟨fr,hp⟩ KS=(AOp.ins a0 a1 a2 a3).wp P (get fr) hp (qY P E os none fr hp KS):=rfl
theorem qvQ {a0 a1 a2 a3 a4 a5}:zb P E (.lku a0 a1 a2 a3 a4 a5::os) ⟨fr,hp⟩ KS=(AOp.lku a0 a1 a2 a3 a4 a5).wp P (get fr) hp (qY P E os (some a0) fr hp KS):=rfl
theorem qvW {a0 a1 a2 a3 a4}:zb P E (.mpe a0 a1 a2 a3 a4::os) ⟨fr,hp⟩ KS=(AOp.mpe a0 a1 a2 a3 a4).wp P (get fr) hp (qY P E os (some a0) fr hp KS):=rfl
theorem qvI {a0 a1 a2}:zb P E (.est a0 a1 a2::os) ⟨fr,hp⟩ KS=(AOp.est a0 a1 a2).wp P (get fr) hp (qY P E os none fr hp KS):=rfl
theorem qvG {a0 a1 a2}:zb P E (.del a0 a1 a2::os) ⟨fr,hp⟩ KS=(AOp.del a0 a1 a2).wp P (get fr) hp (qY P E os none fr hp KS):=rfl
theorem qvH {a0 a1 a2 a3 a4}:zb P E (.eqk a0 a1 a2 a3 a4::os) ⟨fr,hp⟩ KS=(AOp.eqk a0 a1 a2 a3 a4).wp P (get fr) hp (qY P E os (some a0) fr hp KS):=rfl
theorem qqw {a0 a1}:Qc P (.cap a0 a1::os) ⟨fr,hp⟩ tr KD=(AOp.cap a0 a1).wp P (get fr) hp (qU P os (some a0) fr hp tr ((AOp.cap a0 a1).foot (get fr) (hpf hp)) KD):=rfl
theorem qqx {a0 a1 a2}:Qc P (.clr a0 a1 a2::os) ⟨fr,hp⟩ tr KD=(AOp.clr a0 a1 a2).wp P (get fr) hp (qU P os none fr hp tr ((AOp.clr a0 a1 a2).foot (get fr) (hpf hp)) KD):=rfl
theorem qmk {a0 a1 a2 a3 a4 a5}:Qc P (.appz a0 a1 a2 a3 a4 a5::os) ⟨fr,hp⟩ tr KD=(AOp.appz a0 a1 a2 a3 a4 a5).wp P (get fr) hp (qU P os (some a0) fr hp tr ((AOp.appz a0 a1 a2 a3 a4 a5).foot (get fr) (hpf hp)) KD):=rfl
theorem qqS {a0 a1 a2 a3 a4 a5 a6}:Qc P (.slp a0 a1 a2 a3 a4 a5 a6::os) ⟨fr,hp⟩ tr KD=(AOp.slp a0 a1 a2 a3 a4 a5 a6).wp P (get fr) hp (qU P os (some a0) fr hp tr ((AOp.slp a0 a1 a2 a3 a4 a5 a6).foot (get fr) (hpf hp)) KD):=rfl
theorem qqO {a0}:Qc P (.mkm a0::os) ⟨fr,hp⟩ tr KD=(AOp.mkm a0).wp P (get fr) hp (qU P os (some a0) fr hp tr ((AOp.mkm a0).foot (get fr) (hpf hp)) KD):=rfl
theorem qqI {a0 a1 a2 a3}:Qc P (.ins a0 a1 a2 a3::os) ⟨fr,hp⟩ tr KD=(AOp.ins a0 a1 a2 a3).wp P (get fr) hp (qU P os none fr hp tr ((AOp.ins a0 a1 a2 a3).foot (get fr) (hpf hp)) KD):=rfl
theorem qqK {a0 a1 a2 a3 a4 a5}:Qc P (.lku a0 a1 a2 a3 a4 a5::os) ⟨fr,hp⟩ tr KD=(AOp.lku a0 a1 a2 a3 a4 a5).wp P (get fr) hp (qU P os (some a0) fr hp tr ((AOp.lku a0 a1 a2 a3 a4 a5).foot (get fr) (hpf hp)) KD):=rfl
theorem qqQ {a0 a1 a2 a3 a4}:Qc P (.mpe a0 a1 a2 a3 a4::os) ⟨fr,hp⟩ tr KD=(AOp.mpe a0 a1 a2 a3 a4).wp P (get fr) hp (qU P os (some a0) fr hp tr ((AOp.mpe a0 a1 a2 a3 a4).foot (get fr) (hpf hp)) KD):=rfl
theorem qqC {a0 a1 a2}:Qc P (.est a0 a1 a2::os) ⟨fr,hp⟩ tr KD=(AOp.est a0 a1 a2).wp P (get fr) hp (qU P os none fr hp tr ((AOp.est a0 a1 a2).foot (get fr) (hpf hp)) KD):=rfl
theorem qqA {a0 a1 a2}:Qc P (.del a0 a1 a2::os) ⟨fr,hp⟩ tr KD=(AOp.del a0 a1 a2).wp P (get fr) hp (qU P os none fr hp tr ((AOp.del a0 a1 a2).foot (get fr) (hpf hp)) KD):=rfl
theorem qqB {a0 a1 a2 a3 a4}:Qc P (.eqk a0 a1 a2 a3 a4::os) ⟨fr,hp⟩ tr KD=(AOp.eqk a0 a1 a2 a3 a4).wp P (get fr) hp (qU P os (some a0) fr hp tr ((AOp.eqk a0 a1 a2 a3 a4).foot (get fr) (hpf hp)) KD):=rfl
theorem qh6 {a0 a1 a2 a3 a4 a5} {G:Nat->AV} {H:Hp}:(AOp.lku a0 a1 a2 a3 a4 a5).foot G H=(evF G a4).ids++(evF G a5).ids:=by simp [AOp.foot,AOp.looks,AOp.heapy,AOp.more,AOp.opds]
theorem qh8 {a0 a1 a2 a3 a4} {G:Nat->AV} {H:Hp}:(AOp.mpe a0 a1 a2 a3 a4).foot G H=(evF G a3).ids++(evF G a4).ids:=by simp [AOp.foot,AOp.looks,AOp.heapy,AOp.more,AOp.opds]
theorem qh4 {a0 a1 a2} {G:Nat->AV} {H:Hp}:(AOp.est a0 a1 a2).foot G H=(evF G a0).ids++((evF G a1).ids++(evF G a2).ids):=by simp [AOp.foot,AOp.looks,AOp.heapy,AOp.more,AOp.opds]
theorem qh5 {a0 a1 a2 a3} {G:Nat->AV} {H:Hp}:(AOp.ins a0 a1 a2 a3).foot G H=(evF G a1).ids++((evF G a2).ids++(evF G a3).ids):=by simp [AOp.foot,AOp.looks,AOp.heapy,AOp.more,AOp.opds]
theorem qh2 {a0 a1 a2} {G:Nat->AV} {H:Hp}:(AOp.del a0 a1 a2).foot G H=(evF G a1).ids++(evF G a2).ids:=by simp [AOp.foot,AOp.looks,AOp.heapy,AOp.more,AOp.opds]
theorem qe4 {a0 a1 a2 a3 a4 a5} {G:Nat->AV} {H:Hp}:(AOp.appz a0 a1 a2 a3 a4 a5).foot G H=(evF G a4).ids++(evF G a5).ids:=by simp [AOp.foot,AOp.looks,AOp.heapy,AOp.more,AOp.opds]
theorem qh1 {a0 a1 a2} {G:Nat->AV} {H:Hp}:(AOp.clr a0 a1 a2).foot G H=(evF G a2).ids:=by simp [AOp.foot,AOp.looks,AOp.heapy,AOp.more,AOp.opds]
theorem qh3 {a0 a1 a2 a3 a4} {G:Nat->AV} {H:Hp}:(AOp.eqk a0 a1 a2 a3 a4).foot G H=[]:=rfl
theorem qh0 {a0 a1} {G:Nat->AV} {H:Hp}:(AOp.cap a0 a1).foot G H=[]:=rfl
theorem qh7 {a0} {G:Nat->AV} {H:Hp}:(AOp.mkm a0).foot G H=[]:=rfl
def qD6 (neg:Bool) (ks:Bool × List Leaf) (x y:AV) (K:AV->List (Nat × HObj)->Prop):Prop:=∃ a b z,x.val=some a/\y.val=some b/\eqK ks a b=some z/\K (B (neg != z)) []
theorem qCN {d neg ks x y}:(AOp.eqk d neg ks x y).wp P F hp K=qD6 neg ks (evF F x) (evF F y) K:=by
 apply propext;constructor
 . rintro ⟨r,ws,⟨a,b,z,h1,h2,h3,rfl,rfl⟩,k⟩;exact ⟨a,b,z,h1,h2,h3,k⟩
 rintro ⟨a,b,z,h1,h2,h3,k⟩;exact ⟨_,_,⟨a,b,z,h1,h2,h3,rfl,rfl⟩,k⟩
theorem qCL {d x}:(AOp.cap d x).wp P F hp K=(match evF F x with | .sl full n _=>full=true/\K (I n) [] | .mc _ _ _ c _=>K (I c) [] | _=>False):=by
 unfold AOp.wp;simp only [AOp.sem];generalize evF F x=u
 cases u <;> first
  | exact ZW
  | exact Z2
  | (apply propext; constructor
     . rintro ⟨r,ws,⟨h1,rfl,rfl⟩,k⟩;exact ⟨h1,k⟩
     rintro ⟨h1,k⟩;exact ⟨_,_,⟨h1,rfl,rfl⟩,k⟩)
variable {Q:Exit->St->Prop} {x y:AC}
def qaH (P:Program) (E:HE) (t:Bool) (x y:AC) (st:St) (Q:Exit->St->Prop):Prop:=(t=true->AWP P E x st Q)/\(t=false->AWP P E y st Q)
def qlu (P:Program) (E:HE) (c:AV) (x y:AC) (st:St) (Q:Exit->St->Prop):Prop:=match c with
 | .v (.bool t)=>qaH P E t x y st Q
 | _=>False
theorem qvs {c}:AWP P E (.cond c x y) ⟨fr,hp⟩ Q=qlu P E (evF (get fr) c) x y ⟨fr,hp⟩ Q:=by
 simp only [AWP,qlu];generalize evF (get fr) c=u;cases u with
 | v y=>cases y <;> rfl
 | _=>rfl
theorem qqc {t st}:qlu P E (B t) x y st Q=qaH P E t x y st Q:=rfl
theorem qqd {st}:qaH P E true x y st Q=AWP P E x st Q:=by simp [qaH]
theorem qmc {st}:qaH P E false x y st Q=AWP P E y st Q:=by simp [qaH]
theorem Zk {t:Bool} {st:St} (h1:t=true->AWP P E x st Q) (h2:t=false->AWP P E y st Q):qaH P E t x y st Q:=⟨h1,h2⟩
theorem qvw:AWP P E .skip ⟨fr,hp⟩ Q=Q .normal ⟨fr,hp⟩:=rfl
theorem qCZ {gs ks}:AWP P E (.rgn gs ks) ⟨fr,hp⟩ Q=q7 P E gs ⟨fr,hp⟩ fun st=>Q .normal (st.keep ks):=rfl
theorem qCW {gs un ks}:AWP P E (.drw gs un ks) ⟨fr,hp⟩ Q=qZ P gs ⟨fr,hp⟩ [] fun st tr=>zJ tr un=true/\Q .normal (st.keep ks):=rfl
theorem qC0:AWP P E (.seq x y) ⟨fr,hp⟩ Q=AWP P E x ⟨fr,hp⟩ (Exit.th (fun st=>AWP P E y st Q) Q):=rfl
theorem qoE {id}:AWP P E (.block id x) ⟨fr,hp⟩ Q=AWP P E x ⟨fr,hp⟩ (Exit.blk id Q):=rfl
theorem qvu {id}:AWP P E (.exit id) ⟨fr,hp⟩ Q=Q (.exit id) ⟨fr,hp⟩:=rfl
theorem qCY:AWP P E .ret ⟨fr,hp⟩ Q=Q .ret ⟨fr,hp⟩:=rfl
theorem qoI {l}:AWP P E (.label l) ⟨fr,hp⟩ Q=Q .normal ⟨fr,hp⟩:=rfl
def qqk : Option (List Nat × List Nat) -> Option (List Nat × List Nat) -> Bool
 | some (ri,wi),some (rj,wj)=>qaC wi rj&&qaC wi wj&&qaC wj ri
 | _,_=>false
def qdV : Tr -> Nat -> Option (List Nat × List Nat)
 | [],_=>none
 | a::l,n=>if n=0 then some a else qdV l (n - 1)
theorem qfX : ∀ (l : Tr) (n : Nat),qdV l n = l[n]?
 | [],n=>by simp [qdV]
 | a::l,0=>by simp [qdV]
 | a::l,n+1=>by simp [qdV,qfX l n]
theorem qfW {a:List Nat × List Nat} {l:Tr} {n}:qdV (a::l) n=if n=0 then some a else qdV l (n - 1):=rfl
theorem qa9 {i j un}:zJ tr ((i,j)::un)=(qqk (qdV tr i) (qdV tr j)&&zJ tr un):=by simp only [zJ,qfX];generalize tr[i]?=a;generalize tr[j]?=b;cases a <;> cases b <;> rfl
theorem qdc:zJ tr []=true:=rfl
theorem qeH {ri wi rj wj}:qqk (some (ri,wi)) (some (rj,wj))=(qaC wi rj&&qaC wi wj&&qaC wj ri):=rfl
theorem qhQ {b:List Nat}:qaC [] b=true:=rfl
theorem qeO {x:Nat} {a b:List Nat}:qaC (x::a) b=(!b.contains x&&qaC a b):=rfl
def qiu (fr:List (Nat × AV)) (ks:List Nat):List (Nat × AV):=ks.map fun t=>(t,get fr t)
theorem qvv {ks}:St.keep ⟨fr,hp⟩ ks=⟨qiu fr ks,hp⟩:=rfl
theorem qfE {k ks}:qiu fr (k::ks)=(k,get fr k)::qiu fr ks:=rfl
theorem qiv:qiu fr []=[]:=rfl
theorem qEM {st:St}:Exit.th KS Q .normal st=KS st:=rfl
theorem qEL {st:St} {id}:Exit.th KS Q (.exit id) st=Q (.exit id) st:=rfl
theorem qEN {st:St}:Exit.th KS Q .ret st=Q .ret st:=rfl
theorem qy0 {st:St} {id}:Exit.blk id Q .normal st=Q .normal st:=rfl
theorem qy1 {st:St} {id}:Exit.blk id Q .ret st=Q .ret st:=rfl
theorem qyZ {st:St} {id id'}:Exit.blk id Q (.exit id') st=if id'=id then Q .normal st else Q (.exit id') st:=rfl
theorem qzV:q7 P E [] ⟨fr,hp⟩ KS=KS ⟨fr,hp⟩:=rfl
theorem qrf {gs}:q7 P E (⟨none,os⟩::gs) ⟨fr,hp⟩ KS=zb P E os ⟨fr,hp⟩ fun st=>q7 P E gs st KS:=rfl
def GdB (P:Program) (E:HE) (c b:Bool) (os:List AOp) (gs:List Grp) (st:St) (K:St->Prop):Prop:=(c=b->zb P E os st fun st=>q7 P E gs st K)/\(c≠b->q7 P E gs (qI os st) K)
def GdX (P:Program) (E:HE) (x:AV) (b:Bool) (os:List AOp) (gs:List Grp) (st:St) (K:St->Prop):Prop:=match x with
 | .v (.bool c)=>GdB P E c b os gs st K
 | .v (.tuple _)=>q7 P E gs (qI os st) K
 | _=>False
theorem qrg {j b gs}:q7 P E (⟨some (j,b),os⟩::gs) ⟨fr,hp⟩ KS=GdX P E (get fr j) b os gs ⟨fr,hp⟩ KS:=by
 simp only [q7,GdX];generalize get fr j=u;cases u with
 | v y=>cases y <;> rfl
 | _=>rfl
theorem qmv {c b gs st}:GdX P E (B c) b os gs st KS=GdB P E c b os gs st KS:=rfl
theorem qic {c b gs st}:GdX P E (.v (.tuple c)) b os gs st KS=q7 P E gs (qI os st) KS:=rfl
theorem qzZ {gs st}:GdB P E true true os gs st KS=zb P E os st fun st=>q7 P E gs st KS:=by simp [GdB]
theorem qzW {gs st}:GdB P E false false os gs st KS=zb P E os st fun st=>q7 P E gs st KS:=by simp [GdB]
theorem qzY {gs st}:GdB P E true false os gs st KS=q7 P E gs (qI os st) KS:=by simp [GdB]
theorem qzX {gs st}:GdB P E false true os gs st KS=q7 P E gs (qI os st) KS:=by simp [GdB]
def DdB (P:Program) (c b:Bool) (os:List AOp) (gs:List Grp) (st:St) (tr:Tr) (K:St->Tr->Prop):Prop :=
 (c=b->Qc P os st tr fun st tr=>qZ P gs st tr K)/\(c≠b->qZ P gs (qI os st) (tr++os.map fun _=>([],[])) K)
def DdX (P:Program) (x:AV) (b:Bool) (os:List AOp) (gs:List Grp) (st:St) (tr:Tr) (K:St->Tr->Prop):Prop:=match x with
 | .v (.bool c)=>DdB P c b os gs st tr K
 | .v (.tuple _)=>qZ P gs (qI os st) (tr++os.map fun _=>([],[])) K
 | _=>False
theorem qzz:qZ P [] ⟨fr,hp⟩ tr KD=KD ⟨fr,hp⟩ tr:=rfl
theorem qqo {gs}:qZ P (⟨none,os⟩::gs) ⟨fr,hp⟩ tr KD=Qc P os ⟨fr,hp⟩ tr fun st tr=>qZ P gs st tr KD:=rfl
theorem qqp {j b gs}:qZ P (⟨some (j,b),os⟩::gs) ⟨fr,hp⟩ tr KD=DdX P (get fr j) b os gs ⟨fr,hp⟩ tr KD:=by
 simp only [qZ,DdX];generalize get fr j=u;cases u with
 | v y=>cases y <;> rfl
 | _=>rfl
theorem qmi {c b gs st}:DdX P (B c) b os gs st tr KD=DdB P c b os gs st tr KD:=rfl
theorem qhO {c b gs st}:DdX P (.v (.tuple c)) b os gs st tr KD=qZ P gs (qI os st) (tr++os.map fun _=>([],[])) KD:=rfl
theorem qzD {gs st}:DdB P true true os gs st tr KD=Qc P os st tr fun st tr=>qZ P gs st tr KD:=by simp [DdB]
theorem qzA {gs st}:DdB P false false os gs st tr KD=Qc P os st tr fun st tr=>qZ P gs st tr KD:=by simp [DdB]
theorem qzC {gs st}:DdB P true false os gs st tr KD=qZ P gs (qI os st) (tr++os.map fun _=>([],[])) KD:=by simp [DdB]
theorem qzB {gs st}:DdB P false true os gs st tr KD=qZ P gs (qI os st) (tr++os.map fun _=>([],[])) KD:=by simp [DdB]
def qve : List AOp -> List (Nat × AV) -> List (Nat × AV)
 | [],fr=>fr
 | o::os,fr=>qve os (qH fr o.dst (.v (.tuple #[])))
theorem qcM : ∀ {os : List AOp} {fr : List (Nat × AV)},qI os ⟨fr,hp⟩ = ⟨qve os fr,hp⟩
 | [],fr=>rfl
 | o::os,fr=>by
   rw [Q3];have:qI [o] ⟨fr,hp⟩=⟨qH fr o.dst (.v (.tuple #[])),hp⟩:=by rw [VD];rfl
   rw [this,qcM];rfl
theorem qjy:qve [] fr=fr:=rfl
theorem qgS {o:AOp}:qve (o::os) fr=qve os (qH fr o.dst (.v (.tuple #[]))):=rfl
theorem QU {f:FuncId} {xs ys:List AV} {ids:List Nat} {r:AV} {KC:AV->List HObj->Prop} (h1:qh (hpf hp) xs=some (ys,ids)) (h2:z8 P f ys r) (h3:KC r (qc hp (bif r.scalar then [] else gones ids))):qw P f xs hp KC:=by
 intro ro n w g vs hok hvs hrep;refine (Y1 hok h1 hvs hrep h2).mono ?_;rintro e w' ⟨v,rfl,g',q1,q2,q3⟩
 have hlen : ∀ p ∈ (bif r.scalar then [] else gones ids),p.1 <= hp.length := fun p hpm => by
  cases hs:r.scalar with
  | true=>rw [hs] at hpm;simp at hpm
  | false =>rw [hs] at hpm;simp only [cond_false,gones,List.mem_map] at hpm;obtain ⟨i,hi,rfl⟩:=hpm;exact Nat.le_of_lt (qT h1 i hi)
 rw [<-zh hlen] at q2 q3;exact ⟨v,r,_,g',rfl,h3,q1,q2,q3⟩
theorem qiY {f:FuncId} {xs ys:List AV} {ids:List Nat} {r:AV} (h1:qh (hpf hp) xs=some (ys,ids)) (h2:z8 P f ys r) (h3:K r (bif r.scalar then [] else gones ids)):qpN P f xs hp K:=⟨ys,ids,h1,.inl ⟨r,h2,h3⟩⟩
theorem VW {f:FuncId} {xs ys:List AV} {ids:List Nat} {m sz:Nat} {cs:List AV} {KC:AV->List HObj->Prop} (h1:qh (hpf hp) xs=some (ys,ids)) (h2:jK P f ys m sz cs) (h3:KC (.ms hp.length 0 m sz) (qc hp (gones ids++[(hp.length,.cells cs)]))):qw P f xs hp KC:=by
 intro ro n w g vs hok hvs hrep;have hnew:hpf hp hp.length=none:=by simp [hpf]
 refine (XW hok hnew h1 hvs hrep h2).mono ?_;rintro e w' ⟨v,rfl,g',q1,q2,q3⟩
 have hlen : ∀ p ∈ gones ids ++ [(hp.length,HObj.cells cs)],p.1 <= hp.length := fun p hpm => by
  rw [List.mem_append] at hpm;rcases hpm with hpm | hpm
  . simp only [gones,List.mem_map] at hpm;obtain ⟨i,hi,rfl⟩:=hpm;exact Nat.le_of_lt (qT h1 i hi)
  simp at hpm;subst hpm;exact Nat.le_refl _
 rw [<-zh hlen] at q2 q3;exact ⟨v,_,_,g',rfl,h3,q1,q2,q3⟩
theorem qew {f:FuncId} {xs ys:List AV} {ids:List Nat} {Φ:List (Value × Nat × AV)->Nat->Prop} {KC:AV->List HObj->Prop} (h1:qh (hpf hp) xs=some (ys,ids)) (h2:Wt P f ys Φ) (h3:KC (.mp hp.length) (qc hp (gones ids++[(hp.length,.mpp Φ)]))):qw P f xs hp KC:=by
 intro ro n w g vs hok hvs hrep;have hnew:hpf hp hp.length=none:=by simp [hpf]
 refine (qbX hok hnew h1 hvs hrep h2).mono ?_;rintro e w' ⟨v,rfl,g',q1,q2,q3⟩
 have hlen : ∀ p ∈ gones ids ++ [(hp.length,HObj.mpp Φ)],p.1 <= hp.length := fun p hpm => by
  rw [List.mem_append] at hpm;rcases hpm with hpm | hpm
  . simp only [gones,List.mem_map] at hpm;obtain ⟨i,hi,rfl⟩:=hpm;exact Nat.le_of_lt (qT h1 i hi)
  simp at hpm;subst hpm;exact Nat.le_refl _
 rw [<-zh hlen] at q2 q3;exact ⟨v,_,_,g',rfl,h3,q1,q2,q3⟩
theorem qnc {f:FuncId} {xs:List AV} {m sz:Nat} {cs:List AV} (hpc:(cs.all AV.isPC)=true) (h:qw P f xs [] fun x hp=>∃ id,x = .ms id 0 m sz/\hpf hp id=some (.cells cs)):jK P f xs m sz cs:=by
 refine ⟨hpc,?_⟩;intro ro n w g vs hok hvs hrep;have e0:hpf []=fun _=>none:=by funext i;simp [hpf]
 refine (h ro n w g vs (by rw [e0];exact hok) hvs (fun i hi=>(hrep i hi).of)).mono ?_;rintro e w' ⟨v,x,hp',g',rfl,⟨id,rfl,hid⟩,hx,hok',hu⟩;rw [e0] at hu;obtain ⟨l,hl,hrl⟩:=hok'.rep id _ hid;have hpure:∀ i (hi:i<cs.length) x,Rep w' g' false cs[i] x->Rep w' { S:=g'.S,ρ:=fun j=>if j=0 then some l else none } false cs[i] x:=fun i hi x hr=>(((zU (J4 (Qs hpc i hi)) hr)).pure rfl _).of
 have hrl' : HRep w' { S := g'.S,ρ := fun j => if j = 0 then some l else none } (.cells cs) l := by
  cases l with
  | virg=>exact hrl
  | base L=>exact hrl
  | blk c d =>obtain ⟨arr,ty,fz,a1,a2,a3,a4,a5⟩:=hrl;exact ⟨arr,ty,fz,a1,a2,a3,a4,fun i hi=>by obtain ⟨x,h1,h2⟩:=a5 i hi;exact ⟨x,h1,hpure i hi x h2⟩⟩
 refine ⟨v,{ S:=g'.S,ρ:=fun j=>if j=0 then some l else none },rfl,?_,?_,?_⟩
 . cases hx with
   | ms _ _ _ _ c d cap arr ty fz h1 h2 h3 h4=>rw [hl] at h1;cases h1;exact .ms _ _ _ _ c d cap arr ty fz (by simp) h2 h3 h4
   | msz _ _ _ a l' h1=>rw [hl] at h1;cases h1;exact .msz _ _ _ a l (by simp)
 . refine ⟨fun i hi => ?_,fun i o ho => ?_,fun i i' o o' c d d' ho ho' hl1 hl2 hr1 hr2 => ?_,hok'.ex,hok'.tab⟩
   . by_cases e : i = 0
     . subst e;simp [made] at hi
     simp [e]
   . by_cases e : i = 0
     . subst e;simp [made] at ho;subst ho;exact ⟨l,by simp,hrl'⟩
     simp [made,e] at ho
   by_cases e:i=0
   . by_cases e' : i' = 0
     . rw [e,e']
     simp [e'] at hr2
   simp [e] at hr1
 refine ⟨⟨hu.tr.S,hu.tr.cell,fun i l' hl'=>(by rw [hok.dom i rfl] at hl';cases hl'),hu.tr.shp,hu.tr.os,hu.tr.tape,hu.tr.output,hu.tr.size,hu.tr.drawn⟩,?_,hu.S,hu.keep⟩;rintro c ⟨i,o,d,ho,hlv,hr1⟩;by_cases e:i=0
 . subst e;simp at hr1;subst hr1;rcases hu.live c ⟨id,_,d,hid,rfl,hl⟩ with ⟨_,_,_,h,_⟩ | h
   . cases h
   exact .inr h
 simp [e] at hr1
theorem qrJ {f:FuncId} {xs:List AV} {Φ:List (Value × Nat × AV)->Nat->Prop} (hpc:∀ es clk,Φ es clk->(es.all fun e=>e.2.2.isPC)=true) (h:qw P f xs [] fun x hp=>∃ id es clk,x = .mp id/\hpf hp id=some (.mp es clk)/\Φ es clk):Wt P f xs Φ:=by
 refine ⟨hpc,?_⟩;intro ro n w g vs hok hvs hrep;have e0:hpf []=fun _=>none:=by funext i;simp [hpf]
 refine (h ro n w g vs (by rw [e0];exact hok) hvs (fun i hi=>(hrep i hi).of)).mono ?_;rintro e w' ⟨v,x,hp',g',rfl,⟨id,es,clk,rfl,hid,hΦ⟩,hx,hok',hu⟩;rw [e0] at hu;obtain ⟨l,hl,hrl⟩:=hok'.rep id _ hid
 have hrl' : HRep w' { S := g'.S,ρ := fun j => if j = 0 then some l else none } (.mpp Φ) l := by
  cases l with
  | virg=>exact hrl
  | base L=>exact hrl
  | blk c d =>obtain ⟨ents,a1,a2,a3,a4,a5⟩:=hrl;exact ⟨es,clk,hΦ,ents,a1,a2,a3,a4,fun i hi=>by obtain ⟨x,h1,h2,h3,h4⟩:=a5 i hi;exact ⟨x,h1,h2,h3,((zU (J4 (List.all_eq_true.1 (hpc es clk hΦ) es[i] (List.getElem_mem hi))) h4).pure rfl _).of⟩⟩
 refine ⟨v,{ S:=g'.S,ρ:=fun j=>if j=0 then some l else none },rfl,?_,?_,?_⟩
 . cases hx with
   | mp _ c d h1=>rw [hl] at h1;cases h1;exact .mp _ c d (by simp)
 . refine ⟨fun i hi => ?_,fun i o ho => ?_,fun i i' o o' c d d' ho ho' hl1 hl2 hr1 hr2 => ?_,hok'.ex,hok'.tab⟩
   . by_cases e : i = 0
     . subst e;simp [qfO] at hi
     simp [e]
   . by_cases e : i = 0
     . subst e;simp [qfO] at ho;subst ho;exact ⟨l,by simp,hrl'⟩
     simp [qfO,e] at ho
   by_cases e:i=0
   . by_cases e' : i' = 0
     . rw [e,e']
     simp [e'] at hr2
   simp [e] at hr1
 refine ⟨⟨hu.tr.S,hu.tr.cell,fun i l' hl'=>(by rw [hok.dom i rfl] at hl';cases hl'),hu.tr.shp,hu.tr.os,hu.tr.tape,hu.tr.output,hu.tr.size,hu.tr.drawn⟩,?_,hu.S,hu.keep⟩;rintro c ⟨i,o,d,ho,hlv,hr1⟩;by_cases e:i=0
 . subst e;simp at hr1;subst hr1;rcases hu.live c ⟨id,_,d,hid,rfl,hl⟩ with ⟨_,_,_,h,_⟩ | h
   . cases h
   exact .inr h
 simp [e] at hr1
theorem qBR {ts:List Nat} {KC:AV->List HObj->Prop}:qly ts KC .normal ⟨fr,hp⟩=KC (qdB ts fr) hp:=rfl
theorem qBS {ts:List Nat} {KC:AV->List HObj->Prop}:qly ts KC .ret ⟨fr,hp⟩=KC (qdB ts fr) hp:=rfl
theorem qdL {f : FuncId} {fn : Func} {ac : AC} {ts : List Nat} {xs : List AV} {KC : AV -> List HObj -> Prop} (hf : P.funcs[f]? = some fn) (hc : qJ P fn ts = some ac) (hr : qN fn.results.toList = some ts)
 (hl:xs.length<=fn.ntmps) (h:AWP P (E1 P) ac ⟨Zn 0 xs,hp⟩ (qly ts KC)):qw P f xs hp KC:=qc2 hf hc hr hl h
def Next {α:Type} (I:α->St) (C:α->Prop) (μ:α->Nat) (a:α) (st:St):Prop:=∃ a',C a'/\μ a'<μ a/\St.le st (I a')
theorem St.le.rfl' (st:St):St.le st st:=fun N a w g h=>⟨g,h,.refl _ _ _⟩
theorem qm8 {α:Type} (I:α->St) (C:α->Prop) (μ:α->Nat) (a0:α) {st:St} (h0:C a0) (hs:St.le st (I a0)) (round:∀ a,C a->AWP P E x (I a) (Exit.th (Next I C μ a) Q)):AWP P E (.loop x) st Q :=
 ⟨α,I,C,μ,a0,h0,hs,round⟩
theorem ZI {α:Type} (I:α->St) (C:α->Prop) (μ:α->Nat) (a0:α) {st:St} (h0:C a0) (hs:st=I a0) (round:∀ a,C a->AWP P E x (I a) (Exit.th (Next I C μ a) Q)):AWP P E (.loop x) st Q :=
 qm8 I C μ a0 h0 (hs ▸ St.le.rfl' st) round
theorem J1 {α:Type} {I:α->St} {C:α->Prop} {μ:α->Nat} {a:α} {st:St} (a':α) (h:C a') (hm:μ a'<μ a) (hs:st=I a'):Next I C μ a st:=⟨a',h,hm,hs ▸ St.le.rfl' st⟩
theorem qAB {r:AV} {x:Value}:Out r (.v x) hp=(r = .v x):=by
 apply propext;constructor
 . rintro ⟨is,h⟩;simp [qv,qF,zk] at h;exact h.1.symm
 rintro rfl;exact ⟨[],rfl⟩
end
attribute [simp] qC5 qoN qvy qoL qC8 qvJ qC4 qC7 qvA qC1 qvB qvz qC2 qvK qC3 qvL qvN qvM qvP qvS qvR qvX qvZ qvx qvF qvV qvE qC6 qoM qvT
attribute [simp] qzJ qmo qqs qml qzM qqD qzI qzL qqu qzF qqv qqt qzG qqE qzH qqF qqH qqG qqJ qqM qqL qqR qqT qqr qqz qqP qqy qzK qmn qqN qmm
attribute [simp low] qeC qeD
attribute [simp] qj1 qj0 XN qsf qsg qjk Option.map_none Option.map_some qf4 qdw qdv qbw qfU qiR qjy qgS qiO qnD qfV QQ XB qvn qBR qBS qAB
attribute [simp] qgY qoG qoH qCX qvt qvr qoF qzv qoJ qz1 qrF qEY qvp qoC qCH qlD qlG qyT qyW qhu qyO qyV qyY qht qlF qyX qyP qyU qyS qlE qyR qyQ qE1 qCm qCn qCO qzN qEX qrC qrD qE0 qso qCJ qEU qCK qCI qEV qq5 qq6 qCP qmu qEW qz3 qz2 qCQ qmC qmD qCR qmR qCS qrH qrG qCV qCM qme qEZ qrN qrO qvo qiM qiN qnh qCT qCG qCU qvs qqc qqd qmc qvw qCZ qCW qC0 qoE qvu qCY qoI qvv qEM qEL qEN qy0 qy1 qyZ qzV qrf qrg qmv qic qzZ qzW qzY qzX qzz qqo qqp qmi qhO qzD qzA qzC qzB qcM
attribute [simp] qfE qiv Jp qmw qEo qEn qH qc qn AOp.dst qz4 qrr qmO qmP qrq qrp qmN qro qmM qmQ qim qrm qmG qik qil qmF qmE qrn qmK qio qip qmJ qmI qin qmH qfW qa9 qdc qeH qhQ qeO Zn qdB AV.cells AV.isCell AV.isPure AV.isPure0 AV.isPC qy splice qfr qdl AV.scalar
attribute [simp] qvC qqw qvD qqx qoK qmk qvY qqS qvU qqO qvO qqI qvQ qqK qvW qqQ qvI qqC qvG qqA qvH qqB qh6 qh8 qh4 qh5 qh2 qe4 qh1 qh3 qh0 qh7 qCN
def qib (w:World):G:=⟨fun b o=>∃ v,w.cell? ⟨b,o,none⟩=some v,fun _=>none⟩
theorem qdm (w:World) (ht:TabOK (qib w) w):HeapOK (fun _=>none) (qib w) w :=
 ⟨fun _ _=>rfl,fun _ _ h=>(by cases h),fun _ _ _ _ _ _ _ h=>(by cases h),fun _ _ h=>h,ht⟩
def RdT (P:Program) (w:World) (t:TypeId) (Q:List AV->Prop):Prop :=
 ∀ (H : Type) (enc : TypeId × Value -> H) (jM : Nat) (cs : List Value) (x : DataW H × List MemPlace),DataW.trod enc P w 0 (fun _ => true) true jM t cs = some x ->
   ∃ as:List AV,as.length=cs.length/\cs.length=P.cellsOf t/\Q as/\∀ i (h:i<as.length),Rep w (qib w) true as[i] (cs.getD i undef)
section
variable {P:Program} {w:World} {t e:TypeId}
theorem qnt {Q Q':List AV->Prop} (h:RdT P w t Q) (hq:∀ as,Q as->Q' as):RdT P w t Q':=fun H enc jM cs x hx=>by obtain ⟨as,h1,h2,h3,h4⟩:=h H enc jM cs x hx;exact ⟨as,h1,h2,hq _ h3,h4⟩
theorem qrZ {k:IntKind} (ht:P.underlying t=some (.int k)) (hc:P.cellsOf t=1):RdT P w t fun as=>∃ n,as=[.v (.int k n)]/\(Lit.int k n).wf=true:=by
 intro H enc jM cs x hx;cases jM with
 | zero=>simp [DataW.trod] at hx
 | succ m =>
   unfold DataW.trod at hx;rw [ht] at hx;split at hx <;> simp_all;obtain ⟨⟨rfl,hw⟩,_⟩:=hx
   exact ⟨[.v (.int _ _)],rfl,⟨_,rfl,hw⟩,fun i hi => by
    have:i=0:=by simpa using hi
    subst this;exact .v _ _⟩
theorem Wy {H:Type} {enc:TypeId × Value->H} {Q:List AV->Prop} {v:Value} {d:DataW H} {p:List MemPlace} (hr:RdT P w t Q) (hv:v.cells=#[v]) (h:DataW.Trod enc P w 0 (fun _=>true) true t v d p):∃ x,Q [x]/\Rep w (qib w) true x v:=by
 obtain ⟨jM,hf⟩:=h;obtain ⟨as,h1,_,h2,h3⟩:=hr H enc _ _ _ hf;rw [hv] at h1 h3
 match as,h1 with
 | [x],_=>exact ⟨x,h2,by simpa using h3 0 (by simp)⟩
theorem qc7 {f : FuncId} {xs : List AV} {vs : Array Value} (ht : TabOK (qib w) w) (h : z8 P f xs (B true)) (hn : vs.size = xs.length) (hr : ∀ i (h : i < xs.length),Rep w (qib w) true xs[i] (vs.getD i undef)) :
 Calls P f vs w fun e w'=>e = .returned (.bool true)/\Below w.heap.size w w':=by
 have h1:=h none 0 w (qib w) vs (qdm w ht) hn hr;have h2:CallsIn Fence.wide 0 P f vs w _:=h1;refine (callsIn_wide.1 h2).mono fun e w' ⟨v,g',e1,e2,e3,e4⟩=>?_;subst e1;have ev:v = .bool true:=by cases e2;rfl
 subst ev;refine ⟨rfl,e4.tr.os,e4.tr.tape,e4.tr.output,e4.tr.size,fun k hk=>e4.keep k hk ?_⟩;rintro ⟨id,o,d,ho,_⟩;cases ho
end
def qiG : AV -> Option Nat
 | .v (.int .i64 (.ofNat n))=>some n
 | _=>none
theorem Ja {x:AV} {n:Nat} (h:qiG x=some n):x=I n:=by
 unfold qiG at h;split at h
 . cases h;rfl
 cases h
def qpA : AV -> Option Nat
 | .v (.int _ (.ofNat n))=>some n
 | _=>none
def Z6 (hp:List HObj) (id:Nat):Option (List AV):=match hp[id]? with
 | some (.cells cs)=>some cs
 | _=>none
theorem Ql {hp:List HObj} {id cs} (h:Z6 hp id=some cs):hpf hp id=some (.cells cs):=by
 unfold Z6 at h;split at h
 . rename_i h1;cases h;exact h1
 cases h
def qlC (agg:Bool) (sz off:Nat) (cs:List AV):Option AV :=
 if agg then (if off+sz<=cs.length then some (.agg (qy cs off sz)) else none) else cs[off]?
theorem Wv {agg sz off cs r}:qlC agg sz off cs=some r->(match agg with | true=>off+sz<=cs.length/\r = .agg (qy cs off sz) | false=>∃ y,cs[off]?=some y/\r=y):=by
 intro h;cases agg with
 | true =>
   simp only [qlC,if_true] at h;split at h
   . rename_i h1;cases h;exact ⟨h1,rfl⟩
   cases h
 | false=>simp only [qlC,Bool.false_eq_true,if_false] at h;exact ⟨r,h,rfl⟩
def qaF (dflt : Nat) : Option AV -> Option Nat
 | none=>some dflt
 | some y=>qiG y
theorem Qo {dflt n:Nat} {o:Option AV}:qaF dflt o=some n->(match o with | none=>n=dflt | some y=>y=I n):=by
 intro h;cases o with
 | none=>simp [qaF] at h;exact h.symm
 | some y=>exact Ja h
def qDN (h n : Nat) (hi : Option AV) : Option AV -> Bool
 | none=>true
 | some y=>match qiG y with
   | some m=>Nat.ble h m&&Nat.ble m n&&hi.isSome
   | none=>false
def qBW (sz:Nat) (x:AV) (lo hi mx:Option AV):Option AV :=
 match x with
 | .sl full n cs=>match qaF 0 lo,qaF n hi with
   | some l,some h => if l <= h /\ h <= n /\ cs.length = n * sz then (match mx with
     | none=>some (.sl (full&&decide (h=n)) (h - l) (qy cs (l*sz) ((h - l)*sz)))
     | some y=>if qiG y=some h/\hi.isSome then some (.sl true (h - l) (qy cs (l*sz) ((h - l)*sz))) else none) else none
   | _,_=>none
 | .ms id off n sz'=>match qaF 0 lo,qaF n hi with
   | some l,some h=>if l<=h/\h<=n/\sz'=sz/\qDN h n hi mx=true then some (.ms id (off+l*sz) (h - l) sz) else none
   | _,_=>none
 | .mc id off n c sz'=>match qaF 0 lo,qaF n hi,qaF c mx with
   | some l,some h,some m=>if l<=h/\h<=m/\m<=c/\sz'=sz/\(mx.isNone || hi.isSome) then some (.mc id (off+l*sz) (h - l) (m - l) sz) else none
   | _,_,_=>none
 | _=>none
theorem qnE {sz x lo hi mx r} (h:qBW sz x lo hi mx=some r):YA r [] sz x lo hi mx:=by
 unfold qBW at h;unfold YA;split at h
 . split at h
   . rename_i l hh hl hh';split at h
     . rename_i hc;refine ⟨l,hh,Qo hl,Qo hh',hc.1,hc.2.1,hc.2.2,?_,rfl⟩;split at h
       . cases h;rfl
       split at h
       . rename_i hy;cases h;exact ⟨Ja hy.1,hy.2,rfl⟩
       cases h
     cases h
   cases h
 . split at h
   . rename_i l hh hl hh';split at h
     . rename_i hc;cases h;obtain ⟨c1,c2,c3,c4⟩:=hc;refine ⟨l,hh,Qo hl,Qo hh',c1,c2,c3,?_,.inl rfl,rfl⟩;cases mx with
       | none=>trivial
       | some y =>
         simp only [qDN] at c4;split at c4
         . rename_i m hm;simp only [Bool.and_eq_true] at c4;exact ⟨m,Ja hm,Nat.le_of_ble_eq_true c4.1.1,Nat.le_of_ble_eq_true c4.1.2,c4.2⟩
         cases c4
     cases h
   cases h
 . split at h
   . rename_i l hh m hl hh' hm;split at h
     . rename_i hc;cases h;obtain ⟨c1,c2,c3,c4,c5⟩:=hc;refine ⟨l,hh,m,Qo hl,Qo hh',?_,c1,c2,c3,c4,rfl,rfl⟩;have:=Qo hm;cases mx with
       | none=>exact this
       | some y=>simp at c5;exact ⟨this,c5⟩
     cases h
   cases h
 cases h
def qpS (hp:List HObj) (new sz bytes:Nat) (x:AV) (m:Nat) (ys:List AV):Option (AV × List (Nat × HObj)) :=
 match x with
 | .sl full n cs=>if full=true/\cs.length=n*sz/\(n+m)*bytes<=140737488355328/\n+m<=140737488355328/\(n=0\/0<m) then some (.ms new 0 (n+m) sz,[(new,.cells (cs++ys))]) else none
 | .ms id off n sz'=>match Z6 hp id with
   | some cs=>if sz'=sz/\off+n*sz<=cs.length/\(n+m)*bytes<=140737488355328/\n+m<=140737488355328 then some (.ms new 0 (n+m) sz,[(id,.gone),(new,.cells (qy cs off (n*sz)++ys))]) else none
   | none=>none
 | .mc id off n c sz'=>match Z6 hp id with
   | some cs => if sz' = sz /\ off + n * sz <= cs.length /\ (n + m) * bytes <= 140737488355328 /\ n + m <= 140737488355328 then
    (if n + m <= c then (if off + (n + m) * sz <= cs.length then some (.mc id off (n + m) c sz,[(id,.cells (splice cs (off + n * sz) ys))]) else none)
     else some (.ms new 0 (n+m) sz,[(new,.cells (qy cs off (n*sz)++ys))])) else none
   | none=>none
 | _=>none
theorem qaM {hp:List HObj} {new sz bytes x m ys r ws} (h:qpS hp new sz bytes x m ys=some (r,ws)):zl (hpf hp) new r ws sz bytes x m ys:=by
 unfold qpS at h;unfold zl;split at h
 . split at h
   . rename_i hc;cases h;exact ⟨hc.1,hc.2.1,hc.2.2.1,hc.2.2.2.1,hc.2.2.2.2,rfl,rfl⟩
   cases h
 . split at h
   . rename_i cs hcs;have:=Ql hcs;simp only [this];split at h
     . rename_i hc;cases h;exact ⟨hc.1,hc.2.1,hc.2.2.1,hc.2.2.2,rfl,rfl⟩
     cases h
   cases h
 . split at h
   . rename_i cs hcs;have:=Ql hcs;simp only [this];split at h
     . rename_i hc;refine ⟨hc.1,hc.2.1,hc.2.2.1,hc.2.2.2,?_⟩;split at h
       . split at h
         . rename_i h1 h2;cases h;exact .inl ⟨h1,h2,rfl,rfl⟩
         cases h
       rename_i h1;cases h;exact .inr ⟨by omega,rfl,rfl⟩
     cases h
   cases h
 cases h
def mpE (hp : List HObj) : AV -> Option (Nat × List (Value × Nat × AV) × Nat)
 | .mp id=>match hp[id]? with
   | some (.mp es clk)=>some (id,es,clk)
   | _=>none
 | _=>none
theorem Jv {hp:List HObj} {x id es clk} (h:mpE hp x=some (id,es,clk)):x = .mp id/\hpf hp id=some (.mp es clk):=by
 unfold mpE at h;split at h
 . split at h
   . rename_i h1;cases h;exact ⟨rfl,h1⟩
   cases h
 cases h
def qpD (ks:KS) (x:AV):Option Value:=match x.val with
 | some v=>if eqK ks v v=some true then some v else none
 | none=>none
theorem W8 {ks x v} (h:qpD ks x=some v):x.val=some v/\eqK ks v v=some true:=by
 unfold qpD at h;split at h
 . split at h
   . rename_i h1 h2;cases h;exact ⟨h1,h2⟩
   cases h
 cases h
def qsb (x:Opd) (ev:Opd->AV) (hp:List HObj):Option (AV × List (Nat × HObj)):=some (ev x,[])
def qgm (c:Opd) (a:Opd) (b:Opd) (ev:Opd->AV) (hp:List HObj):Option (AV × List (Nat × HObj)):=match ev c with
    | .v (.bool t)=>some (bif t then ev a else ev b,[])
    | _=>none
def qkC (op:BinOp) (x:Opd) (y:Opd) (ev:Opd->AV) (hp:List HObj):Option (AV × List (Nat × HObj)):=match ev x, ev y with
    | .v a,.v b=>match Zo op a b with
      | some z=>some (.v z,[])
      | none=>none
    | _,_=>none
def qse (op:UnOp) (x:Opd) (ev:Opd->AV) (hp:List HObj):Option (AV × List (Nat × HObj)):=match ev x with
    | .v a=>match unV op a with
      | some z=>some (.v z,[])
      | none=>none
    | _=>none
def qkL (x:Opd) (i:Nat) (ev:Opd->AV) (hp:List HObj):Option (AV × List (Nat × HObj)):=match ev x with
    | .tup vs=>match vs[i]? with
      | some y=>some (y,[])
      | none=>none
    | _=>none
def qsa (agg:Bool) (sz:Nat) (x:Opd) (ev:Opd->AV) (hp:List HObj):Option (AV × List (Nat × HObj)):=match ev x with
    | .ptr cs off=>(qlC agg sz off cs).map (·,[])
    | .ref id off=>match Z6 hp id with
      | some cs=>(qlC agg sz off cs).map (·,[])
      | none=>none
    | _=>none
def qsd (sz:Nat) (a:Opd) (x:Opd) (ev:Opd->AV) (hp:List HObj):Option (AV × List (Nat × HObj)):=match ev a with
    | .ref id off=>match Z6 hp id with
      | some cs=>if (ev x).cells.length=sz/\((ev x).cells.all AV.isCell)=true/\off+sz<=cs.length then some (.any,[(id,.cells (splice cs off (ev x).cells))]) else none
      | none=>none
    | _=>none
def qkE (sz:Nat) (x:Opd) (ev:Opd->AV) (hp:List HObj):Option (AV × List (Nat × HObj)):=if (ev x).cells.length=sz/\((ev x).cells.all AV.isCell)=true then some (.ref hp.length 0,[(hp.length,.cells (ev x).cells)]) else none
def qr7 (zero:List AV) (ev:Opd->AV) (hp:List HObj):Option (AV × List (Nat × HObj)):=some (.ref hp.length 0,[(hp.length,.cells zero)])
def qkF (n:Nat) (sz:Nat) (zero:List AV) (parts:List (Nat × Opd)) (ev:Opd->AV) (hp:List HObj):Option (AV × List (Nat × HObj)):=match qh (hpf hp) (parts.map fun p=>ev p.2) with
    | some (ys,ids)=>if (ys.all fun y=>y.cells.all AV.isCell&&y.cells.all AV.isPure&&(y.cells.length==sz))=true then some (.sl true n (Qp (zE n zero) sz ((parts.map (·.1)).zip ys)),gones ids) else none
    | none=>none
def qkD (zero:List AV) (parts:List (Nat × Nat × Opd)) (ev:Opd->AV) (hp:List HObj):Option (AV × List (Nat × HObj)):=if (parts.all fun p=>(ev p.2.2).cells.all AV.isCell&&((ev p.2.2).cells.length==p.2.1))=true then some (.agg (ZY zero (parts.map fun p=>(p.1,p.2.1,ev p.2.2))),[]) else none
def qr8 (x:Opd) (off:Nat) (ev:Opd->AV) (hp:List HObj):Option (AV × List (Nat × HObj)):=match ev x with
    | .ptr cs o=>some (.ptr cs (o+off),[])
    | .ref id o=>some (.ref id (o+off),[])
    | _=>none
def qkM (agg:Bool) (sz:Nat) (off:Nat) (x:Opd) (ev:Opd->AV) (hp:List HObj):Option (AV × List (Nat × HObj)):=match ev x with
    | .agg cs=>(qlC agg sz off cs).map (·,[])
    | _=>none
def qr9 (sz:Nat) (x:Opd) (i:Opd) (ev:Opd->AV) (hp:List HObj):Option (AV × List (Nat × HObj)):=match ev x, qpA (ev i) with
    | .sl _ n cs,some j=>if j<n/\cs.length=n*sz then some (.ptr cs (j*sz),[]) else none
    | .ms id off n sz',some j=>if j<n/\sz'=sz then some (.ref id (off+j*sz),[]) else none
    | .mc id off n _ sz',some j=>if j<n/\sz'=sz then some (.ref id (off+j*sz),[]) else none
    | _,_=>none
def qkN (ln:Nat) (sz:Nat) (x:Opd) (i:Opd) (ev:Opd->AV) (hp:List HObj):Option (AV × List (Nat × HObj)):=match ev x, qpA (ev i) with
    | .ptr cs o,some j=>if j<ln then some (.ptr cs (o+j*sz),[]) else none
    | .ref id o,some j=>if j<ln then some (.ref id (o+j*sz),[]) else none
    | _,_=>none
def qkO (ln:Nat) (agg:Bool) (sz:Nat) (x:Opd) (i:Opd) (ev:Opd->AV) (hp:List HObj):Option (AV × List (Nat × HObj)):=match ev x, qpA (ev i) with
    | .agg cs,some j=>if j<ln then (qlC agg sz (j*sz) cs).map (·,[]) else none
    | _,_=>none
def qgj (x:Opd) (i:Opd) (ev:Opd->AV) (hp:List HObj):Option (AV × List (Nat × HObj)):=match ev x, qpA (ev i) with
    | .v (.string s),some j=>match s[j]? with
      | some b=>some (.v (.int .u8 b.toNat),[])
      | none=>none
    | _,_=>none
def qkQ (x:Opd) (ev:Opd->AV) (hp:List HObj):Option (AV × List (Nat × HObj)):=match ev x with
    | .sl _ n _=>some (I n,[])
    | .ms _ _ n _=>some (I n,[])
    | .mc _ _ n _ _=>some (I n,[])
    | _=>none
def qkT (x:Opd) (ev:Opd->AV) (hp:List HObj):Option (AV × List (Nat × HObj)):=match ev x with
    | .v (.string s)=>some (I s.size,[])
    | _=>none
def qkS (x:Opd) (ev:Opd->AV) (hp:List HObj):Option (AV × List (Nat × HObj)):=match mpE hp (ev x) with
    | some (_,es,_)=>some (I es.length,[])
    | none=>none
def qkX (sz:Nat) (x:Opd) (lo:Option Opd) (hi:Option Opd) (hmx:Option Opd) (ev:Opd->AV) (hp:List HObj):Option (AV × List (Nat × HObj)):=(qBW sz (ev x) (lo.map ev) (hi.map ev) (hmx.map ev)).map (·,[])
def qgp (x:Opd) (lo:Option Opd) (hi:Option Opd) (ev:Opd->AV) (hp:List HObj):Option (AV × List (Nat × HObj)):=match ev x with
    | .v (.string s)=>match qaF 0 (lo.map ev),qaF s.size (hi.map ev) with
      | some l,some h=>if l<=h/\h<=s.size then some (.v (.string (s.extract l h)),[]) else none
      | _,_=>none
    | _=>none
def qkB (sz:Nat) (bytes:Nat) (x:Opd) (y:Opd) (ev:Opd->AV) (hp:List HObj):Option (AV × List (Nat × HObj)):=match elems (hpf hp) sz (ev y) with
    | some (m,ys)=>if (ys.all AV.isPC)=true then qpS hp hp.length sz bytes (ev x) m ys else none
    | none=>none
def qgi (sz:Nat) (x:Opd) (y:Opd) (ev:Opd->AV) (hp:List HObj):Option (AV × List (Nat × HObj)):=match elems (hpf hp) sz (ev y) with
    | some (m,ys) => if (ys.all AV.isPC) = true then (match ev x with
      | .ms id off n sz'=>match Z6 hp id with
        | some cs=>if sz'=sz/\off+n*sz<=cs.length then some (I (Nat.min m n:Nat),[(id,.cells (splice cs off (ys.take (Nat.min m n*sz))))]) else none
        | none=>none
      | .mc id off n _ sz'=>match Z6 hp id with
        | some cs=>if sz'=sz/\off+n*sz<=cs.length then some (I (Nat.min m n:Nat),[(id,.cells (splice cs off (ys.take (Nat.min m n*sz))))]) else none
        | none=>none
      | _=>none) else none
    | none=>none
def qkV (sz:Nat) (bytes:Nat) (zero:List AV) (n:Opd) (c:Opd) (ev:Opd->AV) (hp:List HObj):Option (AV × List (Nat × HObj)):=match qiG (ev n), qiG (ev c) with
    | some k,some k'=>if k=k'/\k*bytes<=140737488355328/\k<=140737488355328/\zero.length=sz then some (.ms hp.length 0 k sz,[(hp.length,.cells (zE k zero))]) else none
    | _,_=>none
def qkH (k:IntKind) (x:Opd) (ev:Opd->AV) (hp:List HObj):Option (AV × List (Nat × HObj)):=match ev x with
    | .v (.int _ n)=>some (.v (.int k (k.wrap n)),[])
    | _=>none
def qsc (max:Bool) (x:Opd) (y:Opd) (ev:Opd->AV) (hp:List HObj):Option (AV × List (Nat × HObj)):=match ev x, ev y with
    | .v (.int k a),.v (.int _ b)=>some (.v (.int k (bif max then (if b>a then b else a) else (if b<a then b else a))),[])
    | _,_=>none
def qgl (x:Opd) (ev:Opd->AV) (hp:List HObj):Option (AV × List (Nat × HObj)):=match ev x with
    | .ptr cs o=>some (.ptr cs o,[])
    | .ref id o=>some (.ref id o,[])
    | .fn (.func f) xs ys=>some (.fn (.func f) xs ys,[])
    | _=>none
def qkU (f:Fn) (first:List Opd) (caps:List Opd) (ev:Opd->AV) (hp:List HObj):Option (AV × List (Nat × HObj)):=some (.fn f (first.map ev) (caps.map ev),[])
def qkG (x:Opd) (ev:Opd->AV) (hp:List HObj):Option (AV × List (Nat × HObj)):=match ev x with
    | .sl full n _=>if full=true then some (I n,[]) else none
    | .mc _ _ _ c _=>some (I c,[])
    | _=>none
def qgh (sz:Nat) (zero:List AV) (x:Opd) (ev:Opd->AV) (hp:List HObj):Option (AV × List (Nat × HObj)):=match ev x with
    | .ms id off n sz'=>match Z6 hp id with
      | some cs=>if sz'=sz/\off+n*sz<=cs.length then some (.any,[(id,.cells (splice cs off (zE n zero)))]) else none
      | none=>none
    | .mc id off n _ sz'=>match Z6 hp id with
      | some cs=>if sz'=sz/\off+n*sz<=cs.length then some (.any,[(id,.cells (splice cs off (zE n zero)))]) else none
      | none=>none
    | _=>none
def qbD (sz:Nat) (bytes:Nat) (zero:List AV) (x:Opd) (k:Opd) (ev:Opd->AV) (hp:List HObj):Option (AV × List (Nat × HObj)):=match qiG (ev k) with
    | some m=>qpS hp hp.length sz bytes (ev x) m (zE m zero)
    | none=>none
def qgo (sz:Nat) (ln:Nat) (x:Opd) (lo:Option Opd) (hi:Option Opd) (hmx:Option Opd) (ev:Opd->AV) (hp:List HObj):Option (AV × List (Nat × HObj)):=match ev x with
    | .ref id off=>match Z6 hp id,qaF 0 (lo.map ev),qaF ln (hi.map ev),qaF ln (hmx.map ev) with
      | some cs,some l,some h,some m=>if l<=h/\h<=m/\m<=ln/\off+ln*sz<=cs.length/\(hmx.isNone || hi.isSome) then some (.mc id (off+l*sz) (h - l) (m - l) sz,[]) else none
      | _,_,_,_=>none
    | .ptr cs off=>match qaF 0 (lo.map ev),qaF ln (hi.map ev) with
      | some l,some h=>if hmx.isNone/\l<=h/\h<=ln/\off+ln*sz<=cs.length then some (.sl (decide (h=ln)) (h - l) (qy cs (off+l*sz) ((h - l)*sz)),[]) else none
      | _,_=>none
    | _=>none
def qgk  (ev:Opd->AV) (hp:List HObj):Option (AV × List (Nat × HObj)):=some (.mp hp.length,[(hp.length,.mp [] 0)])
def qkP (ks:KS) (m:Opd) (k:Opd) (v:Opd) (ev:Opd->AV) (hp:List HObj):Option (AV × List (Nat × HObj)):=match mpE hp (ev m), qpD ks (ev k) with
    | some (id,es,clk),some kv=>match zi ks kv es 0 with
      | some (some i)=>match es[i]? with
        | some e=>some (.any,[(id,.mp (es.set i (e.1,e.2.1,ev v)) clk)])
        | none=>none
      | some none=>some (.any,[(id,.mp (es++[(kv,clk,ev v)]) (clk+1))])
      | none=>none
    | _,_=>none
def qkR (ks:KS) (zero:AV) (ok:Bool) (m:Opd) (k:Opd) (ev:Opd->AV) (hp:List HObj):Option (AV × List (Nat × HObj)):=match mpE hp (ev m), qpD ks (ev k) with
    | some (id,es,clk),some kv=>match zi ks kv es 0 with
      | some (some i)=>match es[i]? with
        | some e=>some (bif ok then .tup [e.2.2,B true] else e.2.2,[])
        | none=>none
      | some none=>some (bif ok then .tup [zero,B false] else zero,[])
      | none=>none
    | _,_=>none
def qkW (ks:KS) (zero:AV) (m:Opd) (k:Opd) (ev:Opd->AV) (hp:List HObj):Option (AV × List (Nat × HObj)):=match mpE hp (ev m), qpD ks (ev k) with
    | some (id,es,clk),some kv=>match zi ks kv es 0 with
      | some (some i)=>match es[i]? with
        | some e=>some (.tup [e.2.2,I e.2.1],[])
        | none=>none
      | some none=>some (.tup [zero,I clk],[(id,.mp (es++[(kv,clk,zero)]) (clk+1))])
      | none=>none
    | _,_=>none
def qkK (m:Opd) (s:Opd) (v:Opd) (ev:Opd->AV) (hp:List HObj):Option (AV × List (Nat × HObj)):=match mpE hp (ev m), qiG (ev s) with
    | some (id,es,clk),some b=>match es.findIdx? (fun x=>x.2.1==b) with
      | some i=>match es[i]? with
        | some e=>if e.2.1=b then some (.any,[(id,.mp (es.set i (e.1,e.2.1,ev v)) clk)]) else none
        | none=>none
      | none=>none
    | _,_=>none
def qkI (ks:KS) (m:Opd) (k:Opd) (ev:Opd->AV) (hp:List HObj):Option (AV × List (Nat × HObj)):=match mpE hp (ev m), qpD ks (ev k) with
    | some (id,es,clk),some kv=>match zi ks kv es 0 with
      | some (some i)=>some (.any,[(id,.mp (es.eraseIdx i) clk)])
      | some none=>some (.any,[])
      | none=>none
    | _,_=>none
def qkJ (neg:Bool) (ks:KS) (x:Opd) (y:Opd) (ev:Opd->AV) (hp:List HObj):Option (AV × List (Nat × HObj)):=match (ev x).val, (ev y).val with
    | some a,some b=>match eqK ks a b with
      | some z=>some (B (neg != z),[])
      | none=>none
    | _,_=>none
def XQ : List AV -> Option (List UInt8)
 | []=>some []
 | .v (.int .u8 n)::r=>if 0<=n/\n<=255 then (XQ r).map (UInt8.ofNat n.toNat::·) else none
 | _=>none
theorem XR : ∀ {cs : List AV} {bs : List UInt8},XQ cs = some bs -> cs = Qk bs
 | [],bs,h=>by simp [XQ] at h;subst h;rfl
 | c::cs, bs, h=>by
   unfold XQ at h;split at h
   . rename_i heq;cases heq
   . rename_i n r heq;cases heq;split at h
     . rename_i hc;simp only [Option.map_eq_some_iff] at h;obtain ⟨l,h1,rfl⟩:=h;have e:((UInt8.ofNat n.toNat).toNat:Int)=n:=by rw [UInt8.toNat_ofNat',Nat.mod_eq_of_lt (by omega)];omega
       rw [XR h1];show _=AV.v (.int .u8 ((UInt8.ofNat n.toNat).toNat:Int))::Qk l;rw [e]
     cases h
   cases h
def qgg (x:Opd) (ev:Opd->AV) (hp:List HObj):Option (AV × List (Nat × HObj)):=match elems (hpf hp) 1 (ev x) with
    | some (n,cs)=>match XQ cs with
      | some bs=>if bs.length=n then some (.v (.string ⟨bs.toArray⟩),[]) else none
      | none=>none
    | none=>none
def qgn (x:Opd) (ev:Opd->AV) (hp:List HObj):Option (AV × List (Nat × HObj)):=match ev x with
    | .v (.string s)=>some (.sl false s.size (Qk s.data.toList),[])
    | _=>none
def qbC (bytes:Nat) (x:Opd) (y:Opd) (ev:Opd->AV) (hp:List HObj):Option (AV × List (Nat × HObj)):=match ev y with
    | .v (.string s)=>qpS hp hp.length 1 bytes (ev x) s.size (Qk s.data.toList)
    | _=>none
def QJ (o:AOp) (ev:Opd->AV) (hp:List HObj):Option (AV × List (Nat × HObj)) :=
 match o with
 | .mv _ x=>qsb x ev hp
 | .pick _ c a b=>qgm c a b ev hp
 | .bin _ op x y=>qkC op x y ev hp
 | .un _ op x=>qse op x ev hp
 | .ext _ x i=>qkL x i ev hp
 | .ld _ agg sz x=>qsa agg sz x ev hp
 | .st sz a x=>qsd sz a x ev hp
 | .box _ sz x=>qkE sz x ev hp
 | .al _ zero=>qr7 zero ev hp
 | .bsl _ n sz zero parts=>qkF n sz zero parts ev hp
 | .bld _ zero parts=>qkD zero parts ev hp
 | .fa _ x off=>qr8 x off ev hp
 | .fld _ agg sz off x=>qkM agg sz off x ev hp
 | .ia _ sz x i=>qr9 sz x i ev hp
 | .iaa _ ln sz x i=>qkN ln sz x i ev hp
 | .idx _ ln agg sz x i=>qkO ln agg sz x i ev hp
 | .ids _ x i=>qgj x i ev hp
 | .len _ x=>qkQ x ev hp
 | .lns _ x=>qkT x ev hp
 | .lnm _ x=>qkS x ev hp
 | .slc _ sz x lo hi hmx=>qkX sz x lo hi hmx ev hp
 | .sls _ x lo hi=>qgp x lo hi ev hp
 | .app _ sz bytes x y=>qkB sz bytes x y ev hp
 | .cpy _ sz x y=>qgi sz x y ev hp
 | .mks _ sz bytes zero n c=>qkV sz bytes zero n c ev hp
 | .cnv _ k x=>qkH k x ev hp
 | .mx _ max x y=>qsc max x y ev hp
 | .nilc _ x=>qgl x ev hp
 | .mkf _ f first caps=>qkU f first caps ev hp
 | .cap _ x=>qkG x ev hp
 | .clr sz zero x=>qgh sz zero x ev hp
 | .appz _ sz bytes zero x k=>qbD sz bytes zero x k ev hp
 | .slp _ sz ln x lo hi hmx=>qgo sz ln x lo hi hmx ev hp
 | .mkm _=>qgk  ev hp
 | .ins ks m k v=>qkP ks m k v ev hp
 | .lku _ ks zero ok m k=>qkR ks zero ok m k ev hp
 | .mpe _ ks zero m k=>qkW ks zero m k ev hp
 | .est m s v=>qkK m s v ev hp
 | .del ks m k=>qkI ks m k ev hp
 | .eqk _ neg ks x y=>qkJ neg ks x y ev hp
 | .b2s _ x=>qgg x ev hp
 | .s2b _ x=>qgn x ev hp
 | .apps _ bytes x y=>qbC bytes x y ev hp
 | _=>none
theorem j7 {x:AV} {n:Nat} (h:qpA x=some n):∃ k,x = .v (.int k (n:Int)):=by
 unfold qpA at h;split at h
 . cases h;exact ⟨_,rfl⟩
 cases h
theorem qbR {l:List AV} (h:(l.all AV.isPC)=true) (k:Nat):((l.take k).all AV.isPC)=true:=by rw [List.all_eq_true] at *;exact fun x hx=>h x (List.mem_of_mem_take hx)
theorem Xv {P:Program} {o:AOp} {ev:Opd->AV} {hp:List HObj} {r:AV} {ws:List (Nat × HObj)} (h:QJ o ev hp=some (r,ws)):o.sem P ev (hpf hp) hp.length r ws:=by
 cases o with
 | mv=>simp only [QJ,qsb] at h;cases h;exact ⟨rfl,rfl⟩
 | pick d c a b=>simp only [QJ,qgm] at h;simp only [AOp.sem];generalize ev c=uc at h ⊢;split at h <;> cases h;exact ⟨rfl,rfl⟩
 | bin d op x y =>
   simp only [QJ,qkC] at h;simp only [AOp.sem];generalize ev x=ux at h ⊢;generalize ev y=uy at h ⊢;split at h
   . split at h
     . rename_i hz;cases h;exact ⟨_,hz,rfl,rfl⟩
     cases h
   cases h
 | un d op x =>
   simp only [QJ,qse] at h;simp only [AOp.sem];generalize ev x=ux at h ⊢;split at h
   . split at h
     . rename_i hz;cases h;exact ⟨_,hz,rfl,rfl⟩
     cases h
   cases h
 | ext d x i =>
   simp only [QJ,qkL] at h;simp only [AOp.sem];generalize ev x=ux at h ⊢;split at h
   . split at h
     . rename_i hz;cases h;exact ⟨_,hz,rfl,rfl⟩
     cases h
   cases h
 | ld d agg sz x =>
   simp only [QJ,qsa] at h;simp only [AOp.sem,Q0];generalize ev x=ux at h ⊢;split at h
   . simp only [Option.map_eq_some_iff] at h;obtain ⟨y,h1,h2⟩:=h;cases h2;exact ⟨rfl,Wv h1⟩
   . split at h
     . rename_i cs hcs;simp only [Option.map_eq_some_iff] at h;obtain ⟨y,h1,h2⟩:=h;cases h2;simp only [Ql hcs];exact ⟨trivial,Wv h1⟩
     cases h
   cases h
 | st sz a x =>
   simp only [QJ,qsd] at h;simp only [AOp.sem,qaq];generalize ev a=ua at h ⊢;generalize ev x=ux at h ⊢;split at h
   . split at h
     . rename_i cs hcs;split at h
       . rename_i hc;cases h;simp only [Ql hcs];exact ⟨hc.1,hc.2.1,hc.2.2,trivial,trivial⟩
       cases h
     cases h
   cases h
 | box=>simp only [QJ,qkE] at h;split at h <;> first | (rename_i hc;cases h;exact ⟨hc.1,hc.2,rfl,rfl⟩) | cases h
 | al=>simp only [QJ,qr7] at h;cases h;exact ⟨rfl,rfl⟩
 | bsl =>
   simp only [QJ,qkF] at h;split at h
   . rename_i ys ids hp1;split at h
     . rename_i hc;cases h;exact ⟨ys,ids,hp1,hc,.inl ⟨rfl,rfl⟩⟩
     cases h
   cases h
 | bld=>simp only [QJ,qkD] at h;split at h <;> first | (rename_i hc;cases h;exact ⟨hc,rfl,rfl⟩) | cases h
 | fa d x off=>simp only [QJ,qr8] at h;simp only [AOp.sem];generalize ev x=ux at h ⊢;split at h <;> cases h <;> exact ⟨rfl,rfl⟩
 | fld d agg sz off x =>
   simp only [QJ,qkM] at h;simp only [AOp.sem];generalize ev x=ux at h ⊢;split at h
   . simp only [Option.map_eq_some_iff] at h;obtain ⟨y,h1,h2⟩:=h;cases h2;exact ⟨Wv h1,rfl⟩
   cases h
 | ia d sz x i =>
   simp only [QJ,qr9] at h;simp only [AOp.sem];generalize ev x=ux at h ⊢;generalize ev i=ui at h ⊢;split at h
   . rename_i hi;obtain ⟨k,hk⟩:=j7 hi;split at h
     . rename_i hc;cases h;rw [hk];exact ⟨by omega,by simp,rfl,hc.2⟩
     cases h
   . rename_i hi;obtain ⟨k,hk⟩:=j7 hi;split at h
     . rename_i hc;cases h;rw [hk];exact ⟨by omega,hc.2,by simp,rfl⟩
     cases h
   . rename_i hi;obtain ⟨k,hk⟩:=j7 hi;split at h
     . rename_i hc;cases h;rw [hk];exact ⟨by omega,hc.2,by simp,rfl⟩
     cases h
   cases h
 | iaa d ln sz x i =>
   simp only [QJ,qkN] at h;simp only [AOp.sem];generalize ev x=ux at h ⊢;generalize ev i=ui at h ⊢;split at h
   . rename_i hi;obtain ⟨k,hk⟩:=j7 hi;split at h
     . rename_i hc;cases h;rw [hk];exact ⟨by omega,by simp,rfl⟩
     cases h
   . rename_i hi;obtain ⟨k,hk⟩:=j7 hi;split at h
     . rename_i hc;cases h;rw [hk];exact ⟨by omega,by simp,rfl⟩
     cases h
   cases h
 | idx d ln agg sz x i =>
   simp only [QJ,qkO] at h;simp only [AOp.sem];generalize ev x=ux at h ⊢;generalize ev i=ui at h ⊢;split at h
   . rename_i hi;obtain ⟨k,hk⟩:=j7 hi;split at h
     . rename_i hc;simp only [Option.map_eq_some_iff] at h;obtain ⟨y,h1,h2⟩:=h;cases h2;rw [hk];exact ⟨by omega,Wv h1,rfl⟩
     cases h
   cases h
 | ids d x i =>
   simp only [QJ,qgj] at h;simp only [AOp.sem];generalize ev x=ux at h ⊢;generalize ev i=ui at h ⊢;split at h
   . rename_i hi;obtain ⟨k,hk⟩:=j7 hi;split at h
     . rename_i b hb;cases h;rw [hk];exact ⟨by omega,⟨b,by simpa using hb,rfl⟩,rfl⟩
     cases h
   cases h
 | len d x=>simp only [QJ,qkQ] at h;simp only [AOp.sem];generalize ev x=ux at h ⊢;split at h <;> cases h <;> exact ⟨rfl,rfl⟩
 | lns d x=>simp only [QJ,qkT] at h;simp only [AOp.sem];generalize ev x=ux at h ⊢;split at h <;> cases h <;> exact ⟨rfl,rfl⟩
 | lnm d x =>
   simp only [QJ,qkS] at h;simp only [AOp.sem];generalize ev x=ux at h ⊢;split at h
   . rename_i hm;obtain ⟨h1,h2⟩:=Jv hm;cases h;simp only [h1,h2]
     first | exact ⟨rfl,rfl⟩ | trivial | simp
   cases h
 | slc =>simp only [QJ,qkX,Option.map_eq_some_iff] at h;obtain ⟨y,h1,h2⟩:=h;cases h2;exact qnE h1
 | sls d x lo hi =>
   simp only [QJ,qgp] at h;simp only [AOp.sem];generalize ev x=ux at h ⊢;split at h
   . split at h
     . rename_i l hh hl hh';split at h
       . rename_i hc;cases h;exact ⟨l,hh,Qo hl,Qo hh',hc.1,hc.2,rfl,rfl⟩
       cases h
     cases h
   cases h
 | app d sz bytes x y =>
   simp only [QJ,qkB] at h;simp only [AOp.sem];generalize ev x=ux at h ⊢;split at h
   . rename_i m ys hel;split at h
     . rename_i hc;exact ⟨m,ys,hel,hc,qaM h⟩
     cases h
   cases h
 | cpy d sz x y =>
   simp only [QJ,qgi] at h;simp only [AOp.sem];generalize ev x=ux at h ⊢;split at h
   . rename_i m ys hel;split at h
     . rename_i hc;split at h
       . split at h
         . rename_i cs hcs;split at h
           . rename_i hb;cases h;exact ⟨m,ys,cs,hel,qbR hc _,Ql hcs,hb.1,hb.2,rfl,rfl⟩
           cases h
         cases h
       . split at h
         . rename_i cs hcs;split at h
           . rename_i hb;cases h;exact ⟨m,ys,cs,hel,qbR hc _,Ql hcs,hb.1,hb.2,rfl,rfl⟩
           cases h
         cases h
       cases h
     cases h
   cases h
 | mks =>
   simp only [QJ,qkV] at h;simp only [AOp.sem];split at h
   . rename_i k k' h1 h2;split at h
     . rename_i hc;cases h;obtain ⟨rfl,c1,c2,c3⟩:=hc;exact ⟨k,Ja h1,Ja h2,c1,c2,c3,rfl,rfl⟩
     cases h
   cases h
 | cnv d k x=>simp only [QJ,qkH] at h;simp only [AOp.sem];generalize ev x=ux at h ⊢;split at h <;> cases h;exact ⟨rfl,rfl⟩
 | mx d m x y=>simp only [QJ,qsc] at h;simp only [AOp.sem];generalize ev x=ux at h ⊢;generalize ev y=uy at h ⊢;split at h <;> cases h;exact ⟨rfl,rfl⟩
 | nilc d x=>simp only [QJ,qgl] at h;simp only [AOp.sem];generalize ev x=ux at h ⊢;split at h <;> cases h <;> exact ⟨rfl,rfl⟩
 | mkf=>simp only [QJ,qkU] at h;cases h;exact ⟨rfl,rfl⟩
 | cap d x =>
   simp only [QJ,qkG] at h;simp only [AOp.sem];generalize ev x=ux at h ⊢;split at h
   . split at h
     . rename_i hc;cases h;exact ⟨hc,rfl,rfl⟩
     cases h
   . cases h;exact ⟨rfl,rfl⟩
   cases h
 | clr sz z x =>
   simp only [QJ,qgh] at h;simp only [AOp.sem];generalize ev x=ux at h ⊢;split at h
   . split at h
     . rename_i cs hcs;split at h
       . rename_i hc;cases h;exact ⟨cs,Ql hcs,hc.1,hc.2,rfl,rfl⟩
       cases h
     cases h
   . split at h
     . rename_i cs hcs;split at h
       . rename_i hc;cases h;exact ⟨cs,Ql hcs,hc.1,hc.2,rfl,rfl⟩
       cases h
     cases h
   cases h
 | appz =>
   simp only [QJ,qbD] at h;simp only [AOp.sem];split at h
   . rename_i m hm;exact ⟨m,Ja hm,qaM h⟩
   cases h
 | slp d sz ln x lo hi hmx =>
   simp only [QJ,qgo] at h;simp only [AOp.sem];generalize ev x=ux at h ⊢;split at h
   . split at h
     . rename_i cs l hh m hcs hl hh' hm;split at h
       . rename_i hc;cases h;obtain ⟨c1,c2,c3,c4,c5⟩:=hc;simp only [Ql hcs];refine ⟨l,hh,m,Qo hl,Qo hh',?_,c1,c2,c3,c4,rfl,trivial⟩;have:=Qo hm;cases hmx with
         | none=>exact this
         | some y=>simp at c5;exact ⟨this,by simpa using c5⟩
       cases h
     cases h
   . split at h
     . rename_i l hh hl hh';split at h
       . rename_i hc;cases h;obtain ⟨c1,c2,c3,c4⟩:=hc;exact ⟨l,hh,Qo hl,Qo hh',by simpa using c1,c2,c3,c4,rfl,rfl⟩
       cases h
     cases h
   cases h
 | mkm=>simp only [QJ,qgk] at h;cases h;exact ⟨rfl,rfl⟩
 | ins =>
   simp only [QJ,qkP] at h;simp only [AOp.sem];split at h
   . rename_i id es clk kv hm hk;obtain ⟨h1,h2⟩:=Jv hm;obtain ⟨k1,k2⟩:=W8 hk;simp only [h1,h2];split at h
     . rename_i i hf;split at h
       . rename_i e he;cases h;exact ⟨kv,k1,k2,rfl,.inl ⟨i,e,hf,he,rfl⟩⟩
       cases h
     . rename_i hf;cases h;exact ⟨kv,k1,k2,rfl,.inr ⟨hf,rfl⟩⟩
     cases h
   cases h
 | lku =>
   simp only [QJ,qkR] at h;simp only [AOp.sem];split at h
   . rename_i id es clk kv hm hk;obtain ⟨h1,h2⟩:=Jv hm;obtain ⟨k1,k2⟩:=W8 hk;simp only [h1,h2];split at h
     . rename_i i hf;split at h
       . rename_i e he;cases h;exact ⟨kv,k1,k2,rfl,.inl ⟨i,e,hf,he,rfl⟩⟩
       cases h
     . rename_i hf;cases h;exact ⟨kv,k1,k2,rfl,.inr ⟨hf,rfl⟩⟩
     cases h
   cases h
 | mpe =>
   simp only [QJ,qkW] at h;simp only [AOp.sem];split at h
   . rename_i id es clk kv hm hk;obtain ⟨h1,h2⟩:=Jv hm;obtain ⟨k1,k2⟩:=W8 hk;simp only [h1,h2];split at h
     . rename_i i hf;split at h
       . rename_i e he;cases h;exact ⟨kv,k1,k2,.inl ⟨i,e,hf,he,rfl,rfl⟩⟩
       cases h
     . rename_i hf;cases h;exact ⟨kv,k1,k2,.inr ⟨hf,rfl,rfl⟩⟩
     cases h
   cases h
 | est =>
   simp only [QJ,qkK] at h;simp only [AOp.sem];split at h
   . rename_i id es clk b hm hk;obtain ⟨h1,h2⟩:=Jv hm;simp only [h1,h2];split at h
     . rename_i i hf;split at h
       . rename_i e he;split at h
         . rename_i hb;cases h;exact ⟨i,e,by rw [hb];exact Ja hk,by rw [hb];exact hf,he,rfl,rfl⟩
         cases h
       cases h
     cases h
   cases h
 | del =>
   simp only [QJ,qkI] at h;simp only [AOp.sem];split at h
   . rename_i id es clk kv hm hk;obtain ⟨h1,h2⟩:=Jv hm;obtain ⟨k1,k2⟩:=W8 hk;simp only [h1,h2];split at h
     . rename_i i hf;cases h;exact ⟨kv,k1,k2,rfl,.inl ⟨i,hf,rfl⟩⟩
     . rename_i hf;cases h;exact ⟨kv,k1,k2,rfl,.inr ⟨hf,rfl⟩⟩
     cases h
   cases h
 | eqk =>
   simp only [QJ,qkJ] at h;simp only [AOp.sem];split at h
   . rename_i a b ha hb;split at h
     . rename_i z hz;cases h;exact ⟨a,b,z,ha,hb,hz,rfl,rfl⟩
     cases h
   cases h
 | b2s d x =>
   simp only [QJ,qgg] at h;simp only [AOp.sem];split at h
   . rename_i n cs hel;split at h
     . rename_i bs hb;split at h
       . rename_i hn;cases h;exact ⟨bs,by rw [hel,hn,XR hb],rfl,rfl⟩
       cases h
     cases h
   cases h
 | s2b d x=>simp only [QJ,qgn] at h;simp only [AOp.sem];generalize ev x=ux at h ⊢;split at h <;> cases h;exact ⟨rfl,rfl⟩
 | apps d bytes x y =>
   simp only [QJ,qbC] at h;simp only [AOp.sem];generalize ev y=uy at h ⊢;split at h
   . exact qaM h
   cases h
 | _=>simp [QJ] at h
abbrev FrL:=List (Nat × AV)
abbrev K1:=FrL->List HObj->Prop
def fnP (n:Nat) (k:Nat->Prop):Prop:=Nat.rec (motive:=fun _=>Prop) (k 0) (fun m _=>k (Nat.succ m)) n
theorem qo (n:Nat) (k:Nat->Prop):fnP n k=k n:=by cases n <;> rfl
def fiP (z:Int) (k:Int->Prop):Prop:=Int.rec (motive:=fun _=>Prop) (fun n=>fnP n fun n=>k (.ofNat n)) (fun n=>fnP n fun n=>k (.negSucc n)) z
theorem qeZ (z:Int) (k:Int->Prop):fiP z k=k z:=by
 cases z with
 | ofNat n=>exact qo n fun n=>k (.ofNat n)
 | negSucc n=>exact qo n fun n=>k (.negSucc n)
def fbP (b:Bool) (k:Bool->Prop):Prop:=Bool.rec (motive:=fun _=>Prop) (k false) (k true) b
theorem Za (b:Bool) (k:Bool->Prop):fbP b k=k b:=by cases b <;> rfl
def flP {α:Type} (l:List α) (k:List α->Prop):Prop:=List.rec (motive:=fun _=>(List α->Prop)->Prop) (fun k=>k []) (fun a _ ih k=>ih fun t=>k (a::t)) l k
theorem zg {α : Type} : ∀ (l : List α) (k : List α -> Prop),flP l k = k l
 | [],k=>rfl
 | a::l,k=>zg l fun t=>k (a::t)
def fmP {α:Type} (f:α->(α->Prop)->Prop) (l:List α) (k:List α->Prop):Prop:=List.rec (motive:=fun _=>(List α->Prop)->Prop) (fun k=>k []) (fun a _ ih k=>f a fun a=>ih fun t=>k (a::t)) l k
theorem Qb {α : Type} {f : α -> (α -> Prop) -> Prop} (hf : ∀ a k,f a k = k a) : ∀ (l : List α) (k : List α -> Prop),fmP f l k = k l
 | [],k=>rfl
 | a::l,k=>by show (f a fun a=>fmP f l fun t=>k (a::t))=_;rw [hf,Qb hf l]
def fsP (s:ByteArray) (k:ByteArray->Prop):Prop:=flP s.data.toList fun l=>k ⟨⟨l⟩⟩
theorem qrd (s:ByteArray) (k:ByteArray->Prop):fsP s k=k s:=by unfold fsP;rw [zg]
def fkP (x:IntKind) (k:IntKind->Prop):Prop:=IntKind.rec (motive:=fun _=>Prop) (k .i8) (k .i16) (k .i32) (k .i64) (k .u8) (k .u16) (k .u32) (k .u64) x
theorem qq9 (x:IntKind) (k:IntKind->Prop):fkP x k=k x:=by cases x <;> rfl
def fvP (x:Value) (k:Value->Prop):Prop:=match x with
 | .int kd n=>fkP kd fun kd=>fiP n fun n=>k (.int kd n)
 | .bool b=>fbP b fun b=>k (.bool b)
 | .string s=>fsP s fun s=>k (.string s)
 | x=>k x
theorem qka (x:Value) (k:Value->Prop):fvP x k=k x:=by cases x <;> simp only [fvP,qq9,qeZ,Za,qrd]
def faP : Nat -> AV -> (AV -> Prop) -> Prop
 | 0=>fun x k=>k x
 | d+1=>fun x k=>match x with
   | .v y=>fvP y fun y=>k (.v y)
   | .sl f n cs=>fbP f fun f=>fnP n fun n=>fmP (faP d) cs fun cs=>k (.sl f n cs)
   | .agg cs=>fmP (faP d) cs fun cs=>k (.agg cs)
   | .tup cs=>fmP (faP d) cs fun cs=>k (.tup cs)
   | .ptr cs o=>fnP o fun o=>fmP (faP d) cs fun cs=>k (.ptr cs o)
   | .ref i o=>fnP i fun i=>fnP o fun o=>k (.ref i o)
   | .ms i o n z=>fnP i fun i=>fnP o fun o=>fnP n fun n=>fnP z fun z=>k (.ms i o n z)
   | .mc i o n c z=>fnP i fun i=>fnP o fun o=>fnP n fun n=>fnP c fun c=>fnP z fun z=>k (.mc i o n c z)
   | .fn f us bs=>fmP (faP d) us fun us=>fmP (faP d) bs fun bs=>k (.fn f us bs)
   | .mp i=>fnP i fun i=>k (.mp i)
   | .yl i=>fnP i fun i=>k (.yl i)
   | .any=>k .any
theorem Qj : ∀ (d : Nat) (x : AV) (k : AV -> Prop),faP d x k = k x
 | 0,x,k=>rfl
 | d+1,x,k=>by cases x <;> simp only [faP,qka,Za,qo,Qb (Qj d)]
def foP (x:HObj) (k:HObj->Prop):Prop:=match x with
 | .cells cs=>fmP (faP 4) cs fun cs=>k (.cells cs)
 | .mp es c=>fmP (fun e k=>fnP e.2.1 fun b=>faP 4 e.2.2 fun x=>k (e.1,b,x)) es fun es=>fnP c fun c=>k (.mp es c)
 | .it m s l c=>fnP m fun m=>fnP s fun s=>fmP fnP l fun l=>fnP c fun c=>k (.it m s l c)
 | x=>k x
theorem qj9 (x:HObj) (k:HObj->Prop):foP x k=k x:=by
 cases x with
 | cells cs=>simp only [foP,Qb (Qj 4)]
 | mp es c=>simp only [foP];rw [Qb (fun a k=>by simp only [qo,Qj]),qo]
 | it m s l c=>simp only [foP,qo,Qb qo]
 | _=>rfl
def VN (fr:FrL) (t:Nat) (k:AV->Prop):Prop:=List.rec (motive:=fun _=>Prop) (k .any) (fun p _ ih=>Prod.rec (motive:=fun _=>Prop) (fun j x=>Bool.rec (motive:=fun _=>Prop) ih (k x) (Nat.beq j t)) p) fr
theorem zq : ∀ (fr : FrL) (t : Nat) (k : AV -> Prop),VN fr t k = k (get fr t)
 | [],t,k=>rfl
 | (j,x)::r,t,k=>by
   show Bool.rec (motive:=fun _=>Prop) (VN r t k) (k x) (Nat.beq j t)=_;rw [get,zq r t k];by_cases h:j=t
   . subst h;rw [if_pos rfl,Nat.beq_refl]
   have e:Nat.beq j t=false:=by
    cases e:Nat.beq j t with
    | false=>rfl
    | true=>exact absurd (Nat.eq_of_beq_eq_true e) h
   rw [if_neg h,e]
abbrev Op1:=FrL->(AV->Prop)->Prop
def oT (t:Nat):Op1:=fun fr k=>VN fr t k
def oK (x:AV):Op1:=fun _ k=>k x
def qt : Opd -> Op1
 | .t n=>oT n
 | .k x=>oK x
theorem qa (o:Opd) (fr:FrL) (k:AV->Prop):qt o fr k=k (evF (get fr) o):=by
 cases o with
 | t n=>exact zq fr n k
 | k x=>rfl
def QX : List Opd -> FrL -> (List AV -> Prop) -> Prop
 | [],_,k=>k []
 | o::os,fr,k=>qt o fr fun a=>QX os fr fun l=>k (a::l)
theorem zF : ∀ (os : List Opd) (fr : FrL) (k : List AV -> Prop),QX os fr k = k (os.map (evF (get fr)))
 | [],fr,k=>rfl
 | o::os,fr,k=>by rw [QX,qa,zF os];rfl
def YN {α:Type} (l:List α) (i:Nat) (k:α->Prop):Prop:=List.rec (motive:=fun _=>Nat->Prop) (fun _=>False) (fun a _ ih i=>Nat.rec (motive:=fun _=>Prop) (k a) (fun j _=>ih j) i) l i
theorem zr {α : Type} {k : α -> Prop} : ∀ {l : List α} {i : Nat},YN l i k -> ∃ a,l[i]? = some a /\ k a
 | [],i,h=>h.elim
 | a::l,0,h=>⟨a,rfl,h⟩
 | a::l,i+1,h=>by have h:YN l i k:=h;obtain ⟨b,h1,h2⟩:=zr h;exact ⟨b,by simpa using h1,h2⟩
def qpI {α:Type} (l:List α) (i:Nat) (x:α) (k:List α->Prop):Prop :=
 List.rec (motive:=fun _=>Nat->(List α->Prop)->Prop) (fun _ _=>False) (fun a t ih i k=>Nat.rec (motive:=fun _=>Prop) (k (x::t)) (fun j _=>ih j fun r=>k (a::r)) i) l i k
theorem qbH {α : Type} {x : α} : ∀ {l : List α} {i : Nat} {k : List α -> Prop},qpI l i x k -> i < l.length /\ k (l.set i x)
 | [],i,k,h=>h.elim
 | a::l,0,k,h=>⟨by simp,h⟩
 | a::l,i+1,k,h=>by have h:qpI l i x (fun r=>k (a::r)):=h;obtain ⟨h1,h2⟩:=qbH h;exact ⟨by simp;exact h1,h2⟩
def qhS {α:Type} (l:List α) (i:Nat) (k:List α->Prop):Prop:=Nat.rec (motive:=fun _=>List α->Prop) k (fun _ ih l=>List.rec (motive:=fun _=>Prop) False (fun _ t _=>ih t) l) i l
theorem WM {α : Type} {k : List α -> Prop} : ∀ {i : Nat} {l : List α},qhS l i k -> i <= l.length /\ k (l.drop i)
 | 0,l,h=>⟨Nat.zero_le _,h⟩
 | i+1,[],h=>h.elim
 | i+1,a::l,h=>by have h:qhS l i k:=h;obtain ⟨h1,h2⟩:=WM h;exact ⟨by simp;omega,h2⟩
def qok {α:Type} (l:List α) (n:Nat) (k:List α->Prop):Prop:=Nat.rec (motive:=fun _=>List α->(List α->Prop)->Prop) (fun _ k=>k []) (fun _ ih l k=>List.rec (motive:=fun _=>Prop) False (fun a t _=>ih t fun r=>k (a::r)) l) n l k
theorem qcx {α : Type} : ∀ {n : Nat} {l : List α} {k : List α -> Prop},qok l n k -> n <= l.length /\ k (l.take n)
 | 0,l,k,h=>⟨Nat.zero_le _,by rw [List.take_zero];exact h⟩
 | n+1,[],k,h=>h.elim
 | n+1,a::l,k,h=>by have h:qok l n (fun r=>k (a::r)):=h;obtain ⟨h1,h2⟩:=qcx h;exact ⟨by simp;omega,h2⟩
def VF (cs:List AV) (off m:Nat) (k:List AV->Prop):Prop:=qhS cs off fun t=>qok t m k
theorem ZS {cs:List AV} {off m:Nat} {k:List AV->Prop} (h:VF cs off m k):off+m<=cs.length/\k (qy cs off m):=by obtain ⟨h1,h2⟩:=WM h;obtain ⟨h3,h4⟩:=qcx h2;rw [List.length_drop] at h3;exact ⟨by omega,h4⟩
def Z4 (hp:List HObj) (o:HObj) (k:Nat->List HObj->Prop):Prop :=
 List.rec (motive:=fun _=>Nat->(Nat->List HObj->Prop)->Prop) (fun n k=>fnP n fun n=>k n [o]) (fun a _ ih n k=>ih (Nat.succ n) fun m t=>k m (a::t)) hp 0 k
theorem qcf {o : HObj} : ∀ {hp : List HObj} {n : Nat} {k : Nat -> List HObj -> Prop},
 List.rec (motive:=fun _=>Nat->(Nat->List HObj->Prop)->Prop) (fun n k=>fnP n fun n=>k n [o]) (fun a _ ih n k=>ih (Nat.succ n) fun m t=>k m (a::t)) hp n k->k (n+hp.length) (hp++[o])
 | [],n,k,h=>by have h:fnP n (fun n=>k n [o]):=h;rw [qo] at h;exact h
 | a::hp,n,k,h=>by have:=qcf (hp:=hp) (n:=Nat.succ n) (k:=fun m t=>k m (a::t)) h;rw [List.length_cons,show n+(hp.length+1)=Nat.succ n+hp.length by omega];exact this
theorem zj {hp:List HObj} {o:HObj} {k:Nat->List HObj->Prop} (h:Z4 hp o k):k hp.length (qc hp [(hp.length,o)]):=by
 have:=qcf h;rw [Nat.zero_add] at this;have e:qc hp [(hp.length,o)]=hp++[o]:=by show qn hp hp.length o=_;unfold qn;rw [if_neg (Nat.lt_irrefl _)]
 rw [e];exact this
def Jl (hp:List HObj) (id:Nat) (k:List AV->Prop):Prop:=YN hp id fun o=>match o with
 | .cells cs=>k cs
 | _=>False
theorem zp {hp:List HObj} {id:Nat} {k:List AV->Prop} (h:Jl hp id k):∃ cs,hpf hp id=some (.cells cs)/\k cs:=by
 obtain ⟨o,h1,h2⟩:=zr h;split at h2
 . exact ⟨_,h1,h2⟩
 exact h2.elim
def Q6 (hp:List HObj) (id:Nat) (o:HObj) (k:List HObj->Prop):Prop:=qpI hp id o k
theorem qB {hp:List HObj} {id:Nat} {o:HObj} {k:List HObj->Prop} (h:Q6 hp id o k):k (qc hp [(id,o)]):=by
 obtain ⟨h1,h2⟩:=qbH h;have e:qc hp [(id,o)]=hp.set id o:=by show qn hp id o=_;unfold qn;rw [if_pos h1]
 rw [e];exact h2
def qit (a:AV) (k:IntKind->Int->Prop):Prop:=match a with
 | .v (.int kd n)=>k kd n
 | _=>False
theorem Vi {a:AV} {k:IntKind->Int->Prop} (h:qit a k):∃ kd n,a = .v (.int kd n)/\k kd n:=by
 unfold qit at h;split at h
 . exact ⟨_,_,rfl,h⟩
 exact h.elim
def qne (a:AV) (k:Nat->Prop):Prop:=qit a fun _ z=>Int.rec (motive:=fun _=>Prop) k (fun _=>False) z
theorem qbr {a:AV} {k:Nat->Prop} (h:qne a k):∃ kd n,a = .v (.int kd ((n:Nat):Int))/\k n:=by
 obtain ⟨kd,z,rfl,h⟩:=Vi h;cases z with
 | ofNat n=>exact ⟨kd,n,rfl,h⟩
 | negSucc n=>exact h.elim
def kNo : IntKind -> Nat
 | .i8=>0
 | .i16=>1
 | .i32=>2
 | .i64=>3
 | .u8=>4
 | .u16=>5
 | .u32=>6
 | .u64=>7
theorem qfD {a b:IntKind} (h:kNo a=kNo b):a=b:=by cases a <;> cases b <;> first | rfl | cases h
def ksP (a b:IntKind) (k:Prop):Prop:=Bool.rec (motive:=fun _=>Prop) False k (Nat.beq (kNo a) (kNo b))
theorem qkj {a b:IntKind} {k:Prop} (h:ksP a b k):a=b/\k:=by
 unfold ksP at h;cases e:Nat.beq (kNo a) (kNo b) with
 | false=>rw [e] at h;exact h.elim
 | true=>rw [e] at h;exact ⟨qfD (Nat.eq_of_beq_eq_true e),h⟩
def qrz : IntKind -> Nat
 | .i8=>127
 | .i16=>32767
 | .i32=>2147483647
 | .i64=>9223372036854775807
 | .u8=>255
 | .u16=>65535
 | .u32=>4294967295
 | .u64=>18446744073709551615
def qry : IntKind -> Nat
 | .i8=>128
 | .i16=>32768
 | .i32=>2147483648
 | .i64=>9223372036854775808
 | _=>0
theorem qjG {k:IntKind} {n:Nat} (h:n<=qrz k):k.wrap (.ofNat n) = .ofNat n:=by have e:Int.ofNat n=(n:Int):=rfl;rw [e];cases k <;> simp only [qrz] at h <;> simp only [IntKind.wrap,IntKind.bits,IntKind.signed] <;> simp <;> omega
theorem qjF {k:IntKind} {n:Nat} (h:n<qry k):k.wrap (.negSucc n) = .negSucc n:=by
 have e:Int.negSucc n = -(n:Int) - 1:=by rw [Int.negSucc_eq];omega
 rw [e];cases k <;> simp only [qry] at h <;> first | (exact absurd h (Nat.not_lt_zero _)) | (simp only [IntKind.wrap,IntKind.bits,IntKind.signed];simp;omega)
def wrP (kd : IntKind) (z : Int) (k : Int -> Prop) : Prop := Int.rec (motive := fun _ => Prop)
 (fun n=>fnP n fun n=>Bool.rec (motive:=fun _=>Prop) (fiP (kd.wrap (.ofNat n)) k) (k (.ofNat n)) (Nat.ble n (qrz kd)))
 (fun n=>fnP n fun n=>Bool.rec (motive:=fun _=>Prop) (fiP (kd.wrap (.negSucc n)) k) (k (.negSucc n)) (Nat.blt n (qry kd))) z
theorem qay (kd:IntKind) (z:Int) (k:Int->Prop):wrP kd z k=k (kd.wrap z):=by
 cases z with
 | ofNat n =>
   have q:wrP kd (.ofNat n) k=fnP n (fun n=>Bool.rec (motive:=fun _=>Prop) (fiP (kd.wrap (.ofNat n)) k) (k (.ofNat n)) (Nat.ble n (qrz kd))):=rfl;rw [q,qo];cases e:Nat.ble n (qrz kd) with
   | false=>exact qeZ _ _
   | true=>show k (.ofNat n)=_;rw [qjG (Nat.le_of_ble_eq_true e)]
 | negSucc n =>
   have q:wrP kd (.negSucc n) k=fnP n (fun n=>Bool.rec (motive:=fun _=>Prop) (fiP (kd.wrap (.negSucc n)) k) (k (.negSucc n)) (Nat.blt n (qry kd))):=rfl;rw [q,qo];cases e:Nat.blt n (qry kd) with
   | false=>exact qeZ _ _
   | true=>show k (.negSucc n)=_;rw [qjF (Nat.lt_of_succ_le (Nat.le_of_ble_eq_true e))]
def ltZ (a b : Int) (k : Bool -> Prop) : Prop := Int.rec (motive := fun _ => Prop)
 (fun m=>Int.rec (motive:=fun _=>Prop) (fun n=>fbP (Nat.blt m n) k) (fun _=>k false) b)
 (fun m=>Int.rec (motive:=fun _=>Prop) (fun _=>k true) (fun n=>fbP (Nat.blt n m) k) b) a
theorem Wb (a b:Int) (k:Bool->Prop):ltZ a b k=k (decide (a<b)):=by
 cases a with
 | ofNat m =>
   cases b with
   | ofNat n =>show fbP (Nat.blt m n) k=_;rw [Za];congr 1;rw [Bool.eq_iff_iff,decide_eq_true_iff];show Nat.ble (m+1) n=true↔(m:Int)<n;rw [Nat.ble_eq];omega
   | negSucc n =>have e:decide (Int.ofNat m<Int.negSucc n)=false:=decide_eq_false (by have:=Int.negSucc_lt_zero n;show ¬ (m:Int)<_;omega);rw [e];rfl
 | negSucc m =>
   cases b with
   | ofNat n =>have e:decide (Int.negSucc m<Int.ofNat n)=true:=decide_eq_true (by have:=Int.negSucc_lt_zero m;show _<(n:Int);omega);rw [e];rfl
   | negSucc n =>show fbP (Nat.blt n m) k=_;rw [Za];congr 1;rw [Bool.eq_iff_iff,decide_eq_true_iff];show Nat.ble (n+1) m=true↔_;rw [Nat.ble_eq,Int.negSucc_eq,Int.negSucc_eq];omega
def eqZ (a b : Int) (k : Bool -> Prop) : Prop := Int.rec (motive := fun _ => Prop)
 (fun m=>Int.rec (motive:=fun _=>Prop) (fun n=>fbP (Nat.beq m n) k) (fun _=>k false) b)
 (fun m=>Int.rec (motive:=fun _=>Prop) (fun _=>k false) (fun n=>fbP (Nat.beq m n) k) b) a
theorem qeV (a b:Int) (k:Bool->Prop):eqZ a b k=k (a==b):=by
 have nb:∀ m n:Nat,Nat.beq m n=decide (m=n):=fun m n=>by rw [Bool.eq_iff_iff,decide_eq_true_iff,Nat.beq_eq]
 have e:(a==b)=decide (a=b):=rfl;rw [e];cases a with
 | ofNat m =>
   cases b with
   | ofNat n =>show fbP (Nat.beq m n) k=_;rw [Za,nb];congr 1;rw [Bool.eq_iff_iff,decide_eq_true_iff,decide_eq_true_iff];exact ⟨fun h=>by rw [h],fun h=>Int.ofNat.inj h⟩
   | negSucc n=>show k false=_;congr 1
 | negSucc m =>
   cases b with
   | ofNat n=>show k false=_;congr 1
   | negSucc n =>show fbP (Nat.beq m n) k=_;rw [Za,nb];congr 1;rw [Bool.eq_iff_iff,decide_eq_true_iff,decide_eq_true_iff];exact ⟨fun h=>by rw [h],fun h=>Int.negSucc.inj h⟩
def qbm (op:BinOp) (a b:AV) (k:AV->Prop):Prop:=match a,b with
 | .v u,.v w=>match Zo op u w with
   | some z=>fvP z fun z=>k (.v z)
   | none=>False
 | _,_=>False
def qyx (op:BinOp) (f:AV->AV->(AV->Prop)->Prop):Prop:=∀ a b k,f a b k->∃ u w z,a = .v u/\b = .v w/\Zo op u w=some z/\k (.v z)
theorem qfk (op:BinOp):qyx op (qbm op):=fun a b k h=>by
 unfold qbm at h;split at h
 . split at h
   . rename_i z hz;rw [qka] at h;exact ⟨_,_,z,rfl,rfl,hz,h⟩
   exact h.elim
 exact h.elim
def qgQ (op:BinOp) (f:IntKind->Int->Int->(AV->Prop)->Prop) (a b:AV) (k:AV->Prop):Prop:=match a with
 | .v (.int ka x) => (match b with
   | .v (.int kb y)=>ksP ka kb (f ka x y k)
   | _=>False)
 | a=>qbm op a b k
theorem ZR {op:BinOp} {f:IntKind->Int->Int->(AV->Prop)->Prop} (hf:∀ kd x y k,f kd x y k->∃ z,Zo op (.int kd x) (.int kd y)=some z/\k (.v z)):qyx op (qgQ op f):=fun a b k h=>by
 unfold qgQ at h;split at h
 . split at h
   . obtain ⟨rfl,h'⟩:=qkj h;obtain ⟨z,h1,h2⟩:=hf _ _ _ _ h';exact ⟨_,_,z,rfl,rfl,h1,h2⟩
   exact h.elim
 exact qfk op _ _ _ h
def JK : BinOp -> AV -> AV -> (AV -> Prop) -> Prop
 | .add=>qgQ .add fun kd x y k=>wrP kd (Int.add x y) fun z=>k (.v (.int kd z))
 | .sub=>qgQ .sub fun kd x y k=>wrP kd (Int.sub x y) fun z=>k (.v (.int kd z))
 | .mul=>qgQ .mul fun kd x y k=>wrP kd (Int.mul x y) fun z=>k (.v (.int kd z))
 | .lss=>qgQ .lss fun kd x y k=>ltZ x y fun z=>k (.v (.bool z))
 | .gtr=>qgQ .gtr fun kd x y k=>ltZ y x fun z=>k (.v (.bool z))
 | .leq=>qgQ .leq fun kd x y k=>ltZ y x fun z=>fbP (!z) fun z=>k (.v (.bool z))
 | .geq=>qgQ .geq fun kd x y k=>ltZ x y fun z=>fbP (!z) fun z=>k (.v (.bool z))
 | .eql=>qgQ .eql fun kd x y k=>eqZ x y fun z=>k (.v (.bool z))
 | .neq=>qgQ .neq fun kd x y k=>eqZ x y fun z=>fbP (!z) fun z=>k (.v (.bool z))
 | op=>qbm op
theorem qhx (op:BinOp):qyx op (JK op):=by
 cases op with
 | add=>exact ZR fun kd x y k h=>by rw [qay] at h;exact ⟨.int kd (kd.wrap (x+y)),by simp only [Zo,if_true],h⟩
 | sub=>exact ZR fun kd x y k h=>by rw [qay] at h;exact ⟨.int kd (kd.wrap (x - y)),by simp only [Zo,if_true],h⟩
 | mul=>exact ZR fun kd x y k h=>by rw [qay] at h;exact ⟨.int kd (kd.wrap (x*y)),by simp only [Zo,if_true],h⟩
 | lss=>exact ZR fun kd x y k h=>by rw [Wb] at h;exact ⟨_,by simp only [Zo,if_true],h⟩
 | gtr=>exact ZR fun kd x y k h=>by rw [Wb] at h;exact ⟨_,by simp only [Zo,if_true],h⟩
 | leq =>
   exact ZR fun kd x y k h => by
    rw [Wb,Za] at h;refine ⟨.bool (decide (x<=y)),by simp only [Zo,if_true],?_⟩;have e:decide (x<=y) = !decide (y<x):=by rw [Bool.eq_iff_iff];simp
    rw [e];exact h
 | geq =>
   exact ZR fun kd x y k h => by
    rw [Wb,Za] at h;refine ⟨.bool (decide (x≥y)),by simp only [Zo,if_true],?_⟩;have e:decide (x≥y) = !decide (x<y):=by rw [Bool.eq_iff_iff];simp
    rw [e];exact h
 | eql=>exact ZR fun kd x y k h=>by rw [qeV] at h;exact ⟨_,by simp only [Zo,if_true],h⟩
 | neq=>exact ZR fun kd x y k h=>by rw [qeV,Za] at h;exact ⟨.bool (x != y),by simp only [Zo,if_true],h⟩
 | _=>exact qfk _
def Sx (P:Program) (o:AOp) (X:K1->K1):Prop:=∀ (c:K1) (fr:FrL) (hp:List HObj),X c fr hp->∃ r ws,o.sem P (evF (get fr)) (hpf hp) hp.length r ws/\c (qH fr o.dst r) (qc hp ws)
section
variable {P:Program}
def wsP (ws:List (Nat × HObj)) (hp:List HObj) (k:List HObj->Prop):Prop:=fmP (fun p k=>fnP p.1 fun i=>foP p.2 fun o=>k (i,o)) ws fun ws=>flP (qc hp ws) k
theorem jl (ws:List (Nat × HObj)) (hp:List HObj) (k:List HObj->Prop):wsP ws hp k=k (qc hp ws):=by unfold wsP;rw [Qb (fun a k=>by simp only [qo,qj9]),zg]
def qri (f:(Opd->AV)->List HObj->Option (AV × List (Nat × HObj))) (d:Option Nat):K1->K1:=fun c fr hp=>match f (evF (get fr)) hp with
 | some (r,ws)=>faP 6 r fun r=>wsP ws hp fun hp=>c (qH fr d r) hp
 | none=>False
theorem qfl (o:AOp):Sx P o (qri (QJ o) o.dst):=fun c fr hp h=>by
 unfold qri at h;split at h
 . rename_i r ws hs;rw [Qj,jl] at h;exact ⟨r,ws,Xv hs,h⟩
 exact h.elim
def cMv (d:Nat) (x:Op1):K1->K1:=fun c fr hp=>x fr fun a=>c ((d,a)::fr) hp
theorem qp3 {d:Nat} {x:Opd}:Sx P (.mv d x) (cMv d (qt x)):=fun c fr hp h=>by unfold cMv at h;rw [qa] at h;exact ⟨_,[],⟨rfl,rfl⟩,h⟩
def qer (d:Nat) (b x y:Op1):K1->K1:=fun c fr hp=>b fr fun v=>match v with
 | .v (.bool t)=>Bool.rec (motive:=fun _=>Prop) (y fr fun a=>c ((d,a)::fr) hp) (x fr fun a=>c ((d,a)::fr) hp) t
 | _=>False
theorem qhB {d:Nat} {b x y:Opd}:Sx P (.pick d b x y) (qer d (qt b) (qt x) (qt y)):=fun c fr hp h=>by
 unfold qer at h;rw [qa] at h;simp only [AOp.sem];generalize evF (get fr) b=u at h ⊢;split at h
 . rename_i t;cases t with
   | false =>have h:qt y fr (fun a=>c ((d,a)::fr) hp):=h;rw [qa] at h;exact ⟨_,[],⟨rfl,rfl⟩,h⟩
   | true =>have h:qt x fr (fun a=>c ((d,a)::fr) hp):=h;rw [qa] at h;exact ⟨_,[],⟨rfl,rfl⟩,h⟩
 exact h.elim
def qy4 (d:Nat) (f:AV->AV->(AV->Prop)->Prop) (x y:Op1):K1->K1:=fun c fr hp=>x fr fun a=>y fr fun b=>f a b fun r=>c ((d,r)::fr) hp
theorem qlL {d:Nat} {op:BinOp} {x y:Opd}:Sx P (.bin d op x y) (qy4 d (JK op) (qt x) (qt y)):=fun c fr hp h=>by unfold qy4 at h;rw [qa,qa] at h;obtain ⟨u,w,z,h1,h2,h3,h4⟩:=qhx op _ _ _ h;refine ⟨.v z,[],?_,h4⟩;simp only [AOp.sem,h1,h2];exact ⟨z,h3,rfl,trivial⟩
def qzq (d:Nat) (x:Op1):K1->K1:=fun c fr hp=>x fr fun v=>match v with
 | .v (.bool t)=>fbP (!t) fun t=>c ((d,.v (.bool t))::fr) hp
 | _=>False
theorem ql6 {d:Nat} {x:Opd}:Sx P (.un d .not x) (qzq d (qt x)):=fun c fr hp h=>by
 unfold qzq at h;rw [qa] at h;simp only [AOp.sem];generalize evF (get fr) x=u at h ⊢;split at h
 . rw [Za] at h;exact ⟨_,[],⟨_,rfl,rfl,rfl⟩,h⟩
 exact h.elim
def qze (d:Nat) (x:Op1) (i:Nat):K1->K1:=fun c fr hp=>x fr fun v=>match v with
 | .tup vs=>YN vs i fun y=>c ((d,y)::fr) hp
 | _=>False
theorem qlV {d i:Nat} {x:Opd}:Sx P (.ext d x i) (qze d (qt x) i):=fun c fr hp h=>by
 unfold qze at h;rw [qa] at h;simp only [AOp.sem];generalize evF (get fr) x=u at h ⊢;split at h
 . obtain ⟨y,h1,h2⟩:=zr h;exact ⟨_,[],⟨y,h1,rfl,rfl⟩,h2⟩
 exact h.elim
noncomputable def qhR {α:Type} (n:Nat):List α->List α:=Nat.rec (motive:=fun _=>List α->List α) (fun l=>l) (fun _ ih l=>List.rec (motive:=fun _=>List α) [] (fun _ t _=>ih t) l) n
theorem qb0 {α : Type} : ∀ (n : Nat) (l : List α),qhR n l = l.drop n
 | 0,l=>rfl
 | n+1,[]=>rfl
 | n+1,a::l=>by show qhR n l=_;rw [qb0 n l];rfl
def qyh {α:Type} (l:List α) (i:Nat) (k:α->Prop):Prop:=Bool.rec (motive:=fun _=>Prop) (YN l i k) (YN (qhR (i - i % 512) l) (i % 512) k) (Nat.ble 512 i)
theorem qnl {α:Type} {k:α->Prop} {l:List α} {i:Nat} (h:qyh l i k):∃ a,l[i]?=some a/\k a:=by
 unfold qyh at h;cases e:Nat.ble 512 i with
 | false=>rw [e] at h;exact zr h
 | true =>rw [e] at h;obtain ⟨a,h1,h2⟩:=zr (show YN (qhR (i - i % 512) l) (i % 512) k from h);rw [qb0,List.getElem?_drop,Nat.sub_add_cancel (Nat.mod_le _ _)] at h1;exact ⟨a,h1,h2⟩
def ldP (agg:Bool) (sz off:Nat) (cs:List AV) (k:AV->Prop):Prop:=Bool.rec (motive:=fun _=>Prop) (qyh cs off k) (VF cs off sz fun l=>k (.agg l)) agg
theorem Jt {agg:Bool} {sz off:Nat} {cs:List AV} {k:AV->Prop} (h:ldP agg sz off cs k):∃ r,(match agg with | true=>off+sz<=cs.length/\r = .agg (qy cs off sz) | false=>∃ y,cs[off]?=some y/\r=y)/\k r:=by
 cases agg with
 | true =>obtain ⟨h1,h2⟩:=ZS (show VF cs off sz _ from h);exact ⟨_,⟨h1,rfl⟩,h2⟩
 | false =>obtain ⟨y,h1,h2⟩:=qnl (show qyh cs off k from h);exact ⟨y,⟨y,h1,rfl⟩,h2⟩
def cLd (d:Nat) (agg:Bool) (sz:Nat) (x:Op1):K1->K1:=fun c fr hp=>x fr fun v=>match v with
 | .ptr cs off=>ldP agg sz off cs fun r=>c ((d,r)::fr) hp
 | .ref id off=>Jl hp id fun cs=>ldP agg sz off cs fun r=>c ((d,r)::fr) hp
 | _=>False
theorem qpY {d sz:Nat} {agg:Bool} {x:Opd}:Sx P (.ld d agg sz x) (cLd d agg sz (qt x)):=fun c fr hp h=>by
 unfold cLd at h;rw [qa] at h;simp only [AOp.sem,Q0];generalize evF (get fr) x=u at h ⊢;split at h
 . obtain ⟨r,h1,h2⟩:=Jt h;exact ⟨r,[],⟨rfl,h1⟩,h2⟩
 . obtain ⟨cs,h1,h2⟩:=zp h;obtain ⟨r,h3,h4⟩:=Jt h2;refine ⟨r,[],?_,h4⟩;simp only [h1];exact ⟨trivial,h3⟩
 exact h.elim
theorem qdG {cs:List AV} {off:Nat} {v:AV} (h:off<cs.length):splice cs off [v]=cs.set off v:=by rw [List.set_eq_take_append_cons_drop,if_pos h];unfold splice;simp
def cSt (sz:Nat) (a x:Op1):K1->K1:=fun c fr hp=>a fr fun p=>match p with
 | .ref id off=>x fr fun v=>Jl hp id fun cs=>match v with
   | .agg l=>Bool.rec (motive:=fun _=>Prop) False (flP (splice cs off l) fun cs'=>Q6 hp id (.cells cs') fun hp=>c fr hp) (Nat.beq l.length sz&&l.all AV.isCell&&Nat.ble (off+sz) cs.length)
   | v=>Bool.rec (motive:=fun _=>Prop) False (qpI cs off v fun cs'=>Q6 hp id (.cells cs') fun hp=>c fr hp) (Nat.beq sz 1&&AV.isCell v)
 | _=>False
theorem qp7 {sz:Nat} {a x:Opd}:Sx P (.st sz a x) (cSt sz (qt a) (qt x)):=fun c fr hp h=>by
 unfold cSt at h;rw [qa] at h;simp only [AOp.sem,qaq];generalize evF (get fr) a=u at h ⊢;split at h
 . rename_i id off;rw [qa] at h;generalize evF (get fr) x=v at h ⊢;obtain ⟨cs,h1,h2⟩:=zp h;simp only [h1];split at h2
   . rename_i l;cases e:(Nat.beq l.length sz&&l.all AV.isCell&&Nat.ble (off+sz) cs.length) with
     | false=>rw [e] at h2;exact h2.elim
     | true =>rw [e] at h2;have h2:flP (splice cs off l) fun cs'=>Q6 hp id (.cells cs') fun hp=>c fr hp:=h2;rw [zg] at h2;simp only [Bool.and_eq_true] at e;exact ⟨_,_,⟨Nat.eq_of_beq_eq_true e.1.1,e.1.2,Nat.le_of_ble_eq_true e.2,rfl,rfl⟩,qB h2⟩
   rename_i hv
   have hc:v.cells=[v]:=by
    cases v with
    | agg l=>exact absurd rfl (hv l)
    | _=>rfl
   cases e:(Nat.beq sz 1&&AV.isCell v) with
   | false=>rw [e] at h2;exact h2.elim
   | true =>rw [e] at h2;have h2:qpI cs off v fun cs'=>Q6 hp id (.cells cs') fun hp=>c fr hp:=h2;obtain ⟨h3,h4⟩:=qbH h2;simp only [Bool.and_eq_true] at e;have e1:=Nat.eq_of_beq_eq_true e.1;subst e1;rw [hc];refine ⟨_,_,⟨rfl,by rw [List.all_cons,e.2];rfl,h3,rfl,rfl⟩,?_⟩;rw [qdG h3];exact qB h4
 exact h.elim
def cFa (d:Nat) (x:Op1) (off:Nat):K1->K1:=fun c fr hp=>x fr fun v=>match v with
 | .ptr cs o=>fnP (Nat.add o off) fun o=>c ((d,.ptr cs o)::fr) hp
 | .ref id o=>fnP (Nat.add o off) fun o=>c ((d,.ref id o)::fr) hp
 | _=>False
theorem qpW {d off:Nat} {x:Opd}:Sx P (.fa d x off) (cFa d (qt x) off):=fun c fr hp h=>by
 unfold cFa at h;rw [qa] at h;simp only [AOp.sem];generalize evF (get fr) x=u at h ⊢;split at h
 . rw [qo] at h;exact ⟨_,[],⟨rfl,rfl⟩,h⟩
 . rw [qo] at h;exact ⟨_,[],⟨rfl,rfl⟩,h⟩
 exact h.elim
def okP (b:Bool) (k:Prop):Prop:=Bool.rec (motive:=fun _=>Prop) False k b
theorem qj {b:Bool} {k:Prop} (h:okP b k):b=true/\k:=by
 cases b with
 | false=>exact h.elim
 | true=>exact ⟨rfl,h⟩
theorem zd {a b:Nat} (h:Nat.blt a b=true):a<b:=Nat.lt_of_succ_le (Nat.le_of_ble_eq_true h)
def cIa (d sz:Nat) (x i:Op1):K1->K1:=fun c fr hp=>x fr fun v=>i fr fun j=>qne j fun j=>match v with
 | .sl _ n cs=>okP (Nat.blt j n&&Nat.beq cs.length (n*sz)) (fnP (Nat.mul j sz) fun o=>c ((d,.ptr cs o)::fr) hp)
 | .ms id off n sz'=>okP (Nat.blt j n&&Nat.beq sz' sz) (fnP (Nat.add off (Nat.mul j sz)) fun o=>c ((d,.ref id o)::fr) hp)
 | .mc id off n _ sz'=>okP (Nat.blt j n&&Nat.beq sz' sz) (fnP (Nat.add off (Nat.mul j sz)) fun o=>c ((d,.ref id o)::fr) hp)
 | _=>False
theorem qpX {d sz:Nat} {x i:Opd}:Sx P (.ia d sz x i) (cIa d sz (qt x) (qt i)):=fun c fr hp h=>by
 unfold cIa at h;rw [qa,qa] at h;obtain ⟨kd,j,hj,h⟩:=qbr h;simp only [AOp.sem];rw [hj];generalize evF (get fr) x=u at h ⊢;split at h
 . obtain ⟨h1,h2⟩:=qj h;simp only [Bool.and_eq_true] at h1;rw [qo] at h2;have:=zd h1.1;exact ⟨_,[],⟨by omega,by simp,rfl,Nat.eq_of_beq_eq_true h1.2⟩,h2⟩
 . obtain ⟨h1,h2⟩:=qj h;simp only [Bool.and_eq_true] at h1;rw [qo] at h2;have:=zd h1.1;exact ⟨_,[],⟨by omega,Nat.eq_of_beq_eq_true h1.2,by simp,rfl⟩,h2⟩
 . obtain ⟨h1,h2⟩:=qj h;simp only [Bool.and_eq_true] at h1;rw [qo] at h2;have:=zd h1.1;exact ⟨_,[],⟨by omega,Nat.eq_of_beq_eq_true h1.2,by simp,rfl⟩,h2⟩
 exact h.elim
def qzi (d ln sz : Nat) (x i : Op1) : K1 -> K1 := fun c fr hp => x fr fun v => i fr fun j => qne j fun j => okP (Nat.blt j ln) (match v with
 | .ptr cs o=>fnP (Nat.add o (Nat.mul j sz)) fun o=>c ((d,.ptr cs o)::fr) hp
 | .ref id o=>fnP (Nat.add o (Nat.mul j sz)) fun o=>c ((d,.ref id o)::fr) hp
 | _=>False)
theorem qlX {d ln sz:Nat} {x i:Opd}:Sx P (.iaa d ln sz x i) (qzi d ln sz (qt x) (qt i)):=fun c fr hp h=>by
 unfold qzi at h;rw [qa,qa] at h;obtain ⟨kd,j,hj,h⟩:=qbr h;obtain ⟨h0,h⟩:=qj h;have:=zd h0;simp only [AOp.sem];rw [hj];generalize evF (get fr) x=u at h ⊢;split at h
 . rw [qo] at h;exact ⟨_,[],⟨by omega,by simp,rfl⟩,h⟩
 . rw [qo] at h;exact ⟨_,[],⟨by omega,by simp,rfl⟩,h⟩
 exact h.elim
def qzl (d:Nat) (x:Op1):K1->K1:=fun c fr hp=>x fr fun v=>match v with
 | .sl _ n _=>c ((d,.v (.int .i64 (.ofNat n)))::fr) hp
 | .ms _ _ n _=>c ((d,.v (.int .i64 (.ofNat n)))::fr) hp
 | .mc _ _ n _ _=>c ((d,.v (.int .i64 (.ofNat n)))::fr) hp
 | _=>False
theorem ql0 {d:Nat} {x:Opd}:Sx P (.len d x) (qzl d (qt x)):=fun c fr hp h=>by unfold qzl at h;rw [qa] at h;simp only [AOp.sem];generalize evF (get fr) x=u at h ⊢;split at h <;> first | exact ⟨_,[],⟨rfl,rfl⟩,h⟩ | exact h.elim
def qy9 (d:Nat) (k:IntKind) (x:Op1):K1->K1:=fun c fr hp=>x fr fun v=>qit v fun _ n=>wrP k n fun z=>c ((d,.v (.int k z))::fr) hp
theorem qlR {d:Nat} {k:IntKind} {x:Opd}:Sx P (.cnv d k x) (qy9 d k (qt x)):=fun c fr hp h=>by unfold qy9 at h;rw [qa] at h;obtain ⟨kd,n,h1,h2⟩:=Vi h;rw [qay] at h2;refine ⟨_,[],?_,h2⟩;simp only [AOp.sem,h1];exact ⟨trivial,trivial⟩
def cAl (d:Nat) (zero:List AV):K1->K1:=fun c fr hp=>Z4 hp (.cells zero) fun n hp=>c ((d,.ref n 0)::fr) hp
theorem qpV {d:Nat} {zero:List AV}:Sx P (.al d zero) (cAl d zero):=fun c fr hp h=>⟨_,_,⟨rfl,rfl⟩,zj h⟩
def cOp : AOp -> K1 -> K1
 | .mv d x=>cMv d (qt x)
 | .pick d b x y=>qer d (qt b) (qt x) (qt y)
 | .bin d op x y=>qy4 d (JK op) (qt x) (qt y)
 | .un d .not x=>qzq d (qt x)
 | .ext d x i=>qze d (qt x) i
 | .ld d agg sz x=>cLd d agg sz (qt x)
 | .st sz a x=>cSt sz (qt a) (qt x)
 | .fa d x off=>cFa d (qt x) off
 | .ia d sz x i=>cIa d sz (qt x) (qt i)
 | .iaa d ln sz x i=>qzi d ln sz (qt x) (qt i)
 | .len d x=>qzl d (qt x)
 | .cnv d k x=>qy9 d k (qt x)
 | .al d zero=>cAl d zero
 | o=>qri (QJ o) o.dst
theorem qeq (o:AOp):Sx P o (cOp o):=by
 cases o with
 | mv d x=>exact qp3
 | pick d b x y=>exact qhB
 | bin d op x y=>exact qlL
 | un d op x=>cases op <;> first | exact ql6 | exact qfl _
 | ext d x i=>exact qlV
 | ld d agg sz x=>exact qpY
 | st sz a x=>exact qp7
 | fa d x off=>exact qpW
 | ia d sz x i=>exact qpX
 | iaa d ln sz x i=>exact qlX
 | len d x=>exact ql0
 | cnv d k x=>exact qlR
 | al d zero=>exact qpV
 | _=>exact qfl _
end
end Go.AM

namespace Go.AM
def cvP (nx:Nat->List Nat) (n:Nat):List Nat->Nat->List Nat->(List Nat->Prop)->Prop :=
 Nat.rec (motive := fun _ => List Nat -> Nat -> List Nat -> (List Nat -> Prop) -> Prop) (fun _ _ acc k => k acc)
  (fun _ ih todo m acc k=>List.rec (motive:=fun _=>Prop) (k acc) (fun f t _=>Bool.rec (motive:=fun _=>Prop) (fnP (m ||| (1 <<< f)) fun m=>flP (nx f++t) fun td=>ih td m (f::acc) k) (ih t m acc k) (m.testBit f)) todo) n
theorem qeI {P : Program} {nx : Nat -> List Nat} (hN : ∀ f, (P.funcs[f]?).elim [] P.leadsTo = nx f) : ∀ (n : Nat) (todo : List Nat) (m : Nat) (acc : List Nat) (k : List Nat -> Prop), (∀ f, m.testBit f = acc.contains f) -> cvP nx n todo m acc k = k (P.closureVia n todo acc).reverse
 | 0,todo,m,acc,k,h=>by
   have e:P.closureVia 0 todo acc=acc.reverse:=by cases todo <;> rfl
   rw [e,List.reverse_reverse];rfl
 | n+1,[],m,acc,k,h=>by have e:P.closureVia (n+1) [] acc=acc.reverse:=rfl;rw [e,List.reverse_reverse];rfl
 | n+1, f::t, m, acc, k, h=>by
   show Bool.rec (motive:=fun _=>Prop) (fnP (m ||| (1 <<< f)) fun m=>flP (nx f++t) fun td=>cvP nx n td m (f::acc) k) (cvP nx n t m acc k) (m.testBit f)=_;have e:P.closureVia (n+1) (f::t) acc=if acc.contains f then P.closureVia n t acc else P.closureVia n ((P.funcs[f]?).elim [] P.leadsTo++t) (f::acc):=rfl
   rw [e,<-h f];cases hb:m.testBit f with
   | true=>exact qeI hN n t m acc k h
   | false =>
     show fnP (m ||| (1 <<< f)) (fun m=>flP (nx f++t) fun td=>cvP nx n td m (f::acc) k)=k (P.closureVia n ((P.funcs[f]?).elim [] P.leadsTo++t) (f::acc)).reverse;rw [qo,zg,hN f];refine qeI hN n (nx f++t) _ (f::acc) k fun g=>?_;rw [Nat.testBit_or,h g,List.contains_cons,Nat.testBit_shiftLeft];by_cases hg:g=f
     . subst hg;simp
     have h2:(decide (f<=g)&&Nat.testBit 1 (g - f))=false:=by
      rcases Nat.lt_or_ge g f with h1 | h1
      . simp;omega
      have:g - f≠0:=by omega
      obtain ⟨j,hj⟩:=Nat.exists_eq_succ_of_ne_zero this;rw [hj,Nat.testBit_succ];simp
     simp [h2,hg]
end Go.AM

namespace Go.AM
open Go.RowKit
abbrev Ent:=Value × Nat × AV
def kvE (e:Ent):Value × AV:=(e.1,e.2.2)
theorem qel {a b:ByteArray}:(a==b)=true↔a=b:=by
 constructor
 . intro h;have h1:(a.data==b.data)=true:=h;have h2:a.data=b.data:=eq_of_beq h1;cases a;cases b;simp only at h2;rw [h2]
 intro h;subst h;show (a.data==a.data)=true;simp
theorem JT {l:Leaf} {a b:Value} {t:Bool} (h:zG l a b=some t):t=true↔a=b:=by
 unfold zG at h;split at h
 . split at h
   . rename_i hk;cases h;subst hk;simp
   cases h
 . cases h;simp
 . cases h;rw [qel];simp
 cases h
theorem Yp : ∀ {ls : List Leaf} {as bs : List Value} {t : Bool},qg ls as bs = some t -> (t = true ↔ as = bs)
 | [],[],[],t,h=>by cases h;simp
 | l::ls, a::as, b::bs, t, h=>by
   simp only [qg] at h;split at h
   . rename_i h1;have e1:=(JT h1).1 rfl;rw [Yp h];simp [e1]
   . rename_i h1;cases h;have e1:¬ a=b:=fun e=>by have:=(JT h1).2 e;cases this
     simp [e1]
   cases h
 | [],[],_::_,t,h=>by simp [qg] at h
 | [],_::_,_,t,h=>by simp [qg] at h
 | _::_,[],_,t,h=>by simp [qg] at h
 | _::_,_::_,[],t,h=>by simp [qg] at h
theorem ZF {ks:KS} {a b:Value} {t:Bool} (h:eqK ks a b=some t):t=true↔a=b:=by
 unfold eqK at h;split at h
 . rename_i ls as bs;rw [Yp h];constructor
   . intro e; have : as = bs := by cases as; cases bs; simpa using e
     rw [this]
   intro e;cases e;rfl
 . exact JT h
 cases h
theorem Vm {ks : KS} {kv : Value} : ∀ {es : List Ent} {n : Nat},(∀ e ∈ es,∃ t,eqK ks kv e.1 = some t) -> (∀ e ∈ es,e.1 ≠ kv) -> zi ks kv es n = some none
 | [],n,_,_=>rfl
 | e::es,n,hd,hn=>by
   obtain ⟨t,ht⟩:=hd e (by simp)
   have:t=false:=by
    cases t with
    | false=>rfl
    | true=>exact absurd ((ZF ht).1 rfl).symm (hn e (by simp))
   subst this;simp only [zi,ht];exact Vm (fun e he=>hd e (by simp [he])) (fun e he=>hn e (by simp [he]))
theorem Xc {ks : KS} {kv : Value} {e0 : Ent} : ∀ {es : List Ent} {n : Nat}, (∀ e ∈ es, ∃ t, eqK ks kv e.1 = some t) -> (es.map (·.1)).Nodup -> e0 ∈ es -> e0.1 = kv -> ∃ i, es[i]? = some e0 /\ zi ks kv es n = some (some (n + i))
 | [],n,_,_,h,_=>by cases h
 | e::es, n, hd, hn, h, hk=>by
   obtain ⟨t,ht⟩:=hd e (by simp);rw [List.map_cons,List.nodup_cons] at hn;rcases List.mem_cons.1 h with h1 | h1
   . subst h1;have:t=true:=(ZF ht).2 hk.symm;subst this;exact ⟨0,rfl,by simp only [zi,ht];rfl⟩
   have:t=false:=by
    cases t with
    | false=>rfl
    | true =>have e1:=(ZF ht).1 rfl;exact absurd (List.mem_map.2 ⟨e0,h1,by rw [hk,e1]⟩) hn.1
   subst this;obtain ⟨i,h2,h3⟩:=Xc (n:=n+1) (fun e he=>hd e (by simp [he])) hn.2 h1 hk;exact ⟨i+1,by simpa using h2,by simp only [zi,ht];rw [h3];congr 2;omega⟩
structure Sh (es es':List Ent) (c:Nat):Prop where
 perm:(es.map kvE).Perm (es'.map kvE)
 keys:(es'.map (·.1)).Nodup
 born:(es'.map (·.2.1)).Nodup
 clk:∀ e∈es',e.2.1<c
theorem qfG (es:List Ent):(es.map kvE).map (·.1)=es.map (·.1):=by rw [List.map_map];rfl
theorem Sh.keysE {es es' c} (h:Sh es es' c):(es.map (·.1)).Perm (es'.map (·.1)):=by have:=h.perm.map (·.1);rwa [qfG,qfG] at this
theorem Sh.len {es es' c} (h:Sh es es' c):es'.length=es.length:=by have:=h.perm.length_eq;simpa using this.symm
theorem Sh.nil:Sh [] [] 0:=⟨.nil,by simp,by simp,by simp⟩
theorem Sh.to {es es' c} (h:Sh es es' c) {e:Ent} (he:e∈es):∃ e'∈es',e'.1=e.1/\e'.2.2=e.2.2:=by have:=h.perm.mem_iff.1 (List.mem_map.2 ⟨e,he,rfl⟩);obtain ⟨e',h1,h2⟩:=List.mem_map.1 this;simp only [kvE,Prod.mk.injEq] at h2;exact ⟨e',h1,h2⟩
theorem Sh.back {es es' c} (h:Sh es es' c) {e:Ent} (he:e∈es'):∃ e'∈es,e'.1=e.1/\e'.2.2=e.2.2:=by have:=h.perm.mem_iff.2 (List.mem_map.2 ⟨e,he,rfl⟩);obtain ⟨e',h1,h2⟩:=List.mem_map.1 this;simp only [kvE,Prod.mk.injEq] at h2;exact ⟨e',h1,h2⟩
theorem qrB {es:List Ent} (h:(es.map (·.1)).Nodup) {a b:Ent} (ha:a∈es) (hb:b∈es) (e:a.1=b.1):a=b:=by
 induction es with
 | nil=>cases ha
 | cons x es ih =>
   rw [List.map_cons,List.nodup_cons] at h;rcases List.mem_cons.1 ha with h1 | h1
   . rcases List.mem_cons.1 hb with h2 | h2
     . rw [h1,h2]
     exact absurd (List.mem_map.2 ⟨b,h2,by rw [<-e,h1]⟩) h.1
   rcases List.mem_cons.1 hb with h2 | h2
   . exact absurd (List.mem_map.2 ⟨a,h1,by rw [e,h2]⟩) h.1
   exact ih h.2 h1 h2
theorem qaR {es:List Ent} (h:(es.map (·.2.1)).Nodup) {a b:Ent} (ha:a∈es) (hb:b∈es) (e:a.2.1=b.2.1):a=b:=by
 induction es with
 | nil=>cases ha
 | cons x es ih =>
   rw [List.map_cons,List.nodup_cons] at h;rcases List.mem_cons.1 ha with h1 | h1
   . rcases List.mem_cons.1 hb with h2 | h2
     . rw [h1,h2]
     exact absurd (List.mem_map.2 ⟨b,h2,by rw [<-e,h1]⟩) h.1
   rcases List.mem_cons.1 hb with h2 | h2
   . exact absurd (List.mem_map.2 ⟨a,h1,by rw [e,h2]⟩) h.1
   exact ih h.2 h1 h2
def qaE (n:Nat):Value := .int .i64 (n:Int)
def jt (l:List Nat):Value := .agg (l.map qaE).toArray
theorem qis {a b:Nat} (h:qaE a=qaE b):a=b:=by unfold qaE at h;injection h with _ e;exact Int.ofNat.inj e
theorem YL {a b:List Nat} (h:jt a=jt b):a=b:=by
 unfold jt at h;injection h with h;have h1:a.map qaE=b.map qaE:=by have:=congrArg Array.toList h;simp only [List.toList_toArray] at this;exact this
 exact (List.map_inj_right fun x y e=>qis e).1 h1
def VC (C:List (List Nat × Nat)) (l:List Nat):Nat:=((C.filter fun p=>p.1==l).map (·.2)).sum
structure Shw (es':List Ent) (clk:Nat) (C:List (List Nat × Nat)):Prop where
 keys:(es'.map (·.1)).Nodup
 born:(es'.map (·.2.1)).Nodup
 clk:∀ e∈es',e.2.1<clk
 ent:∀ e∈es',∃ l∈C.map (·.1),e.1=jt l/\e.2.2 = .v (.int .i64 (IntKind.i64.wrap (VC C l:Nat)))
 all:∀ l∈C.map (·.1),∃ e∈es',e.1=jt l
def JG (w : Nat) : Nat -> List Nat -> List (List Nat × Nat)
 | 0,_=>[]
 | c+1,seen=>match seen with
   | []=>[]
   | a::t=>(t.take w,a)::JG w c (t.drop w)
inductive PK where
 | pin (E:List Ent) (c:Nat) (V:List Value) (E0:List Ent)
 | ex (o:HObj)
 | add (B:List (List Nat × Nat))
abbrev ZZ:=Nat->Option PK
structure PinR (E:List Ent) (V:List Value) (E0:List Ent) (k:Nat) (es es':List Ent):Prop where
 sub:es'.Sublist E
 stay:∀ e∈E,e.1∉V->e∈es'
 old:∀ e∈es,e∈E0
 mark:k≠1->∀ e∈es,e.2.1=k->e.1∈V
def nmP : HObj -> Bool
 | .mpp _=>false
 | _=>true
def qDL : HObj -> Bool
 | .it .. => true
 | _=>false
theorem qmW {z:HObj} (h:qDL z=true):nmP z=true:=by cases z <;> first | rfl | cases h
def HR1 : Option PK -> HObj -> HObj -> Prop
 | some (.ex z),o,o'=>o = .gone/\o'=z/\qDL z=true
 | some (.add B),.it w c seen _,o'=>∃ es' clk,o' = .mp es' clk/\Shw es' clk (JG w c seen++B)/\∀ p∈JG w c seen++B,p.1.length=w
 | some (.add _),.gone,o'=>nmP o'=true
 | some (.add _),_,_=>False
 | some (.pin E c V E0),o,o'=>∃ es k es',o = .mp es k/\k≠0/\o' = .mp es' c/\Sh es es' c/\PinR E V E0 k es es'
 | none,.gone,o'=>nmP o'=true
 | none,.mp es k,o'=>k=0/\∃ es' c,o' = .mp es' c/\Sh es es' c
 | none,.mpp _,_=>False
 | none,.it ..,_=>False
 | none,o,o'=>o'=o
theorem V9 {z:Option PK} {o o':HObj} (h:HR1 z o o'):nmP o'=true:=by
 unfold HR1 at h;split at h
 . rw [h.2.1];exact qmW h.2.2
 . obtain ⟨_,_,rfl,_⟩:=h;rfl
 . exact h
 . exact h.elim
 . obtain ⟨_,_,_,_,_,rfl,_⟩:=h;rfl
 . exact h
 . obtain ⟨_,_,_,rfl,_⟩:=h;rfl
 . exact h.elim
 . exact h.elim
 rename_i h1 h2 h3 h4;subst h;unfold nmP;split
 . rename_i Φ;exact absurd rfl (h3 Φ)
 rfl
structure HR (Z:ZZ) (hp hq:List HObj):Prop where
 len:hq.length=hp.length
 new:∀ i,hp.length<=i->Z i=none
 obj:∀ (i:Nat) (o o':HObj),hp[i]?=some o->hq[i]?=some o'->HR1 (Z i) o o'
theorem HR.nil:HR (fun _=>none) [] []:=⟨rfl,fun _ _=>rfl,fun i o o' h=>by simp at h⟩
theorem HR.at {Z hp hq} (h:HR Z hp hq) {i:Nat} {o:HObj} (hi:hp[i]?=some o):∃ o',hq[i]?=some o'/\HR1 (Z i) o o':=by
 have hlt:i<hq.length:=by rw [h.len];exact (List.getElem?_eq_some_iff.1 hi).1
 exact ⟨hq[i],List.getElem?_eq_getElem hlt,h.obj i o _ hi (List.getElem?_eq_getElem hlt)⟩
theorem HR.cel {Z hp hq} (h:HR Z hp hq) {id:Nat} {cs:List AV} (hi:hpf hp id=some (.cells cs)):hpf hq id=some (.cells cs)/\Z id=none:=by
 obtain ⟨o',h1,h2⟩:=h.at hi;cases hz:Z id with
 | none=>rw [hz] at h2;exact ⟨by rw [<-(show o' = .cells cs from h2)];exact h1,rfl⟩
 | some z =>
   rw [hz] at h2;cases z with
   | ex z=>cases h2.1
   | add B=>exact h2.elim
   | pin E c V E0=>obtain ⟨_,_,_,h3,_⟩:=h2;cases h3
theorem HR.lp {Z hp hq} (h:HR Z hp hq) {id:Nat} {s mk} (hi:hpf hp id=some (.lp s mk)):hpf hq id=some (.lp s mk)/\Z id=none:=by
 obtain ⟨o',h1,h2⟩:=h.at hi;cases hz:Z id with
 | none=>rw [hz] at h2;exact ⟨by rw [<-(show o' = .lp s mk from h2)];exact h1,rfl⟩
 | some z =>
   rw [hz] at h2;cases z with
   | ex z=>cases h2.1
   | add B=>exact h2.elim
   | pin E c V E0=>obtain ⟨_,_,_,h3,_⟩:=h2;cases h3
theorem HR.mp {Z hp hq} (h:HR Z hp hq) {id:Nat} {es k} (hi:hpf hp id=some (.mp es k)):∃ es' c,hpf hq id=some (.mp es' c)/\Sh es es' c/\((Z id=none/\k=0)\/∃ E V E0,Z id=some (.pin E c V E0)/\k≠0/\PinR E V E0 k es es'):=by
 obtain ⟨o',h1,h2⟩:=h.at hi;cases hz:Z id with
 | none =>rw [hz] at h2;obtain ⟨hk,es',c,rfl,h3⟩:=h2;exact ⟨es',c,h1,h3,.inl ⟨rfl,hk⟩⟩
 | some z =>
   rw [hz] at h2;cases z with
   | ex z=>cases h2.1
   | add B=>exact h2.elim
   | pin E c V E0 =>obtain ⟨es2,k2,es',h3,hk,rfl,h4,h5⟩:=h2;cases h3;exact ⟨es',c,h1,h4,.inr ⟨E,V,E0,rfl,hk,h5⟩⟩
theorem HR.set {Z hp hq} (h:HR Z hp hq) {id:Nat} {o o':HObj} (hid:id<=hp.length) (ho:HR1 (Z id) o o'):HR Z (qn hp id o) (qn hq id o'):=by
 unfold qn;rw [h.len];by_cases hlt:id<hp.length
 . rw [if_pos hlt,if_pos hlt];refine ⟨by simp [h.len],fun i hi=>h.new i (by simpa using hi),fun i a a' h1 h2=>?_⟩;by_cases e:id=i
   . subst e;rw [List.getElem?_set_self hlt] at h1;rw [List.getElem?_set_self (by rw [h.len];exact hlt)] at h2;cases h1;cases h2;exact ho
   rw [List.getElem?_set_ne e] at h1 h2;exact h.obj i a a' h1 h2
 rw [if_neg hlt,if_neg hlt];have e0:id=hp.length:=by omega
 subst e0;refine ⟨by simp [h.len],fun i hi=>h.new i (by simp at hi;omega),fun i a a' h1 h2=>?_⟩;by_cases hi:i<hp.length
 . rw [List.getElem?_append_left hi] at h1;rw [List.getElem?_append_left (by rw [h.len];exact hi)] at h2;exact h.obj i a a' h1 h2
 have hl:=(List.getElem?_eq_some_iff.1 h1).1;simp at hl;have e1:i=hp.length:=by omega
 subst e1;rw [List.getElem?_append_right (Nat.le_refl _)] at h1;rw [List.getElem?_append_right (by rw [h.len];exact Nat.le_refl _)] at h2;simp [h.len] at h1 h2;subst h1 h2;exact ho
def HObj.self : HObj -> Bool
 | .cells _ | .gone | .lp .. => true
 | .mp [] 0=>true
 | _=>false
theorem Vf {o:HObj} (h:o.self=true):HR1 none o o:=by
 unfold HObj.self at h;split at h
 . rfl
 . trivial
 . rfl
 . exact ⟨rfl,[],0,rfl,.nil⟩
 cases h
theorem HR.write {Z : ZZ} : ∀ {ws : List (Nat × HObj)} {hp hq : List HObj},HR Z hp hq -> (∀ p ∈ ws,Z p.1 = none /\ p.1 <= hp.length /\ p.2.self = true) -> HR Z (qc hp ws) (qc hq ws)
 | [],hp,hq,h,_=>h
 | (id,o)::ws,hp,hq,h,hw=>by obtain ⟨h1,h2,h3⟩:=hw (id,o) (by simp);show HR Z (qc (qn hp id o) ws) (qc (qn hq id o) ws);refine HR.write (h.set h2 (by rw [h1];exact Vf h3)) fun p hp'=>?_;obtain ⟨k1,k2,k3⟩:=hw p (by simp [hp']);exact ⟨k1,Nat.le_trans k2 (YW _ _ _),k3⟩
theorem HR.pur {Z hp hq} (h:HR Z hp hq) {x:AV} {r} (hx:qv (hpf hp) x=some r):qv (hpf hq) x=some r:=by obtain ⟨y,is⟩:=r;exact Yv hx fun i hi=>by obtain ⟨cs,hc⟩:=Zy hx i hi;rw [(h.cel hc).1,hc]
theorem HR.purA {Z hp hq} (h:HR Z hp hq) {xs:List AV} {r} (hx:qh (hpf hp) xs=some r):qh (hpf hq) xs=some r:=by obtain ⟨y,is⟩:=r;exact qM hx fun i hi=>by obtain ⟨cs,hc⟩:=qA hx i hi;rw [(h.cel hc).1,hc]
theorem HR.elems {Z hp hq} (h:HR Z hp hq) {sz:Nat} {x:AV} {r} (hx:elems (hpf hp) sz x=some r):elems (hpf hq) sz x=some r:=by
 cases x with
 | ms id off n sz' =>
   simp only [AM.elems] at hx ⊢;split at hx
   . rename_i hc;rw [(h.cel hc).1];exact hx
   cases hx
 | mc id off n c sz' =>
   simp only [AM.elems] at hx ⊢;split at hx
   . rename_i hc;rw [(h.cel hc).1];exact hx
   cases hx
 | _=>exact hx
theorem HR.gones {Z hp hq} (h:HR Z hp hq) {xs ys:List AV} {ids:List Nat} (hx:qh (hpf hp) xs=some (ys,ids)):∀ p∈gones ids,Z p.1=none/\p.1<=hp.length/\p.2.self=true:=fun p hp'=>by simp only [AM.gones,List.mem_map] at hp';obtain ⟨i,hi,rfl⟩:=hp';obtain ⟨cs,hcs⟩:=qA hx i hi;exact ⟨(h.cel hcs).2,Nat.le_of_lt (qq hcs),rfl⟩
theorem HR.app {Z hp hq} (h:HR Z hp hq) {r:AV} {ws:List (Nat × HObj)} {sz bytes m:Nat} {x:AV} {ys:List AV} (hs:zl (hpf hp) hp.length r ws sz bytes x m ys):zl (hpf hq) hq.length r ws sz bytes x m ys/\∀ p∈ws,Z p.1=none/\p.1<=hp.length/\p.2.self=true:=by
 have hn:=h.new hp.length (Nat.le_refl _);rw [h.len];simp only [zl] at hs ⊢;split at hs
 . refine ⟨hs,?_⟩;obtain ⟨_,_,_,_,_,_,rfl⟩:=hs;intro p hp';simp at hp';subst hp';exact ⟨hn,Nat.le_refl _,rfl⟩
 . split at hs
   . rename_i hc;obtain ⟨h1,h2⟩:=h.cel hc;rw [h1];refine ⟨hs,?_⟩;obtain ⟨_,_,_,_,_,rfl⟩:=hs;intro p hp';simp at hp';rcases hp' with rfl | rfl
     . exact ⟨h2,Nat.le_of_lt (qq hc),rfl⟩
     exact ⟨hn,Nat.le_refl _,rfl⟩
   exact hs.elim
 . split at hs
   . rename_i hc;obtain ⟨h1,h2⟩:=h.cel hc;rw [h1];refine ⟨hs,?_⟩;obtain ⟨_,_,_,_,hs⟩:=hs;rcases hs with ⟨_,_,_,rfl⟩ | ⟨_,_,rfl⟩
     . intro p hp';simp at hp';subst hp';exact ⟨h2,Nat.le_of_lt (qq hc),rfl⟩
     intro p hp';simp at hp';subst hp';exact ⟨hn,Nat.le_refl _,rfl⟩
   exact hs.elim
 exact hs.elim
def AOp.noMap : AOp -> Bool
 | .ins .. | .lku .. | .mpe .. | .est .. | .del .. | .lnm .. | .call .. | .callv .. | .callx .. | .rng .. | .nxt .. | .ent .. | .isn .. => false
 | _=>true
theorem HR.sem {Z hp hq} (h:HR Z hp hq) {P:Program} {o:AOp} (hno:o.noMap=true) {ev:Opd->AV} {r:AV} {ws:List (Nat × HObj)} (hs:o.sem P ev (hpf hp) hp.length r ws):o.sem P ev (hpf hq) hq.length r ws/\∀ p∈ws,Z p.1=none/\p.1<=hp.length/\p.2.self=true:=by
 have hn:=h.new hp.length (Nat.le_refl _);have nil:∀ {ws:List (Nat × HObj)},ws=[]->∀ p∈ws,Z p.1=none/\p.1<=hp.length/\p.2.self=true:=fun e p hp'=>by subst e;simp at hp'
 have one:∀ {ws:List (Nat × HObj)} {id:Nat} {cs:List AV},Z id=none->id<=hp.length->ws=[(id,.cells cs)]->∀ p∈ws,Z p.1=none/\p.1<=hp.length/\p.2.self=true:=fun e1 e2 e3 p hp'=>by subst e3;simp at hp';subst hp';exact ⟨e1,e2,rfl⟩
 rw [h.len];cases o with
 | st sz a x =>
   simp only [AOp.sem,qaq] at hs ⊢;split at hs
   . split at hs
     . rename_i hc;obtain ⟨h1,h2⟩:=h.cel hc;rw [h1];exact ⟨hs,one h2 (Nat.le_of_lt (qq hc)) hs.2.2.2.1⟩
     exact hs.elim
   exact hs.elim
 | ld d agg sz x =>
   simp only [AOp.sem,Q0] at hs ⊢;split at hs
   . exact ⟨hs,nil hs.1⟩
   . split at hs
     . rename_i hc;rw [(h.cel hc).1];exact ⟨hs,nil hs.1⟩
     exact hs.elim
   exact hs.elim
 | box=>exact ⟨hs,one hn (Nat.le_refl _) hs.2.2.2⟩
 | al=>exact ⟨hs,one hn (Nat.le_refl _) hs.2⟩
 | mks =>obtain ⟨k,h1,h2,h3,h4,h5,h6,h7⟩:=hs;exact ⟨⟨k,h1,h2,h3,h4,h5,h6,h7⟩,one hn (Nat.le_refl _) h7⟩
 | bsl =>
   obtain ⟨ys,ids,h1,h2,h3⟩:=hs;rcases h3 with ⟨h3,rfl⟩ | ⟨rfl,rfl⟩
   . exact ⟨⟨ys,ids,h.purA h1,h2,.inl ⟨h3,rfl⟩⟩,h.gones h1⟩
   refine ⟨⟨ys,ids,h.purA h1,h2,.inr ⟨rfl,rfl⟩⟩,fun p hp'=>?_⟩;rcases List.mem_append.1 hp' with k | k
   . exact h.gones h1 p k
   simp at k;subst k;exact ⟨hn,Nat.le_refl _,rfl⟩
 | app d sz bytes x y =>obtain ⟨m,ys,h1,h2,h3⟩:=hs;obtain ⟨h4,h5⟩:=h.app h3;rw [h.len] at h4;exact ⟨⟨m,ys,h.elems h1,h2,h4⟩,h5⟩
 | cpy d sz x y =>
   simp only [AOp.sem] at hs ⊢;split at hs
   . obtain ⟨m,ys,cs,h1,h2,hc,h3,h4,h5,h6⟩:=hs;exact ⟨⟨m,ys,cs,h.elems h1,h2,(h.cel hc).1,h3,h4,h5,h6⟩,one (h.cel hc).2 (Nat.le_of_lt (qq hc)) h6⟩
   . obtain ⟨m,ys,cs,h1,h2,hc,h3,h4,h5,h6⟩:=hs;exact ⟨⟨m,ys,cs,h.elems h1,h2,(h.cel hc).1,h3,h4,h5,h6⟩,one (h.cel hc).2 (Nat.le_of_lt (qq hc)) h6⟩
   exact hs.elim
 | clr =>
   simp only [AOp.sem] at hs ⊢;split at hs
   . obtain ⟨cs,hc,h3,h4,h5,h6⟩:=hs;exact ⟨⟨cs,(h.cel hc).1,h3,h4,h5,h6⟩,one (h.cel hc).2 (Nat.le_of_lt (qq hc)) h6⟩
   . obtain ⟨cs,hc,h3,h4,h5,h6⟩:=hs;exact ⟨⟨cs,(h.cel hc).1,h3,h4,h5,h6⟩,one (h.cel hc).2 (Nat.le_of_lt (qq hc)) h6⟩
   exact hs.elim
 | appz d sz bytes z x y =>obtain ⟨m,h1,h3⟩:=hs;obtain ⟨h4,h5⟩:=h.app h3;rw [h.len] at h4;exact ⟨⟨m,h1,h4⟩,h5⟩
 | b2s =>obtain ⟨bs,h1,h2,h3⟩:=hs;exact ⟨⟨bs,h.elems h1,h2,h3⟩,nil h3⟩
 | apps d bytes x y =>
   simp only [AOp.sem] at hs ⊢;split at hs
   . obtain ⟨h4,h5⟩:=h.app hs;rw [h.len] at h4;exact ⟨h4,h5⟩
   exact hs.elim
 | slp =>
   simp only [AOp.sem] at hs ⊢;split at hs
   . split at hs
     . rename_i hc;rw [(h.cel hc).1];refine ⟨hs,?_⟩;obtain ⟨_,_,_,_,_,_,_,_,_,_,_,h6⟩:=hs;exact nil h6
     exact hs.elim
   . refine ⟨hs,?_⟩;obtain ⟨_,_,_,_,_,_,_,_,_,h6⟩:=hs;exact nil h6
   exact hs.elim
 | mkm =>refine ⟨hs,fun p hp'=>?_⟩;obtain ⟨_,rfl⟩:=hs;simp at hp';subst hp';exact ⟨hn,Nat.le_refl _,rfl⟩
 | ins=>cases hno
 | lku=>cases hno
 | mpe=>cases hno
 | est=>cases hno
 | del=>cases hno
 | lnm=>cases hno
 | call=>cases hno
 | callv=>cases hno
 | callx=>cases hno
 | rng=>cases hno
 | nxt=>cases hno
 | ent=>cases hno
 | isn=>cases hno
 | s2b =>
   simp only [AOp.sem] at hs ⊢;split at hs
   . exact ⟨hs,nil hs.2⟩
   exact hs.elim
 | _ =>have e:ws=[]:=VA rfl hs;refine ⟨?_,nil e⟩;exact hs
def lfP (l:Leaf) (a b:Value) (k:Bool->Prop):Prop:=match l with
 | .int => (match a with
   | .int kd x => (match b with
     | .int kd' y=>ksP kd kd' (eqZ x y k)
     | _=>False)
   | _=>False)
 | .bool => (match a with
   | .bool x => (match b with
     | .bool y=>fbP (x==y) k
     | _=>False)
   | _=>False)
 | .str => (match zG .str a b with
   | some t=>fbP t k
   | none=>False)
theorem qkk {l:Leaf} {a b:Value} {k:Bool->Prop} (h:lfP l a b k):∃ t,zG l a b=some t/\k t:=by
 unfold lfP at h;split at h
 . split at h
   . split at h
     . obtain ⟨h1,h2⟩:=qkj h;subst h1;rw [qeV] at h2;exact ⟨_,by simp only [zG,if_true],h2⟩
     exact h.elim
   exact h.elim
 . split at h
   . split at h
     . rw [Za] at h;exact ⟨_,rfl,h⟩
     exact h.elim
   exact h.elim
 split at h
 . rename_i t ht;rw [Za] at h;exact ⟨t,ht,h⟩
 exact h.elim
def qcz (as bs:List Value) (k:Prop):Prop:=match as,bs with
 | [],[]=>k
 | _,_=>False
theorem qgR {as bs:List Value} {k:Prop} (h:qcz as bs k):as=[]/\bs=[]/\k:=by
 unfold qcz at h;split at h
 . exact ⟨rfl,rfl,h⟩
 exact h.elim
def lvP (ls : List Leaf) (as bs : List Value) (k : Bool -> Prop) : Prop := List.rec (motive := fun _ => List Value -> List Value -> (Bool -> Prop) -> Prop)
 (fun as bs k=>qcz as bs (k true))
 (fun l _ ih as bs k => match as with
  | a :: as => (match bs with
    | b::bs=>lfP l a b fun t=>Bool.rec (motive:=fun _=>Prop) (k false) (ih as bs k) t
    | []=>False)
  | []=>False) ls as bs k
theorem qkm : ∀ {ls : List Leaf} {as bs : List Value} {k : Bool -> Prop},lvP ls as bs k -> ∃ t,qg ls as bs = some t /\ k t
 | [],as,bs,k,h=>by obtain ⟨rfl,rfl,h⟩:=qgR (show qcz as bs (k true) from h);exact ⟨true,rfl,h⟩
 | l::ls,[],bs,k,h=>(show False from h).elim
 | l::ls,a::as,[],k,h=>(show False from h).elim
 | l::ls, a::as, b::bs, k, h=>by
   have h:lfP l a b (fun t=>Bool.rec (motive:=fun _=>Prop) (k false) (lvP ls as bs k) t):=h;obtain ⟨t,h1,h2⟩:=qkk h;cases t with
   | false=>exact ⟨false,by simp only [qg,h1],h2⟩
   | true =>obtain ⟨t,h3,h4⟩:=qkm (show lvP ls as bs k from h2);exact ⟨t,by simp only [qg,h1];exact h3,h4⟩
def qdT (ks:KS) (a b:Value) (k:Bool->Prop):Prop:=match ks with
 | (true,ls) => (match a with
   | .agg as => (match b with
     | .agg bs=>lvP ls as.toList bs.toList k
     | _=>False)
   | _=>False)
 | (false,[l])=>lfP l a b k
 | _=>False
theorem jW {ks:KS} {a b:Value} {k:Bool->Prop} (h:qdT ks a b k):∃ t,eqK ks a b=some t/\k t:=by
 unfold qdT at h;split at h
 . split at h
   . split at h
     . exact qkm h
     exact h.elim
   exact h.elim
 . obtain ⟨t,h1,h2⟩:=qkk h;exact ⟨t,by simp only [eqK];exact h1,h2⟩
 exact h.elim
def vP (a:AV) (k:Value->Prop):Prop:=match a with
 | .v x=>k x
 | _=>False
theorem qCq {a:AV} {k:Value->Prop} (h:vP a k):∃ x,a = .v x/\k x:=by
 unfold vP at h;split at h
 . exact ⟨_,rfl,h⟩
 exact h.elim
def vlP (cs:List AV) (k:List Value->Prop):Prop:=List.rec (motive:=fun _=>(List Value->Prop)->Prop) (fun k=>k []) (fun a _ ih k=>vP a fun x=>ih fun l=>k (x::l)) cs k
theorem qlo : ∀ {cs : List AV} {k : List Value -> Prop},vlP cs k -> ∃ l,qov cs = some l /\ k l
 | [],k,h=>⟨[],rfl,h⟩
 | a::cs,k,h=>by obtain ⟨x,rfl,h0⟩:=qCq (show vP a (fun x=>vlP cs fun l=>k (x::l)) from h);obtain ⟨l,h1,h2⟩:=qlo h0;exact ⟨x::l,by simp only [qov,h1,Option.map_some],h2⟩
def qow (x:AV) (k:Value->Prop):Prop:=match x with
 | .v y=>k y
 | .agg cs=>vlP cs fun l=>k (.agg ⟨l⟩)
 | _=>False
theorem qbN {x:AV} {k:Value->Prop} (h:qow x k):∃ v,x.val=some v/\k v:=by
 unfold qow at h;split at h
 . exact ⟨_,rfl,h⟩
 . obtain ⟨l,h1,h2⟩:=qlo h;exact ⟨.agg l.toArray,by simp only [AV.val,h1,Option.map_some],h2⟩
 exact h.elim
def qha (ks:KS) (x:AV) (k:Value->Prop):Prop:=qow x fun kv=>qdT ks kv kv fun t=>okP t (k kv)
theorem JX {ks:KS} {x:AV} {k:Value->Prop} (h:qha ks x k):∃ kv,x.val=some kv/\eqK ks kv kv=some true/\k kv:=by obtain ⟨kv,h1,h2⟩:=qbN h;obtain ⟨t,h3,h4⟩:=jW h2;obtain ⟨h5,h6⟩:=qj h4;subst h5;exact ⟨kv,h1,h3,h6⟩
def mpP (x:AV) (hp:List HObj) (k:Nat->List Ent->Nat->Prop):Prop:=match x with
 | .mp id => YN hp id fun o => (match o with
   | .mp es c=>k id es c
   | _=>False)
 | _=>False
theorem Jw {x:AV} {hp:List HObj} {k:Nat->List Ent->Nat->Prop} (h:mpP x hp k):∃ id es c,x = .mp id/\hpf hp id=some (.mp es c)/\k id es c:=by
 unfold mpP at h;split at h
 . obtain ⟨o,h1,h2⟩ := zr h;split at h2
   . exact ⟨_,_,_,rfl,h1,h2⟩
   exact h2.elim
 exact h.elim
def Def (ks:KS) (kv:Value) (es:List Ent):Prop:=∀ e∈es,∃ t,eqK ks kv e.1=some t
theorem Sh.dfd {es es' c ks kv} (h:Sh es es' c) (hd:Def ks kv es):Def ks kv es':=fun e he=>by obtain ⟨e',h1,h2,_⟩:=h.back he;rw [<-h2];exact hd e' h1
def lkP (ks : KS) (kv : Value) (es : List Ent) (k : Option AV -> Prop) : Prop := List.rec (motive := fun _ => (Option AV -> Prop) -> Prop) (fun k => k none)
 (fun e _ ih k=>ih fun r=>Prod.rec (motive:=fun _=>Prop) (fun ky bx=>Prod.rec (motive:=fun _=>Prop) (fun _ x=>qdT ks kv ky fun t=>Bool.rec (motive:=fun _=>Prop) (k r) (Option.rec (motive:=fun _=>Prop) (k (some x)) (fun _=>False) r) t) bx) e) es k
theorem qkl {ks : KS} {kv : Value} : ∀ {es : List Ent} {k : Option AV -> Prop},lkP ks kv es k -> Def ks kv es /\ ((∃ e ∈ es,e.1 = kv /\ k (some e.2.2)) \/ ((∀ e ∈ es,e.1 ≠ kv) /\ k none))
 | [],k,h=>⟨(fun e he=>by cases he),.inr ⟨(fun e he=>by cases he),h⟩⟩
 | (ky, b, x)::es, k, h=>by
   have h:lkP ks kv es (fun r=>qdT ks kv ky fun t=>Bool.rec (motive:=fun _=>Prop) (k r) (Option.rec (motive:=fun _=>Prop) (k (some x)) (fun _=>False) r) t):=h;obtain ⟨h1,h2⟩:=qkl h
   have fin : ∀ {r : Option AV},qdT ks kv ky (fun t => Bool.rec (motive := fun _ => Prop) (k r) (Option.rec (motive := fun _ => Prop) (k (some x)) (fun _ => False) r) t) -> (∃ t,eqK ks kv ky = some t) /\ ((ky = kv /\ r = none /\ k (some x)) \/ (ky ≠ kv /\ k r)) := fun {r} h => by
    obtain ⟨t,h3,h4⟩:=jW h;refine ⟨⟨t,h3⟩,?_⟩;cases t with
    | true =>
      cases r with
      | none=>exact .inl ⟨((ZF h3).1 rfl).symm,rfl,h4⟩
      | some r=>exact (show False from h4).elim
    | false =>refine .inr ⟨fun e=>?_,h4⟩;have:=(ZF h3).2 e.symm;cases this
   rcases h2 with ⟨e,he,hk,h2⟩ | ⟨hn,h2⟩
   . obtain ⟨hd,h3⟩ := fin h2;refine ⟨fun e' he'=>?_,?_⟩
     . rcases List.mem_cons.1 he' with h4 | h4
       . subst h4;exact hd
       exact h1 e' h4
     rcases h3 with ⟨_,h3,_⟩ | ⟨_,h3⟩
     . cases h3
     exact .inl ⟨e,by simp [he],hk,h3⟩
   obtain ⟨hd,h3⟩:=fin h2;refine ⟨fun e' he'=>?_,?_⟩
   . rcases List.mem_cons.1 he' with h4 | h4
     . subst h4;exact hd
     exact h1 e' h4
   rcases h3 with ⟨h3,_,h4⟩ | ⟨h3,h4⟩
   . exact .inl ⟨(ky,b,x),by simp,h3,h4⟩
   refine .inr ⟨fun e' he'=>?_,h4⟩;rcases List.mem_cons.1 he' with h5 | h5
   . subst h5;exact h3
   exact hn e' h5
theorem Sh.find {es es' c ks kv} (h:Sh es es' c) (hd:Def ks kv es) {e:Ent} (he:e∈es) (hk:e.1=kv):∃ i e',zi ks kv es' 0=some (some i)/\es'[i]?=some e'/\e'.1=kv/\e'.2.2=e.2.2:=by obtain ⟨e',h1,h2,h3⟩:=h.to he;obtain ⟨i,h4,h5⟩:=Xc (n:=0) (h.dfd hd) h.keys h1 (h2.trans hk);exact ⟨i,e',by rw [h5,Nat.zero_add],h4,h2.trans hk,h3⟩
theorem Sh.miss {es es' c ks kv} (h:Sh es es' c) (hd:Def ks kv es) (hn:∀ e∈es,e.1≠kv):zi ks kv es' 0=some none/\∀ e∈es',e.1≠kv:=by
 have:∀ e∈es',e.1≠kv:=fun e he=>by obtain ⟨e',h1,h2,_⟩:=h.back he;rw [<-h2];exact hn e' h1
 exact ⟨Vm (h.dfd hd) this,this⟩
theorem qj5 {α:Type} {l:List α} {i:Nat} {a:α} (h:l[i]?=some a):∃ x y,l=x++a::y/\x.length=i:=by obtain ⟨hi,h⟩:=List.getElem?_eq_some_iff.1 h;refine ⟨l.take i,l.drop (i+1),?_,by simp;omega⟩;rw [<-h,List.getElem_cons_drop,List.take_append_drop]
theorem qgA {α:Type} {x y:List α} {a b:α}:(x++a::y).set x.length b=x++b::y:=by rw [List.set_append_right _ _ (Nat.le_refl _)];simp
theorem qeW {α:Type} {x y:List α} {a:α}:(x++a::y).eraseIdx x.length=x++y:=by rw [List.eraseIdx_append_of_length_le (Nat.le_refl _)];simp
theorem YP {x y x' y':List Ent} {a a':Ent} (h:((x++a::y).map kvE).Perm ((x'++a'::y').map kvE)) (e:kvE a=kvE a'):((x++y).map kvE).Perm ((x'++y').map kvE):=by have h1:((a::(x++y)).map kvE).Perm ((x++a::y).map kvE):=(List.perm_middle.symm).map _;have h2:((x'++a'::y').map kvE).Perm ((a'::(x'++y')).map kvE):=List.perm_middle.map _;have h3:=(h1.trans h).trans h2;rw [List.map_cons,List.map_cons,e] at h3;exact h3.cons_inv
theorem qiT {x y x' y':List Ent} {b b':Ent} (h:((x++y).map kvE).Perm ((x'++y').map kvE)) (e:kvE b=kvE b'):((x++b::y).map kvE).Perm ((x'++b'::y').map kvE):=by have h1:((x++b::y).map kvE).Perm ((b::(x++y)).map kvE):=List.perm_middle.map _;have h2:((b'::(x'++y')).map kvE).Perm ((x'++b'::y').map kvE):=(List.perm_middle.symm).map _;refine h1.trans (.trans ?_ h2);rw [List.map_cons,List.map_cons,e];exact h.cons _
theorem Sh.upd {x y x' y':List Ent} {e e':Ent} {c:Nat} (h:Sh (x++e::y) (x'++e'::y') c) (hk:e'.1=e.1) (hv:e'.2.2=e.2.2) (b:Nat) (v:AV):Sh (x++(e.1,b,v)::y) (x'++(e'.1,e'.2.1,v)::y') c:=by
 have p:=YP h.perm (by simp only [kvE,hk,hv]);refine ⟨qiT p (by simp only [kvE,hk]),?_,?_,fun q hq=>?_⟩
 . have:=h.keys;simpa using this
 . have:=h.born;simpa using this
 rcases List.mem_append.1 hq with h1 | h1
 . exact h.clk q (by simp [h1])
 rcases List.mem_cons.1 h1 with h2 | h2
 . subst h2;exact h.clk e' (by simp)
 exact h.clk q (by simp [h2])
theorem Sh.app {es es':List Ent} {c:Nat} (h:Sh es es' c) {kv:Value} (hn:∀ e∈es',e.1≠kv) (b:Nat) (v:AV):Sh ((kv,b,v)::es) (es'++[(kv,c,v)]) (c+1):=by
 refine ⟨?_,?_,?_,fun q hq=>?_⟩
 . have h2:((kv,c,v)::es').map kvE |>.Perm ((es'++[(kv,c,v)]).map kvE):=(List.perm_append_comm (l₁:=[(kv,c,v)]) (l₂:=es')).map _;refine .trans ?_ h2;rw [List.map_cons,List.map_cons];exact h.perm.cons _
 . rw [List.map_append,List.nodup_append];refine ⟨h.keys,by simp,fun a ha b hb=>?_⟩;simp at hb;subst hb;obtain ⟨q,hq,rfl⟩:=List.mem_map.1 ha;exact hn q hq
 . rw [List.map_append,List.nodup_append];refine ⟨h.born,by simp,fun a ha b hb=>?_⟩;simp at hb;subst hb;obtain ⟨q,hq,rfl⟩:=List.mem_map.1 ha;exact Nat.ne_of_lt (h.clk q hq)
 rcases List.mem_append.1 hq with h1 | h1
 . exact Nat.lt_succ_of_lt (h.clk q h1)
 simp at h1;subst h1;exact Nat.lt_succ_self _
theorem Sh.del {x y x' y':List Ent} {e e':Ent} {c:Nat} (h:Sh (x++e::y) (x'++e'::y') c) (hk:e'.1=e.1) (hv:e'.2.2=e.2.2):Sh (x++y) (x'++y') c:=by have sub:(x'++y').Sublist (x'++e'::y'):=(List.Sublist.refl x').append (List.sublist_cons_self _ _);exact ⟨YP h.perm (by simp only [kvE,hk,hv]),h.keys.sublist (sub.map _),h.born.sublist (sub.map _),fun q hq=>h.clk q (sub.subset hq)⟩
def qz7 (ks : KS) (kv : Value) (a : AV) (es : List Ent) (k : List Ent -> Bool -> Prop) : Prop := List.rec (motive := fun _ => (List Ent -> Bool -> Prop) -> Prop) (fun k => k [] false)
 (fun e _ ih k=>ih fun t b=>Prod.rec (motive:=fun _=>Prop) (fun ky bx=>qdT ks kv ky fun q=>Bool.rec (motive:=fun _=>Prop) (k ((ky,bx)::t) b) (Bool.rec (motive:=fun _=>Prop) (k ((ky,0,a)::t) true) False b) q) e) es k
theorem qfz {ks : KS} {kv : Value} {a : AV} : ∀ {es : List Ent} {k : List Ent -> Bool -> Prop},qz7 ks kv a es k -> Def ks kv es /\ ((∃ x e y,es = x ++ e :: y /\ e.1 = kv /\ k (x ++ (e.1,0,a) :: y) true) \/ ((∀ e ∈ es,e.1 ≠ kv) /\ k es false))
 | [],k,h=>⟨(fun e he=>by cases he),.inr ⟨(fun e he=>by cases he),h⟩⟩
 | (ky, bx)::es, k, h=>by
   have h:qz7 ks kv a es (fun t b=>qdT ks kv ky fun q=>Bool.rec (motive:=fun _=>Prop) (k ((ky,bx)::t) b) (Bool.rec (motive:=fun _=>Prop) (k ((ky,0,a)::t) true) False b) q):=h;obtain ⟨h1,h2⟩:=qfz h
   have dfd : (∃ t,eqK ks kv ky = some t) -> Def ks kv ((ky,bx) :: es) := fun hd e' he' => by
    rcases List.mem_cons.1 he' with h4 | h4
    . subst h4;exact hd
    exact h1 e' h4
   rcases h2 with ⟨x,e,y,he,hk,h2⟩ | ⟨hn,h2⟩
   . obtain ⟨t,h3,h4⟩:=jW h2;cases t with
     | true=>exact (show False from h4).elim
     | false=>exact ⟨dfd ⟨_,h3⟩,.inl ⟨(ky,bx)::x,e,y,by rw [he];rfl,hk,h4⟩⟩
   obtain ⟨t,h3,h4⟩:=jW h2;cases t with
   | true=>exact ⟨dfd ⟨_,h3⟩,.inl ⟨[],(ky,bx),es,rfl,((ZF h3).1 rfl).symm,h4⟩⟩
   | false =>
     refine ⟨dfd ⟨_,h3⟩,.inr ⟨fun e' he'=>?_,h4⟩⟩;rcases List.mem_cons.1 he' with h5 | h5
     . subst h5;intro e;have:=(ZF h3).2 e.symm;cases this
     exact hn e' h5
def qym (ks:KS) (kv:Value) (a:AV) (id:Nat) (es:List Ent) (hp:List HObj) (k:Bool->List HObj->Prop):Prop :=
 qz7 ks kv a es fun t b=>Bool.rec (motive:=fun _=>Prop) (Q6 hp id (.mp ((kv,0,a)::t) 0) (k false)) (Q6 hp id (.mp t 0) (k true)) b
def qpk (ks:KS) (kv:Value) (a:AV) (id:Nat) (hq:List HObj) (es':List Ent) (c:Nat) (b:Bool) (hq':List HObj):Prop :=
 (b=true/\∃ i e',zi ks kv es' 0=some (some i)/\es'[i]?=some e'/\hq'=qn hq id (.mp (es'.set i (e'.1,e'.2.1,a)) c)) \/
 (b=false/\zi ks kv es' 0=some none/\hq'=qn hq id (.mp (es'++[(kv,c,a)]) (c+1)))
theorem qgz {ks : KS} {kv : Value} {a : AV} {id : Nat} {es : List Ent} {hp : List HObj} {k : Bool -> List HObj -> Prop} (h : qym ks kv a id es hp k) :
 ∃ b hp',k b hp'/\∀ Z hq es' c,HR Z hp hq->Z id=none->id<=hp.length->Sh es es' c->∃ hq',qpk ks kv a id hq es' c b hq'/\HR Z hp' hq':=by
 obtain ⟨hd,h⟩:=qfz h;rcases h with ⟨x,e,y,he,hk,h⟩ | ⟨hn,h⟩
 . refine ⟨true,qn hp id (.mp (x++(e.1,0,a)::y) 0),qB (show Q6 _ _ _ _ from h),fun Z hq es' c hr hz hid hs=>?_⟩;subst he;obtain ⟨i,e',h1,h2,h3,h4⟩:=hs.find hd (e:=e) (by simp) hk;refine ⟨_,.inl ⟨rfl,i,e',h1,h2,rfl⟩,hr.set hid ?_⟩;obtain ⟨x',y',rfl,rfl⟩:=qj5 h2;rw [hz,qgA];exact ⟨rfl,_,_,rfl,hs.upd (h3.trans hk.symm) h4 0 a⟩
 refine ⟨false,qn hp id (.mp ((kv,0,a)::es) 0),qB (show Q6 _ _ _ _ from h),fun Z hq es' c hr hz hid hs=>?_⟩;obtain ⟨h1,h2⟩:=hs.miss hd hn;refine ⟨_,.inr ⟨rfl,h1,rfl⟩,hr.set hid ?_⟩;rw [hz];exact ⟨rfl,_,_,rfl,hs.app h2 0 a⟩
def qzE (ks : KS) (kv : Value) (es : List Ent) (k : List Ent -> Option Nat -> Prop) : Prop := List.rec (motive := fun _ => (List Ent -> Option Nat -> Prop) -> Prop) (fun k => k [] none)
 (fun e _ ih k=>ih fun t b=>Prod.rec (motive:=fun _=>Prop) (fun ky bx=>qdT ks kv ky fun q=>Bool.rec (motive:=fun _=>Prop) (k ((ky,bx)::t) b) (Option.rec (motive:=fun _=>Prop) (k t (some bx.1)) (fun _=>False) b) q) e) es k
theorem qeM {ks : KS} {kv : Value} : ∀ {es : List Ent} {k : List Ent -> Option Nat -> Prop},qzE ks kv es k -> Def ks kv es /\ ((∃ x e y,es = x ++ e :: y /\ e.1 = kv /\ k (x ++ y) (some e.2.1)) \/ ((∀ e ∈ es,e.1 ≠ kv) /\ k es none))
 | [],k,h=>⟨(fun e he=>by cases he),.inr ⟨(fun e he=>by cases he),h⟩⟩
 | (ky, bx)::es, k, h=>by
   have h:qzE ks kv es (fun t b=>qdT ks kv ky fun q=>Bool.rec (motive:=fun _=>Prop) (k ((ky,bx)::t) b) (Option.rec (motive:=fun _=>Prop) (k t (some bx.1)) (fun _=>False) b) q):=h;obtain ⟨h1,h2⟩:=qeM h
   have dfd : (∃ t,eqK ks kv ky = some t) -> Def ks kv ((ky,bx) :: es) := fun hd e' he' => by
    rcases List.mem_cons.1 he' with h4 | h4
    . subst h4;exact hd
    exact h1 e' h4
   rcases h2 with ⟨x,e,y,he,hk,h2⟩ | ⟨hn,h2⟩
   . obtain ⟨t,h3,h4⟩:=jW h2;cases t with
     | true=>exact (show False from h4).elim
     | false=>exact ⟨dfd ⟨_,h3⟩,.inl ⟨(ky,bx)::x,e,y,by rw [he];rfl,hk,h4⟩⟩
   obtain ⟨t,h3,h4⟩:=jW h2;cases t with
   | true=>exact ⟨dfd ⟨_,h3⟩,.inl ⟨[],(ky,bx),es,rfl,((ZF h3).1 rfl).symm,h4⟩⟩
   | false =>
     refine ⟨dfd ⟨_,h3⟩,.inr ⟨fun e' he'=>?_,h4⟩⟩;rcases List.mem_cons.1 he' with h5 | h5
     . subst h5;intro e;have:=(ZF h3).2 e.symm;cases this
     exact hn e' h5
def Sy (P : Program) (o : AOp) (X : K1 -> K1) : Prop := ∀ (c : K1) (fr : FrL) (hp : List HObj),X c fr hp ->
 ∃ r hp' wi,(∀ Z hq,HR Z hp hq->∃ ws,o.sem P (evF (get fr)) (hpf hq) hq.length r ws/\HR Z hp' (qc hq ws)/\ws.map (·.1)=wi)/\c (qH fr o.dst r) hp'
section
variable {P:Program}
theorem jJ {o:AOp} {X:K1->K1} (hno:o.noMap=true) (h:Sx P o X):Sy P o X:=fun c fr hp hx=>by obtain ⟨r,ws,h1,h2⟩:=h c fr hp hx;refine ⟨r,qc hp ws,ws.map (·.1),fun Z hq hr=>?_,h2⟩;obtain ⟨h3,h4⟩:=hr.sem hno h1;exact ⟨ws,h3,hr.write h4,rfl⟩
def qpZ (d:Nat) (ks:KS) (zero:AV) (ok:Bool) (m key:Op1):K1->K1:=fun c fr hp=>m fr fun x=>key fr fun y=>mpP x hp fun _ es _=>qha ks y fun kv=>lkP ks kv es fun r =>
 Option.rec (motive:=fun _=>Prop) (c ((d,bif ok then .tup [zero,B false] else zero)::fr) hp) (fun v=>c ((d,bif ok then .tup [v,B true] else v)::fr) hp) r
theorem qen {d:Nat} {ks:KS} {zero:AV} {ok:Bool} {m key:Opd}:Sy P (.lku d ks zero ok m key) (qpZ d ks zero ok (qt m) (qt key)):=fun c fr hp h=>by
 unfold qpZ at h;rw [qa,qa] at h;obtain ⟨id,es,cl,hm,ho,h⟩:=Jw h;obtain ⟨kv,h1,h2,h⟩:=JX h;obtain ⟨hd,h⟩:=qkl h;rcases h with ⟨e,he,hk,h⟩ | ⟨hn,h⟩
 . refine ⟨_,hp,[],fun Z hq hr=>?_,h⟩;obtain ⟨es',c',h3,h4,_⟩:=hr.mp ho;obtain ⟨i,e',h5,h6,h7,h8⟩:=h4.find hd he hk;refine ⟨[],?_,hr,rfl⟩;simp only [AOp.sem,hm,h3];exact ⟨kv,h1,h2,trivial,.inl ⟨i,e',h5,h6,by rw [h8]⟩⟩
 refine ⟨_,hp,[],fun Z hq hr=>?_,h⟩;obtain ⟨es',c',h3,h4,_⟩:=hr.mp ho;obtain ⟨h5,_⟩:=h4.miss hd hn;refine ⟨[],?_,hr,rfl⟩;simp only [AOp.sem,hm,h3];exact ⟨kv,h1,h2,trivial,.inr ⟨h5,by trivial⟩⟩
def frP (cl:Nat) (k:Prop):Prop:=Nat.rec (motive:=fun _=>Prop) k (fun _ _=>False) cl
theorem qb6 {cl:Nat} {k:Prop} (h:frP cl k):cl=0/\k:=by
 cases cl with
 | zero=>exact ⟨rfl,h⟩
 | succ n=>exact (show False from h).elim
theorem HR.mp0 {Z hp hq} (h:HR Z hp hq) {id:Nat} {es} (hi:hpf hp id=some (.mp es 0)):∃ es' c,hpf hq id=some (.mp es' c)/\Sh es es' c/\Z id=none:=by
 obtain ⟨es',c,h1,h2,h3⟩:=h.mp hi;rcases h3 with ⟨h3,_⟩ | ⟨_,_,_,_,h3,_⟩
 . exact ⟨es',c,h1,h2,h3⟩
 exact absurd rfl h3
def qcZ (ks:KS) (m key v:Op1):K1->K1:=fun c fr hp=>m fr fun x=>key fr fun y=>v fr fun a=>mpP x hp fun id es cl=>frP cl (qha ks y fun kv=>qym ks kv a id es hp fun _ hp=>c fr hp)
theorem Jk {ks : KS} {m key v : Opd} {c : K1} {fr : FrL} {hp : List HObj} (h : qcZ ks (qt m) (qt key) (qt v) c fr hp) : ∃ id kv b hp',evF (get fr) m = .mp id /\ id < hp.length /\ (evF (get fr) key).val = some kv /\ eqK ks kv kv = some true /\ c fr hp' /\
 ∀ Z hq,HR Z hp hq->∃ es' c' hq',hpf hq id=some (.mp es' c')/\(es'.map (·.2.1)).Nodup/\(∀ e∈es',e.2.1<c')/\qpk ks kv (evF (get fr) v) id hq es' c' b hq'/\HR Z hp' hq':=by
 unfold qcZ at h;rw [qa,qa,qa] at h;obtain ⟨id,es,cl,hm,ho,h⟩:=Jw h;obtain ⟨rfl,h⟩:=qb6 h;obtain ⟨kv,h1,h2,h⟩:=JX h;obtain ⟨b,hp',h3,h4⟩:=qgz h;refine ⟨id,kv,b,hp',hm,qq ho,h1,h2,h3,fun Z hq hr=>?_⟩;obtain ⟨es',c',h5,h6,hz⟩:=hr.mp0 ho;obtain ⟨hq',h7,h8⟩:=h4 Z hq es' c' hr hz (Nat.le_of_lt (qq ho)) h6;exact ⟨es',c',hq',h5,h6.born,h6.clk,h7,h8⟩
theorem qfA {ks : KS} {m key v : Opd} {id : Nat} {kv : Value} {b : Bool} {ev : Opd -> AV} {hq hq' : List HObj} {es' : List Ent} {c' : Nat} (hm : ev m = .mp id) (h1 : (ev key).val = some kv) (h2 : eqK ks kv kv = some true) (h5 : hpf hq id = some (.mp es' c'))
 (h:qpk ks kv (ev v) id hq es' c' b hq'):∃ ws,(AOp.ins ks m key v).sem P ev (hpf hq) hq.length .any ws/\qc hq ws=hq'/\ws.map (·.1)=[id]:=by
 rcases h with ⟨_,i,e',k1,k2,rfl⟩ | ⟨_,k1,rfl⟩
 . refine ⟨[(id,.mp (es'.set i (e'.1,e'.2.1,ev v)) c')],?_,rfl,rfl⟩;simp only [AOp.sem,hm,h5];exact ⟨kv,h1,h2,trivial,.inl ⟨i,e',k1,k2,rfl⟩⟩
 refine ⟨[(id,.mp (es'++[(kv,c',ev v)]) (c'+1))],?_,rfl,rfl⟩;simp only [AOp.sem,hm,h5];exact ⟨kv,h1,h2,trivial,.inr ⟨k1,by trivial⟩⟩
theorem qlZ {ks:KS} {m key v:Opd}:Sy P (.ins ks m key v) (qcZ ks (qt m) (qt key) (qt v)):=fun c fr hp h=>by obtain ⟨id,kv,b,hp',hm,_,h1,h2,h3,h4⟩:=Jk h;refine ⟨.any,hp',[id],fun Z hq hr=>?_,h3⟩;obtain ⟨es',c',hq',h5,_,_,h6,h7⟩:=h4 Z hq hr;obtain ⟨ws,h8,h9,h10⟩:=qfA (P:=P) hm h1 h2 h5 h6;exact ⟨ws,h8,by rw [h9];exact h7,h10⟩
def qxX (ks:KS) (kv:Value) (cl id:Nat) (es:List Ent) (hp:List HObj) (k:List Nat->List HObj->Prop):Prop:=qzE ks kv es fun t b =>
 Option.rec (motive:=fun _=>Prop) (k [] hp) (fun b=>okP (Nat.beq cl 0 || (!Nat.beq cl 1&&Nat.beq b cl)) (Q6 hp id (.mp t cl) (k [id]))) b
def qza (ks:KS) (m key:Op1):K1->K1:=fun c fr hp=>m fr fun x=>key fr fun y=>mpP x hp fun id es cl=>qha ks y fun kv=>qxX ks kv cl id es hp fun _ hp=>c fr hp
theorem PinR.del {E V E0 k x e y x' e' y'} (h:PinR E V E0 k (x++e::y) (x'++e'::y')) (hk:e'.1=e.1) (h1:k≠1) (hb:e.2.1=k):PinR E V E0 k (x++y) (x'++y'):=by
 have sub:(x'++y').Sublist (x'++e'::y'):=(List.Sublist.refl x').append (List.sublist_cons_self _ _);have mem:∀ q∈x++y,q∈x++e::y:=fun q hq=>by rcases List.mem_append.1 hq with h1 | h1 <;> simp [h1]
 refine ⟨sub.trans h.sub,fun q hq hv=>?_,fun q hq=>h.old q (mem q hq),fun h1 q hq=>h.mark h1 q (mem q hq)⟩;have:=h.stay q hq hv;rcases List.mem_append.1 this with h1 | h1
 . exact List.mem_append.2 (.inl h1)
 rcases List.mem_cons.1 h1 with h2 | h2
 . subst h2;exact absurd (by rw [hk];exact h.mark (by assumption) e (by simp) hb) hv
 exact List.mem_append.2 (.inr h2)
theorem qeL {ks : KS} {kv : Value} {cl id : Nat} {es : List Ent} {hp : List HObj} {k : List Nat -> List HObj -> Prop} (h : qxX ks kv cl id es hp k) (ho : hpf hp id = some (.mp es cl)) :
 ∃ hp' wi,k wi hp'/\∀ (P:Program) (m key:Opd) (ev:Opd->AV),ev m = .mp id->(ev key).val=some kv->eqK ks kv kv=some true->∀ Z hq,HR Z hp hq->∃ ws,(AOp.del ks m key).sem P ev (hpf hq) hq.length .any ws/\HR Z hp' (qc hq ws)/\ws.map (·.1)=wi:=by
 obtain ⟨hd,h⟩:=qeM h;rcases h with ⟨x,e,y,he,hk,h⟩ | ⟨hn,h⟩
 . obtain ⟨h3,h4⟩ := qj (show okP _ _ from h);refine ⟨qn hp id (.mp (x++y) cl),[id],qB h4,fun P m key ev hm h1 h2 Z hq hr=>?_⟩;subst he;obtain ⟨es',c',h5,h6,h7⟩:=hr.mp ho;obtain ⟨i,e',k1,k2,k3,k4⟩:=h6.find hd (e:=e) (by simp) hk;refine ⟨[(id,.mp (es'.eraseIdx i) c')],?_,?_,rfl⟩
   . simp only [AOp.sem,hm,h5];exact ⟨kv,h1,h2,trivial,.inl ⟨i,k1,rfl⟩⟩
   obtain ⟨x',y',rfl,rfl⟩:=qj5 k2;refine hr.set (Nat.le_of_lt (qq ho)) ?_;rw [qeW];have hs:=h6.del (k3.trans hk.symm) k4;rcases h7 with ⟨hz,rfl⟩ | ⟨E,V,E0,hz,hc,hp7⟩
   . rw [hz];exact ⟨rfl,_,_,rfl,hs⟩
   rw [hz]
   have h3':cl≠1/\e.2.1=cl:=by
    simp only [Bool.or_eq_true,Bool.and_eq_true,Bool.not_eq_true'] at h3;rcases h3 with q | ⟨q1,q2⟩
    . exact absurd (Nat.eq_of_beq_eq_true q) hc
    exact ⟨(fun e=>by rw [e] at q1;cases q1),Nat.eq_of_beq_eq_true q2⟩
   exact ⟨_,_,_,rfl,hc,rfl,hs,hp7.del (k3.trans hk.symm) h3'.1 h3'.2⟩
 refine ⟨hp,[],h,fun P m key ev hm h1 h2 Z hq hr=>?_⟩;obtain ⟨es',c',h5,h6,h7⟩:=hr.mp ho;obtain ⟨k1,_⟩:=h6.miss hd hn;refine ⟨[],?_,hr,rfl⟩;simp only [AOp.sem,hm,h5];exact ⟨kv,h1,h2,trivial,.inr ⟨k1,by trivial⟩⟩
theorem qlT {ks:KS} {m key:Opd}:Sy P (.del ks m key) (qza ks (qt m) (qt key)):=fun c fr hp h=>by unfold qza at h;rw [qa,qa] at h;obtain ⟨id,es,cl,hm,ho,h⟩:=Jw h;obtain ⟨kv,h1,h2,h⟩:=JX h;obtain ⟨hp',wi,h3,h4⟩:=qeL h ho;exact ⟨.any,hp',wi,h4 P m key _ hm h1 h2,h3⟩
def qdU {α:Type} (l:List α) (k:Nat->Prop):Prop:=List.rec (motive:=fun _=>Nat->(Nat->Prop)->Prop) (fun n k=>fnP n k) (fun _ _ ih n k=>ih (Nat.succ n) k) l 0 k
theorem qb9 {α : Type} : ∀ (l : List α) (n : Nat) (k : Nat -> Prop),(List.rec (motive := fun _ => Nat -> (Nat -> Prop) -> Prop) (fun n k => fnP n k) (fun _ _ ih n k => ih (Nat.succ n) k) l n k : Prop) = k (n + l.length)
 | [],n,k=>qo n k
 | a::l,n,k=>by show (List.rec (motive:=fun _=>Nat->(Nat->Prop)->Prop) (fun n k=>fnP n k) (fun _ _ ih n k=>ih (Nat.succ n) k) l (Nat.succ n) k:Prop)=_;rw [qb9 l];congr 1;simp;omega
theorem ZG {α:Type} (l:List α) (k:Nat->Prop):qdU l k=k l.length:=by have:=qb9 l 0 k;rw [Nat.zero_add] at this;exact this
def qp0 (d:Nat) (m:Op1):K1->K1:=fun c fr hp=>m fr fun x=>mpP x hp fun _ es _=>qdU es fun n=>c ((d,.v (.int .i64 (.ofNat n)))::fr) hp
theorem qeo {d:Nat} {m:Opd}:Sy P (.lnm d m) (qp0 d (qt m)):=fun c fr hp h=>by unfold qp0 at h;rw [qa] at h;obtain ⟨id,es,cl,hm,ho,h⟩:=Jw h;rw [ZG] at h;refine ⟨_,hp,[],fun Z hq hr=>?_,h⟩;obtain ⟨es',c',h5,h6,_⟩:=hr.mp ho;refine ⟨[],?_,hr,rfl⟩;simp only [AOp.sem,hm,h5,h6.len];exact ⟨rfl,trivial⟩
def qps : AOp -> K1 -> K1
 | .lku d ks z ok m k=>qpZ d ks z ok (qt m) (qt k)
 | .ins ks m k v=>qcZ ks (qt m) (qt k) (qt v)
 | .del ks m k=>qza ks (qt m) (qt k)
 | .lnm d m=>qp0 d (qt m)
 | .mpe .. | .est .. => fun _ _ _=>False
 | o=>cOp o
theorem WD (o:AOp) (h:∀ d f as,o≠.call d f as):Sy P o (qps o):=by
 have no:∀ {o':AOp},(∀ ev hp new r ws,¬ o'.sem P ev hp new r ws)->Sy P o' (cOp o'):=fun {o'} hn c fr hp h=>by obtain ⟨r,ws,h1,_⟩:=qeq (P:=P) o' c fr hp h;exact absurd h1 (hn _ _ _ _ _)
 cases o with
 | lku d ks z ok m k=>exact qen
 | ins ks m k v=>exact qlZ
 | del ks m k=>exact qlT
 | lnm d m=>exact qeo
 | mpe=>exact fun c fr hp h=>(show False from h).elim
 | est=>exact fun c fr hp h=>(show False from h).elim
 | call d f as=>exact absurd rfl (h d f as)
 | callv d x as=>exact fun c fr hp h=>(show False from h).elim
 | callx d x as=>exact no fun _ _ _ _ _ h=>h
 | rng d x=>exact no fun _ _ _ _ _ h=>h
 | nxt d x=>exact no fun _ _ _ _ _ h=>h
 | ent d x=>exact no fun _ _ _ _ _ h=>h
 | isn d a b x=>exact no fun _ _ _ _ _ h=>h
 | _=>exact jJ rfl (qeq _)
end
def qiF (o:AOp) (ev:Opd->AV) (hp:List HObj):Option (List (AV × List (Nat × HObj))) :=
 match o with
 | .rng _ x=>match mpE hp (ev x) with
   | some (id,_,clk)=>some [(.ref hp.length 0,[(hp.length,.it id clk [] clk)])]
   | none=>none
 | .nxt _ x=>match ev x with
   | .ref id 0=>match hp[id]? with
     | some (.it m since seen last)=>match mpE hp (.mp m) with
       | some (_,es,clk) => if (seen.isEmpty || es.isEmpty || !es.all (fun e => decide (last <= e.2.1))) = true then
        some ((if (es.filter fun e => !seen.contains e.2.1 && decide (e.2.1 < since)).isEmpty then [(.tup [B false],[])] else []) ++
         (es.filter fun e => !seen.contains e.2.1).map fun e=>(.tup [B true,AV.ofValue e.1,e.2.2],[(id,.it m since (seen++[e.2.1]) clk)]))
         else none
       | none=>none
     | _=>none
   | _=>none
 | .ent _ x=>match ev x with
   | .ref id 0=>match hp[id]? with
     | some (.it m _ seen stepped)=>match mpE hp (.mp m) with
       | some (_,es,clk) => if clk = stepped then (match seen.getLast? with
         | some b=>match es.find? (fun e=>e.2.1==b) with
           | some e=>some [(.tup [AV.ofValue e.1,e.2.2],[])]
           | none=>none
         | none=>none) else none
       | none=>none
     | _=>none
   | _=>none
 | .isn _ neg kd x=>match kd,ev x with
   | 0,.sl _ _ []=>some [(B false,[]),(B true,[])]
   | 0,.sl _ _ (_::_)=>some [(B neg,[])]
   | 0,.ms _ _ n _=>if n=0 then some [(B false,[]),(B true,[])] else some [(B neg,[])]
   | 1,.ptr .. | 1,.ref .. | 2,.mp _ | 3,.fn .. => some [(B neg,[])]
   | 0,.v (.slice none 0 0) | 1,.v (.pointer none) | 2,.v (.map none) | 3,.v .nilFunc=>some [(B !neg,[])]
   | _,_=>none
 | _=>none
theorem qfP {o:AOp} {ev:Opd->AV} {hp:List HObj} {l:List (AV × List (Nat × HObj))} (h:qiF o ev hp=some l):o.many ev (hpf hp) hp.length fun r ws=>(r,ws)∈l:=by
 cases o with
 | rng d x =>
   simp only [qiF] at h;simp only [AOp.many];split at h
   . rename_i hm;obtain ⟨h1,h2⟩:=Jv hm;cases h;simp only [h1,h2];simp
   cases h
 | nxt d x =>
   simp only [qiF] at h;simp only [AOp.many];generalize ev x=u at h ⊢;split at h
   . rename_i id;split at h
     . rename_i m since seen last hid;split at h
       . rename_i es clk hm;obtain ⟨h1,h2⟩:=Jv hm;cases h1;have hid':hpf hp id=some (.it m since seen last):=hid;simp only [hid',h2];split at h
         . rename_i hc;cases h;refine ⟨hc,fun hz=>by rw [if_pos hz];simp,fun e he hs=>?_⟩;rw [List.mem_append];refine .inr (List.mem_map.2 ⟨e,List.mem_filter.2 ⟨he,by simpa using hs⟩,rfl⟩)
         cases h
       cases h
     cases h
   cases h
 | ent d x =>
   simp only [qiF] at h;simp only [AOp.many];generalize ev x=u at h ⊢;split at h
   . rename_i id;split at h
     . rename_i m since seen last hid;split at h
       . rename_i es clk hm;obtain ⟨h1,h2⟩:=Jv hm;cases h1;have hid':hpf hp id=some (.it m since seen last):=hid;simp only [hid',h2];split at h
         . rename_i hc;split at h
           . rename_i b hb;split at h
             . rename_i e he;cases h;exact ⟨hc,b,e,hb,he,by simp⟩
             cases h
           cases h
         cases h
       cases h
     cases h
   cases h
 | isn d neg kd x =>
   simp only [qiF] at h;simp only [AOp.many];generalize ev x=u at h ⊢;split at h
   . cases h;simp
   . cases h;simp
   . split at h
     . rename_i h0;cases h;simp [h0]
     rename_i h0;cases h;simp [h0]
   all_goals first | (cases h;simp;done) | cases h
 | _=>simp [qiF] at h
inductive PR where
 | val (r:AV)
 | made (m sz:Nat) (cs:List AV)
 | mapp (es:List (Value × Nat × AV))
def shP (es es':List (Value × Nat × AV)) (c:Nat):Prop:=(es.map fun e=>(e.1,e.2.2)).Perm (es'.map fun e=>(e.1,e.2.2))/\(es'.map (·.1)).Nodup/\(es'.map (·.2.1)).Nodup/\∀ e∈es',e.2.1<c
def jG (P : Program) (f : FuncId) (ys : List AV) : PR -> Prop
 | .val r=>z8 P f ys r
 | .made m sz cs=>jK P f ys m sz cs
 | .mapp es=>Wt P f ys (shP es)
structure Hd where
 C:FuncId->List AV->List HObj->(AV->List HObj->Prop)->Prop
 C0:FuncId->List AV->List HObj->(AV->List HObj->Prop)->Prop
 D:FuncId->List AV->(PR->Prop)->Prop
 Y:Nat->List AV->List HObj->(AV->List HObj->Prop)->Prop
 R:AV->List HObj->(List AV->List HObj->(AV->List HObj->Prop)->Prop)->(List HObj->Prop)->Prop
 ok:FuncId->Prop->Prop
 kap:Option Nat
section
variable {P:Program} {E:HE} {H:Hd}
theorem Zr {f xs hp} {K K':AV->List HObj->Prop} (hk:∀ r hp',K r hp'->K' r hp') (h:qw P f xs hp K):qw P f xs hp K':=fun ro n w g vs h1 h2 h3 =>
 (h ro n w g vs h1 h2 h3).mono fun e w' ⟨v,r,hp',g',e1,e2,e3⟩=>⟨v,r,hp',g',e1,hk _ _ e2,e3⟩
theorem zQ : ∀ {gs : List Grp} {st : St} {K K' : St -> Prop},(∀ st',K st' -> K' st') -> q7 P E gs st K -> q7 P E gs st K'
 | [],st,K,K',hk,h=>hk st h
 | ⟨none,os⟩::gs,st,K,K',hk,h=>z9 (fun st' h=>zQ hk h) h
 | ⟨some (j,b),os⟩::gs,st,K,K',hk,h=>by
   simp only [q7] at h ⊢;split at h
   . exact ⟨fun e=>z9 (fun st' h=>zQ hk h) (h.1 e),fun e=>zQ hk (h.2 e)⟩
   . exact zQ hk h
   exact h.elim
theorem Qa : ∀ {os : List AOp} {st : St} {tr : Tr} {K K' : St -> Tr -> Prop},(∀ st' tr',K st' tr' -> K' st' tr') -> Qc P os st tr K -> Qc P os st tr K'
 | [],st,tr,K,K',hk,h=>hk _ _ h
 | o::os,st,tr,K,K',hk,⟨r,ws,h1,h2⟩=>⟨r,ws,h1,Qa hk h2⟩
theorem zf : ∀ {gs : List Grp} {st : St} {tr : Tr} {K K' : St -> Tr -> Prop},(∀ st' tr',K st' tr' -> K' st' tr') -> qZ P gs st tr K -> qZ P gs st tr K'
 | [],st,tr,K,K',hk,h=>hk _ _ h
 | ⟨none,os⟩::gs,st,tr,K,K',hk,h=>Qa (fun st' tr' h=>zf hk h) h
 | ⟨some (j,b),os⟩::gs,st,tr,K,K',hk,h=>by
   simp only [qZ] at h ⊢;split at h
   . exact ⟨fun e=>Qa (fun st' tr' h=>zf hk h) (h.1 e),fun e=>zf hk (h.2 e)⟩
   . exact zf hk h
   exact h.elim
abbrev X1:=Hd->K1->K1
def qlP (d:Nat) (f:FuncId) (args:FrL->(List AV->Prop)->Prop):X1:=fun H c fr hp=>args fr fun xs=>H.C f xs hp fun r hp'=>c ((d,r)::fr) hp'
def qem (d:Nat) (x:Op1) (args:FrL->(List AV->Prop)->Prop):X1:=fun H c fr hp=>x fr fun v=>args fr fun xs=>match v with
 | .fn (.func f) first caps=>H.ok f (flP (first++xs++caps) fun l=>H.C0 f l hp fun r hp'=>c ((d,r)::fr) hp')
 | .yl id=>H.Y id xs hp fun r hp'=>c ((d,r)::fr) hp'
 | _=>False
def jR:X1:=fun _ _ _ _=>False
def qj3 (X:K1->K1):X1:=fun _=>X
def qDz:X1:=fun _ c=>c
def qp8 (X Y:X1):X1:=fun H c=>X H (Y H c)
def jj (os:List AOp):FrL:=(os.filterMap fun o=>o.dst.map fun d=>(d,AV.v undef)).reverse
def qhL (u fr:FrL) (k:FrL->Prop):Prop:=List.rec (motive:=fun _=>(FrL->Prop)->Prop) (fun k=>k fr) (fun a _ ih k=>ih fun t=>k (a::t)) u k
theorem qba : ∀ (u fr : FrL) (k : FrL -> Prop),qhL u fr k = k (u ++ fr)
 | [],fr,k=>rfl
 | a::u,fr,k=>qba u fr fun t=>k (a::t)
def cGd (j:Nat) (b:Bool) (u:FrL) (X Y:X1):X1:=fun H c fr hp=>VN fr j fun v=>match v with
 | .v (.bool t)=>Bool.rec (motive:=fun _=>Prop) (qhL u fr fun fr=>Y H c fr hp) (X H (Y H c) fr hp) (Bool.rec (motive:=fun _=>Bool) (!b) b t)
 | .v (.tuple _)=>qhL u fr fun fr=>Y H c fr hp
 | _=>False
def jH (ks:List Nat) (fr:FrL) (k:FrL->Prop):Prop:=List.rec (motive:=fun _=>(FrL->Prop)->Prop) (fun k=>k []) (fun t _ ih k=>VN fr t fun x=>ih fun l=>k ((t,x)::l)) ks k
theorem za : ∀ (ks : List Nat) (fr : FrL) (k : FrL -> Prop),jH ks fr k = k (ks.map fun t => (t,get fr t))
 | [],fr,k=>rfl
 | t::ks,fr,k=>by show (VN fr t fun x=>jH ks fr fun l=>k ((t,x)::l))=_;rw [zq,za ks];rfl
abbrev KD:=FrL->List HObj->Tr->Prop
abbrev D1:=Hd->KD->KD
def trP (tr:Tr) (x:List Nat × List Nat) (k:Tr->Prop):Prop:=flP (tr++[x]) k
def qqm (f:(Opd->AV)->List HObj->Option (AV × List (Nat × HObj))) (o:AOp):D1:=fun _ c fr hp tr=>match f (evF (get fr)) hp with
 | some (r,ws)=>fmP fnP (o.foot (get fr) (hpf hp)) fun ft=>fmP fnP (ws.map (·.1)) fun wi=>faP 6 r fun r=>wsP ws hp fun hp=>trP tr (ft,wi) fun tr=>c (qH fr o.dst r) hp tr
 | none=>False
theorem X3 {d f args F H ys is} (h:qh H (args.map (evF F))=some (ys,is)):(AOp.call d f args).foot F H=is:=by show []++qij H (args.map (evF F))=is;rw [Qu h];rfl
def qmh (d:Nat) (f:FuncId) (args:List Opd):D1:=fun H c fr hp tr=>QX args fr fun xs=>match qh (hpf hp) xs with
 | some (ys,ids)=>fmP (faP 6) ys fun ys=>H.D f ys fun q=>match q with
   | .val r=>fmP fnP ids fun ft=>fmP fnP ((bif r.scalar then [] else gones ids).map (·.1)) fun wi=>wsP (bif r.scalar then [] else gones ids) hp fun hp=>trP tr (ft,wi) fun tr=>c ((d,r)::fr) hp tr
   | .made m sz cs=>fmP fnP ids fun ft=>fmP fnP ((JH cs ids++[(hp.length,HObj.cells cs)]).map (·.1)) fun wi=>fnP hp.length fun n=>wsP (JH cs ids++[(hp.length,.cells cs)]) hp fun hp=>trP tr (ft,wi) fun tr=>c ((d,.ms n 0 m sz)::fr) hp tr
   | .mapp _=>False
 | none=>False
def qDC:D1:=fun _ c=>c
def qqn (X Y:D1):D1:=fun H c=>X H (Y H c)
def dGd (j:Nat) (b:Bool) (u:FrL) (e:Tr) (X Y:D1):D1:=fun H c fr hp tr=>VN fr j fun v=>match v with
 | .v (.bool t)=>Bool.rec (motive:=fun _=>Prop) (qhL u fr fun fr=>flP (tr++e) fun tr=>Y H c fr hp tr) (X H (Y H c) fr hp tr) (Bool.rec (motive:=fun _=>Bool) (!b) b t)
 | .v (.tuple _)=>qhL u fr fun fr=>flP (tr++e) fun tr=>Y H c fr hp tr
 | _=>False
end
end Go.AM

set_option maxRecDepth 100000
namespace Go.AM
open Go.RowKit
theorem qb {n:Int} (h : -9223372036854775808<=n/\n<9223372036854775808):IntKind.i64.wrap n=n:=by simp [IntKind.wrap,IntKind.bits,IntKind.signed,Int.bmod];omega
variable {P:Program} {hp:List HObj} {K:AV->List (Nat × HObj)->Prop}
theorem qbu {l:List AV} (h:(l.all AV.isPC)=true) (k:Nat):((l.take k).all AV.isPC)=true:=by rw [List.all_eq_true] at *;exact fun x hx=>h x (List.mem_of_mem_take hx)
theorem qf2 {l:List AV} (h:(l.all AV.isPC)=true) (k:Nat):((l.drop k).all AV.isPC)=true:=by rw [List.all_eq_true] at *;exact fun x hx=>h x (List.mem_of_mem_drop hx)
theorem zA {sz : Nat} {id off n c l h m : Nat} {lo hi mx : Option AV} (hl : match lo with | none => l = 0 | some y => y = I l) (hh : match hi with | none => h = n | some y => y = I h)
 (hm:match mx with | none=>m=c | some y=>y=I m/\hi.isSome) (h1:l<=h) (h2:h<=m) (h3:m<=c) (k:K (.mc id (off+l*sz) (h - l) (m - l) sz) []):qpl sz (.mc id off n c sz) lo hi mx K :=
 ⟨_,_,⟨l,h,m,hl,hh,hm,h1,h2,h3,rfl,rfl,rfl⟩,k⟩
theorem qau {sz : Nat} {id off n l h : Nat} {lo hi mx : Option AV} (hl : match lo with | none => l = 0 | some y => y = I l) (hh : match hi with | none => h = n | some y => y = I h)
 (hm:match mx with | none=>True | some y=>∃ m:Nat,y=I m/\h<=m/\m<=n/\hi.isSome) (h1:l<=h) (h2:h<=n) (k:K (.ms id (off+l*sz) (h - l) sz) []):qpl sz (.ms id off n sz) lo hi mx K :=
 ⟨_,_,⟨l,h,hl,hh,h1,h2,rfl,hm,.inl rfl,rfl⟩,k⟩
theorem qjZ {sz bytes id off n c m : Nat} {y : AV} {ys cs : List AV} (hc : qz hp id = some (.cells cs)) (he : elems (hpf hp) sz y = some (m,ys)) (hp1 : (ys.all AV.isPC) = true) (h1 : off + (n + m) * sz <= cs.length)
 (hb:(n+m)*bytes<=140737488355328) (hb2:n+m<=140737488355328) (hr:n+m<=c) (k:K (.mc id off (n+m) c sz) [(id,.cells (splice cs (off+n*sz) ys))]):qpi hp sz bytes (.mc id off n c sz) y K:=by
 have hc:hpf hp id=some (.cells cs):=by rw [qk] at hc;exact hc
 refine ⟨m,ys,he,hp1,_,_,?_,k⟩;simp only [zl,hc];exact ⟨trivial,Nat.le_trans (Nat.add_le_add_left (Nat.mul_le_mul_right _ (Nat.le_add_right _ _)) _) h1,hb,hb2,.inl ⟨hr,h1,trivial,trivial⟩⟩
theorem WP {sz id off n c:Nat} {cs:List AV} (hc:qz hp id=some (.cells cs)) (h:off+n*sz<=cs.length):elems (hpf hp) sz (.mc id off n c sz)=some (n,qy cs off (n*sz)):=by
 have hc:hpf hp id=some (.cells cs):=by rw [qk] at hc;exact hc
 simp only [elems,hc];rw [if_pos ⟨trivial,h⟩]
theorem qjD {sz id off n c : Nat} {z cs : List AV} {F : Nat -> AV} {x : Opd} (hx : evF F x = .mc id off n c sz) (hc : qz hp id = some (.cells cs)) (h : off + n * sz <= cs.length) (k : K .any [(id,.cells (splice cs off (zE n z)))]) :
 (AOp.clr sz z x).wp P F hp K:=by
 have hc:hpf hp id=some (.cells cs):=by rw [qk] at hc;exact hc
 refine ⟨_,_,?_,k⟩;simp only [AOp.sem,hx];exact ⟨cs,hc,trivial,h,trivial,rfl⟩
theorem qAw {w g id off n sz v} (h:Rep w g false (.ms id off n sz) v):∃ c,n<=c/\Rep w g false (.mc id off n c sz) v:=by
 cases h with
 | ms _ _ _ _ c d cap arr ty fz hl hn hb hs=>exact ⟨cap,hn,.mc id off n cap sz c d arr ty fz hl hn hb hs⟩
 | msz _ _ _ a l hl=>exact ⟨0,Nat.le_refl _,.mcz id off sz a l hl⟩
theorem qeu {f:FuncId} {id off n sz:Nat} {xs:List AV} {KC:AV->List HObj->Prop} (h:∀ c,n<=c->qw P f (.mc id off n c sz::xs) hp KC):qw P f (.ms id off n sz::xs) hp KC:=by
 intro ro m w g vs hok hvs hrep;obtain ⟨c,hc,h0⟩:=qAw (hrep 0 (by simp));refine h c hc ro m w g vs hok hvs fun i hi=>?_;cases i with
 | zero=>exact h0
 | succ i=>exact hrep (i+1) (by simpa using hi)
theorem qhE {f:FuncId} {xs:List AV} {KC:AV->List HObj->Prop} (h:qw P f xs hp fun r hp'=>∃ id off n c sz,(r = .mc id off n c sz\/r = .ms id off n sz)/\KC (.ms id off n sz) hp'):qw P f xs hp KC:=by
 intro ro m w g vs hok hvs hrep;refine (h ro m w g vs hok hvs hrep).mono ?_;rintro e w' ⟨v,r,hp',g',rfl,⟨id,off,n,c,sz,hr,hk⟩,h1,h2,h3⟩;refine ⟨v,_,hp',g',rfl,hk,?_,h2,h3⟩;rcases hr with rfl | rfl
 . exact Xb h1
 exact h1
def qxw (by':Nat) (z:List AV):AC:=(.seq (.rgn [⟨none,[(.mv 6 (.k (.sl true 0 [])))]⟩] [0,1,2]) (.seq (.rgn [⟨none,[(.mv 8 (.t 0)),(.mv 9 (.t 1)),(.mv 10 (.t 2)),(.mv 11 (.t 0)),(.len 12 (.t 11)),(.slc 13 1 (.t 8) (some (.t 9)) (some (.t 10)) (some (.t 12)))]⟩] [0,1,2]) (.seq (.seq (.rgn [⟨none,[(.mv 14 (.t 1)),(.mv 15 (.t 2)),(.bin 16 .eql (.t 14) (.t 15))]⟩] [0,1,2,16]) (.cond (.t 16) (.seq (.rgn [⟨none,[(.mv 17 (.t 0)),(.mv 6 (.t 17))]⟩] [6]) .ret) .skip)) (.seq (.rgn [⟨none,[(.mv 18 (.t 0)),(.len 19 (.t 18)),(.mv 7 (.t 19))]⟩] [0,1,2,7]) (.seq (.drw [⟨none,[(.mv 20 (.t 0)),(.mv 21 (.t 1)),(.slc 22 1 (.t 20) none (some (.t 21)) none),(.mv 23 (.t 0)),(.mv 24 (.t 2)),(.slc 25 1 (.t 23) (some (.t 24)) none none),(.app 26 1 by' (.t 22) (.t 25)),(.mv 0 (.t 26))]⟩] [] [0,7]) (.seq (.rgn [⟨none,[(.mv 27 (.t 0)),(.mv 28 (.t 0)),(.len 29 (.t 28)),(.mv 30 (.t 7)),(.slc 31 1 (.t 27) (some (.t 29)) (some (.t 30)) none),(.clr 1 z (.t 31))]⟩] [0]) (.seq (.rgn [⟨none,[(.mv 32 (.t 0)),(.mv 6 (.t 32))]⟩] [6]) .ret)))))))
def jo (z:List AV) (cs:List AV) (off n i j:Nat):List AV:=cs.take (off+i)++(qy cs (off+j) (n - j)++(zE (j - i) z++cs.drop (off+n)))
theorem VI {z : List AV} (hz : z.length = 1) : ∀ k,(zE k z).length = k
 | 0=>rfl
 | k+1=>by simp [zE,VI hz k,hz];omega
theorem qhP {z cs:List AV} {off n i:Nat} (h:i<=n):jo z cs off n i i=cs:=by
 simp only [jo,qy,Nat.sub_self,zE,List.nil_append];have e:cs.drop (off+n)=(cs.drop (off+i)).drop (n - i):=by rw [List.drop_drop];congr 1;omega
 rw [e,List.take_append_drop,List.take_append_drop]
theorem qqq {z cs : List AV} {off n i j : Nat} (hz : z.length = 1) (hij : i <= j) (hjn : j <= n) (hcs : off + n <= cs.length) :
 splice (splice cs (off+i) (qy cs (off+j) (n - j))) (off+(i+(n - j))) (zE (j - i) z)=jo z cs off n i j:=by
 have hA:(cs.take (off+i)).length=off+i:=by simp;omega
 have hB:(qy cs (off+j) (n - j)).length=n - j:=by simp [qy];omega
 simp only [splice,jo,hB];generalize hBB:qy cs (off+j) (n - j)=B at hB ⊢;generalize hAA:cs.take (off+i)=A at hA ⊢;have e:off+(i+(n - j))=(A++B).length:=by simp [hA,hB];omega
 rw [e];have t1:∀ C:List AV,(A++B++C).take (A++B).length=A++B:=fun C=>by rw [List.take_left'];rfl
 have t2:∀ (C:List AV) k,(A++B++C).drop ((A++B).length+k)=C.drop k:=fun C k=>by rw [<-List.drop_drop,List.drop_left'];rfl
 rw [<-List.append_assoc A B,t1,t2,List.drop_drop,VI hz];rw [show off+i+(n - j)+(j - i)=off+n by omega];simp
theorem qgx {l:List HObj} {id:Nat} {o:HObj} (h:qz l id=some o):qn l id o=l:=by
 rw [qk] at h;have hlt:id<l.length:=qq h;rw [qn,if_pos hlt]
 exact List.ext_getElem? fun k => by
  rw [List.getElem?_set];by_cases e:id=k
  . subst e;rw [List.getElem?_eq_getElem hlt] at h;simp [hlt];exact (Option.some.inj h).symm
  simp [e]
theorem qeN {f : FuncId} {fn : Func} {by' : Nat} {z : List AV} (hf : P.funcs[f]? = some fn) (hform : qJ P fn [6] = some (qxw by' z)) (hr : qN fn.results.toList = some [6]) (hnt : 3 <= fn.ntmps) (hz : z.length = 1)
 {id off n i j:Nat} {cs:List AV} {KC:AV->List HObj->Prop} (hid:qz hp id=some (.cells cs)) (hij:i<=j) (hjn:j<=n) (hcs:off+n<=cs.length) (hpc:((qy cs (off+j) (n - j)).all AV.isPC)=true)
 (hb:n*by'<=140737488355328) (hb2:n<=140737488355328) (hK:KC (.ms id off (n - (j - i)) 1) (qn hp id (.cells (jo z cs off n i j)))):qw P f [.ms id off n 1,I i,I j] hp KC:=by
 refine qeu fun c hc=>qhE (qdL hf hform hr hnt ?_);simp (disch:=omega)[qxw];refine zA (l:=i) (h:=j) (m:=n) rfl rfl ⟨rfl,rfl⟩ hij hjn hc ?_;simp (disch:=omega)[qxw];refine Zk (fun h=>?_) (fun h=>?_)
 . have h : i = j := by simp at h; omega
   subst h;simp (disch:=omega);rw [qhP hjn,qgx hid,Nat.sub_self,Nat.sub_zero] at hK;exact ⟨id,off,n,c,1,by simp,hK⟩
 have h:i≠j:=by simp at h;omega
 simp (disch:=omega);refine zA (l:=0) (h:=i) (m:=c) rfl rfl rfl (by omega) (by omega) (Nat.le_refl _) ?_;simp (disch:=omega);refine zA (l:=j) (h:=n) (m:=c) rfl rfl rfl (by omega) (by omega) (Nat.le_refl _) ?_;simp (disch:=omega);refine qjZ hid (WP (by simpa using hid) (by omega)) (by simpa using hpc) (by omega) (Nat.le_trans (Nat.mul_le_mul_right _ (by omega)) hb) (by omega) (by omega) ?_;simp (disch:=omega);have hlt:id<hp.length:=by rw [qk] at hid;exact qq hid
 simp only [hlt,if_true];have hset:∀ o,qz (hp.set id o) id=some o:=fun o=>by rw [qk];simp [hpf,hlt]
 refine zA (l:=i+(n - j)) (h:=n) (m:=c) (by simp) rfl rfl (by omega) (by omega) (Nat.le_refl _) ?_;simp (disch:=omega);refine qjD rfl (hset _) ?_ ?_
 . simp;omega
 simp (disch:=omega)[hlt];refine ⟨id,off,i+(n - j),c,1,by simp,?_⟩;have e1:n - (i+(n - j))=j - i:=by omega
 have e2:n - (j - i)=i+(n - j):=by omega
 rw [<-qqq hz hij hjn hcs,e2,qn,if_pos hlt] at hK;have e3:min (n - j) (cs.length - (off+j))=n - j:=by omega
 simp [e1,e3] at hK ⊢;exact hK
end Go.AM

namespace Go.AM
open Go.RowKit
abbrev Ls (f:Bool) (l:List Int):AV := .sl f l.length (l.map fun n=>I n)
@[simp high] theorem qAt (l:List Int):(l.map fun n=>I n).all AV.isPC=true:=by simp [List.all_eq_true]
@[simp high] theorem X9 (l:List Int):(l.map fun n=>I n).all AV.isPure=true:=by simp [List.all_eq_true]
def Small (l:List Int):Prop:=∀ x∈l,-1000000<=x/\x<=1000000
theorem Small.at {l:List Int} (h:Small l) {i:Nat} (hi:i<l.length) : -1000000<=l[i]/\l[i]<=1000000:=h _ (List.getElem_mem hi)
theorem ZJ {hp:List HObj} {ws:List (Nat × HObj)} (h:∀ p∈ws,p.1<=hp.length) (i:Nat):qz (qc hp ws) i=Hp.write (hpf hp) ws i:=by rw [qk];exact congrFun (zh h) i
def qoD : AV -> AV
 | .sl _ n cs => .sl false n cs
 | x=>x
def weak : AV -> AV
 | .tup vs => .tup (vs.map qoD)
 | .agg vs => .agg (vs.map qoD)
 | x=>qoD x
theorem qS {hp:List HObj} {id:Nat} {o:HObj} (h:id<hp.length):qz (hp.set id o) id=some o:=by rw [qk,List.getElem?_set_self h]
theorem qX {hp:List HObj} {id j:Nat} {o:HObj} (h:id≠j):qz (hp.set id o) j=qz hp j:=by rw [qk,qk,List.getElem?_set_ne h]
def rid : AV -> Option Nat
 | .ms id _ _ _=>some id
 | _=>none
def RowIs (hp:List HObj) (x:AV) (l:List Int):Prop :=
 (x = .sl true 0 []/\l=[])\/∃ id off cs,x = .ms id off l.length 1/\qz hp id=some (.cells cs)/\off+l.length<=cs.length/\qy cs off l.length=l.map fun n=>I n
def Fr (hp hp':List HObj) (o:Nat->Prop):Prop:=hp.length<=hp'.length/\∀ i,i<hp.length->¬ o i->qz hp' i=qz hp i
theorem Fr.refl (hp:List HObj) (o:Nat->Prop):Fr hp hp o:=⟨Nat.le_refl _,fun _ _ _=>rfl⟩
theorem qL {hp:List HObj} {i:Nat} {o:HObj} (h:qz hp i=some o):i<hp.length:=by rw [qk] at h;exact qq h
theorem RowIs.lt {hp x l i} (h:RowIs hp x l) (hi:rid x=some i):i<hp.length:=by
 rcases h with ⟨rfl,_⟩ | ⟨id,off,cs,rfl,h2,_⟩
 . cases hi
 cases hi;exact qL h2
theorem RowIs.mono {hp H x l} (h:RowIs hp x l) (hk:∀ i,rid x=some i->qz H i=qz hp i):RowIs H x l:=by
 rcases h with h | ⟨id,off,cs,rfl,h2,h3⟩
 . exact .inl h
 exact .inr ⟨id,off,cs,rfl,(hk id rfl).trans h2,h3⟩
section
variable {hp:List HObj} {K:AV->List (Nat × HObj)->Prop}
end
def AccR (hp:List HObj) (x:AV) (l:List Int):Prop:=(x = .sl true 0 []/\l=[])\/∃ id,x = .ms id 0 l.length 1/\l≠[]/\qz hp id=some (.cells (l.map fun n=>I n))
theorem AccR.row {hp x l} (h:AccR hp x l):RowIs hp x l:=by
 rcases h with h | ⟨id,rfl,_,h⟩
 . exact .inl h
 exact .inr ⟨id,0,_,rfl,h,by simp,by simp [qy];rw [List.take_of_length_le (by simp)]⟩
theorem AccR.mono {hp H x l} (h:AccR hp x l) (hk:∀ i,rid x=some i->qz H i=qz hp i):AccR H x l:=by
 rcases h with h | ⟨id,rfl,h1,h2⟩
 . exact .inl h
 exact .inr ⟨id,rfl,h1,(hk id rfl).trans h2⟩
theorem qBT {P : Program} {E : HE} {g : Opd} {ps ks : List Nat} {x y : AC} {fr : List (Nat × AV)} {hp : List HObj} {Q : Exit -> St -> Prop} {K0 : List HObj -> Prop}
 (h1 : E.R (evF (get fr) g) hp (fun xs hp' K => hpf hp' hp.length = some (.lp .ready (hp.length + 1)) /\ xs.length = ps.length /\
       AWP P E x { fr := putPs ps xs fr,hp := hp' } (Exit.th (fun st1 => hpf st1.hp hp.length = some (.lp .ready (hp.length + 1)) /\
        AWP P E y { fr:=st1.fr,hp:=qn st1.hp hp.length (.lp .busy (hp.length+1)) } (ZT hp.length K)) (fun _ _=>False))) K0)
 (h2:∀ hp',K0 hp'->Jf hp.length fr ks Q hp') (hn:(x.noRf&&y.noRf)=true:=by rfl):AWP P E (.rf g ps x y ks) ⟨fr,hp⟩ Q:=⟨hn,K0,h1,h2⟩
theorem Qd (hp:List HObj) (i:Nat):hpf hp i=qz hp i:=(qk hp i).symm
theorem qbz {id:Nat} {fr:List (Nat × AV)} {ks:List Nat} {Q:Exit->St->Prop} {hp:List HObj} {m:Nat} (h:qz hp id=some (.lp .ready m)) (hq:Q .normal (St.keep { fr:=fr,hp:=hp.set id .gone } ks)):Jf id fr ks Q hp:=by simp only [Jf,Qd,h];have:=qL h;simp only [qn,this,if_true];exact hq
theorem AccR.pur {hp x l} (h:AccR hp x l):∃ f ids,qv (hpf hp) x=some (Ls f l,ids)/\∀ i∈ids,rid x=some i/\i<hp.length:=by
 rcases h with ⟨rfl,rfl⟩ | ⟨id,rfl,_,h2⟩
 . exact ⟨true,[],rfl,fun i hi=>by simp at hi⟩
 refine ⟨false,[id],?_,fun i hi=>by simp at hi;subst hi;exact ⟨rfl,qL h2⟩⟩;simp only [qv,qF];rw [J5 (by rw [Qd];exact h2) ⟨by simp,X9 l⟩];simp only [qy,List.drop_zero,Nat.mul_one];rw [List.take_of_length_le (by simp)]
theorem qrM {hp:List HObj} {id n:Nat} {l:List Int} (h:qz hp id=some (.cells (l.map fun n=>I n))) (hn:n=l.length):qv (hpf hp) (.ms id 0 n 1)=some (Ls false l,[id]):=by subst hn;simp only [qv,qF];rw [J5 (by rw [Qd];exact h) ⟨by simp,X9 l⟩];simp only [qy,List.drop_zero,Nat.mul_one];rw [List.take_of_length_le (by simp)]
def MkR (hp:List HObj) (x:AV) (l:List Int):Prop:=(x = .sl true 0 []/\l=[])\/∃ id,x = .ms id 0 l.length 1/\qz hp id=some (.cells (l.map fun n=>I n))
theorem AccR.mk {hp x l} (h:AccR hp x l):MkR hp x l:=by
 rcases h with h | ⟨id,h1,_,h2⟩
 . exact .inl h
 exact .inr ⟨id,h1,h2⟩
theorem MkR.row {hp x l} (h:MkR hp x l):RowIs hp x l:=by
 rcases h with h | ⟨id,rfl,h⟩
 . exact .inl h
 exact .inr ⟨id,0,_,rfl,h,by simp,by simp [qy];rw [List.take_of_length_le (by simp)]⟩
theorem MkR.mono {hp H x l} (h:MkR hp x l) (hk:∀ i,rid x=some i->qz H i=qz hp i):MkR H x l:=by
 rcases h with h | ⟨id,rfl,h2⟩
 . exact .inl h
 exact .inr ⟨id,rfl,(hk id rfl).trans h2⟩
theorem MkR.pur {hp x l} (h:MkR hp x l):∃ f ids,qv (hpf hp) x=some (Ls f l,ids)/\∀ i∈ids,rid x=some i/\i<hp.length:=by
 rcases h with ⟨rfl,rfl⟩ | ⟨id,rfl,h2⟩
 . exact ⟨true,[],rfl,fun i hi=>by simp at hi⟩
 exact ⟨false,[id],qrM h2 rfl,fun i hi=>by simp at hi;subst hi;exact ⟨rfl,qL h2⟩⟩
def Fzn (hp:List HObj) (ids:List Nat) (fr fr':List (Nat × AV)):Prop :=
 ∀ t,get fr' t=get fr t\/∃ is,qv (hpf hp) (get fr t)=some (get fr' t,is)/\∀ i∈is,i∈ids
theorem Fzn.refl {hp ids fr}:Fzn hp ids fr fr:=fun _ => .inl rfl
theorem Fzn.keep {hp ids fr fr'} {k:Nat} {x:AV} (h:Fzn hp ids fr fr'):Fzn hp ids ((k,x)::fr) ((k,x)::fr'):=fun t=>by
 rw [Jp,Jp];split
 . exact .inl rfl
 exact h t
theorem Fzn.new {hp ids fr fr'} {k:Nat} {x y:AV} {is:List Nat} (hx:qv (hpf hp) x=some (y,is)) (hs:∀ i∈is,i∈ids) (h:Fzn hp ids fr fr'):Fzn hp ids ((k,x)::fr) ((k,y)::fr'):=fun t=>by
 rw [Jp,Jp];split
 . exact .inr ⟨is,hx,hs⟩
 exact h t
theorem qfH {fr fr':List (Nat × AV)} {hp:List HObj} {ids:List Nat} (h:Fzn hp ids fr fr') (hids:∀ i∈ids,∃ cs,hpf hp i=some (.cells cs)):St.le ⟨fr,hp⟩ ⟨fr',qc hp (gones ids)⟩:=by
 rintro N a w g ⟨h1,hF,hok⟩;obtain ⟨hokA,updA⟩:=hok.giveAll ids hids;have e:hpf (qc hp (gones ids))=Hp.write (hpf hp) (gones ids):=zh fun p hp=>by simp only [gones,List.mem_map] at hp;obtain ⟨i,hi,rfl⟩:=hp;obtain ⟨cs,hcs⟩:=hids i hi;exact Nat.le_of_lt (qq hcs)
 refine ⟨_,⟨h1,?_,by rw [e];exact hokA⟩,by rw [e];exact updA⟩;intro t;rcases h t with h | ⟨is,h,hs⟩
 . show Rep _ _ _ (get fr' t) _;rw [h];exact (hF t).mono updA.tr
 exact (jC hok h hs (hF t)).of
theorem qdj {hp : Hp} {g : G} {w : World} (h : HeapOK hp g w) {id : Nat} {cs cs' : List AV} {is : List Nat} (h1 : hp id = some (.cells cs)) (h2 : zD hp cs = some (cs',is)) (hid : id ∉ is)
 (hids:∀ i∈is,∃ cs,hp i=some (.cells cs)) (hrep:cs'.length=cs.length/\∀ j (hj:j<cs.length) (hj':j<cs'.length) v,Rep w g false cs[j] v->Rep w (g.pub (zK hp g is)) true cs'[j] v) :
 HeapOK (Hp.set (Hp.write hp (gones is)) id (.cells cs')) (g.pub (zK hp g is)) w/\Upd hp g w (Hp.set (Hp.write hp (gones is)) id (.cells cs')) (g.pub (zK hp g is)) w:=by
 obtain ⟨hokA,updA⟩:=h.giveAll is hids;have hA:Hp.write hp (gones is) id=some (.cells cs):=by rw [zw,if_neg hid];exact h1
 obtain ⟨l0,r1,r2⟩:=hokA.rep id _ hA;have T:=updA.tr;have hl0:g.ρ id=some l0:=r1;obtain ⟨l1,s1,s2⟩:=h.rep id _ h1;rw [hl0] at s1;cases s1
 have new:HRep w (g.pub (zK hp g is)) (.cells cs') l0:=by
  cases l0 with
  | virg =>have e:cs=[]:=s2;have:cs'=[]:=List.eq_nil_of_length_eq_zero (by rw [hrep.1,e];rfl);exact this
  | base L=>exact r2.elim
  | blk c d =>
    obtain ⟨arr,ty,fz,a1,a2,a3,a4,a5⟩:=r2;obtain ⟨arr',ty',fz',b1,b2,b3,b4,b5⟩:=s2;rw [a1] at b1;cases b1;refine ⟨arr,ty,fz,a1,by rw [hrep.1];exact a2,a3,a4,fun i hi=>?_⟩;have hi':i<cs.length:=by rw [<-hrep.1];exact hi
    obtain ⟨x,x1,x2⟩:=b5 i hi';exact ⟨x,x1,(hrep.2 i hi' hi x x2).of⟩
 have tr:Trans w (g.pub (zK hp g is)) w (g.pub (zK hp g is)) := .refl _ _;have live:(HObj.cells cs').live=(HObj.cells cs).live:=rfl;refine ⟨hokA.change (fun i=>i=id) tr (fun i hi=>Hp.set_other _ _ hi) (fun _ _=>rfl) (fun _ _ _ _ _ _ _ _=>rfl) (fun _ _ _ _ _ _ _ _ _ hq=>hq) ?_ ?_ hokA.ex,updA.trans ⟨tr,?_,fun b q hs => .inl hs,fun b hb _=>rfl⟩⟩
 . rintro i rfl;exact ⟨_,l0,Hp.set_same _ _ _,r1,new⟩
 . intro i i' o o' c d d' hi ho ho' hl hl' hr hr';subst hi;by_cases e:i'=i
   . exact e.symm
   rw [Hp.set_other _ _ e] at ho';exact hokA.inj i i' _ o' c d d' hA ho' rfl hl' hr hr'
 rintro c ⟨i,o,d,ho,hl,hr⟩;by_cases e:i=id
 . subst e;exact .inl ⟨i,_,d,hA,rfl,hr⟩
 rw [Hp.set_other _ _ e] at ho;exact .inl ⟨i,o,d,ho,hl,hr⟩
theorem Jq {P:Program} {E:HE} {c:AC} {st:St} {K:Exit->St->Prop} (h:∀ K',K'=K->AWP P E c st K'):AWP P E c st K:=h K rfl
variable {P:Program}
def AWS (P:Program) (ac:AC) (st:St) (Q:Exit->St->Prop):Prop :=
 ∀ (N : Nat) (c : Go.Code) (a : Act) (w : World) (g : G) (R : Exit -> Act -> World -> Prop) (ro : Option Nat) (n : Nat),
   VL P N c ac->(ro=none\/ac.noRf=true)->Sim N st a w g->XL N st a w g Q R->c.wpIn (W ro) n P R a w
theorem qeb {ac:AC} {st:St} {Q:Exit->St->Prop} (h:AWP P (E1 P) ac st Q):AWS P ac st Q:=fun N c a w g R ro n hf hr hs hl =>
 q6 (E:=E1 P) (w1:=w) (g1:=g) qjH qr5 hf hr h (.refl _ _) hs hl
theorem qec {x y:AC} {st:St} {Q:Exit->St->Prop} (h:AWS P x st (Exit.th (fun st=>AWS P y st Q) Q)):AWS P (.seq x y) st Q:=fun N c a w g R ro n hf hr hs hl=>by
 cases c <;> first | exact hf.elim | skip
 rename_i c1 c2;have hr1:ro=none\/x.noRf=true:=hr.imp (fun h=>h) (fun h=>by simp [AC.noRf] at h;exact h.1);have hr2:ro=none\/y.noRf=true:=hr.imp (fun h=>h) (fun h=>by simp [AC.noRf] at h;exact h.2);refine wpIn_seq (h _ _ _ _ _ _ _ _ hf.1 hr1 hs fun e st' a' w' g' hq hs' hu hd=>?_);cases e with
 | normal=>exact hq _ _ _ _ _ _ _ _ hf.2 hr2 hs' (fun e st2 a2 w2 g2 q2 s2 u2 d2=>hl e st2 a2 w2 g2 q2 s2 (hu.trans u2) (hd.trans hu.tr.size u2 d2))
 | _=>exact hl _ _ _ _ _ hq hs' hu hd
theorem ZD {x y:AC} {st:St} {Q:Exit->St->Prop} (h:AWP P (E1 P) x st (Exit.th (fun st=>AWS P y st Q) Q)):AWS P (.seq x y) st Q:=qec (qeb h)
theorem XU {f : FuncId} {fn : Func} {ac : AC} {ts : List Nat} {xs : List AV} {hp : List HObj} {K : AV -> List HObj -> Prop} (hf : P.funcs[f]? = some fn) (hc : qJ P fn ts = some ac) (hr : qN fn.results.toList = some ts)
 (hl:xs.length<=fn.ntmps) (h:AWS P ac { fr:=Zn 0 xs,hp:=hp } (qly ts K)):qw P f xs hp K:=by
 simp only [qJ,Option.map_eq_some_iff] at hc;obtain ⟨c,hb,rfl⟩:=hc;have hfit:=zR (P:=P) (N:=fn.ntmps) (rt:=ts) (ex:=[]) (l:=ts) (ze c);have hr:=JB (P:=P) hr;rw [<-qal] at h;intro ro n w g vs hok hvs hrep
 have go : CallsIn (W none) n P f vs w fun e w' => ∃ v r hp' g', e = .returned v /\ K r hp' /\ Rep w' g' false r v /\ HeapOK (hpf hp') g' w' /\ Upd (hpf hp) g w (hpf hp') g' w' := by
  refine callsIn_of_wp_marks hf hb trivial (h _ _ _ _ g _ _ _ hfit (.inl rfl) ?_ ?_) rfl
  . refine ⟨by simp [hvs]; omega,fun t => ?_,hok⟩;show Rep w g false (get (Zn 0 xs) t) _;rw [Jh];simp only [Nat.zero_le,if_true,Nat.sub_zero];by_cases ht:t<xs.length
    . have e1 : xs.getD t .any = xs[t] := by simp [ht]
      rw [e1];have:=hrep t ht;simp only [Array.getD_eq_getD_getElem?] at this ⊢;rw [Array.getElem?_append_left (by omega)];exact this
    have e1:xs.getD t .any = .any:=by simp [Nat.le_of_not_lt ht]
    rw [e1];exact .any _ _
  intro e st' a' w' g' hq hs hu hd;obtain ⟨ms,d1,d2,d3⟩:=hd;simp only [List.append_nil] at d1;have fin:(∃ xs,qak (hpf st'.hp) st'.fr (ts.map (·,none)) xs/\K (VR xs) st'.hp)->LeavesInM (W none) n P fn a'.tmps (fun e w'=>∃ v r hp' g',e = .returned v/\K r hp'/\Rep w' g' false r v/\HeapOK (hpf hp') g' w'/\Upd (hpf hp) g w (hpf hp') g' w') a'.defers .returning w':=fun ⟨ys,hy,hK⟩=>by rw [d1];obtain ⟨k1,k2,k3⟩:=jD ms w' d2 d3 hs.2.2 hu;refine Zd ms w' d2 (fun D hD=>(d3 D hD).2.1) ?_;obtain ⟨v,j1,j2⟩:=jh (P:=P) k1 (fun i=>(hs.2.1 i).mono k3) hr hy;exact ⟨v,j1,v,_,_,g',rfl,hK,j2,k1,k2⟩
  cases e with
  | normal=>exact fin hq
  | ret=>exact fin hq
  | _=>exact hq.elim
 exact go
variable {P:Program}
def RowM (hp:List HObj) (x:AV) (l:List Int):Prop:=∃ id off cs,x = .ms id off l.length 1/\qz hp id=some (.cells cs)/\off+l.length<=cs.length/\qy cs off l.length=(l.map fun n=>I n)/\(cs.all AV.isPC)=true
theorem RowM.row {hp x l} (h:RowM hp x l):RowIs hp x l:=by obtain ⟨id,off,cs,h1,h2,h3,h4,_⟩:=h;exact .inr ⟨id,off,cs,h1,h2,h3,h4⟩
theorem qcj {l:List AV} (h:(l.all AV.isPC)=true):(l.all AV.isPure)=true:=by rw [List.all_eq_true] at h ⊢;exact fun x hx=>J4 (h x hx)
theorem RowM.mono {hp H x l} (h:RowM hp x l) (hk:∀ i,rid x=some i->qz H i=qz hp i):RowM H x l:=by obtain ⟨id,off,cs,rfl,h1,h2⟩:=h;exact ⟨id,off,cs,rfl,(hk id rfl).trans h1,h2⟩
theorem RowM.lt {hp x l i} (h:RowM hp x l) (hi:rid x=some i):i<hp.length:=h.row.lt hi
theorem RowM.pur {hp x l} (h:RowM hp x l):∃ ids,qv (hpf hp) x=some (Ls false l,ids):=by obtain ⟨id,off,cs,rfl,h1,h2,h3,h4⟩:=h;refine ⟨[id],?_⟩;simp only [qv,qF];rw [J5 (by rw [Qd];exact h1) ⟨by rw [Nat.mul_one];exact h2,qcj h4⟩,Nat.mul_one,h3]
def pwN (i:Nat):Nat:=2 ^ i
def orN (a c:Nat):Nat:=a ||| c
theorem qf7 {i:Nat} (h:i<=59):pwN i<2 ^ 60:=Nat.pow_lt_pow_right (by decide) (by omega)
section
variable {K:AV->List (Nat × HObj)->Prop}
end
end Go.AM

namespace Go.AM
open Go.RowKit
def AccG (hp:List HObj) (x:AV) (sz n:Nat) (cs:List AV):Prop :=
 (x = .sl true 0 []/\n=0/\cs=[])\/∃ id,x = .ms id 0 n sz/\0<n/\qz hp id=some (.cells cs)/\cs.length=n*sz/\(cs.all AV.isPC)=true
theorem AccG.nil {hp sz}:AccG hp (.sl true 0 []) sz 0 [] := .inl ⟨rfl,rfl,rfl⟩
theorem AccG.mono {hp H x sz n cs} (h:AccG hp x sz n cs) (hk:∀ i,rid x=some i->qz H i=qz hp i):AccG H x sz n cs:=by
 rcases h with h | ⟨id,rfl,h1,h2,h3⟩
 . exact .inl h
 exact .inr ⟨id,rfl,h1,(hk id rfl).trans h2,h3⟩
theorem AccG.lt {hp x sz n cs i} (h:AccG hp x sz n cs) (hi:rid x=some i):i<hp.length:=by
 rcases h with ⟨rfl,_⟩ | ⟨id,rfl,_,h2,_⟩
 . cases hi
 cases hi;exact qL h2
theorem AccG.len {hp x sz n cs} (h:AccG hp x sz n cs):cs.length=n*sz:=by
 rcases h with ⟨_,rfl,rfl⟩ | ⟨id,_,_,_,h,_⟩
 . simp
 exact h
theorem AccG.pc {hp x sz n cs} (h:AccG hp x sz n cs):(cs.all AV.isPC)=true:=by
 rcases h with ⟨_,_,rfl⟩ | ⟨id,_,_,_,_,h⟩
 . rfl
 exact h
theorem AccG.pur {hp x sz n cs} (h:AccG hp x sz n cs):∃ ids,qv (hpf hp) x=some (.sl (decide (n=0)) n cs,ids)/\∀ i∈ids,rid x=some i/\i<hp.length:=by
 rcases h with ⟨rfl,rfl,rfl⟩ | ⟨id,rfl,h0,h2,h3,h4⟩
 . exact ⟨[],rfl,by simp⟩
 refine ⟨[id],?_,by simp [rid,qL h2]⟩;simp only [qv,qF];rw [J5 (by rw [Qd];exact h2) ⟨by omega,qcj h4⟩,decide_eq_false (by omega)];simp only [qy,List.drop_zero];rw [List.take_of_length_le (by omega)]
theorem qhl {hp : List HObj} {x : AV} {sz bytes n : Nat} {cs ys : List AV} {g : Bool} {K : AV -> List (Nat × HObj) -> Prop} (h : AccG hp x sz n cs) (hn : n <= 100000000) (hb : bytes <= 1000) (hy : ys.length = sz) (hpc : (ys.all AV.isPC) = true)
 (hK:∀ ws,(∀ i,i<hp.length->rid x≠some i->qz (qc hp ws) i=qz hp i)->hp.length<(qc hp ws).length->AccG (qc hp ws) (.ms hp.length 0 (n+1) sz) sz (n+1) (cs++ys)->K (.ms hp.length 0 (n+1) sz) ws) :
 qpi hp sz bytes x (.sl g 1 ys) K:=by
 have bd:(n+1)*bytes<=140737488355328:=Nat.le_trans (Nat.mul_le_mul (show n+1<=100000001 by omega) hb) (by decide);rcases h with ⟨rfl,rfl,rfl⟩ | ⟨id,rfl,h0,h2,h3,h4⟩
 . rw [qj1];have hn:qz (qc hp [(hp.length,HObj.cells ([]++ys))]) hp.length=some (.cells ([]++ys)):=by rw [ZJ (by simp)];simp [Hp.write,Hp.set_same]
   refine ⟨⟨rfl,by omega,hpc,by simp,bd,by omega,.inl rfl⟩,hK _ (fun i hi _=>?_) (qL hn) (.inr ⟨hp.length,rfl,by omega,hn,by simp [hy],by simpa using hpc⟩)⟩;rw [ZJ (by simp),qk];simp only [Hp.write];rw [Hp.set_other _ _ (by omega)];rfl
 have hlt:=qL h2;rw [qj0,h2,XN];have hv:qy cs 0 (n*sz)=cs:=by simp only [qy,List.drop_zero];rw [List.take_of_length_le (by omega)]
 rw [hv];have hn:qz (qc hp [(id,HObj.gone),(hp.length,HObj.cells (cs++ys))]) hp.length=some (.cells (cs++ys)):=by rw [ZJ (by simp;omega)];simp only [Hp.write,Hp.set_same]
 refine ⟨⟨by omega,hpc,rfl,by omega,bd,by omega⟩,hK _ (fun i hi hr=>?_) (qL hn) (.inr ⟨hp.length,rfl,by omega,hn,?_,?_⟩)⟩
 . rw [ZJ (by simp;omega),qk];simp only [Hp.write];rw [Hp.set_other _ _ (by omega),Hp.set_other _ _ (fun e=>hr (by rw [e];rfl))];rfl
 . rw [List.length_append,h3,hy,Nat.add_mul,Nat.one_mul]
 rw [List.all_append,h4,hpc];rfl
theorem Xa {fr fr' : List (Nat × AV)} {hp : List HObj} {id : Nat} {cs cs' : List AV} {is : List Nat} (h1 : qz hp id = some (.cells cs)) (h2 : zD (hpf hp) cs = some (cs',is)) (hid : id ∉ is) (hf : Fzn hp is fr fr') :
 St.le ⟨fr,hp⟩ ⟨fr',qc hp (gones is++[(id,.cells cs')])⟩:=by
 rintro N a w g ⟨k1,hF,hok⟩;have hids:=ZL h2;obtain ⟨q1,q2⟩:=qdj hok (by rw [qk] at h1;exact h1) h2 hid hids (ZN hok h2 fun i h=>h)
 have lt : ∀ p ∈ gones is ++ [(id,HObj.cells cs')],p.1 <= hp.length := fun p hp' => by
  rw [List.mem_append] at hp';rcases hp' with hp' | hp'
  . simp only [gones,List.mem_map] at hp';obtain ⟨i,hi,rfl⟩:=hp';obtain ⟨cs,hcs⟩:=hids i hi;exact Nat.le_of_lt (qq hcs)
  simp at hp';subst hp';exact Nat.le_of_lt (qL h1)
 have e:hpf (qc hp (gones is++[(id,.cells cs')]))=Hp.set (Hp.write (hpf hp) (gones is)) id (.cells cs'):=by rw [zh lt,ZA]
 refine ⟨_,⟨k1,?_,by rw [e];exact q1⟩,by rw [e];exact q2⟩;intro t;rcases hf t with h | ⟨js,h,hs⟩
 . show Rep _ _ _ (get fr' t) _;rw [h];exact (hF t).mono q2.tr
 exact (jC hok h hs (hF t)).of
section
variable {P:Program} {F:Nat->AV} {hp:List HObj} {K:AV->List (Nat × HObj)->Prop}
theorem qsh {d sz ln:Nat} {x:Opd} {id off:Nat} {cs:List AV} (hx:evF F x = .ref id off) (h:qz hp id=some (.cells cs)) (hl:off+ln*sz<=cs.length) (k:K (.mc id off ln ln sz) []):(AOp.slp d sz ln x none none none).wp P F hp K:=by refine ⟨_,_,?_,k⟩;simp only [AOp.sem,hx,Qd,h];exact ⟨0,ln,ln,(by first | rfl | trivial),(by first | rfl | trivial),(by first | rfl | trivial),Nat.zero_le _,Nat.le_refl _,Nat.le_refl _,hl,by simp,(by first | rfl | trivial)⟩
theorem qqi {sz:Nat} {z:List AV} {x:Opd} {id off n c:Nat} {cs:List AV} (hx:evF F x = .mc id off n c sz) (h:qz hp id=some (.cells cs)) (hl:off+n*sz<=cs.length) (k:K .any [(id,.cells (splice cs off (zE n z)))]):(AOp.clr sz z x).wp P F hp K:=by refine ⟨_,_,?_,k⟩;simp only [AOp.sem,hx,Qd,h];exact ⟨cs,(by first | rfl | trivial),(by first | rfl | trivial),hl,(by first | rfl | trivial),(by first | rfl | trivial)⟩
end
section
variable {P:Program} {E:HE} {w1:World} {g1:G}
def qcO (P:Program) (w1:World) (g1:G) (ac:AC) (st:St) (Q:Exit->St->Prop):Prop :=
 ∀ (N : Nat) (c : Go.Code) (a : Act) (w : World) (g : G) (R : Exit -> Act -> World -> Prop) (ro : Option Nat) (n : Nat),
   VL P N c ac->(ro=none\/ac.noRf=true)->Trans w1 g1 w g->Sim N st a w g->XL N st a w g Q R->c.wpIn (W ro) n P R a w
theorem qed (hY:YS P E w1 g1) (hR:RS P E) {ac:AC} {st:St} {Q:Exit->St->Prop} (h:AWP P E ac st Q):qcO P w1 g1 ac st Q:=fun N c a w g R ro n hf hr ht hs hl=>q6 hY hR hf hr h ht hs hl
theorem qhr {x y:AC} {st:St} {Q:Exit->St->Prop} (h:qcO P w1 g1 x st (Exit.th (fun st=>qcO P w1 g1 y st Q) Q)):qcO P w1 g1 (.seq x y) st Q:=fun N c a w g R ro n hf hr ht hs hl=>by
 cases c <;> first | exact hf.elim | skip
 rename_i c1 c2;have hr1:ro=none\/x.noRf=true:=hr.imp (fun h=>h) (fun h=>by simp [AC.noRf] at h;exact h.1);have hr2:ro=none\/y.noRf=true:=hr.imp (fun h=>h) (fun h=>by simp [AC.noRf] at h;exact h.2);refine wpIn_seq (h _ _ _ _ _ _ _ _ hf.1 hr1 ht hs fun e st' a' w' g' hq hs' hu hd=>?_);cases e with
 | normal=>exact hq _ _ _ _ _ _ _ _ hf.2 hr2 (ht.trans hu.tr) hs' (fun e st2 a2 w2 g2 q2 s2 u2 d2=>hl e st2 a2 w2 g2 q2 s2 (hu.trans u2) (hd.trans hu.tr.size u2 d2))
 | _=>exact hl _ _ _ _ _ hq hs' hu hd
theorem XP {x:AC} {st:St} {Q Q':Exit->St->Prop} (hQ:∀ e st,Q e st->Q' e st) (h:qcO P w1 g1 x st Q):qcO P w1 g1 x st Q':=fun N c a w g R ro n hf hr ht hs hl =>
 h N c a w g R ro n hf hr ht hs fun e st a w g q=>hl e st a w g (hQ e st q)
theorem qaW {f:FuncId} {xs:List AV} {hp:List HObj} {K:AV->List HObj->Prop} (h:∀ w1 g1,VK P w1 g1 f xs hp K):qw P f xs hp K:=fun ro n w g vs a b c=>h w g ro n w g vs a (.refl _ _) b c
theorem VV {f:FuncId} {xs:List AV} {hp:List HObj} {K K':AV->List HObj->Prop} (hk:∀ r H,K r H->K' r H) (h:VK P w1 g1 f xs hp K):VK P w1 g1 f xs hp K':=fun ro n w g vs a t b c =>
 (h ro n w g vs a t b c).mono fun e w' ⟨v,r,hp',g',e1,e2,e3⟩=>⟨v,r,hp',g',e1,hk _ _ e2,e3⟩
theorem qaX {f:FuncId} {xs:List AV} {hp:List HObj} {K K':AV->List HObj->Prop} (hk:∀ r H,K r H->K' r H) (h:qw P f xs hp K):qw P f xs hp K':=fun ro n w g vs a b c =>
 (h ro n w g vs a b c).mono fun e w' ⟨v,r,hp',g',e1,e2,e3⟩=>⟨v,r,hp',g',e1,hk _ _ e2,e3⟩
def qaG (P:Program) (E:HE) (w1:World) (g1:G) (o:AOp) (st:St) (K:St->Prop):Prop:=match o with
 | .call d f args=>VK P w1 g1 f (args.map (evF (get st.fr))) st.hp fun r hp'=>K { fr:=(d,r)::st.fr,hp:=hp' }
 | o=>aop P E o st K
theorem qaZ {N n : Nat} {ro : Option Nat} {o : Oper} {ao : AOp} (hc : zI P N o = some ao) {st : St} {K : St -> Prop} (h : qaG P E w1 g1 ao st K) {a : Act} {w : World} {g : G} (hY : YS P E w1 g1) (hg1 : Trans w1 g1 w g) (hs : Sim N st a w g)
 {next:Act->World->Prop} {Q:Exit->Act->World->Prop} (hn:qxx N st a w g K next):o.wpIn (W ro) n P a w next Q:=by
 cases ao with
 | call d f qs =>
   obtain ⟨args,ats,ho,hd,hlt,hf,hq⟩:=XY hc;obtain ⟨l1,l2⟩:=QR hq;refine ⟨fun _ _=>trivial,?_⟩;rw [Oper.semAt_eq _ _ _ (by rw [ho];simp)];have hrun:(execOp a.eval o).run P w = .ok (.enter f (args.map a.eval)) w:=by simp [execOp,ho,resolve,Act.eval,Deferred.ofValue,invoke,zo hf]
   rw [hrun];refine ⟨fun h=>by simp [Fence.wide] at h,?_⟩;refine (h ro (n - 1) w g (args.map a.eval) hs.2.2 hg1 (by simp [l1]) (fun i hi=>?_)).mono ?_
   . simp at hi;have:=qi hs.2.1 (l2 i (by omega) hi);simpa [show i<args.size by simp at l1;omega] using this
   rintro e w' ⟨v,r,hp',g',rfl,hK,hr,hok,hu⟩;refine hn _ _ w' g' hK ?_ hu (qV _ _ _);have:=hs.step (d:=some d) (fun k e=>by cases e;exact hlt) hu hr hok;rw [hd];exact this
 | _=>exact Zm hc h hY hg1 hs hn
end
def jO (X:Nat->Bool) (i:Nat):Nat->Bool:=fun j=>if j=i then true else X j
section
variable {P:Program} {n:Nat} {ro:Option Nat} {ops:Array Oper} {pre:List (List Nat)}
theorem qd9 {Q : Exit -> Act -> World -> Prop}
 (ed:∀ k (hk:k<ops.size),∀ e∈ops[k].after,Region.binds .any e=true->e.on<k)
 (ed2:∀ k (hk:k<ops.size),∀ j∈pre.getD k [],∃ e∈ops[k].after,Region.binds .any e=true/\(e.on=j\/j∈pre.getD e.on []))
 {Inv:(Nat->Bool)->Act->World->Prop}
 (hI:∀ X i a w (next:Act->World->Prop),Clo pre ops X->i<ops.size->X i=false->(∀ j∈pre.getD i [],X j=true)->Inv X a w->(∀ a' w',Inv (jO X i) a' w'->next a' w')->wpOpIn (W ro) n P ops Q i next a w)
 (hQ:∀ X a w,(∀ i,i<ops.size->X i=true)->Inv X a w->Q .normal a w) :
 ∀ (jM:Nat) (listed:Array Bool) (a:Act) (w:World),listed.size=ops.size->Clo pre ops (lst listed)->unl (lst listed) ops.size<=jM->Inv (lst listed) a w->wpAnyIn (W ro) n P .any ops Q jM listed a w:=by
 intro jM
 induction jM with
 | zero =>intro listed a w hl hX hfu hi;have h:=YX (X:=lst listed) (n:=ops.size) (by omega);exact ⟨Ya h,hQ _ a w h hi⟩
 | succ jM ih =>
   intro listed a w hl hX hfu hinv;refine ⟨fun h=>hQ _ a w (Vw hl ed h) hinv,fun i hi=>?_⟩;obtain ⟨hlt,hx,he⟩:=Yb hi
   have hget : ∀ j,j < ops.size -> (listed.getD j false = true) -> lst listed j = true := fun j hj h => by
    have:j<listed.size:=by omega
    simpa [lst,this] using h
   have hr : ∀ j ∈ pre.getD i [],lst listed j = true := fun j hj => by
    obtain ⟨e,hm,hb,h⟩:=ed2 i hlt j hj;have hon:=ed i hlt e hm hb;have hL:=hget e.on (by omega) (he e hm hb);rcases h with h | h
    . rw [<-h];exact hL
    exact hX e.on (by omega) hL j h
   have hi':i<listed.size:=by omega
   have hy:lst (listed.setIfInBounds i true) i=true:=by simp [lst,hi']
   have hj:∀ j,j≠i->lst (listed.setIfInBounds i true) j=lst listed j:=fun j hne=>by simp only [lst,Array.getD_eq_getD_getElem?];rw [Array.getElem?_setIfInBounds_ne (Ne.symm hne)]
   have hup:jO (lst listed) i=lst (listed.setIfInBounds i true):=by
    funext j;simp only [jO];by_cases e:j=i
    . subst e;rw [if_pos rfl,hy]
    rw [if_neg e,hj j e]
   refine hI (lst listed) i a w _ hX hlt hx hr hinv fun a' w' hv=>?_;rw [hup] at hv;refine ih _ a' w' (by simpa using hl) (fun k hk hk1 j hjm=>?_) ?_ hv
   . by_cases e : j = i
     . subst e;exact hy
     rw [hj j e];by_cases e':k=i
     . subst e';exact hr j hjm
     rw [hj k e'] at hk1;exact hX k hk hk1 j hjm
   have:=XE hx hy hj ops.size hlt;omega
end
end Go.AM
