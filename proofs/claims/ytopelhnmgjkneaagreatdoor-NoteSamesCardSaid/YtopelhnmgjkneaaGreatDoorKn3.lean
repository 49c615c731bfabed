/-
  Kn3: texts joined: Am17d Am18 Sl1 Gn1 St1 Gn2 Gn3 Nw1 Nt1 Nt2 Nt3 Nt4 Nt5 Nt6 Nt7 Nt8 Nt9 Nt10 Nt11 Nt15 Nt16 Mk1 Nt22 Nt23 Nt24 Px1. Own work.
-/
import Derived.Test.YtopelhnmgjkneaaGreatDoorKn2
import Derived.ChangeKeysEq
import Derived.Laws.StructEq
import Derived.Laws.Strings
import Derived.Lib.ItoaNum
import Derived.Lib.ParseIntB
set_option linter.all false
set_option linter.unusedSimpArgs false
set_option linter.unusedVariables false
set_option linter.unusedSectionVars false

namespace Go.AM
open Go.RowKit
section
variable {P:Program} {E:HE} {N:Nat} {ro:Option Nat} {n:Nat}
def YJ : Nat → List AV → List (Nat × AV)
 | _,[]=>[]
 | k,x::xs=>(k,x)::YJ (k+1) xs
theorem VA : ∀ (xs : List AV) (k t : Nat),get (YJ k xs) t = if k ≤ t then xs.getD (t - k) .any else .any
 | [],k,t=>by simp [YJ,get]
 | x::xs, k, t=>by
   simp only [YJ,get]
   split
   · rename_i e;subst e;simp
   · rename_i e
     rw [VA xs (k+1) t]
     by_cases h:k+1≤t
     · rw [if_pos h,if_pos (by omega)]
       obtain ⟨d,rfl⟩:∃ d,t=k+1+d:=⟨t - (k+1),by omega⟩
       rw [show k+1+d - (k+1)=d by omega,show k+1+d - k=d+1 by omega]
       rfl
     · rw [if_neg h,if_neg (by omega)]
def JN : List ResultVar → Option (List Nat)
 | []=>some []
 | .tmp t::r=>(JN r).map (t::·)
 | _=>none
def qiO (ts:List Nat) (fr:List (Nat × AV)):AV:=match ts with
 | [t]=>get fr t
 | _ => .tup (ts.map (get fr))
abbrev RC:=List (Nat × Option (Bool × Nat))
def ZQ (P : Program) : List ResultVar → Option RC
 | []=>some []
 | .tmp t::r=>(ZQ P r).map ((t,none)::·)
 | .cell a t::r=>match zC P t,ZQ P r with
   | some i,some l=>some ((a,some i)::l)
   | _,_=>none
def qhO (hp : Hp) (fr : List (Nat × AV)) : RC → List AV → Prop
 | [],[]=>True
 | (t,none)::r,x::xs=>x=get fr t∧qhO hp fr r xs
 | (a,some (agg,sz))::r,x::xs=>WG hp x [] agg sz (get fr a)∧qhO hp fr r xs
 | _,_=>False
def qfs : List AV → AV
 | [x]=>x
 | xs => .tup xs
theorem qdt {hp g w} (hok : HeapOK hp g w) {fr : List (Nat × AV)} {a : Act} (hF : FrOK w g (get fr) a) : ∀ {rs : List ResultVar} {rc : RC} {xs : List AV} (f : ResultVar → Sem Value),
 (∀ t,f (.tmp t)=pure (a.tmps.getD t undef))→(∀ b t,f (.cell b t)=(do loadVar t (←asAddr (a.tmps.getD b undef))))→ZQ P rs=some rc→qhO hp fr rc xs →
 ∃ vs:List Value,(rs.mapM f).run P w = .ok vs w∧vs.length=xs.length∧∀ i (h:i<xs.length),Rep w g false xs[i] (vs.getD i undef)
 | [],rc,xs,f,h1,h2,h,hx=>by
   simp [ZQ] at h;subst h
   cases xs with
   | nil=>exact ⟨[],rfl,rfl,fun i hi=>by simp at hi⟩
   | cons _ _=>exact hx.elim
 | .tmp t::rs,rc,xs,f,h1,h2,h,hx=>by
   simp only [ZQ,Option.map_eq_some_iff] at h
   obtain ⟨l,h',rfl⟩:=h
   cases xs with
   | nil=>exact hx.elim
   | cons x xs =>
     obtain ⟨rfl,hx⟩:=hx
     obtain ⟨vs,k1,k2,k3⟩:=qdt hok hF f h1 h2 h' hx
     refine ⟨a.tmps.getD t undef::vs,?_,by simp [k2],fun i hi=>?_⟩
     · rw [List.mapM_cons,h1]
       simp only [Sem.run_bind,Sem.run_pure,Result.andThen_ok,k1]
     · cases i with
       | zero=>exact hF t
       | succ i=>simpa using k3 i (by simpa using hi)
 | .cell b t::rs, rc, xs, f, h1, h2, h, hx=>by
   simp only [ZQ] at h
   split at h
   · rename_i i l hi hl
     cases h
     obtain ⟨agg,sz⟩:=i
     cases xs with
     | nil=>exact hx.elim
     | cons x xs =>
       obtain ⟨hld,hx⟩:=hx
       obtain ⟨vs,k1,k2,k3⟩:=qdt hok hF f h1 h2 hl hx
       have e1:=hF b
       have main:∃ v, ((do loadVar t (←asAddr (a.tmps.getD b undef)):Sem Value)).run P w = .ok v w∧Rep w g false x v:=by
        simp only [WG] at hld
        split at hld
        · rename_i cs off hu
          rw [hu] at e1
          obtain ⟨c,q,hv,hrow⟩:=WE e1
          obtain ⟨v,j1,j2⟩:=JO hi hrow hld.2
          exact ⟨v,by rw [hv];simp [asAddr,j1],j2⟩
        · rename_i id off hu
          split at hld
          · rename_i cs hid
            rw [hu] at e1
            obtain ⟨c,q,hv,hrow,_⟩:=WF e1 hok hid
            obtain ⟨v,j1,j2⟩:=JO hi hrow hld.2
            exact ⟨v,by rw [hv];simp [asAddr,j1],j2⟩
          · exact hld.elim
        · exact hld.elim
       obtain ⟨v,m1,m2⟩:=main
       refine ⟨v::vs,?_,by simp [k2],fun i hi=>?_⟩
       · rw [List.mapM_cons,h2]
         simp only [Sem.run_bind,Result.andThen_ok] at m1 ⊢
         rw [m1]
         simp only [Result.andThen_ok,k1,Sem.run_pure]
       · cases i with
         | zero=>exact m2
         | succ i=>simpa using k3 i (by simpa using hi)
   · cases h
theorem Yh {hp g w} (hok : HeapOK hp g w) {fr : List (Nat × AV)} {a : Act} (hF : FrOK w g (get fr) a) {fn : Func} {rc : RC} {xs : List AV} (h : ZQ P fn.results.toList = some rc) (hx : qhO hp fr rc xs) :
 ∃ v,(results fn a.tmps).run P w = .ok v w∧Rep w g false (qfs xs) v:=by
 simp only [results]
 rw [Array.mapM_eq_mapM_toList]
 simp only [Sem.run_bind,Sem.run_pure,map_eq_pure_bind]
 obtain ⟨vs,k1,k2,k3⟩:=qdt hok hF (fun x=>match x with | .tmp t=>pure (a.tmps.getD t undef) | .cell b t=>do loadVar t (←asAddr (a.tmps.getD b undef))) (fun _=>rfl) (fun _ _=>rfl) h hx
 have gen : xs.length ≠ 1 → ∃ v,(Result.ok (if h : vs.toArray.size = 1 then vs.toArray[0] else Value.tuple vs.toArray) w : Result Value) = .ok v w ∧ Rep w g false (.tup xs) v := fun hne => by
  refine ⟨.tuple vs.toArray,?_,.tup _ _ _ k2 k3⟩
  have:¬ vs.toArray.size=1:=by simp;omega
  rw [dif_neg this]
 have key:∃ v,(Result.ok (if h:vs.toArray.size=1 then vs.toArray[0] else Value.tuple vs.toArray) w:Result Value) = .ok v w∧Rep w g false (qfs xs) v:=by
  match xs,k2,k3,gen with
  | [],k2,k3,gen=>exact gen (by simp)
  | [x], k2, k3, _ =>
    obtain ⟨v,rfl⟩:∃ v,vs=[v]:=by
     cases vs with
     | nil=>simp at k2
     | cons v vs=>cases vs with
       | nil=>exact ⟨v,rfl⟩
       | cons _ _=>simp at k2
    exact ⟨v,by simp,k3 0 (by simp)⟩
  | x::y::xs,k2,k3,gen=>exact gen (by simp)
 obtain ⟨v,h1,h2⟩:=key
 refine ⟨v,?_,h2⟩
 refine (congrArg (fun r=>Result.andThen (Result.andThen r (fun a w'=>Result.ok a.toArray w')) (fun (a:Array Value) w'=>Result.ok (if h:a.size=1 then a[0] else Value.tuple a) w')) k1).trans ?_
 simp only [Result.andThen_ok,Sem.run_pure]
 exact h1
def qh4 (rc : RC) (K : AV → List HObj → Prop) : Exit → St → Prop
 | .normal,st | .ret,st=>∃ xs,qhO (hpf st.hp) st.fr rc xs∧K (qfs xs) st.hp
 | _,_=>False
theorem Ja {fn : Func} {tmps : Array Value} {R : Ending → World → Prop} : ∀ (ms : List Nat) (w : World),ms.Nodup → (∀ D ∈ ms,w.heap[D]? = some (.deferred (some []))) →
 (∃ v,(results fn tmps).run P (ms.foldl (fun w D=>w.putObj D (.deferred none)) w) = .ok v (ms.foldl (fun w D=>w.putObj D (.deferred none)) w)∧R (.returned v) (ms.foldl (fun w D=>w.putObj D (.deferred none)) w)) →
 LeavesInM (W ro) n P fn tmps R (ms.map mark) .returning w
 | [],w,hn,hD,h=>h
 | D::ms,w,hn,hD,h=>by
   refine ⟨by simp,.inl ⟨D,_,rfl,run_takeDeferred (hD D (by simp)),?_⟩⟩
   rw [List.nodup_cons] at hn
   exact Ja ms _ hn.2 (fun D' hD'=>(World.putObj_heap_other (fun e=>hn.1 (by rw [←e];exact hD'))).trans (hD D' (by simp [hD']))) h
theorem YE {hp0 g0 w0 hp g} : ∀ (ms : List Nat) (w : World),ms.Nodup → (∀ D ∈ ms,w0.heap.size ≤ D ∧ w.heap[D]? = some (.deferred (some [])) ∧ ¬ qnn hp g D) → HeapOK hp g w → Upd hp0 g0 w0 hp g w →
 HeapOK hp g (ms.foldl (fun w D=>w.putObj D (.deferred none)) w)∧Upd hp0 g0 w0 hp g (ms.foldl (fun w D=>w.putObj D (.deferred none)) w)∧Trans w g (ms.foldl (fun w D=>w.putObj D (.deferred none)) w) g
 | [],w,hn,hD,h,u=>⟨h,u,.refl _ _⟩
 | D::ms,w,hn,hD,h,u=>by
   rw [List.nodup_cons] at hn
   obtain ⟨k1,k2,k3⟩:=hD D (by simp)
   obtain ⟨h1,u1,t1⟩:=qk4 h u k2 k3 k1
   obtain ⟨h2,u2,t2⟩ := YE ms _ hn.2 (fun D' hD' => by
    obtain ⟨q1,q2,q3⟩:=hD D' (by simp [hD'])
    exact ⟨q1,(World.putObj_heap_other (fun e=>hn.1 (by rw [←e];exact hD'))).trans q2,q3⟩) h1 u1
   exact ⟨h2,u2,t1.trans t2⟩
theorem qhe {w1 : World} {g1 : G} (hY : YS P E w1 g1) (hR : RS P E) {f : FuncId} {fn : Func} {c : Code} {ac : AC} {rc : RC} {xs : List AV} {hp : List HObj} {K : AV → List HObj → Prop} (hf : P.funcs[f]? = some fn) (hb : fn.body = some c) (hc : qdM P fn.ntmps c ac)
 (hr:ZQ P fn.results.toList=some rc) (hl:xs.length≤fn.ntmps) (h:AWP P E ac { fr:=YJ 0 xs,hp:=hp } (qh4 rc K)):Vq P w1 g1 f xs hp K:=by
 intro ro n w g vs hok htr hvs hrep
 have go : CallsIn (W none) n P f vs w fun e w' => ∃ v r hp' g', e = .returned v ∧ K r hp' ∧ Rep w' g' false r v ∧ HeapOK (hpf hp') g' w' ∧ Upd (hpf hp) g w (hpf hp') g' w' := by
  refine callsIn_of_wp_marks hf hb trivial (Qq hY hR hc (.inl rfl) h htr (g:=g) ?_ ?_) rfl
  · refine ⟨by simp [hvs]; omega,fun t => ?_,hok⟩
    show Rep w g false (get (YJ 0 xs) t) _
    rw [VA]
    simp only [Nat.zero_le,if_true,Nat.sub_zero]
    by_cases ht:t<xs.length
    · have e1 : xs.getD t .any = xs[t] := by simp [ht]
      rw [e1]
      have:=hrep t ht
      simp only [Array.getD_eq_getD_getElem?] at this ⊢
      rw [Array.getElem?_append_left (by omega)]
      exact this
    · have e1 : xs.getD t .any = .any := by simp [Nat.le_of_not_lt ht]
      rw [e1];exact .any _ _
  · intro e st' a' w' g' hq hs hu hd
    obtain ⟨ms,d1,d2,d3⟩:=hd
    simp only [List.append_nil] at d1
    have fin : (∃ xs,qhO (hpf st'.hp) st'.fr rc xs ∧ K (qfs xs) st'.hp) → LeavesInM (W none) n P fn a'.tmps (fun e w' => ∃ v r hp' g',e = .returned v ∧ K r hp' ∧ Rep w' g' false r v ∧ HeapOK (hpf hp') g' w' ∧ Upd (hpf hp) g w (hpf hp') g' w') a'.defers .returning w' := fun ⟨ys,hy,hK⟩ => by
     rw [d1]
     obtain ⟨k1,k2,k3⟩:=YE ms w' d2 d3 hs.2.2 hu
     refine Ja ms w' d2 (fun D hD=>(d3 D hD).2.1) ?_
     obtain ⟨v,j1,j2⟩:=Yh (P:=P) k1 (fun i=>(hs.2.1 i).mono k3) hr hy
     exact ⟨v,j1,v,_,_,g',rfl,hK,j2,k1,k2⟩
    cases e with
    | normal=>exact fin hq
    | ret=>exact fin hq
    | _=>exact hq.elim
 exact go
def noY:Nat→List AV→List HObj→(AV→List HObj→Prop)→Prop:=fun _ _ _ _=>False
def noR:AV→List HObj→(List AV→List HObj→(AV→List HObj→Prop)→Prop)→(List HObj→Prop)→Prop:=fun _ _ _ _=>False
def qo (P:Program) (fn:Func) (ts:List Nat):Option AC:=fn.body.map fun c=>(ann ts (comp P fn.ntmps c) [] ts).1
def R1 (P:Program):AV→List HObj→(List AV→List HObj→(AV→List HObj→Prop)→Prop)→(List HObj→Prop)→Prop:=fun v hp H K0 =>
 ∃ f caps fn ac ts rc,v = .fn (.func f) [] caps ∧ Wt P f = true ∧ P.funcs[f]? = some fn ∧ qo P fn ts = some ac ∧ ZQ P fn.results.toList = some rc ∧ caps.length + 1 ≤ fn.ntmps ∧
   AWP P ⟨fun id xs hp' K=>id=hp.length∧H xs hp' K,noR⟩ ac { fr:=YJ 0 (.yl hp.length::caps),hp:=hp++[.lp .ready (hp.length+1),.gone] } (qh4 rc fun _ hp'=>K0 hp')
def E1 (P:Program):HE:=⟨noY,R1 P⟩
theorem qkD {Y}:RS P ⟨Y,noR⟩:=fun _ _ _ _ h=>h.elim
theorem Vl:RS P (E1 P):=by
 rintro v hp H K0 ⟨f,caps,fn,ac,ts,rc,rfl,hfun,hf,hc,hr,hl,h⟩
 refine ⟨f,caps,rfl,hfun,fun w1 g1 hH=>?_⟩
 simp only [qo,Option.map_eq_some_iff] at hc
 obtain ⟨c,hb,rfl⟩:=hc
 exact qhe (E:=⟨fun id xs hp' K=>id=hp.length∧H xs hp' K,noR⟩) (fun id xs hp' K ⟨e,hh⟩=>by subst e;exact hH xs hp' K hh) qkD hf hb (QZ (Qz c)) hr (by simp;omega) h
theorem YO {w1 g1}:YS P (E1 P) w1 g1:=fun _ _ _ _ h=>h.elim
theorem zj {f : FuncId} {fn : Func} {ac : AC} {ts : List Nat} {rc : RC} {xs : List AV} {hp : List HObj} {K : AV → List HObj → Prop} (hf : P.funcs[f]? = some fn) (hc : qo P fn ts = some ac)
 (hr:ZQ P fn.results.toList=some rc) (hl:xs.length≤fn.ntmps) (h:AWP P (E1 P) ac { fr:=YJ 0 xs,hp:=hp } (qh4 rc K)):zG P f xs hp K:=by
 simp only [qo,Option.map_eq_some_iff] at hc
 obtain ⟨c,hb,rfl⟩:=hc
 exact fun ro n w g vs hok hvs hrep=>qhe (E:=E1 P) (w1:=w) (g1:=g) YO Vl hf hb (QZ (Qz c)) hr hl h ro n w g vs hok (.refl _ _) hvs hrep
theorem QA : ∀ {rs : List ResultVar} {ts : List Nat},JN rs = some ts → ZQ P rs = some (ts.map (·,none))
 | [],ts,h=>by simp [JN] at h;subst h;rfl
 | .tmp t::r,ts,h=>by
   simp only [JN,Option.map_eq_some_iff] at h
   obtain ⟨ts',h',rfl⟩:=h
   simp [ZQ,QA h']
 | .cell a t::r,ts,h=>by cases h
theorem qaP {hp : Hp} {fr : List (Nat × AV)} : ∀ (ts : List Nat) (xs : List AV),qhO hp fr (ts.map (·,none)) xs ↔ xs = ts.map (get fr)
 | [],[]=>by simp [qhO]
 | [],x::xs=>by simp [qhO]
 | t::ts,[]=>by simp [qhO]
 | t::ts,x::xs=>by simp [qhO,qaP ts xs]
theorem qfe (ts:List Nat) (fr:List (Nat × AV)):qfs (ts.map (get fr))=qiO ts fr:=by
 match ts with
 | []=>rfl
 | [t]=>rfl
 | t::u::r=>rfl
def qfA (ts : List Nat) (K : AV → List HObj → Prop) : Exit → St → Prop
 | .normal,st | .ret,st=>K (qiO ts st.fr) st.hp
 | _,_=>False
theorem qaQ {ts:List Nat} {K:AV→List HObj→Prop}:qh4 (ts.map (·,none)) K=qfA ts K:=by
 have key : ∀ st : St,(∃ xs,qhO (hpf st.hp) st.fr (ts.map (·,none)) xs ∧ K (qfs xs) st.hp) = K (qiO ts st.fr) st.hp := fun st => propext ⟨fun ⟨xs,h1,h2⟩ => by
  rw [qaP] at h1;subst h1;rw [qfe] at h2;exact h2,fun h=>⟨_,(qaP _ _).2 rfl,by rw [qfe];exact h⟩⟩
 funext e st
 cases e <;> first | exact key st | rfl
theorem qh8 {f : FuncId} {fn : Func} {ac : AC} {ts : List Nat} {xs : List AV} {hp : List HObj} {K : AV → List HObj → Prop} (hf : P.funcs[f]? = some fn) (hc : qo P fn ts = some ac) (hr : JN fn.results.toList = some ts)
 (hl:xs.length≤fn.ntmps) (h:AWP P (E1 P) ac { fr:=YJ 0 xs,hp:=hp } (qfA ts K)):zG P f xs hp K :=
 zj hf hc (QA hr) hl (by rw [qaQ];exact h)
def G.bare (g:G):G:={ S:=g.S,ρ:=fun _=>none }
theorem HeapOK.bare {hp g w} (h:HeapOK hp g w):HeapOK (fun _=>none) g.bare w :=
 ⟨fun _ _=>rfl,fun _ _ h=>(by cases h),fun _ _ _ _ _ _ _ h=>(by cases h),h.ex,h.tab⟩
theorem Upd.bare {g w hp' g' w'} (h0:HeapOK (fun _=>none) g w) (h:Upd (fun _=>none) g w hp' g' w'):Upd (fun _=>none) g w (fun _=>none) g'.bare w' :=
 ⟨⟨h.tr.S,h.tr.cell,fun id l hl=>(by rw [h0.dom id rfl] at hl;cases hl),h.tr.shp,h.tr.os,h.tr.tape,h.tr.output,h.tr.size,h.tr.drawn⟩,fun c ⟨_,_,_,h,_⟩=>(by cases h),h.S,h.keep⟩
theorem Rep.bare {w g v x} (h:Rep w g true x v):Rep w g.bare true x v:=by
 generalize hp:true=p at h
 induction h with
 | v p x=>exact .v _ x
 | any p x=>exact .any _ x
 | sl p full n cs a cap vs hn hf hc hr ih=>exact .sl _ full n cs a cap vs hn hf hc (fun i h=>ih i h rfl)
 | agg p cs vs hl hr ih=>exact .agg _ cs vs hl (fun i h=>ih i h hp)
 | tup p cs vs hl hr ih=>exact .tup _ cs vs hl (fun i h=>ih i h hp)
 | ptr p cs off b o vs hc hr ih=>exact .ptr _ cs off b o vs hc (fun i h=>ih i h rfl)
 | ref=>cases hp
 | ms=>cases hp
 | msz=>cases hp
 | fn p f as bs xs ys hl hl' hr hr' ih ih'=>exact .fn _ f as bs xs ys hl hl' (fun i h=>ih i h hp) (fun i h=>ih' i h hp)
 | mp=>cases hp
 | mc=>cases hp
 | mcz=>cases hp
 | yl=>cases hp
def Out (r:AV) (x:AV) (hp:List HObj):Prop:=∃ is,qU (hpf hp) x=some (r,is)
theorem qT {f:FuncId} {xs:List AV} {r:AV} (h:zG P f xs [] (Out r)):qC P f xs r:=by
 intro ro n w g vs hok hvs hrep
 have e0:hpf []=fun _=>none:=by funext i;simp [hpf]
 refine (h ro n w g vs (by rw [e0];exact hok) hvs (fun i hi=>(hrep i hi).of)).mono ?_
 rintro e w' ⟨v,x,hp',g',rfl,⟨is,hpur⟩,hx,hok',hu⟩
 rw [e0] at hu
 have q:=jD hok' (ids:=is) hpur (fun i hi=>hi) hx
 obtain ⟨k1,k2⟩:=hok'.giveAll is (Jw hpur)
 exact ⟨v,_,rfl,q.bare,k1.bare,(hu.trans k2).bare hok⟩
end
end Go.AM

namespace Go.AM
open Go.RowKit
def qnY (P:Program) (f:FuncId) (xs:List AV) (hp:List HObj) (K:AV→List (Nat × HObj)→Prop):Prop :=
 ∃ ys ids,qE (hpf hp) xs=some (ys,ids)∧((∃ r,qC P f ys r∧K r (bif r.scalar then [] else zB ids))∨(∃ m sz cs,qbG P f ys m sz cs∧K (.ms hp.length 0 m sz) (zB ids++[(hp.length,.cells cs)]))∨∃ Φ,qnX P f ys Φ∧K (.mp hp.length) (zB ids++[(hp.length,.mpp Φ)]))
def AOp.wp (P:Program) (o:AOp) (F:Nat→AV) (hp:List HObj) (K:AV→List (Nat × HObj)→Prop):Prop :=
 ∃ r ws,o.sem P (evF F) (hpf hp) hp.length r ws∧K r ws
def Qn (P:Program) (E:HE) (os:List AOp) (d:Option Nat) (fr:List (Nat × AV)) (hp:List HObj) (K:St→Prop) (r:AV) (ws:List (Nat × HObj)):Prop:=Ze P E os ⟨jK fr d r,qH hp ws⟩ K
def qod (P:Program) (E:HE) (os:List AOp) (d:Nat) (fr:List (Nat × AV)) (K:St→Prop) (r:AV) (hp:List HObj):Prop:=Ze P E os ⟨(d,r)::fr,hp⟩ K
def zN (P:Program) (os:List AOp) (d:Option Nat) (fr:List (Nat × AV)) (hp:List HObj) (tr:Tr) (ft:List Nat) (K:St→Tr→Prop) (r:AV) (ws:List (Nat × HObj)):Prop :=
 Zi P os ⟨jK fr d r,qH hp ws⟩ (tr++[(ft,ws.map (·.1))]) K
section
variable {P:Program} {E:HE} {fr:List (Nat × AV)} {hp:List HObj} {F:Nat→AV} {os:List AOp} {KS:St→Prop} {KD:St→Tr→Prop} {tr:Tr} {K:AV→List (Nat × HObj)→Prop}
theorem qjR:zB []=[]:=rfl
theorem qir {i is}:zB (i::is)=(i,.gone)::zB is:=rfl
theorem JI {k t x}:get ((k,x)::fr) t=if k=t then x else get fr t:=rfl
theorem qgb {t}:get [] t = .any:=rfl
theorem qvL {t}:evF F (.t t)=F t:=rfl
theorem qvK {x}:evF F (.k x)=x:=rfl
theorem qql {d:Option Nat} {r ws}:Qn P E os d fr hp KS r ws=Ze P E os ⟨jK fr d r,qH hp ws⟩ KS:=rfl
theorem qqm {d:Nat} {r hp}:qod P E os d fr KS r hp=Ze P E os ⟨(d,r)::fr,hp⟩ KS:=rfl
theorem qqn {d:Option Nat} {ft r ws}:zN P os d fr hp tr ft KD r ws=Zi P os ⟨jK fr d r,qH hp ws⟩ (tr++[(ft,ws.map (·.1))]) KD:=rfl
theorem qu3:Ze P E [] ⟨fr,hp⟩ KS=KS ⟨fr,hp⟩:=rfl
theorem qsJ:Zi P [] ⟨fr,hp⟩ tr KD=KD ⟨fr,hp⟩ tr:=rfl
theorem qsH {d f args}:Ze P E (.call d f args::os) ⟨fr,hp⟩ KS=zG P f (args.map (evF (get fr))) hp (qod P E os d fr KS):=rfl
def qdO (P:Program) (E:HE) (x:AV) (args:List AV) (hp:List HObj) (KC:AV→List HObj→Prop):Prop:=match x with
 | .fn (.func f) first caps=>Wt P f=true∧zG P f (first++args++caps) hp KC
 | .yl id=>∃ K0,E.Y id args hp K0∧∀ r hp',K0 r hp'→KC r hp'
 | _=>False
theorem qqk {d x args}:Ze P E (.callv d x args::os) ⟨fr,hp⟩ KS=qdO P E (evF (get fr) x) (args.map (evF (get fr))) hp (qod P E os d fr KS):=by
 simp only [Ze,aop,qdO]
 generalize evF (get fr) x=u
 cases u with
 | fn f as bs=>cases f <;> rfl
 | _=>rfl
theorem qtU {f first caps args} {KC:AV→List HObj→Prop}:qdO P E (.fn (.func f) first caps) args hp KC=(Wt P f=true∧zG P f (first++args++caps) hp KC):=rfl
theorem qt4 {a0 a1}:Zi P (.mv a0 a1::os) ⟨fr,hp⟩ tr KD=(AOp.mv a0 a1).wp P (get fr) hp (zN P os (some a0) fr hp tr ([]) KD):=rfl
theorem qop {a0 a1 a2 a3}:Zi P (.pick a0 a1 a2 a3::os) ⟨fr,hp⟩ tr KD=(AOp.pick a0 a1 a2 a3).wp P (get fr) hp (zN P os (some a0) fr hp tr ([]) KD):=rfl
theorem qq5 {a0 a1 a2 a3}:Zi P (.bin a0 a1 a2 a3::os) ⟨fr,hp⟩ tr KD=(AOp.bin a0 a1 a2 a3).wp P (get fr) hp (zN P os (some a0) fr hp tr ([]) KD):=rfl
theorem qom {a0 a1 a2 a3 a4}:Zi P (.bing a0 a1 a2 a3 a4::os) ⟨fr,hp⟩ tr KD=(AOp.bing a0 a1 a2 a3 a4).wp P (get fr) hp (zN P os (some a0) fr hp tr ([]) KD):=rfl
theorem qt7 {a0 a1 a2}:Zi P (.un a0 a1 a2::os) ⟨fr,hp⟩ tr KD=(AOp.un a0 a1 a2).wp P (get fr) hp (zN P os (some a0) fr hp tr ([]) KD):=rfl
theorem qrg {a0 a1 a2}:Zi P (.ext a0 a1 a2::os) ⟨fr,hp⟩ tr KD=(AOp.ext a0 a1 a2).wp P (get fr) hp (zN P os (some a0) fr hp tr ([]) KD):=rfl
theorem qt3 {a0 a1 a2 a3}:Zi P (.ld a0 a1 a2 a3::os) ⟨fr,hp⟩ tr KD=(AOp.ld a0 a1 a2 a3).wp P (get fr) hp (zN P os (some a0) fr hp tr ((evF (get fr) a3).ids) KD):=by simp [Zi,AOp.wp,zN,AOp.foot,AOp.heapy,AOp.opds,AOp.dst,St.step]
theorem qt6 {a0 a1 a2}:Zi P (.st a0 a1 a2::os) ⟨fr,hp⟩ tr KD=(AOp.st a0 a1 a2).wp P (get fr) hp (zN P os none fr hp tr ((evF (get fr) a1).ids++(evF (get fr) a2).ids) KD):=by simp [Zi,AOp.wp,zN,AOp.foot,AOp.heapy,AOp.opds,AOp.dst,St.step]
theorem qq7 {a0 a1 a2}:Zi P (.box a0 a1 a2::os) ⟨fr,hp⟩ tr KD=(AOp.box a0 a1 a2).wp P (get fr) hp (zN P os (some a0) fr hp tr ([]) KD):=rfl
theorem qt0 {a0 a1}:Zi P (.al a0 a1::os) ⟨fr,hp⟩ tr KD=(AOp.al a0 a1).wp P (get fr) hp (zN P os (some a0) fr hp tr ([]) KD):=rfl
theorem qq8 {a0 a1 a2 a3 a4}:Zi P (.bsl a0 a1 a2 a3 a4::os) ⟨fr,hp⟩ tr KD=(AOp.bsl a0 a1 a2 a3 a4).wp P (get fr) hp (zN P os (some a0) fr hp tr ((a4.map (·.2)).flatMap fun x=>(evF (get fr) x).ids) KD):=rfl
theorem qq6 {a0 a1 a2}:Zi P (.bld a0 a1 a2::os) ⟨fr,hp⟩ tr KD=(AOp.bld a0 a1 a2).wp P (get fr) hp (zN P os (some a0) fr hp tr ([]) KD):=rfl
theorem qt1 {a0 a1 a2}:Zi P (.fa a0 a1 a2::os) ⟨fr,hp⟩ tr KD=(AOp.fa a0 a1 a2).wp P (get fr) hp (zN P os (some a0) fr hp tr ([]) KD):=rfl
theorem qrh {a0 a1 a2 a3 a4}:Zi P (.fld a0 a1 a2 a3 a4::os) ⟨fr,hp⟩ tr KD=(AOp.fld a0 a1 a2 a3 a4).wp P (get fr) hp (zN P os (some a0) fr hp tr ([]) KD):=rfl
theorem qt2 {a0 a1 a2 a3}:Zi P (.ia a0 a1 a2 a3::os) ⟨fr,hp⟩ tr KD=(AOp.ia a0 a1 a2 a3).wp P (get fr) hp (zN P os (some a0) fr hp tr ([]) KD):=rfl
theorem qri {a0 a1 a2 a3 a4}:Zi P (.iaa a0 a1 a2 a3 a4::os) ⟨fr,hp⟩ tr KD=(AOp.iaa a0 a1 a2 a3 a4).wp P (get fr) hp (zN P os (some a0) fr hp tr ([]) KD):=rfl
theorem qrk {a0 a1 a2 a3 a4 a5}:Zi P (.idx a0 a1 a2 a3 a4 a5::os) ⟨fr,hp⟩ tr KD=(AOp.idx a0 a1 a2 a3 a4 a5).wp P (get fr) hp (zN P os (some a0) fr hp tr ([]) KD):=rfl
theorem qrj {a0 a1 a2}:Zi P (.ids a0 a1 a2::os) ⟨fr,hp⟩ tr KD=(AOp.ids a0 a1 a2).wp P (get fr) hp (zN P os (some a0) fr hp tr ([]) KD):=rfl
theorem qrm {a0 a1}:Zi P (.len a0 a1::os) ⟨fr,hp⟩ tr KD=(AOp.len a0 a1).wp P (get fr) hp (zN P os (some a0) fr hp tr ([]) KD):=rfl
theorem qrp {a0 a1}:Zi P (.lns a0 a1::os) ⟨fr,hp⟩ tr KD=(AOp.lns a0 a1).wp P (get fr) hp (zN P os (some a0) fr hp tr ([]) KD):=rfl
theorem qro {a0 a1}:Zi P (.lnm a0 a1::os) ⟨fr,hp⟩ tr KD=(AOp.lnm a0 a1).wp P (get fr) hp (zN P os (some a0) fr hp tr ((evF (get fr) a1).ids) KD):=by simp [Zi,AOp.wp,zN,AOp.foot,AOp.heapy,AOp.opds,AOp.dst,St.step]
theorem qrv {a0 a1 a2 a3 a4 a5}:Zi P (.slc a0 a1 a2 a3 a4 a5::os) ⟨fr,hp⟩ tr KD=(AOp.slc a0 a1 a2 a3 a4 a5).wp P (get fr) hp (zN P os (some a0) fr hp tr ([]) KD):=rfl
theorem qrx {a0 a1 a2 a3}:Zi P (.sls a0 a1 a2 a3::os) ⟨fr,hp⟩ tr KD=(AOp.sls a0 a1 a2 a3).wp P (get fr) hp (zN P os (some a0) fr hp tr ([]) KD):=rfl
theorem qq3 {a0 a1 a2 a3 a4}:Zi P (.app a0 a1 a2 a3 a4::os) ⟨fr,hp⟩ tr KD=(AOp.app a0 a1 a2 a3 a4).wp P (get fr) hp (zN P os (some a0) fr hp tr ((evF (get fr) a3).ids++(evF (get fr) a4).ids) KD):=by simp [Zi,AOp.wp,zN,AOp.foot,AOp.heapy,AOp.opds,AOp.dst,St.step]
theorem qrc {a0 a1 a2 a3}:Zi P (.cpy a0 a1 a2 a3::os) ⟨fr,hp⟩ tr KD=(AOp.cpy a0 a1 a2 a3).wp P (get fr) hp (zN P os (some a0) fr hp tr ((evF (get fr) a2).ids++(evF (get fr) a3).ids) KD):=by simp [Zi,AOp.wp,zN,AOp.foot,AOp.heapy,AOp.opds,AOp.dst,St.step]
theorem qrs {a0 a1 a2 a3 a4 a5}:Zi P (.mks a0 a1 a2 a3 a4 a5::os) ⟨fr,hp⟩ tr KD=(AOp.mks a0 a1 a2 a3 a4 a5).wp P (get fr) hp (zN P os (some a0) fr hp tr ([]) KD):=rfl
theorem qrb {a0 a1 a2}:Zi P (.cnv a0 a1 a2::os) ⟨fr,hp⟩ tr KD=(AOp.cnv a0 a1 a2).wp P (get fr) hp (zN P os (some a0) fr hp tr ([]) KD):=rfl
theorem qt5 {a0 a1 a2 a3}:Zi P (.mx a0 a1 a2 a3::os) ⟨fr,hp⟩ tr KD=(AOp.mx a0 a1 a2 a3).wp P (get fr) hp (zN P os (some a0) fr hp tr ([]) KD):=rfl
theorem qoo {a0 a1}:Zi P (.nilc a0 a1::os) ⟨fr,hp⟩ tr KD=(AOp.nilc a0 a1).wp P (get fr) hp (zN P os (some a0) fr hp tr ([]) KD):=rfl
theorem qrq {a0 a1 a2 a3}:Zi P (.mkf a0 a1 a2 a3::os) ⟨fr,hp⟩ tr KD=(AOp.mkf a0 a1 a2 a3).wp P (get fr) hp (zN P os (some a0) fr hp tr ([]) KD):=rfl
theorem qon {a0 a1 a2}:Zi P (.call a0 a1 a2::os) ⟨fr,hp⟩ tr KD=(AOp.call a0 a1 a2).wp P (get fr) hp (zN P os (some a0) fr hp tr (a2.flatMap fun x=>(evF (get fr) x).ids) KD):=rfl
theorem quk {x}:(AV.v x).ids=[]:=rfl
theorem qrW {a b c}:(AV.sl a b c).ids=[]:=rfl
theorem qoP {a b}:(AV.ptr a b).ids=[]:=rfl
theorem qoQ {a b}:(AV.ref a b).ids=[a]:=rfl
theorem qrV {a b c d}:(AV.ms a b c d).ids=[a]:=rfl
theorem qrU {a}:(AV.mp a).ids=[a]:=rfl
theorem qoM:AV.any.ids=[]:=rfl
theorem qrT {a b c}:(AV.fn a b c).ids=b.flatMap AV.ids0++c.flatMap AV.ids0:=rfl
theorem qmk {cs}:(AV.agg cs).ids1=cs.flatMap AV.ids0:=rfl
theorem qrR {x}:(AV.v x).ids0=[]:=rfl
theorem qoF {a b c}:(AV.sl a b c).ids0=[]:=rfl
theorem qmi {a b}:(AV.ptr a b).ids0=[]:=rfl
theorem qmj {a b}:(AV.ref a b).ids0=[a]:=rfl
theorem qoE {a b c d}:(AV.ms a b c d).ids0=[a]:=rfl
theorem qoD {a}:(AV.mp a).ids0=[a]:=rfl
theorem qoL {cs}:(AV.agg cs).ids=cs.flatMap AV.ids1:=rfl
theorem qoR {cs}:(AV.tup cs).ids=cs.flatMap AV.ids1:=rfl
theorem qrS {x}:(AV.v x).ids1=[]:=rfl
theorem qoJ {a b c}:(AV.sl a b c).ids1=[]:=rfl
theorem qmm {a b}:(AV.ptr a b).ids1=[]:=rfl
theorem qmn {a b}:(AV.ref a b).ids1=[a]:=rfl
theorem qoI {a b c d}:(AV.ms a b c d).ids1=[a]:=rfl
theorem qoH {a}:(AV.mp a).ids1=[a]:=rfl
theorem qml:AV.any.ids1=[]:=rfl
theorem qoG {a b c}:(AV.fn a b c).ids1=b.flatMap AV.ids0++c.flatMap AV.ids0:=rfl
theorem qqq {d f args}:(AOp.call d f args).wp P F hp K=qnY P f (args.map (evF F)) hp K:=by
 apply propext
 constructor
 · rintro ⟨r,ws,⟨ys,ids,h1,h2⟩,h3⟩
   rcases h2 with ⟨h2,rfl⟩ | ⟨m,sz,cs,h2,rfl,rfl⟩ | ⟨Φ,h2,rfl,rfl⟩
   · exact ⟨ys,ids,h1,.inl ⟨r,h2,h3⟩⟩
   · exact ⟨ys,ids,h1,.inr (.inl ⟨m,sz,cs,h2,h3⟩)⟩
   · exact ⟨ys,ids,h1,.inr (.inr ⟨Φ,h2,h3⟩)⟩
 · rintro ⟨ys,ids,h1,h2⟩
   rcases h2 with ⟨r,h2,h3⟩ | ⟨m,sz,cs,h2,h3⟩ | ⟨Φ,h2,h3⟩
   · exact ⟨r,_,⟨ys,ids,h1,.inl ⟨h2,rfl⟩⟩,h3⟩
   · exact ⟨_,_,⟨ys,ids,h1,.inr (.inl ⟨m,sz,cs,h2,rfl,rfl⟩)⟩,h3⟩
   · exact ⟨_,_,⟨ys,ids,h1,.inr (.inr ⟨Φ,h2,rfl,rfl⟩)⟩,h3⟩
theorem qvb {a0 a1}:Ze P E (.mv a0 a1::os) ⟨fr,hp⟩ KS=(AOp.mv a0 a1).wp P (get fr) hp (Qn P E os (some a0) fr hp KS):=rfl
theorem qqv {a0 a1 a2 a3}:Ze P E (.pick a0 a1 a2 a3::os) ⟨fr,hp⟩ KS=(AOp.pick a0 a1 a2 a3).wp P (get fr) hp (Qn P E os (some a0) fr hp KS):=rfl
theorem qsP {a0 a1 a2 a3}:Ze P E (.bin a0 a1 a2 a3::os) ⟨fr,hp⟩ KS=(AOp.bin a0 a1 a2 a3).wp P (get fr) hp (Qn P E os (some a0) fr hp KS):=rfl
theorem qqt {a0 a1 a2 a3 a4}:Ze P E (.bing a0 a1 a2 a3 a4::os) ⟨fr,hp⟩ KS=(AOp.bing a0 a1 a2 a3 a4).wp P (get fr) hp (Qn P E os (some a0) fr hp KS):=rfl
theorem qve {a0 a1 a2}:Ze P E (.un a0 a1 a2::os) ⟨fr,hp⟩ KS=(AOp.un a0 a1 a2).wp P (get fr) hp (Qn P E os (some a0) fr hp KS):=rfl
theorem qs0 {a0 a1 a2}:Ze P E (.ext a0 a1 a2::os) ⟨fr,hp⟩ KS=(AOp.ext a0 a1 a2).wp P (get fr) hp (Qn P E os (some a0) fr hp KS):=rfl
theorem qva {a0 a1 a2 a3}:Ze P E (.ld a0 a1 a2 a3::os) ⟨fr,hp⟩ KS=(AOp.ld a0 a1 a2 a3).wp P (get fr) hp (Qn P E os (some a0) fr hp KS):=rfl
theorem qvd {a0 a1 a2}:Ze P E (.st a0 a1 a2::os) ⟨fr,hp⟩ KS=(AOp.st a0 a1 a2).wp P (get fr) hp (Qn P E os none fr hp KS):=rfl
theorem qsR {a0 a1 a2}:Ze P E (.box a0 a1 a2::os) ⟨fr,hp⟩ KS=(AOp.box a0 a1 a2).wp P (get fr) hp (Qn P E os (some a0) fr hp KS):=rfl
theorem qu7 {a0 a1}:Ze P E (.al a0 a1::os) ⟨fr,hp⟩ KS=(AOp.al a0 a1).wp P (get fr) hp (Qn P E os (some a0) fr hp KS):=rfl
theorem qsS {a0 a1 a2 a3 a4}:Ze P E (.bsl a0 a1 a2 a3 a4::os) ⟨fr,hp⟩ KS=(AOp.bsl a0 a1 a2 a3 a4).wp P (get fr) hp (Qn P E os (some a0) fr hp KS):=rfl
theorem qsQ {a0 a1 a2}:Ze P E (.bld a0 a1 a2::os) ⟨fr,hp⟩ KS=(AOp.bld a0 a1 a2).wp P (get fr) hp (Qn P E os (some a0) fr hp KS):=rfl
theorem qu8 {a0 a1 a2}:Ze P E (.fa a0 a1 a2::os) ⟨fr,hp⟩ KS=(AOp.fa a0 a1 a2).wp P (get fr) hp (Qn P E os (some a0) fr hp KS):=rfl
theorem qs1 {a0 a1 a2 a3 a4}:Ze P E (.fld a0 a1 a2 a3 a4::os) ⟨fr,hp⟩ KS=(AOp.fld a0 a1 a2 a3 a4).wp P (get fr) hp (Qn P E os (some a0) fr hp KS):=rfl
theorem qu9 {a0 a1 a2 a3}:Ze P E (.ia a0 a1 a2 a3::os) ⟨fr,hp⟩ KS=(AOp.ia a0 a1 a2 a3).wp P (get fr) hp (Qn P E os (some a0) fr hp KS):=rfl
theorem qs2 {a0 a1 a2 a3 a4}:Ze P E (.iaa a0 a1 a2 a3 a4::os) ⟨fr,hp⟩ KS=(AOp.iaa a0 a1 a2 a3 a4).wp P (get fr) hp (Qn P E os (some a0) fr hp KS):=rfl
theorem qs4 {a0 a1 a2 a3 a4 a5}:Ze P E (.idx a0 a1 a2 a3 a4 a5::os) ⟨fr,hp⟩ KS=(AOp.idx a0 a1 a2 a3 a4 a5).wp P (get fr) hp (Qn P E os (some a0) fr hp KS):=rfl
theorem qs3 {a0 a1 a2}:Ze P E (.ids a0 a1 a2::os) ⟨fr,hp⟩ KS=(AOp.ids a0 a1 a2).wp P (get fr) hp (Qn P E os (some a0) fr hp KS):=rfl
theorem qs6 {a0 a1}:Ze P E (.len a0 a1::os) ⟨fr,hp⟩ KS=(AOp.len a0 a1).wp P (get fr) hp (Qn P E os (some a0) fr hp KS):=rfl
theorem qs9 {a0 a1}:Ze P E (.lns a0 a1::os) ⟨fr,hp⟩ KS=(AOp.lns a0 a1).wp P (get fr) hp (Qn P E os (some a0) fr hp KS):=rfl
theorem qs8 {a0 a1}:Ze P E (.lnm a0 a1::os) ⟨fr,hp⟩ KS=(AOp.lnm a0 a1).wp P (get fr) hp (Qn P E os (some a0) fr hp KS):=rfl
theorem qtf {a0 a1 a2 a3 a4 a5}:Ze P E (.slc a0 a1 a2 a3 a4 a5::os) ⟨fr,hp⟩ KS=(AOp.slc a0 a1 a2 a3 a4 a5).wp P (get fr) hp (Qn P E os (some a0) fr hp KS):=rfl
theorem qth {a0 a1 a2 a3}:Ze P E (.sls a0 a1 a2 a3::os) ⟨fr,hp⟩ KS=(AOp.sls a0 a1 a2 a3).wp P (get fr) hp (Qn P E os (some a0) fr hp KS):=rfl
theorem qsN {a0 a1 a2 a3 a4}:Ze P E (.app a0 a1 a2 a3 a4::os) ⟨fr,hp⟩ KS=(AOp.app a0 a1 a2 a3 a4).wp P (get fr) hp (Qn P E os (some a0) fr hp KS):=rfl
theorem qsW {a0 a1 a2 a3}:Ze P E (.cpy a0 a1 a2 a3::os) ⟨fr,hp⟩ KS=(AOp.cpy a0 a1 a2 a3).wp P (get fr) hp (Qn P E os (some a0) fr hp KS):=rfl
theorem qtc {a0 a1 a2 a3 a4 a5}:Ze P E (.mks a0 a1 a2 a3 a4 a5::os) ⟨fr,hp⟩ KS=(AOp.mks a0 a1 a2 a3 a4 a5).wp P (get fr) hp (Qn P E os (some a0) fr hp KS):=rfl
theorem qsV {a0 a1 a2}:Ze P E (.cnv a0 a1 a2::os) ⟨fr,hp⟩ KS=(AOp.cnv a0 a1 a2).wp P (get fr) hp (Qn P E os (some a0) fr hp KS):=rfl
theorem qvc {a0 a1 a2 a3}:Ze P E (.mx a0 a1 a2 a3::os) ⟨fr,hp⟩ KS=(AOp.mx a0 a1 a2 a3).wp P (get fr) hp (Qn P E os (some a0) fr hp KS):=rfl
theorem qqu {a0 a1}:Ze P E (.nilc a0 a1::os) ⟨fr,hp⟩ KS=(AOp.nilc a0 a1).wp P (get fr) hp (Qn P E os (some a0) fr hp KS):=rfl
theorem qta {a0 a1 a2 a3}:Ze P E (.mkf a0 a1 a2 a3::os) ⟨fr,hp⟩ KS=(AOp.mkf a0 a1 a2 a3).wp P (get fr) hp (Qn P E os (some a0) fr hp KS):=rfl
theorem qjG {α β:Type} {a:α} {b:β} {K:α→β→Prop} {p:Prop}:(∃ r ws,(p∧r=a∧ws=b)∧K r ws)=(p∧K a b) :=
 propext ⟨fun ⟨_,_,⟨h,e1,e2⟩,k⟩=>⟨h,by subst e1;subst e2;exact k⟩,fun ⟨h,k⟩=>⟨a,b,⟨h,rfl,rfl⟩,k⟩⟩
theorem Jr {α β:Type} {a:α} {b:β} {K:α→β→Prop}:(∃ r ws,(r=a∧ws=b)∧K r ws)=K a b :=
 propext ⟨fun ⟨_,_,⟨e1,e2⟩,k⟩=>by subst e1;subst e2;exact k,fun k=>⟨a,b,⟨rfl,rfl⟩,k⟩⟩
theorem qt9 {α β γ:Type} {p:γ→Prop} {f:γ→α} {b:β} {K:α→β→Prop}:(∃ r ws,(∃ z,p z∧r=f z∧ws=b)∧K r ws)=∃ z,p z∧K (f z) b :=
 propext ⟨fun ⟨_,_,⟨z,h,e1,e2⟩,k⟩=>⟨z,h,by subst e1;subst e2;exact k⟩,fun ⟨z,h,k⟩=>⟨_,_,⟨z,h,rfl,rfl⟩,k⟩⟩
theorem jJ {α β:Type} {K:α→β→Prop}:(∃ r ws,False∧K r ws)=False:=by simp
theorem qv4 {d x}:(AOp.mv d x).wp P F hp K=K (evF F x) []:=Jr
def qqI (c a b:AV) (K:AV→List (Nat × HObj)→Prop):Prop:=match c with
 | .v (.bool t)=>K (bif t then a else b) []
 | _=>False
theorem qsG {d c a b}:(AOp.pick d c a b).wp P F hp K=qqI (evF F c) (evF F a) (evF F b) K:=by
 unfold AOp.wp;simp only [AOp.sem]
 generalize evF F c=u
 cases u with
 | v x=>cases x <;> first | exact Jr | exact jJ
 | _=>exact jJ
theorem qqe {t a b}:qqI (B t) a b K=K (bif t then a else b) []:=rfl
def Xx (op:BinOp) (x y:AV) (K:AV→List (Nat × HObj)→Prop):Prop:=match x,y with
 | .v a,.v b=>∃ z,Y5 op a b=some z∧K (.v z) []
 | _,_=>False
theorem quJ {d op x y}:(AOp.bin d op x y).wp P F hp K=Xx op (evF F x) (evF F y) K:=by
 unfold AOp.wp;simp only [AOp.sem]
 generalize evF F x=u
 generalize evF F y=v
 cases u <;> cases v <;> first | exact qt9 | exact jJ
theorem Zn {op a b z} (h:Y5 op a b=some z):Xx op (.v a) (.v b) K=K (.v z) []:=by
 unfold Xx;simp only [h,Option.some.injEq,exists_eq_left']
theorem qtz {k:IntKind} {a b:Int}:Xx .add (.v (.int k a)) (.v (.int k b)) K=K (.v (.int k (k.wrap (a+b)))) []:=Zn (by simp [Y5])
theorem qtM {k:IntKind} {a b:Int}:Xx .sub (.v (.int k a)) (.v (.int k b)) K=K (.v (.int k (k.wrap (a - b)))) []:=Zn (by simp [Y5])
theorem qtG {k:IntKind} {a b:Int}:Xx .mul (.v (.int k a)) (.v (.int k b)) K=K (.v (.int k (k.wrap (a*b)))) []:=Zn (by simp [Y5])
theorem qtI {k:IntKind} {a b:Int} (h:b≠0):Xx .quo (.v (.int k a)) (.v (.int k b)) K=K (.v (.int k (k.wrap (a.tdiv b)))) []:=Zn (by simp [Y5,h])
theorem qtJ {k:IntKind} {a b:Int} (h:b≠0):Xx .rem (.v (.int k a)) (.v (.int k b)) K=K (.v (.int k (a.tmod b))) []:=Zn (by simp [Y5,h])
theorem qtA {k:IntKind} {a b:Int}:Xx .and (.v (.int k a)) (.v (.int k b)) K=K (.v (.int k (k.wrap (BitVec.ofInt k.bits a &&& BitVec.ofInt k.bits b).toNat))) []:=Zn (by simp [Y5])
theorem qvD {k:IntKind} {a b:Int}:Xx .or (.v (.int k a)) (.v (.int k b)) K=K (.v (.int k (k.wrap (BitVec.ofInt k.bits a ||| BitVec.ofInt k.bits b).toNat))) []:=Zn (by simp [Y5])
theorem qtN {k:IntKind} {a b:Int}:Xx .xor (.v (.int k a)) (.v (.int k b)) K=K (.v (.int k (k.wrap (BitVec.ofInt k.bits a ^^^ BitVec.ofInt k.bits b).toNat))) []:=Zn (by simp [Y5])
theorem qlC {k:IntKind} {a b:Int}:Xx .andNot (.v (.int k a)) (.v (.int k b)) K=K (.v (.int k (k.wrap (BitVec.ofInt k.bits a &&& ~~~ BitVec.ofInt k.bits b).toNat))) []:=Zn (by simp [Y5])
theorem qtK {k k':IntKind} {a b:Int} (h:0≤b):Xx .shl (.v (.int k a)) (.v (.int k' b)) K=K (.v (.int k (k.wrap (a*2 ^ (min b.toNat k.bits))))) []:=Zn (by simp [Y5];omega)
theorem qtL {k k':IntKind} {a b:Int} (h:0≤b):Xx .shr (.v (.int k a)) (.v (.int k' b)) K=K (.v (.int k (a.fdiv (2 ^ (min b.toNat k.bits))))) []:=Zn (by simp [Y5];omega)
theorem qtB {k:IntKind} {a b:Int}:Xx .eql (.v (.int k a)) (.v (.int k b)) K=K (B (a==b)) []:=Zn (by simp [Y5])
theorem qtH {k:IntKind} {a b:Int}:Xx .neq (.v (.int k a)) (.v (.int k b)) K=K (B (a != b)) []:=Zn (by simp [Y5])
theorem qtF {k:IntKind} {a b:Int}:Xx .lss (.v (.int k a)) (.v (.int k b)) K=K (B (decide (a<b))) []:=Zn (by simp [Y5])
theorem qtE {k:IntKind} {a b:Int}:Xx .leq (.v (.int k a)) (.v (.int k b)) K=K (B (decide (a≤b))) []:=Zn (by simp [Y5])
theorem qtD {k:IntKind} {a b:Int}:Xx .gtr (.v (.int k a)) (.v (.int k b)) K=K (B (decide (a>b))) []:=Zn (by simp [Y5])
theorem qtC {k:IntKind} {a b:Int}:Xx .geq (.v (.int k a)) (.v (.int k b)) K=K (B (decide (a≥b))) []:=Zn (by simp [Y5])
def qtr (P:Program) (op:BinOp) (ty:TypeId) (x y:AV) (K:AV→List (Nat × HObj)→Prop):Prop :=
 ∃ a b z,x.val=some a∧y.val=some b∧(∀ w,(binOp op ty a b).run P w = .ok z w)∧(∀ p q w,(eqGuard op ty p q a b).run P w = .ok () w)∧K (.v z) []
theorem qsE {d op ty x y}:(AOp.bing d op ty x y).wp P F hp K=qtr P op ty (evF F x) (evF F y) K:=by
 apply propext
 constructor
 · rintro ⟨r,ws,⟨a,b,z,h1,h2,h3,h4,rfl,rfl⟩,k⟩;exact ⟨a,b,z,h1,h2,h3,h4,k⟩
 · rintro ⟨a,b,z,h1,h2,h3,h4,k⟩;exact ⟨_,_,⟨a,b,z,h1,h2,h3,h4,rfl,rfl⟩,k⟩
def UnW (op:UnOp) (x:AV) (K:AV→List (Nat × HObj)→Prop):Prop:=match x with
 | .v a=>∃ z,unV op a=some z∧K (.v z) []
 | _=>False
theorem qv7 {d op x}:(AOp.un d op x).wp P F hp K=UnW op (evF F x) K:=by
 unfold AOp.wp;simp only [AOp.sem]
 generalize evF F x=u
 cases u <;> first | exact qt9 | exact jJ
theorem quD {k:IntKind} {a:Int}:UnW .neg (.v (.int k a)) K=K (.v (.int k (k.wrap (0 - a)))) []:=by unfold UnW;simp [unV]
theorem quE {b:Bool}:UnW .not (B b) K=K (B !b) []:=by unfold UnW;simp [unV]
def qvk (x:AV) (i:Nat) (K:AV→List (Nat × HObj)→Prop):Prop:=match x with
 | .tup vs=>∃ y,vs[i]?=some y∧K y []
 | _=>False
theorem quP {d x i}:(AOp.ext d x i).wp P F hp K=qvk (evF F x) i K:=by
 unfold AOp.wp;simp only [AOp.sem]
 generalize evF F x=u
 cases u <;> first | exact qt9 | exact jJ
def YN : List AV → Nat → Option AV
 | [],_=>none
 | a::l,n=>if n=0 then some a else YN l (n - 1)
theorem Jk : ∀ (l : List AV) (n : Nat),YN l n = l[n]?
 | [],n=>by simp [YN]
 | a::l,0=>by simp [YN]
 | a::l,n+1=>by simp [YN,Jk l n]
theorem qki {a:AV} {l:List AV} {n}:YN (a::l) n=if n=0 then some a else YN l (n - 1):=rfl
def qqH (o:Option AV) (K:AV→List (Nat × HObj)→Prop):Prop:=match o with
 | some y=>K y []
 | none=>False
theorem Yu {y:AV}:qqH (some y) K=K y []:=rfl
theorem qnF {o:Option AV}:(∃ y,o=some y∧K y [])=qqH o K:=by
 cases o <;> simp [qqH]
theorem qt8 {vs:List AV} {i}:qvk (.tup vs) i K=qqH (YN vs i) K:=by rw [Jk];exact qnF
def Ql (cs:List AV) (off sz:Nat) (agg:Bool) (K:AV→List (Nat × HObj)→Prop):Prop:=match agg with
 | true=>off+sz≤cs.length∧K (.agg (zS cs off sz)) []
 | false=>∃ y,cs[off]?=some y∧K y []
theorem jI {cs:List AV} {off sz}:Ql cs off sz true K=(off+sz≤cs.length∧K (.agg (zS cs off sz)) []):=rfl
theorem J6 {cs:List AV} {off sz}:Ql cs off sz false K=qqH (YN cs off) K:=by rw [Jk];exact qnF
theorem qcr {cs:List AV} {off sz agg} {p:Prop}:(∃ r ws,((match agg with | true=>off+sz≤cs.length∧r = .agg (zS cs off sz) | false=>∃ y,cs[off]?=some y∧r=y)∧ws=[])∧K r ws)=Ql cs off sz agg K:=by
 apply propext
 cases agg with
 | true =>
   constructor
   · rintro ⟨r,ws,⟨⟨h,rfl⟩,rfl⟩,k⟩;exact ⟨h,k⟩
   · rintro ⟨h,k⟩;exact ⟨_,_,⟨⟨h,rfl⟩,rfl⟩,k⟩
 | false =>
   constructor
   · rintro ⟨r,ws,⟨⟨y,h,rfl⟩,rfl⟩,k⟩;exact ⟨_,h,k⟩
   · rintro ⟨y,h,k⟩;exact ⟨_,_,⟨⟨y,h,rfl⟩,rfl⟩,k⟩
def LdW (hp:List HObj) (agg:Bool) (sz:Nat) (x:AV) (K:AV→List (Nat × HObj)→Prop):Prop:=match x with
 | .ptr cs off=>Ql cs off sz agg K
 | .ref id off=>match hp[id]? with
   | some (.cells cs)=>Ql cs off sz agg K
   | _=>False
 | _=>False
theorem qv3 {d agg sz x}:(AOp.ld d agg sz x).wp P F hp K=LdW hp agg sz (evF F x) K:=by
 unfold AOp.wp;simp only [AOp.sem,WG]
 have sw : ∀ (cs : List AV) (off : Nat),(∃ r ws,(ws = [] ∧ (match agg with | true => off + sz ≤ cs.length ∧ r = .agg (zS cs off sz) | false => ∃ y,cs[off]? = some y ∧ r = y)) ∧ K r ws) = Ql cs off sz agg K := fun cs off => by
  rw [←qcr (p:=True)]
  exact propext ⟨fun ⟨r,ws,⟨a,b⟩,k⟩=>⟨r,ws,⟨b,a⟩,k⟩,fun ⟨r,ws,⟨a,b⟩,k⟩=>⟨r,ws,⟨b,a⟩,k⟩⟩
 generalize evF F x=u
 cases u with
 | ptr cs off=>exact sw cs off
 | ref id off =>
   simp only [hpf,LdW]
   generalize hp[id]?=o
   cases o with
   | none=>exact jJ
   | some o=>cases o <;> first | exact sw _ _ | exact jJ
 | _=>exact jJ
theorem qr1 {agg sz cs off}:LdW hp agg sz (.ptr cs off) K=Ql cs off sz agg K:=rfl
def qr : List HObj → Nat → Option HObj
 | [],_=>none
 | a::l,n=>if n=0 then some a else qr l (n - 1)
theorem zH : ∀ (l : List HObj) (n : Nat),qr l n = l[n]?
 | [],n=>by simp [qr]
 | a::l,0=>by simp [qr]
 | a::l,n+1=>by simp [qr,zH l n]
theorem qkj {a:HObj} {l:List HObj} {n}:qr (a::l) n=if n=0 then some a else qr l (n - 1):=rfl
theorem qda {l:List HObj} {o:HObj}:qr (l++[o]) l.length=some o:=by simp [zH]
theorem qk {l k:List HObj} {n} (h:n<l.length):qr (l++k) n=qr l n:=by rw [zH,zH,List.getElem?_append_left h]
theorem qps {l:List HObj} {o o':HObj}:(l++[o]).set l.length o'=l++[o']:=by simp
def LdR (o:Option HObj) (agg:Bool) (sz off:Nat) (K:AV→List (Nat × HObj)→Prop):Prop:=match o with
 | some (.cells cs)=>Ql cs off sz agg K
 | _=>False
theorem qf {cs agg sz off}:LdR (some (.cells cs)) agg sz off K=Ql cs off sz agg K:=rfl
theorem qr2 {agg sz id off}:LdW hp agg sz (.ref id off) K=LdR (qr hp id) agg sz off K:=by
 simp only [LdW,zH];rfl
def StW (hp:List HObj) (sz:Nat) (a x:AV) (K:AV→List (Nat × HObj)→Prop):Prop:=match a with
 | .ref id off=>match hp[id]? with
   | some (.cells cs)=>(x.cells.length=sz∧(x.cells.all AV.isCell)=true∧off+sz≤cs.length)∧K .any [(id,.cells (splice cs off x.cells))]
   | _=>False
 | _=>False
theorem qv6 {sz a x}:(AOp.st sz a x).wp P F hp K=StW hp sz (evF F a) (evF F x) K:=by
 unfold AOp.wp;simp only [AOp.sem,qkH]
 generalize evF F a=u
 cases u with
 | ref id off =>
   simp only [hpf,StW]
   generalize hp[id]?=o
   cases o with
   | none=>exact jJ
   | some o =>
     cases o with
     | cells cs =>
       apply propext
       constructor
       · rintro ⟨r,ws,⟨h1,h2,h3,rfl,rfl⟩,k⟩;exact ⟨⟨h1,h2,h3⟩,k⟩
       · rintro ⟨⟨h1,h2,h3⟩,k⟩;exact ⟨_,_,⟨h1,h2,h3,rfl,rfl⟩,k⟩
     | _=>exact jJ
 | _=>exact jJ
def StR (o:Option HObj) (sz id off:Nat) (x:AV) (K:AV→List (Nat × HObj)→Prop):Prop:=match o with
 | some (.cells cs)=>(x.cells.length=sz∧(x.cells.all AV.isCell)=true∧off+sz≤cs.length)∧K .any [(id,.cells (splice cs off x.cells))]
 | _=>False
theorem qt {cs sz id off x}:StR (some (.cells cs)) sz id off x K=((x.cells.length=sz∧(x.cells.all AV.isCell)=true∧off+sz≤cs.length)∧K .any [(id,.cells (splice cs off x.cells))]):=rfl
theorem qsw {sz id off x}:StW hp sz (.ref id off) x K=StR (qr hp id) sz id off x K:=by
 simp only [StW,zH];rfl
theorem quL {d sz x}:(AOp.box d sz x).wp P F hp K=(((evF F x).cells.length=sz∧((evF F x).cells.all AV.isCell)=true)∧K (.ref hp.length 0) [(hp.length,.cells (evF F x).cells)]):=by
 unfold AOp.wp;simp only [AOp.sem]
 apply propext
 constructor
 · rintro ⟨r,ws,⟨h1,h2,rfl,rfl⟩,k⟩;exact ⟨⟨h1,h2⟩,k⟩
 · rintro ⟨⟨h1,h2⟩,k⟩;exact ⟨_,_,⟨h1,h2,rfl,rfl⟩,k⟩
theorem qv0 {d z}:(AOp.al d z).wp P F hp K=K (.ref hp.length 0) [(hp.length,.cells z)]:=Jr
def qvi (P:Program) (hp:List HObj) (n sz:Nat) (zero:List AV) (is:List Nat) (xs:List AV) (K:AV→List (Nat × HObj)→Prop):Prop :=
 ∃ ys ids,qE (hpf hp) xs=some (ys,ids)∧(ys.all fun y=>y.cells.all AV.isCell&&y.cells.all AV.isPure&&(y.cells.length==sz))=true∧K (.sl true n (place (zP n zero) sz (is.zip ys))) (zB ids)
theorem zq {n sz : Nat} {zero : List AV} {is : List Nat} {xs ys : List AV} {ids : List Nat} (h1 : qE (hpf hp) xs = some (ys,ids)) (h2 : (ys.all fun y => y.cells.all AV.isCell && y.cells.all AV.isPure && (y.cells.length == sz)) = true)
 (h3:K (.sl true n (place (zP n zero) sz (is.zip ys))) (zB ids)):qvi P hp n sz zero is xs K:=⟨ys,ids,h1,h2,h3⟩
theorem qks {cs:List AV} {sz:Nat}:place cs sz []=cs:=rfl
theorem qiJ {cs:List AV} {sz i:Nat} {x:AV} {r}:place cs sz ((i,x)::r)=place (splice cs (i*sz) x.cells) sz r:=rfl
theorem qiI {cs:List AV}:WY cs []=cs:=rfl
theorem qgq {cs:List AV} {off n:Nat} {x:AV} {r}:WY cs ((off,n,x)::r)=WY (splice cs off x.cells) r:=rfl
theorem quM {d n sz z ps}:(AOp.bsl d n sz z ps).wp P F hp K=qvi P hp n sz z (ps.map (·.1)) (ps.map fun p=>evF F p.2) K:=by
 apply propext
 constructor
 · rintro ⟨r,ws,⟨ys,ids,h1,h2,rfl,rfl⟩,k⟩;exact ⟨ys,ids,h1,h2,k⟩
 · rintro ⟨ys,ids,h1,h2,k⟩;exact ⟨_,_,⟨ys,ids,h1,h2,rfl,rfl⟩,k⟩
theorem quK {d z ps}:(AOp.bld d z ps).wp P F hp K=((ps.all fun p=>(evF F p.2.2).cells.all AV.isCell&&((evF F p.2.2).cells.length==p.2.1))=true∧K (.agg (WY z (ps.map fun p=>(p.1,p.2.1,evF F p.2.2)))) []):=qjG
def FaW (x:AV) (off:Nat) (K:AV→List (Nat × HObj)→Prop):Prop:=match x with
 | .ptr cs o=>K (.ptr cs (o+off)) []
 | .ref id o=>K (.ref id (o+off)) []
 | _=>False
theorem qv1 {d x off}:(AOp.fa d x off).wp P F hp K=FaW (evF F x) off K:=by
 unfold AOp.wp;simp only [AOp.sem]
 generalize evF F x=u
 cases u <;> first | exact Jr | exact jJ
theorem qrJ {cs o off}:FaW (.ptr cs o) off K=K (.ptr cs (o+off)) []:=rfl
theorem qrK {id o off}:FaW (.ref id o) off K=K (.ref id (o+off)) []:=rfl
def qvl (agg:Bool) (sz off:Nat) (x:AV) (K:AV→List (Nat × HObj)→Prop):Prop:=match x with
 | .agg cs=>Ql cs off sz agg K
 | _=>False
theorem quQ {d agg sz off x}:(AOp.fld d agg sz off x).wp P F hp K=qvl agg sz off (evF F x) K:=by
 unfold AOp.wp;simp only [AOp.sem]
 generalize evF F x=u
 cases u <;> first | exact qcr (p:=True) | exact jJ
theorem qos {agg sz off cs}:qvl agg sz off (.agg cs) K=Ql cs off sz agg K:=rfl
def IaW (sz:Nat) (x i:AV) (K:AV→List (Nat × HObj)→Prop):Prop:=match x,i with
 | .sl _ n cs,.v (.int _ j)=>(0≤j∧j<n)∧cs.length=n*sz∧K (.ptr cs (j.toNat*sz)) []
 | .ms id off n sz',.v (.int _ j)=>(0≤j∧j<n)∧sz'=sz∧K (.ref id (off+j.toNat*sz)) []
 | .mc id off n _ sz',.v (.int _ j)=>(0≤j∧j<n)∧sz'=sz∧K (.ref id (off+j.toNat*sz)) []
 | _,_=>False
theorem qv2 {d sz x i}:(AOp.ia d sz x i).wp P F hp K=IaW sz (evF F x) (evF F i) K:=by
 unfold AOp.wp;simp only [AOp.sem]
 generalize evF F x=u
 generalize evF F i=v
 cases u with
 | sl f n cs =>
   cases v with
   | v y =>
     cases y <;> first | exact jJ | skip
     apply propext
     constructor
     · rintro ⟨r,ws,⟨h1,rfl,rfl,h2⟩,k⟩;exact ⟨h1,h2,k⟩
     · rintro ⟨h1,h2,k⟩;exact ⟨_,_,⟨h1,rfl,rfl,h2⟩,k⟩
   | _=>exact jJ
 | ms id off n sz' =>
   cases v with
   | v y =>
     cases y <;> first | exact jJ | skip
     apply propext
     constructor
     · rintro ⟨r,ws,⟨h1,h2,rfl,rfl⟩,k⟩;exact ⟨h1,h2,k⟩
     · rintro ⟨h1,h2,k⟩;exact ⟨_,_,⟨h1,h2,rfl,rfl⟩,k⟩
   | _=>exact jJ
 | mc id off n c sz' =>
   cases v with
   | v y =>
     cases y <;> first | exact jJ | skip
     apply propext
     constructor
     · rintro ⟨r,ws,⟨h1,h2,rfl,rfl⟩,k⟩;exact ⟨h1,h2,k⟩
     · rintro ⟨h1,h2,k⟩;exact ⟨_,_,⟨h1,h2,rfl,rfl⟩,k⟩
   | _=>exact jJ
 | _=>cases v <;> exact jJ
theorem quh {sz id off n c sz' j k}:IaW sz (.mc id off n c sz') (.v (.int k j)) K=((0≤j∧j<n)∧sz'=sz∧K (.ref id (off+j.toNat*sz)) []):=rfl
theorem quj {sz f n cs j k}:IaW sz (.sl f n cs) (.v (.int k j)) K=((0≤j∧j<n)∧cs.length=n*sz∧K (.ptr cs (j.toNat*sz)) []):=rfl
theorem qui {sz id off n sz' j k}:IaW sz (.ms id off n sz') (.v (.int k j)) K=((0≤j∧j<n)∧sz'=sz∧K (.ref id (off+j.toNat*sz)) []):=rfl
def qts (ln sz:Nat) (x i:AV) (K:AV→List (Nat × HObj)→Prop):Prop:=match x,i with
 | .ptr cs o,.v (.int _ j)=>(0≤j∧j<ln)∧K (.ptr cs (o+j.toNat*sz)) []
 | .ref id o,.v (.int _ j)=>(0≤j∧j<ln)∧K (.ref id (o+j.toNat*sz)) []
 | _,_=>False
theorem quR {d ln sz x i}:(AOp.iaa d ln sz x i).wp P F hp K=qts ln sz (evF F x) (evF F i) K:=by
 unfold AOp.wp;simp only [AOp.sem]
 generalize evF F x=u
 generalize evF F i=v
 cases u with
 | ptr cs o =>
   cases v with
   | v y=>cases y <;> first | exact jJ | exact qjG
   | _=>exact jJ
 | ref id o =>
   cases v with
   | v y=>cases y <;> first | exact jJ | exact qjG
   | _=>exact jJ
 | _=>cases v <;> exact jJ
theorem qoA {ln sz cs o j k}:qts ln sz (.ptr cs o) (.v (.int k j)) K=((0≤j∧j<ln)∧K (.ptr cs (o+j.toNat*sz)) []):=rfl
theorem qoB {ln sz id o j k}:qts ln sz (.ref id o) (.v (.int k j)) K=((0≤j∧j<ln)∧K (.ref id (o+j.toNat*sz)) []):=rfl
def qtt (ln:Nat) (agg:Bool) (sz:Nat) (x i:AV) (K:AV→List (Nat × HObj)→Prop):Prop:=match x,i with
 | .agg cs,.v (.int _ j)=>(0≤j∧j<ln)∧Ql cs (j.toNat*sz) sz agg K
 | _,_=>False
theorem quT {d ln agg sz x i}:(AOp.idx d ln agg sz x i).wp P F hp K=qtt ln agg sz (evF F x) (evF F i) K:=by
 unfold AOp.wp;simp only [AOp.sem]
 generalize evF F x=u
 generalize evF F i=v
 cases u with
 | agg cs =>
   cases v with
   | v y =>
     cases y <;> first | exact jJ | skip
     simp only [qtt]
     rw [←qcr (p:=True)]
     apply propext
     constructor
     · rintro ⟨r,ws,⟨h1,h2,h3⟩,k⟩;exact ⟨h1,r,ws,⟨h2,h3⟩,k⟩
     · rintro ⟨h1,r,ws,⟨h2,h3⟩,k⟩;exact ⟨r,ws,⟨h1,h2,h3⟩,k⟩
   | _=>exact jJ
 | _=>cases v <;> exact jJ
theorem qoS {ln agg sz cs j k}:qtt ln agg sz (.agg cs) (.v (.int k j)) K=((0≤j∧j<ln)∧Ql cs (j.toNat*sz) sz agg K):=rfl
def qnm (x:AV) (K:AV→List (Nat × HObj)→Prop):Prop:=match x with
 | .sl _ n _=>K (I n) []
 | .ms _ _ n _=>K (I n) []
 | .mc _ _ n _ _=>K (I n) []
 | _=>False
theorem quU {d x}:(AOp.len d x).wp P F hp K=qnm (evF F x) K:=by
 unfold AOp.wp;simp only [AOp.sem]
 generalize evF F x=u
 cases u <;> first | exact Jr | exact jJ
theorem qr5 {f n cs}:qnm (.sl f n cs) K=K (I n) []:=rfl
theorem qr3 {id off n c sz}:qnm (.mc id off n c sz) K=K (I n) []:=rfl
theorem qr4 {id off n sz}:qnm (.ms id off n sz) K=K (I n) []:=rfl
def qnq (sz:Nat) (x:AV) (lo hi mx:Option AV) (K:AV→List (Nat × HObj)→Prop):Prop:=∃ r ws,qfn r ws sz x lo hi mx∧K r ws
theorem quZ {d sz x lo hi mx}:(AOp.slc d sz x lo hi mx).wp P F hp K=qnq sz (evF F x) (lo.map (evF F)) (hi.map (evF F)) (mx.map (evF F)) K:=rfl
theorem qh3 {a b:Int}:(I a=I b)=(a=b):=by simp [I]
theorem qhR {sz f n cs j}:qnq sz (.sl f n cs) none (some (I j)) none K=((0≤j∧j≤n∧cs.length=n*sz)∧K (.sl (f&&decide (j.toNat=n)) j.toNat (zS cs 0 (j.toNat*sz))) []):=by
 apply propext
 constructor
 · rintro ⟨r,ws,⟨l,h,h1,h2,h3,h4,h5,h6,h7⟩,k⟩
   simp only [qh3] at h2
   subst h1;subst h2
   simp only [Nat.sub_zero,Nat.zero_mul] at h6
   subst h6;subst h7
   exact ⟨⟨by omega,by omega,h5⟩,by simpa using k⟩
 · rintro ⟨⟨h1,h2,h3⟩,k⟩
   exact ⟨_,_,⟨0,j.toNat,rfl,by rw [Int.toNat_of_nonneg h1],by omega,by omega,h3,rfl,rfl⟩,by simpa using k⟩
theorem qsm {sz f n cs j}:qnq sz (.sl f n cs) (some (I j)) none none K=((0≤j∧j≤n∧cs.length=n*sz)∧K (.sl f (n - j.toNat) (zS cs (j.toNat*sz) ((n - j.toNat)*sz))) []):=by
 apply propext
 constructor
 · rintro ⟨r,ws,⟨l,h,h1,h2,h3,h4,h5,h6,h7⟩,k⟩
   simp only [qh3] at h1
   subst h1;subst h2
   simp only [decide_true,Bool.and_true] at h6
   subst h6;subst h7
   exact ⟨⟨by omega,by omega,h5⟩,by simpa using k⟩
 · rintro ⟨⟨h1,h2,h3⟩,k⟩
   exact ⟨_,_,⟨j.toNat,n,by rw [Int.toNat_of_nonneg h1],rfl,by omega,by omega,h3,rfl,rfl⟩,by simpa using k⟩
theorem qm1 {sz f n cs i j}:qnq sz (.sl f n cs) (some (I i)) (some (I j)) none K=((0≤i∧i≤j∧j≤n∧cs.length=n*sz)∧K (.sl (f&&decide (j.toNat=n)) (j.toNat - i.toNat) (zS cs (i.toNat*sz) ((j.toNat - i.toNat)*sz))) []):=by
 apply propext
 constructor
 · rintro ⟨r,ws,⟨l,h,h1,h2,h3,h4,h5,h6,h7⟩,k⟩
   simp only [qh3] at h1 h2
   subst h1;subst h2
   subst h6;subst h7
   exact ⟨⟨by omega,by omega,by omega,h5⟩,by simpa using k⟩
 · rintro ⟨⟨h1,h2,h3,h4⟩,k⟩
   exact ⟨_,_,⟨i.toNat,j.toNat,by rw [Int.toNat_of_nonneg h1],by rw [Int.toNat_of_nonneg (by omega)],by omega,by omega,h4,rfl,rfl⟩,by simpa using k⟩
def qvj (k:IntKind) (x:AV) (K:AV→List (Nat × HObj)→Prop):Prop:=match x with
 | .v (.int _ n)=>K (.v (.int k (k.wrap n))) []
 | _=>False
theorem quN {d k x}:(AOp.cnv d k x).wp P F hp K=qvj k (evF F x) K:=by
 unfold AOp.wp;simp only [AOp.sem]
 generalize evF F x=u
 cases u with
 | v y=>cases y <;> first | exact Jr | exact jJ
 | _=>exact jJ
theorem qoc {k k' n}:qvj k (.v (.int k' n)) K=K (.v (.int k (k.wrap n))) []:=rfl
def MxW (max:Bool) (x y:AV) (K:AV→List (Nat × HObj)→Prop):Prop:=match x,y with
 | .v (.int k a),.v (.int _ b)=>K (.v (.int k (bif max then (if b>a then b else a) else (if b<a then b else a)))) []
 | _,_=>False
theorem qv5 {d max x y}:(AOp.mx d max x y).wp P F hp K=MxW max (evF F x) (evF F y) K:=by
 unfold AOp.wp;simp only [AOp.sem]
 generalize evF F x=u
 generalize evF F y=v
 cases u with
 | v a =>
   cases v with
   | v b=>cases a <;> cases b <;> first | exact Jr | exact jJ
   | _=>cases a <;> exact jJ
 | _=>cases v <;> exact jJ
theorem qnE {max k a k' b}:MxW max (.v (.int k a)) (.v (.int k' b)) K=K (.v (.int k (bif max then (if b>a then b else a) else (if b<a then b else a)))) []:=rfl
theorem qsa {k a k' b}:MxW true (.v (.int k a)) (.v (.int k' b)) K=K (.v (.int k (max a b))) []:=by
 rw [qnE,cond_true]
 have:(if b>a then b else a)=max a b:=by by_cases h:b>a <;> simp [h] <;> omega
 rw [this]
theorem qsb {k a k' b}:MxW false (.v (.int k a)) (.v (.int k' b)) K=K (.v (.int k (min a b))) []:=by
 rw [qnE,cond_false]
 have:(if b<a then b else a)=min a b:=by by_cases h:b<a <;> simp [h] <;> omega
 rw [this]
def qlr (x:AV) (K:AV→List (Nat × HObj)→Prop):Prop:=match x with
 | .ptr cs o=>K (.ptr cs o) []
 | .ref id o=>K (.ref id o) []
 | .fn (.func f) as bs=>K (.fn (.func f) as bs) []
 | _=>False
theorem qsF {d x}:(AOp.nilc d x).wp P F hp K=qlr (evF F x) K:=by
 unfold AOp.wp;simp only [AOp.sem]
 generalize evF F x=u
 cases u with
 | fn f as bs=>cases f <;> first | exact Jr | exact jJ
 | ptr=>exact Jr
 | ref=>exact Jr
 | _=>exact jJ
theorem qmF {cs o}:qlr (.ptr cs o) K=K (.ptr cs o) []:=rfl
theorem qmG {id o}:qlr (.ref id o) K=K (.ref id o) []:=rfl
theorem qoY {f as bs}:qlr (.fn (.func f) as bs) K=K (.fn (.func f) as bs) []:=rfl
theorem quW {d f as bs}:(AOp.mkf d f as bs).wp P F hp K=K (.fn f (as.map (evF F)) (bs.map (evF F))) []:=Jr
def qnj (hp:List HObj) (sz bytes:Nat) (x y:AV) (K:AV→List (Nat × HObj)→Prop):Prop:=∃ m ys,ZN (hpf hp) sz y=some (m,ys)∧(ys.all AV.isPC)=true∧∃ r ws,jr (hpf hp) hp.length r ws sz bytes x m ys∧K r ws
theorem quH {d sz bytes x y}:(AOp.app d sz bytes x y).wp P F hp K=qnj hp sz bytes (evF F x) (evF F y) K:=by
 apply propext
 constructor
 · rintro ⟨r,ws,⟨m,ys,h1,h2,h3⟩,k⟩;exact ⟨m,ys,h1,h2,r,ws,h3,k⟩
 · rintro ⟨m,ys,h1,h2,r,ws,h3,k⟩;exact ⟨r,ws,⟨m,ys,h1,h2,h3⟩,k⟩
theorem qed {sz bytes n m f g} {cs ys : List AV} : qnj hp sz bytes (.sl f n cs) (.sl g m ys) K =
 ((f=true∧ys.length=m*sz∧(ys.all AV.isPC)=true∧cs.length=n*sz∧(n+m)*bytes≤140737488355328∧n+m≤140737488355328∧(n=0∨0<m))∧K (.ms hp.length 0 (n+m) sz) [(hp.length,.cells (cs++ys))]):=by
 apply propext
 constructor
 · rintro ⟨m',ys',h1,h2,r,ws,h3,k⟩
   simp only [ZN] at h1
   split at h1
   · rename_i hl; cases h1
     obtain ⟨a1,a2,a3,a4,a5,rfl,rfl⟩:=h3
     exact ⟨⟨a1,hl,h2,a2,a3,a4,a5⟩,k⟩
   · cases h1
 · rintro ⟨⟨a1,a2,a3,a4,a5,a6,a7⟩,k⟩
   exact ⟨m,ys,by simp [ZN,a2],a3,_,_,⟨a1,a4,a5,a6,a7,rfl,rfl⟩,k⟩
def qvh (o:Option HObj) (new sz bytes id off n sz' m:Nat) (ys:List AV) (K:AV→List (Nat × HObj)→Prop):Prop:=match o with
 | some (.cells cs)=>(ys.length=m*sz∧(ys.all AV.isPC)=true∧sz'=sz∧off+n*sz≤cs.length∧(n+m)*bytes≤140737488355328∧n+m≤140737488355328)∧K (.ms new 0 (n+m) sz) [(id,.gone),(new,.cells (zS cs off (n*sz)++ys))]
 | _=>False
theorem J3 {cs new sz bytes id off n sz' m ys}:qvh (some (.cells cs)) new sz bytes id off n sz' m ys K=((ys.length=m*sz∧(ys.all AV.isPC)=true∧sz'=sz∧off+n*sz≤cs.length∧(n+m)*bytes≤140737488355328∧n+m≤140737488355328)∧K (.ms new 0 (n+m) sz) [(id,.gone),(new,.cells (zS cs off (n*sz)++ys))]):=rfl
theorem qec {sz bytes id off n sz' m g} {ys:List AV}:qnj hp sz bytes (.ms id off n sz') (.sl g m ys) K=qvh (qr hp id) hp.length sz bytes id off n sz' m ys K:=by
 apply propext
 rw [zH]
 constructor
 · rintro ⟨m',ys',h1,h2,r,ws,h3,k⟩
   simp only [ZN] at h1
   split at h1
   · rename_i hl; cases h1
     simp only [jr,hpf] at h3
     cases ho:hp[id]? with
     | none=>rw [ho] at h3;exact h3.elim
     | some o =>
       rw [ho] at h3
       cases o with
       | cells cs =>
         obtain ⟨a1,a2,a3,a4,rfl,rfl⟩:=h3
         exact ⟨⟨hl,h2,a1,a2,a3,a4⟩,k⟩
       | _=>exact h3.elim
   · cases h1
 · intro h
   cases ho:hp[id]? with
   | none=>rw [ho] at h;exact h.elim
   | some o =>
     rw [ho] at h
     cases o with
     | cells cs =>
       obtain ⟨⟨a1,a2,a3,a4,a5,a6⟩,k⟩:=h
       refine ⟨m,ys,by simp [ZN,a1],a2,_,_,?_,k⟩
       simp only [jr,hpf,ho]
       exact ⟨a3,a4,a5,a6,trivial,trivial⟩
     | _=>exact h.elim
def qvo (hp:List HObj) (sz bytes:Nat) (zero:List AV) (x y:AV) (K:AV→List (Nat × HObj)→Prop):Prop :=
 ∃ k:Nat,x=I k∧y=I k∧k*bytes≤140737488355328∧k≤140737488355328∧zero.length=sz∧K (.ms hp.length 0 k sz) [(hp.length,.cells (zP k zero))]
theorem quX {d sz bytes z n c}:(AOp.mks d sz bytes z n c).wp P F hp K=qvo hp sz bytes z (evF F n) (evF F c) K:=by
 apply propext
 constructor
 · rintro ⟨r,ws,⟨k,h1,h2,h3,h4,h5,rfl,rfl⟩,hk⟩;exact ⟨k,h1,h2,h3,h4,h5,hk⟩
 · rintro ⟨k,h1,h2,h3,h4,h5,hk⟩;exact ⟨_,_,⟨k,h1,h2,h3,h4,h5,rfl,rfl⟩,hk⟩
theorem qsT {a0 a1}:Ze P E (.cap a0 a1::os) ⟨fr,hp⟩ KS=(AOp.cap a0 a1).wp P (get fr) hp (Qn P E os (some a0) fr hp KS):=rfl
theorem qsU {a0 a1 a2}:Ze P E (.clr a0 a1 a2::os) ⟨fr,hp⟩ KS=(AOp.clr a0 a1 a2).wp P (get fr) hp (Qn P E os none fr hp KS):=rfl
theorem qqs {a0 a1 a2 a3 a4 a5}:Ze P E (.appz a0 a1 a2 a3 a4 a5::os) ⟨fr,hp⟩ KS=(AOp.appz a0 a1 a2 a3 a4 a5).wp P (get fr) hp (Qn P E os (some a0) fr hp KS):=rfl
theorem qtg {a0 a1 a2 a3 a4 a5 a6}:Ze P E (.slp a0 a1 a2 a3 a4 a5 a6::os) ⟨fr,hp⟩ KS=(AOp.slp a0 a1 a2 a3 a4 a5 a6).wp P (get fr) hp (Qn P E os (some a0) fr hp KS):=rfl
theorem qtb {a0}:Ze P E (.mkm a0::os) ⟨fr,hp⟩ KS=(AOp.mkm a0).wp P (get fr) hp (Qn P E os (some a0) fr hp KS):=rfl
theorem qs5 {a0 a1 a2 a3}:Ze P E (.ins a0 a1 a2 a3::os) ⟨fr,hp⟩ KS=(AOp.ins a0 a1 a2 a3).wp P (get fr) hp (Qn P E os none fr hp KS):=rfl
theorem qs7 {a0 a1 a2 a3 a4 a5}:Ze P E (.lku a0 a1 a2 a3 a4 a5::os) ⟨fr,hp⟩ KS=(AOp.lku a0 a1 a2 a3 a4 a5).wp P (get fr) hp (Qn P E os (some a0) fr hp KS):=rfl
theorem qtd {a0 a1 a2 a3 a4}:Ze P E (.mpe a0 a1 a2 a3 a4::os) ⟨fr,hp⟩ KS=(AOp.mpe a0 a1 a2 a3 a4).wp P (get fr) hp (Qn P E os (some a0) fr hp KS):=rfl
theorem qsZ {a0 a1 a2}:Ze P E (.est a0 a1 a2::os) ⟨fr,hp⟩ KS=(AOp.est a0 a1 a2).wp P (get fr) hp (Qn P E os none fr hp KS):=rfl
theorem qsX {a0 a1 a2}:Ze P E (.del a0 a1 a2::os) ⟨fr,hp⟩ KS=(AOp.del a0 a1 a2).wp P (get fr) hp (Qn P E os none fr hp KS):=rfl
theorem qsY {a0 a1 a2 a3 a4}:Ze P E (.eqk a0 a1 a2 a3 a4::os) ⟨fr,hp⟩ KS=(AOp.eqk a0 a1 a2 a3 a4).wp P (get fr) hp (Qn P E os (some a0) fr hp KS):=rfl
theorem qq9 {a0 a1}:Zi P (.cap a0 a1::os) ⟨fr,hp⟩ tr KD=(AOp.cap a0 a1).wp P (get fr) hp (zN P os (some a0) fr hp tr ((AOp.cap a0 a1).foot (get fr)) KD):=rfl
theorem qra {a0 a1 a2}:Zi P (.clr a0 a1 a2::os) ⟨fr,hp⟩ tr KD=(AOp.clr a0 a1 a2).wp P (get fr) hp (zN P os none fr hp tr ((AOp.clr a0 a1 a2).foot (get fr)) KD):=rfl
theorem qol {a0 a1 a2 a3 a4 a5}:Zi P (.appz a0 a1 a2 a3 a4 a5::os) ⟨fr,hp⟩ tr KD=(AOp.appz a0 a1 a2 a3 a4 a5).wp P (get fr) hp (zN P os (some a0) fr hp tr ((AOp.appz a0 a1 a2 a3 a4 a5).foot (get fr)) KD):=rfl
theorem qrw {a0 a1 a2 a3 a4 a5 a6}:Zi P (.slp a0 a1 a2 a3 a4 a5 a6::os) ⟨fr,hp⟩ tr KD=(AOp.slp a0 a1 a2 a3 a4 a5 a6).wp P (get fr) hp (zN P os (some a0) fr hp tr ((AOp.slp a0 a1 a2 a3 a4 a5 a6).foot (get fr)) KD):=rfl
theorem qrr {a0}:Zi P (.mkm a0::os) ⟨fr,hp⟩ tr KD=(AOp.mkm a0).wp P (get fr) hp (zN P os (some a0) fr hp tr ((AOp.mkm a0).foot (get fr)) KD):=rfl
theorem qrl {a0 a1 a2 a3}:Zi P (.ins a0 a1 a2 a3::os) ⟨fr,hp⟩ tr KD=(AOp.ins a0 a1 a2 a3).wp P (get fr) hp (zN P os none fr hp tr ((AOp.ins a0 a1 a2 a3).foot (get fr)) KD):=rfl
theorem qrn {a0 a1 a2 a3 a4 a5}:Zi P (.lku a0 a1 a2 a3 a4 a5::os) ⟨fr,hp⟩ tr KD=(AOp.lku a0 a1 a2 a3 a4 a5).wp P (get fr) hp (zN P os (some a0) fr hp tr ((AOp.lku a0 a1 a2 a3 a4 a5).foot (get fr)) KD):=rfl
theorem qrt {a0 a1 a2 a3 a4}:Zi P (.mpe a0 a1 a2 a3 a4::os) ⟨fr,hp⟩ tr KD=(AOp.mpe a0 a1 a2 a3 a4).wp P (get fr) hp (zN P os (some a0) fr hp tr ((AOp.mpe a0 a1 a2 a3 a4).foot (get fr)) KD):=rfl
theorem qrf {a0 a1 a2}:Zi P (.est a0 a1 a2::os) ⟨fr,hp⟩ tr KD=(AOp.est a0 a1 a2).wp P (get fr) hp (zN P os none fr hp tr ((AOp.est a0 a1 a2).foot (get fr)) KD):=rfl
theorem qrd {a0 a1 a2}:Zi P (.del a0 a1 a2::os) ⟨fr,hp⟩ tr KD=(AOp.del a0 a1 a2).wp P (get fr) hp (zN P os none fr hp tr ((AOp.del a0 a1 a2).foot (get fr)) KD):=rfl
theorem qre {a0 a1 a2 a3 a4}:Zi P (.eqk a0 a1 a2 a3 a4::os) ⟨fr,hp⟩ tr KD=(AOp.eqk a0 a1 a2 a3 a4).wp P (get fr) hp (zN P os (some a0) fr hp tr ((AOp.eqk a0 a1 a2 a3 a4).foot (get fr)) KD):=rfl
theorem qma {a0 a1 a2 a3 a4 a5} {G:Nat→AV}:(AOp.lku a0 a1 a2 a3 a4 a5).foot G=(evF G a4).ids++(evF G a5).ids:=by simp [AOp.foot,AOp.heapy,AOp.opds]
theorem qmc {a0 a1 a2 a3 a4} {G:Nat→AV}:(AOp.mpe a0 a1 a2 a3 a4).foot G=(evF G a3).ids++(evF G a4).ids:=by simp [AOp.foot,AOp.heapy,AOp.opds]
theorem ql8 {a0 a1 a2} {G:Nat→AV}:(AOp.est a0 a1 a2).foot G=(evF G a0).ids++((evF G a1).ids++(evF G a2).ids):=by simp [AOp.foot,AOp.heapy,AOp.opds]
theorem ql9 {a0 a1 a2 a3} {G:Nat→AV}:(AOp.ins a0 a1 a2 a3).foot G=(evF G a1).ids++((evF G a2).ids++(evF G a3).ids):=by simp [AOp.foot,AOp.heapy,AOp.opds]
theorem ql6 {a0 a1 a2} {G:Nat→AV}:(AOp.del a0 a1 a2).foot G=(evF G a1).ids++(evF G a2).ids:=by simp [AOp.foot,AOp.heapy,AOp.opds]
theorem qjK {a0 a1 a2 a3 a4 a5} {G:Nat→AV}:(AOp.appz a0 a1 a2 a3 a4 a5).foot G=(evF G a4).ids++(evF G a5).ids:=by simp [AOp.foot,AOp.heapy,AOp.opds]
theorem ql5 {a0 a1 a2} {G:Nat→AV}:(AOp.clr a0 a1 a2).foot G=(evF G a2).ids:=by simp [AOp.foot,AOp.heapy,AOp.opds]
theorem ql7 {a0 a1 a2 a3 a4} {G:Nat→AV}:(AOp.eqk a0 a1 a2 a3 a4).foot G=[]:=rfl
theorem ql4 {a0 a1} {G:Nat→AV}:(AOp.cap a0 a1).foot G=[]:=rfl
theorem qmb {a0} {G:Nat→AV}:(AOp.mkm a0).foot G=[]:=rfl
def qnV (neg:Bool) (ks:Bool × List Leaf) (x y:AV) (K:AV→List (Nat × HObj)→Prop):Prop:=∃ a b z,x.val=some a∧y.val=some b∧eqK ks a b=some z∧K (B (neg != z)) []
theorem quO {d neg ks x y}:(AOp.eqk d neg ks x y).wp P F hp K=qnV neg ks (evF F x) (evF F y) K:=by
 apply propext
 constructor
 · rintro ⟨r,ws,⟨a,b,z,h1,h2,h3,rfl,rfl⟩,k⟩;exact ⟨a,b,z,h1,h2,h3,k⟩
 · rintro ⟨a,b,z,h1,h2,h3,k⟩;exact ⟨_,_,⟨a,b,z,h1,h2,h3,rfl,rfl⟩,k⟩
theorem qjF {neg:Bool} {ks:Bool × List Leaf} {x y:AV} {a b:Value} {z:Bool} (hx:x.val=some a) (hy:y.val=some b) (hz:eqK ks a b=some z):qnV neg ks x y K=K (B (neg != z)) []:=by
 apply propext
 constructor
 · rintro ⟨a',b',z',e1,e2,e3,k⟩
   rw [hx] at e1;rw [hy] at e2
   cases e1;cases e2
   rw [hz] at e3;cases e3
   exact k
 · exact fun k=>⟨a,b,z,hx,hy,hz,k⟩
variable {Q:Exit→St→Prop} {x y:AC}
def qfx (P:Program) (E:HE) (t:Bool) (x y:AC) (st:St) (Q:Exit→St→Prop):Prop:=(t=true→AWP P E x st Q)∧(t=false→AWP P E y st Q)
def qnU (P:Program) (E:HE) (c:AV) (x y:AC) (st:St) (Q:Exit→St→Prop):Prop:=match c with
 | .v (.bool t)=>qfx P E t x y st Q
 | _=>False
theorem qsI {c}:AWP P E (.cond c x y) ⟨fr,hp⟩ Q=qnU P E (evF (get fr) c) x y ⟨fr,hp⟩ Q:=by
 simp only [AWP,qnU]
 generalize evF (get fr) c=u
 cases u with
 | v y=>cases y <;> rfl
 | _=>rfl
theorem qqT {t st}:qnU P E (B t) x y st Q=qfx P E t x y st Q:=rfl
theorem qqU {st}:qfx P E true x y st Q=AWP P E x st Q:=by simp [qfx]
theorem qoa {st}:qfx P E false x y st Q=AWP P E y st Q:=by simp [qfx]
theorem qP {t:Bool} {st:St} (h1:t=true→AWP P E x st Q) (h2:t=false→AWP P E y st Q):qfx P E t x y st Q:=⟨h1,h2⟩
theorem qsM:AWP P E .skip ⟨fr,hp⟩ Q=Q .normal ⟨fr,hp⟩:=rfl
theorem qu5 {gs ks}:AWP P E (.rgn gs ks) ⟨fr,hp⟩ Q=ZL P E gs ⟨fr,hp⟩ fun st=>Q .normal (st.keep ks):=rfl
theorem qu2 {gs un ks}:AWP P E (.drw gs un ks) ⟨fr,hp⟩ Q=Zf P gs ⟨fr,hp⟩ [] fun st tr=>jo tr un=true∧Q .normal (st.keep ks):=rfl
theorem qu6:AWP P E (.seq x y) ⟨fr,hp⟩ Q=AWP P E x ⟨fr,hp⟩ (Exit.th (fun st=>AWP P E y st Q) Q):=rfl
theorem qqj {id}:AWP P E (.block id x) ⟨fr,hp⟩ Q=AWP P E x ⟨fr,hp⟩ (Exit.blk id Q):=rfl
theorem qsK {id}:AWP P E (.exit id) ⟨fr,hp⟩ Q=Q (.exit id) ⟨fr,hp⟩:=rfl
theorem qu4:AWP P E .ret ⟨fr,hp⟩ Q=Q .ret ⟨fr,hp⟩:=rfl
theorem qqo {l}:AWP P E (.label l) ⟨fr,hp⟩ Q=Q .normal ⟨fr,hp⟩:=rfl
def zV : Option (List Nat × List Nat) → Option (List Nat × List Nat) → Bool
 | some (ri,wi),some (rj,wj)=>zE wi rj&&zE wi wj&&zE wj ri
 | _,_=>false
def zJ : Tr → Nat → Option (List Nat × List Nat)
 | [],_=>none
 | a::l,n=>if n=0 then some a else zJ l (n - 1)
theorem qkl : ∀ (l : Tr) (n : Nat),zJ l n = l[n]?
 | [],n=>by simp [zJ]
 | a::l,0=>by simp [zJ]
 | a::l,n+1=>by simp [zJ,qkl l n]
theorem qkk {a:List Nat × List Nat} {l:Tr} {n}:zJ (a::l) n=if n=0 then some a else zJ l (n - 1):=rfl
theorem qfL {i j un}:jo tr ((i,j)::un)=(zV (zJ tr i) (zJ tr j)&&jo tr un):=by
 simp only [jo,qkl]
 generalize tr[i]?=a
 generalize tr[j]?=b
 cases a <;> cases b <;> rfl
theorem qic:jo tr []=true:=rfl
theorem qju {ri wi rj wj}:zV (some (ri,wi)) (some (rj,wj))=(zE wi rj&&zE wi wj&&zE wj ri):=rfl
theorem qlW {b:List Nat}:zE [] b=true:=rfl
theorem qjC {x:Nat} {a b:List Nat}:zE (x::a) b=(!b.contains x&&zE a b):=rfl
def qms (fr:List (Nat × AV)) (ks:List Nat):List (Nat × AV):=ks.map fun t=>(t,get fr t)
theorem qsL {ks}:St.keep ⟨fr,hp⟩ ks=⟨qms fr ks,hp⟩:=rfl
theorem qj8 {k ks}:qms fr (k::ks)=(k,get fr k)::qms fr ks:=rfl
theorem qmt:qms fr []=[]:=rfl
theorem qvY {st:St}:Exit.th KS Q .normal st=KS st:=rfl
theorem qvX {st:St} {id}:Exit.th KS Q (.exit id) st=Q (.exit id) st:=rfl
theorem qvZ {st:St}:Exit.th KS Q .ret st=Q .ret st:=rfl
theorem qtQ {st:St} {id}:Exit.blk id Q .normal st=Q .normal st:=rfl
theorem qtR {st:St} {id}:Exit.blk id Q .ret st=Q .ret st:=rfl
theorem qtP {st:St} {id id'}:Exit.blk id Q (.exit id') st=if id'=id then Q .normal st else Q (.exit id') st:=rfl
theorem quc:ZL P E [] ⟨fr,hp⟩ KS=KS ⟨fr,hp⟩:=rfl
theorem qrL {gs}:ZL P E (⟨none,os⟩::gs) ⟨fr,hp⟩ KS=Ze P E os ⟨fr,hp⟩ fun st=>ZL P E gs st KS:=rfl
def GdB (P:Program) (E:HE) (c b:Bool) (os:List AOp) (gs:List Grp) (st:St) (K:St→Prop):Prop:=(c=b→Ze P E os st fun st=>ZL P E gs st K)∧(c≠b→ZL P E gs (Qf os st) K)
def GdX (P:Program) (E:HE) (x:AV) (b:Bool) (os:List AOp) (gs:List Grp) (st:St) (K:St→Prop):Prop:=match x with
 | .v (.bool c)=>GdB P E c b os gs st K
 | .v (.tuple _)=>ZL P E gs (Qf os st) K
 | _=>False
theorem qrM {j b gs}:ZL P E (⟨some (j,b),os⟩::gs) ⟨fr,hp⟩ KS=GdX P E (get fr j) b os gs ⟨fr,hp⟩ KS:=by
 simp only [ZL,GdX]
 generalize get fr j=u
 cases u with
 | v y=>cases y <;> rfl
 | _=>rfl
theorem qot {c b gs st}:GdX P E (B c) b os gs st KS=GdB P E c b os gs st KS:=rfl
theorem qmf {c b gs st}:GdX P E (.v (.tuple c)) b os gs st KS=ZL P E gs (Qf os st) KS:=rfl
theorem qug {gs st}:GdB P E true true os gs st KS=Ze P E os st fun st=>ZL P E gs st KS:=by simp [GdB]
theorem qud {gs st}:GdB P E false false os gs st KS=Ze P E os st fun st=>ZL P E gs st KS:=by simp [GdB]
theorem quf {gs st}:GdB P E true false os gs st KS=ZL P E gs (Qf os st) KS:=by simp [GdB]
theorem que {gs st}:GdB P E false true os gs st KS=ZL P E gs (Qf os st) KS:=by simp [GdB]
def DdB (P:Program) (c b:Bool) (os:List AOp) (gs:List Grp) (st:St) (tr:Tr) (K:St→Tr→Prop):Prop :=
 (c=b→Zi P os st tr fun st tr=>Zf P gs st tr K)∧(c≠b→Zf P gs (Qf os st) (tr++os.map fun _=>([],[])) K)
def DdX (P:Program) (x:AV) (b:Bool) (os:List AOp) (gs:List Grp) (st:St) (tr:Tr) (K:St→Tr→Prop):Prop:=match x with
 | .v (.bool c)=>DdB P c b os gs st tr K
 | .v (.tuple _)=>Zf P gs (Qf os st) (tr++os.map fun _=>([],[])) K
 | _=>False
theorem qtV:Zf P [] ⟨fr,hp⟩ tr KD=KD ⟨fr,hp⟩ tr:=rfl
theorem qqW {gs}:Zf P (⟨none,os⟩::gs) ⟨fr,hp⟩ tr KD=Zi P os ⟨fr,hp⟩ tr fun st tr=>Zf P gs st tr KD:=rfl
theorem qqX {j b gs}:Zf P (⟨some (j,b),os⟩::gs) ⟨fr,hp⟩ tr KD=DdX P (get fr j) b os gs ⟨fr,hp⟩ tr KD:=by
 simp only [Zf,DdX]
 generalize get fr j=u
 cases u with
 | v y=>cases y <;> rfl
 | _=>rfl
theorem qog {c b gs st}:DdX P (B c) b os gs st tr KD=DdB P c b os gs st tr KD:=rfl
theorem qlT {c b gs st}:DdX P (.v (.tuple c)) b os gs st tr KD=Zf P gs (Qf os st) (tr++os.map fun _=>([],[])) KD:=rfl
theorem qtZ {gs st}:DdB P true true os gs st tr KD=Zi P os st tr fun st tr=>Zf P gs st tr KD:=by simp [DdB]
theorem qtW {gs st}:DdB P false false os gs st tr KD=Zi P os st tr fun st tr=>Zf P gs st tr KD:=by simp [DdB]
theorem qtY {gs st}:DdB P true false os gs st tr KD=Zf P gs (Qf os st) (tr++os.map fun _=>([],[])) KD:=by simp [DdB]
theorem qtX {gs st}:DdB P false true os gs st tr KD=Zf P gs (Qf os st) (tr++os.map fun _=>([],[])) KD:=by simp [DdB]
def qsC : List AOp → List (Nat × AV) → List (Nat × AV)
 | [],fr=>fr
 | o::os,fr=>qsC os (jK fr o.dst (.v (.tuple #[])))
theorem qh0 : ∀ {os : List AOp} {fr : List (Nat × AV)},Qf os ⟨fr,hp⟩ = ⟨qsC os fr,hp⟩
 | [],fr=>rfl
 | o::os,fr=>by
   rw [jV]
   have:Qf [o] ⟨fr,hp⟩=⟨jK fr o.dst (.v (.tuple #[])),hp⟩:=by rw [qaX];rfl
   rw [this,qh0];rfl
theorem qnf:qsC [] fr=fr:=rfl
theorem qla {o:AOp}:qsC (o::os) fr=qsC os (jK fr o.dst (.v (.tuple #[]))):=rfl
theorem qg {f:FuncId} {xs ys:List AV} {ids:List Nat} {r:AV} {KC:AV→List HObj→Prop} (h1:qE (hpf hp) xs=some (ys,ids)) (h2:qC P f ys r) (h3:KC r (qH hp (bif r.scalar then [] else zB ids))):zG P f xs hp KC:=by
 intro ro n w g vs hok hvs hrep
 refine (qej hok h1 hvs hrep h2).mono ?_
 rintro e w' ⟨v,rfl,g',q1,q2,q3⟩
 have hlen : ∀ p ∈ (bif r.scalar then [] else zB ids),p.1 ≤ hp.length := fun p hpm => by
  cases hs:r.scalar with
  | true=>rw [hs] at hpm;simp at hpm
  | false =>
    rw [hs] at hpm
    simp only [cond_false,zB,List.mem_map] at hpm
    obtain ⟨i,hi,rfl⟩:=hpm
    exact Nat.le_of_lt (jc h1 i hi)
 rw [←QJ hlen] at q2 q3
 exact ⟨v,r,_,g',rfl,h3,q1,q2,q3⟩
theorem qQ {f:FuncId} {xs ys:List AV} {ids:List Nat} {r:AV} (h1:qE (hpf hp) xs=some (ys,ids)) (h2:qC P f ys r) (h3:K r (bif r.scalar then [] else zB ids)):qnY P f xs hp K:=⟨ys,ids,h1,.inl ⟨r,h2,h3⟩⟩
theorem qiL {f:FuncId} {xs ys:List AV} {ids:List Nat} {m sz:Nat} {cs:List AV} (h1:qE (hpf hp) xs=some (ys,ids)) (h2:qbG P f ys m sz cs) (h3:K (.ms hp.length 0 m sz) (zB ids++[(hp.length,.cells cs)])):qnY P f xs hp K:=⟨ys,ids,h1,.inr (.inl ⟨m,sz,cs,h2,h3⟩)⟩
theorem qoX {f:FuncId} {xs:List AV} {m sz:Nat} {cs:List AV} (hpc:(cs.all AV.isPC)=true) (h:zG P f xs [] fun x hp=>∃ id,x = .ms id 0 m sz∧hpf hp id=some (.cells cs)):qbG P f xs m sz cs:=by
 refine ⟨hpc,?_⟩
 intro ro n w g vs hok hvs hrep
 have e0:hpf []=fun _=>none:=by funext i;simp [hpf]
 refine (h ro n w g vs (by rw [e0];exact hok) hvs (fun i hi=>(hrep i hi).of)).mono ?_
 rintro e w' ⟨v,x,hp',g',rfl,⟨id,rfl,hid⟩,hx,hok',hu⟩
 rw [e0] at hu
 obtain ⟨l,hl,hrl⟩:=hok'.rep id _ hid
 have hpure:∀ i (hi:i<cs.length) x,Rep w' g' false cs[i] x→Rep w' { S:=g'.S,ρ:=fun j=>if j=0 then some l else none } false cs[i] x:=fun i hi x hr=>(((Yy (qaE (ji hpc i hi)) hr)).pure rfl _).of
 have hrl' : HRep w' { S := g'.S,ρ := fun j => if j = 0 then some l else none } (.cells cs) l := by
  cases l with
  | virg=>exact hrl
  | base L=>exact hrl
  | blk c d =>
    obtain ⟨arr,ty,fz,a1,a2,a3,a4,a5⟩:=hrl
    exact ⟨arr,ty,fz,a1,a2,a3,a4,fun i hi=>by obtain ⟨x,h1,h2⟩:=a5 i hi;exact ⟨x,h1,hpure i hi x h2⟩⟩
 refine ⟨v,{ S:=g'.S,ρ:=fun j=>if j=0 then some l else none },rfl,?_,?_,?_⟩
 · cases hx with
   | ms _ _ _ _ c d cap arr ty fz h1 h2 h3 h4=>rw [hl] at h1;cases h1;exact .ms _ _ _ _ c d cap arr ty fz (by simp) h2 h3 h4
   | msz _ _ _ a l' h1=>rw [hl] at h1;cases h1;exact .msz _ _ _ a l (by simp)
 · refine ⟨fun i hi => ?_,fun i o ho => ?_,fun i i' o o' c d d' ho ho' hl1 hl2 hr1 hr2 => ?_,hok'.ex,hok'.tab⟩
   · by_cases e : i = 0
     · subst e;simp [made] at hi
     · simp [e]
   · by_cases e : i = 0
     · subst e;simp [made] at ho;subst ho;exact ⟨l,by simp,hrl'⟩
     · simp [made,e] at ho
   · by_cases e : i = 0
     · by_cases e' : i' = 0
       · rw [e,e']
       · simp [e'] at hr2
     · simp [e] at hr1
 · refine ⟨⟨hu.tr.S,hu.tr.cell,fun i l' hl' => (by rw [hok.dom i rfl] at hl'; cases hl'),hu.tr.shp,hu.tr.os,hu.tr.tape,hu.tr.output,hu.tr.size,hu.tr.drawn⟩,?_,hu.S,hu.keep⟩
   rintro c ⟨i,o,d,ho,hlv,hr1⟩
   by_cases e:i=0
   · subst e
     simp at hr1;subst hr1
     rcases hu.live c ⟨id,_,d,hid,rfl,hl⟩ with ⟨_,_,_,h,_⟩ | h
     · cases h
     · exact .inr h
   · simp [e] at hr1
theorem quw {ts:List Nat} {KC:AV→List HObj→Prop}:qfA ts KC .normal ⟨fr,hp⟩=KC (qiO ts fr) hp:=rfl
theorem qux {ts:List Nat} {KC:AV→List HObj→Prop}:qfA ts KC .ret ⟨fr,hp⟩=KC (qiO ts fr) hp:=rfl
theorem walk {f : FuncId} {fn : Func} {ac : AC} {ts : List Nat} {xs : List AV} {KC : AV → List HObj → Prop} (hf : P.funcs[f]? = some fn) (hc : qo P fn ts = some ac) (hr : JN fn.results.toList = some ts)
 (hl:xs.length≤fn.ntmps) (h:AWP P (E1 P) ac ⟨YJ 0 xs,hp⟩ (qfA ts KC)):zG P f xs hp KC:=qh8 hf hc hr hl h
def Next {α:Type} (I:α→St) (C:α→Prop) (μ:α→Nat) (a:α) (st:St):Prop:=∃ a',C a'∧μ a'<μ a∧St.le st (I a')
theorem St.le.rfl' (st:St):St.le st st:=fun N a w g h=>⟨g,h,.refl _ _ _⟩
theorem qkf {α:Type} (I:α→St) (C:α→Prop) (μ:α→Nat) (a0:α) {st:St} (h0:C a0) (hs:St.le st (I a0)) (round:∀ a,C a→AWP P E x (I a) (Exit.th (Next I C μ a) Q)):AWP P E (.loop x) st Q :=
 ⟨α,I,C,μ,a0,h0,hs,round⟩
theorem qO {α:Type} (I:α→St) (C:α→Prop) (μ:α→Nat) (a0:α) {st:St} (h0:C a0) (hs:st=I a0) (round:∀ a,C a→AWP P E x (I a) (Exit.th (Next I C μ a) Q)):AWP P E (.loop x) st Q :=
 qkf I C μ a0 h0 (hs ▸ St.le.rfl' st) round
theorem qz {α:Type} {I:α→St} {C:α→Prop} {μ:α→Nat} {a:α} {st:St} (a':α) (h:C a') (hm:μ a'<μ a) (hs:st=I a'):Next I C μ a st:=⟨a',h,hm,hs ▸ St.le.rfl' st⟩
theorem JG {l:List Int} {j sz} (h:j<l.length):Ql (l.map fun n=>I n) j sz false K=K (I (l.getD j 0)) []:=by
 simp [Ql,h]
theorem qut {r:AV} {x:Value}:Out r (.v x) hp=(r = .v x):=by
 apply propext
 constructor
 · rintro ⟨is,h⟩;simp [qU,zu,ze] at h;exact h.1.symm
 · rintro rfl;exact ⟨[],rfl⟩
theorem qnG {r x:AV} {is:List Nat} (h:qU (hpf hp) x=some (r,is)):Out r x hp:=⟨is,h⟩
end
attribute [simp] qvb qqv qsP qqt qve qs0 qva qvd qsR qu7 qsS qsQ qu8 qs1 qu9 qs2 qs4 qs3 qs6 qs9 qs8 qtf qth qsN qsW qtc qsV qvc qqu qta
attribute [simp] qt4 qop qq5 qom qt7 qrg qt3 qt6 qq7 qt0 qq8 qq6 qt1 qrh qt2 qri qrk qrj qrm qrp qro qrv qrx qq3 qrc qrs qrb qt5 qoo qrq qon
attribute [simp low] jI J6
attribute [simp] qed qec J3 qhR qsm qm1 Option.map_none Option.map_some qks qiJ qiI qgq qki Yu qnf qla qda qps qkj qf qt qsE quw qux qut
attribute [simp] qql qqm qqn qu3 qsJ qsH qqk qtU qqq quh qr3 qv4 qsG qqe quJ qtz qtM qtG qtI qtJ qtA qvD qtN qlC qtK qtL qtB qtH qtF qtE qtD qtC qv7 quD quE quP qt8 qv3 qr1 qr2 qv6 qsw quL qv0 quM quK qv1 qrJ qrK quQ qos qv2 quj qui quR qoA qoB quT qoS quU qr5 qr4 quZ quN qoc qv5 qsa qsb qsF qmF qmG qoY quW quH quX qsI qqT qqU qoa qsM qu5 qu2 qu6 qqj qsK qu4 qqo qsL qvY qvX qvZ qtQ qtR qtP quc qrL qrM qot qmf qug qud quf que qtV qqW qqX qog qlT qtZ qtW qtY qtX qh0
attribute [simp] qj8 qmt JI qgb qvL qvK jK qH JX AOp.dst quk qrW qoP qoQ qrV qrU qoM qrT qoL qoR qmk qrR qoF qmi qmj qoE qoD qrS qoJ qmm qmn qoI qoH qml qoG qkk qfL qic qju qlW qjC YJ qiO AV.cells AV.isCell AV.isPure AV.isPure0 AV.isPC zS splice qjR qir AV.scalar
attribute [simp] qsT qq9 qsU qra qqs qol qtg qrw qtb qrr qs5 qrl qs7 qrn qtd qrt qsZ qrf qsX qrd qsY qre qma qmc ql8 ql9 ql6 qjK ql5 ql7 ql4 qmb quO
end Go.AM

set_option maxRecDepth 100000
namespace Go.AM
open Go.RowKit
theorem qb {n:Int} (h : -9223372036854775808≤n∧n<9223372036854775808):IntKind.i64.wrap n=n:=by
 simp [IntKind.wrap,IntKind.bits,IntKind.signed,Int.bmod]
 omega
variable {P:Program} {hp:List HObj} {K:AV→List (Nat × HObj)→Prop}
end Go.AM

namespace Go.AM
open Go.RowKit
abbrev Ls (f:Bool) (l:List Int):AV := .sl f l.length (l.map fun n=>I n)
def qix {α:Type} (p:α→Bool) (l:List α):Int:=match l.findIdx? p with
 | some k=>k
 | none => -1
theorem qar {α:Type} {p:α→Bool} {l:List α} {i:Nat} (h:i<l.length) (hp:p l[i]=true) (hn:∀ k (hk:k<l.length),k<i→p l[k]=false):qix p l=i:=by
 have:l.findIdx? p=some i:=List.findIdx?_eq_some_iff_getElem.2 ⟨h,hp,fun j hj=>by simpa using hn j (by omega) hj⟩
 simp [qix,this]
@[simp high] theorem quq (l:List Int):(l.map fun n=>I n).all AV.isPC=true:=by simp [List.all_eq_true]
@[simp high] theorem qaw (l:List Int):(l.map fun n=>I n).all AV.isPure=true:=by simp [List.all_eq_true]
theorem qsd {id n:Nat} {l:List Int} {hp:List HObj} (h:qr hp id=some (.cells (l.map fun n=>I n))) (hn:n=l.length):Out (Ls false l) (.ms id 0 n 1) hp:=by
 subst hn
 rw [zH] at h
 refine qnG (is:=[id]) ?_
 simp only [qU,zu,ze,hpf,h]
 rw [if_pos ⟨by simp,qaw l⟩]
 simp only [zS,List.drop_zero,Nat.mul_one]
 rw [List.take_of_length_le (by simp)]
def Small (l:List Int):Prop:=∀ x∈l,-1000000≤x∧x≤1000000
theorem Small.at {l:List Int} (h:Small l) {i:Nat} (hi:i<l.length) : -1000000≤l[i]∧l[i]≤1000000:=h _ (List.getElem_mem hi)
theorem zt {hp:List HObj} {ws:List (Nat × HObj)} (h:∀ p∈ws,p.1≤hp.length) (i:Nat):qr (qH hp ws) i=Hp.write (hpf hp) ws i:=by
 rw [zH];exact congrFun (QJ h) i
def qqh : AV → AV
 | .sl _ n cs => .sl false n cs
 | x=>x
def weak : AV → AV
 | .tup vs => .tup (vs.map qqh)
 | .agg vs => .agg (vs.map qqh)
 | x=>qqh x
theorem qkV {l:List Int} {k:Nat} {v:Int} (h:k<l.length):splice (l.map fun n=>I n) k [I v]=(l.set k v).map fun n=>I n:=by
 simp only [splice,List.length_singleton]
 rw [List.set_eq_take_append_cons_drop,if_pos h]
 simp [List.map_take,List.map_drop]
theorem qi {hp:List HObj} {id:Nat} {o:HObj} (h:id<hp.length):qr (hp.set id o) id=some o:=by
 rw [zH,List.getElem?_set_self h]
theorem qh {hp:List HObj} {id j:Nat} {o:HObj} (h:id≠j):qr (hp.set id o) j=qr hp j:=by
 rw [zH,zH,List.getElem?_set_ne h]
def rid : AV → Option Nat
 | .ms id _ _ _=>some id
 | _=>none
def RowIs (hp:List HObj) (x:AV) (l:List Int):Prop :=
 (x = .sl true 0 []∧l=[])∨∃ id off cs,x = .ms id off l.length 1∧qr hp id=some (.cells cs)∧off+l.length≤cs.length∧zS cs off l.length=l.map fun n=>I n
def Fr (hp hp':List HObj) (o:Nat→Prop):Prop:=hp.length≤hp'.length∧∀ i,i<hp.length→¬ o i→qr hp' i=qr hp i
theorem Fr.refl (hp:List HObj) (o:Nat→Prop):Fr hp hp o:=⟨Nat.le_refl _,fun _ _ _=>rfl⟩
theorem qj {hp:List HObj} {i:Nat} {o:HObj} (h:qr hp i=some o):i<hp.length:=by rw [zH] at h;exact Zu h
theorem RowIs.lt {hp x l i} (h:RowIs hp x l) (hi:rid x=some i):i<hp.length:=by
 rcases h with ⟨rfl,_⟩ | ⟨id,off,cs,rfl,h2,_⟩
 · cases hi
 · cases hi;exact qj h2
theorem RowIs.mono {hp H x l} (h:RowIs hp x l) (hk:∀ i,rid x=some i→qr H i=qr hp i):RowIs H x l:=by
 rcases h with h | ⟨id,off,cs,rfl,h2,h3⟩
 · exact .inl h
 · exact .inr ⟨id,off,cs,rfl,(hk id rfl).trans h2,h3⟩
section
variable {hp:List HObj} {K:AV→List (Nat × HObj)→Prop}
end
def AccR (hp:List HObj) (x:AV) (l:List Int):Prop:=(x = .sl true 0 []∧l=[])∨∃ id,x = .ms id 0 l.length 1∧l≠[]∧qr hp id=some (.cells (l.map fun n=>I n))
theorem AccR.row {hp x l} (h:AccR hp x l):RowIs hp x l:=by
 rcases h with h | ⟨id,rfl,_,h⟩
 · exact .inl h
 · exact .inr ⟨id,0,_,rfl,h,by simp,by simp [zS];rw [List.take_of_length_le (by simp)]⟩
theorem AccR.mono {hp H x l} (h:AccR hp x l) (hk:∀ i,rid x=some i→qr H i=qr hp i):AccR H x l:=by
 rcases h with h | ⟨id,rfl,h1,h2⟩
 · exact .inl h
 · exact .inr ⟨id,rfl,h1,(hk id rfl).trans h2⟩
theorem AccR.out {hp x l} (h:AccR hp x l):Out (Ls l.isEmpty l) x hp:=by
 rcases h with ⟨rfl,rfl⟩ | ⟨id,rfl,h1,h2⟩
 · exact ⟨[],rfl⟩
 · have e : l.isEmpty = false := by simpa using h1
   rw [e];exact qsd h2 rfl
theorem qsi {P : Program} {E : HE} {g : Opd} {ps ks : List Nat} {x y : AC} {fr : List (Nat × AV)} {hp : List HObj} {Q : Exit → St → Prop} {K0 : List HObj → Prop}
 (h1 : E.R (evF (get fr) g) hp (fun xs hp' K => hpf hp' hp.length = some (.lp .ready (hp.length + 1)) ∧ xs.length = ps.length ∧
       AWP P E x { fr := putPs ps xs fr,hp := hp' } (Exit.th (fun st1 => hpf st1.hp hp.length = some (.lp .ready (hp.length + 1)) ∧
        AWP P E y { fr:=st1.fr,hp:=JX st1.hp hp.length (.lp .busy (hp.length+1)) } (qg5 hp.length K)) (fun _ _=>False))) K0)
 (h2:∀ hp',K0 hp'→qh5 hp.length fr ks Q hp'):AWP P E (.rf g ps x y ks) ⟨fr,hp⟩ Q:=⟨K0,h1,h2⟩
theorem zh (hp:List HObj) (i:Nat):hpf hp i=qr hp i:=(zH hp i).symm
theorem qaR {id:Nat} {fr:List (Nat × AV)} {ks:List Nat} {Q:Exit→St→Prop} {hp:List HObj} {m:Nat} (h:qr hp id=some (.lp .ready m)) (hq:Q .normal (St.keep { fr:=fr,hp:=hp.set id .gone } ks)):qh5 id fr ks Q hp:=by
 simp only [qh5,zh,h]
 have:=qj h
 simp only [JX,this,if_true]
 exact hq
theorem qh2 : ∀ (n : Nat) (x : AV),zP n [x] = List.replicate n x
 | 0,_=>rfl
 | n+1,x=>by simp [zP,qh2 n x,List.replicate_succ]
theorem Wu {hp:List HObj} {ids:List Nat} {i:Nat} (h:∀ j∈ids,j<hp.length) (h0:i∉ids):qr (qH hp (zB ids)) i=qr hp i:=by
 have h1 : ∀ p ∈ zB ids,p.1 ≤ hp.length := fun p hp' => by
  simp only [zB,List.mem_map] at hp'
  obtain ⟨j,hj,rfl⟩:=hp'
  exact Nat.le_of_lt (h j hj)
 have h2:=congrFun (QJ h1) i
 rw [Qj,if_neg h0] at h2
 rw [zH,zH]
 exact h2
theorem JV {hp : List HObj} : ∀ {ids : List Nat},hp.length ≤ (qH hp (zB ids)).length
 | ids=>Zy _ _
theorem AccR.pur {hp x l} (h:AccR hp x l):∃ f ids,qU (hpf hp) x=some (Ls f l,ids)∧∀ i∈ids,rid x=some i∧i<hp.length:=by
 rcases h with ⟨rfl,rfl⟩ | ⟨id,rfl,_,h2⟩
 · exact ⟨true,[],rfl,fun i hi=>by simp at hi⟩
 · refine ⟨false,[id],?_,fun i hi => by simp at hi; subst hi; exact ⟨rfl,qj h2⟩⟩
   simp only [qU,zu,ze,zh,h2]
   rw [if_pos ⟨by simp,qaw l⟩]
   simp only [zS,List.drop_zero,Nat.mul_one]
   rw [List.take_of_length_le (by simp)]
theorem qr9 {hp:List HObj} {id n:Nat} {l:List Int} (h:qr hp id=some (.cells (l.map fun n=>I n))) (hn:n=l.length):qU (hpf hp) (.ms id 0 n 1)=some (Ls false l,[id]):=by
 subst hn
 simp only [qU,zu,ze,zh,h]
 rw [if_pos ⟨by simp,qaw l⟩]
 simp only [zS,List.drop_zero,Nat.mul_one]
 rw [List.take_of_length_le (by simp)]
theorem qrY {P : Program} {E : HE} {d : Nat} {neg : Bool} {x : Opd} {os : List AOp} {fr : List (Nat × AV)} {hp : List HObj} {K : St → Prop} {f : Bool} {n : Nat} {cs : List AV} (hx : evF (get fr) x = .sl f n cs)
 (h0:cs=[]→∀ c,Ze P E os ⟨(d,.v (.bool c))::fr,hp⟩ K) (h1:cs≠[]→Ze P E os ⟨(d,.v (.bool neg))::fr,hp⟩ K):Ze P E (.isn d neg 0 x::os) ⟨fr,hp⟩ K:=by
 simp only [Ze,aop,AOp.many,hx]
 cases cs with
 | nil=>exact ⟨h0 rfl false,h0 rfl true⟩
 | cons a l=>exact h1 (by simp)
def MkR (hp:List HObj) (x:AV) (l:List Int):Prop:=(x = .sl true 0 []∧l=[])∨∃ id,x = .ms id 0 l.length 1∧qr hp id=some (.cells (l.map fun n=>I n))
theorem AccR.mk {hp x l} (h:AccR hp x l):MkR hp x l:=by
 rcases h with h | ⟨id,h1,_,h2⟩
 · exact .inl h
 · exact .inr ⟨id,h1,h2⟩
theorem MkR.row {hp x l} (h:MkR hp x l):RowIs hp x l:=by
 rcases h with h | ⟨id,rfl,h⟩
 · exact .inl h
 · exact .inr ⟨id,0,_,rfl,h,by simp,by simp [zS];rw [List.take_of_length_le (by simp)]⟩
theorem MkR.mono {hp H x l} (h:MkR hp x l) (hk:∀ i,rid x=some i→qr H i=qr hp i):MkR H x l:=by
 rcases h with h | ⟨id,rfl,h2⟩
 · exact .inl h
 · exact .inr ⟨id,rfl,(hk id rfl).trans h2⟩
theorem MkR.pur {hp x l} (h:MkR hp x l):∃ f ids,qU (hpf hp) x=some (Ls f l,ids)∧∀ i∈ids,rid x=some i∧i<hp.length:=by
 rcases h with ⟨rfl,rfl⟩ | ⟨id,rfl,h2⟩
 · exact ⟨true,[],rfl,fun i hi=>by simp at hi⟩
 · exact ⟨false,[id],qr9 h2 rfl,fun i hi=>by simp at hi;subst hi;exact ⟨rfl,qj h2⟩⟩
theorem qek {P:Program} {F:Nat→AV} {hp:List HObj} {K:AV→List (Nat × HObj)→Prop} {d n:Nat} {x:Opd} {cs:List AV} (hx:evF F x = .sl true n cs) (k:K (I n) []):(AOp.cap d x).wp P F hp K:=by
 refine ⟨_,_,?_,k⟩
 simp only [AOp.sem,hx]
 exact ⟨by trivial,by first | rfl | trivial,by first | rfl | trivial⟩
def Fzn (hp:List HObj) (ids:List Nat) (fr fr':List (Nat × AV)):Prop :=
 ∀ t,get fr' t=get fr t∨∃ is,qU (hpf hp) (get fr t)=some (get fr' t,is)∧∀ i∈is,i∈ids
theorem Fzn.refl {hp ids fr}:Fzn hp ids fr fr:=fun _ => .inl rfl
theorem Fzn.keep {hp ids fr fr'} {k:Nat} {x:AV} (h:Fzn hp ids fr fr'):Fzn hp ids ((k,x)::fr) ((k,x)::fr'):=fun t=>by
 rw [JI,JI];split
 · exact .inl rfl
 · exact h t
theorem Fzn.new {hp ids fr fr'} {k:Nat} {x y:AV} {is:List Nat} (hx:qU (hpf hp) x=some (y,is)) (hs:∀ i∈is,i∈ids) (h:Fzn hp ids fr fr'):Fzn hp ids ((k,x)::fr) ((k,y)::fr'):=fun t=>by
 rw [JI,JI];split
 · exact .inr ⟨is,hx,hs⟩
 · exact h t
theorem qiq {hp : Hp} {g : G} {w : World} (h : HeapOK hp g w) {id : Nat} {cs cs' : List AV} {is : List Nat} (h1 : hp id = some (.cells cs)) (h2 : Qp hp cs = some (cs',is)) (hid : id ∉ is)
 (hids:∀ i∈is,∃ cs,hp i=some (.cells cs)) (hrep:cs'.length=cs.length∧∀ j (hj:j<cs.length) (hj':j<cs'.length) v,Rep w g false cs[j] v→Rep w (g.pub (QI hp g is)) true cs'[j] v) :
 HeapOK (Hp.set (Hp.write hp (zB is)) id (.cells cs')) (g.pub (QI hp g is)) w∧Upd hp g w (Hp.set (Hp.write hp (zB is)) id (.cells cs')) (g.pub (QI hp g is)) w:=by
 obtain ⟨hokA,updA⟩:=h.giveAll is hids
 have hA:Hp.write hp (zB is) id=some (.cells cs):=by rw [Qj,if_neg hid];exact h1
 obtain ⟨l0,r1,r2⟩:=hokA.rep id _ hA
 have T:=updA.tr
 have hl0:g.ρ id=some l0:=r1
 obtain ⟨l1,s1,s2⟩:=h.rep id _ h1
 rw [hl0] at s1;cases s1
 have new:HRep w (g.pub (QI hp g is)) (.cells cs') l0:=by
  cases l0 with
  | virg =>
    have e:cs=[]:=s2
    have:cs'=[]:=List.eq_nil_of_length_eq_zero (by rw [hrep.1,e];rfl)
    exact this
  | base L=>exact r2.elim
  | blk c d =>
    obtain ⟨arr,ty,fz,a1,a2,a3,a4,a5⟩:=r2
    obtain ⟨arr',ty',fz',b1,b2,b3,b4,b5⟩:=s2
    rw [a1] at b1;cases b1
    refine ⟨arr,ty,fz,a1,by rw [hrep.1];exact a2,a3,a4,fun i hi=>?_⟩
    have hi':i<cs.length:=by rw [←hrep.1];exact hi
    obtain ⟨x,x1,x2⟩:=b5 i hi'
    exact ⟨x,x1,(hrep.2 i hi' hi x x2).of⟩
 have tr:Trans w (g.pub (QI hp g is)) w (g.pub (QI hp g is)) := .refl _ _
 have live:(HObj.cells cs').live=(HObj.cells cs).live:=rfl
 refine ⟨hokA.change (fun i=>i=id) tr (fun i hi=>Hp.set_other _ _ hi) (fun _ _=>rfl) (fun _ _ _ _ _ _ _ _=>rfl) (fun _ _ _ _ _ _ _ _ _ hq=>hq) ?_ ?_ hokA.ex,updA.trans ⟨tr,?_,fun b q hs => .inl hs,fun b hb _=>rfl⟩⟩
 · rintro i rfl
   exact ⟨_,l0,Hp.set_same _ _ _,r1,new⟩
 · intro i i' o o' c d d' hi ho ho' hl hl' hr hr'
   subst hi
   by_cases e:i'=i
   · exact e.symm
   · rw [Hp.set_other _ _ e] at ho'
     exact hokA.inj i i' _ o' c d d' hA ho' rfl hl' hr hr'
 · rintro c ⟨i,o,d,ho,hl,hr⟩
   by_cases e:i=id
   · subst e
     exact .inl ⟨i,_,d,hA,rfl,hr⟩
   · rw [Hp.set_other _ _ e] at ho
     exact .inl ⟨i,o,d,ho,hl,hr⟩
theorem qef {P : Program} {f : FuncId} {xs ys : List AV} {hp : List HObj} {K : AV → List HObj → Prop} {id : Nat} {cs cs' : List AV} {is : List Nat} (h1 : qr hp id = some (.cells cs)) (h2 : Qp (hpf hp) cs = some (cs',is)) (hid : id ∉ is)
 (hlen:ys.length=xs.length) (hargs:∀ i (h:i<xs.length) (h':i<ys.length),xs[i]=ys[i]∨∃ js,qU (hpf hp) xs[i]=some (ys[i],js)∧∀ j∈js,j∈is)
 (hcall:zG P f ys (qH hp (zB is++[(id,.cells cs')])) K):zG P f xs hp K:=by
 intro ro n w g vs hok hvs hrep
 have hids:=Vj h2
 obtain ⟨q1,q2⟩:=qiq hok (by rw [zH] at h1;exact h1) h2 hid hids (JL hok h2 fun i h=>h)
 have lt : ∀ p ∈ zB is ++ [(id,HObj.cells cs')],p.1 ≤ hp.length := fun p hp' => by
  rw [List.mem_append] at hp'
  rcases hp' with hp' | hp'
  · simp only [zB,List.mem_map] at hp'
    obtain ⟨i,hi,rfl⟩:=hp'
    obtain ⟨cs,hcs⟩:=hids i hi
    exact Nat.le_of_lt (Zu hcs)
  · simp at hp';subst hp';exact Nat.le_of_lt (qj h1)
 have e:hpf (qH hp (zB is++[(id,.cells cs')]))=Hp.set (Hp.write (hpf hp) (zB is)) id (.cells cs'):=by
  rw [QJ lt,jh]
 refine (hcall ro n w _ vs (by rw [e];exact q1) (by omega) fun i hi=>?_).mono ?_
 · rcases hargs i (by omega) hi with h | ⟨js,h,hs⟩
   · rw [←h];exact (hrep i (by omega)).mono q2.tr
   · exact (jD hok h hs (hrep i (by omega))).of
 · rintro e' w' ⟨v,r,hp',g',a1,a2,a3,a4,a5⟩
   exact ⟨v,r,hp',g',a1,a2,a3,a4,q2.trans (by rw [e] at a5;exact a5)⟩
theorem qW {P:Program} {E:HE} {c:AC} {st:St} {K:Exit→St→Prop} (h:∀ K',K'=K→AWP P E c st K'):AWP P E c st K:=h K rfl
theorem qkd {fr fr':List (Nat × AV)} {hp:List HObj} (h:∀ t,get fr' t=get fr t∨get fr' t = .any):St.le ⟨fr,hp⟩ ⟨fr',hp⟩:=by
 rintro N a w g ⟨h1,hF,hok⟩
 refine ⟨g,⟨h1,fun t=>?_,hok⟩,.refl _ _ _⟩
 show Rep _ _ _ (get fr' t) _
 rcases h t with e | e
 · rw [e];exact hF t
 · rw [e];exact .any _ _
variable {P:Program}
def AWS (P:Program) (ac:AC) (st:St) (Q:Exit→St→Prop):Prop :=
 ∀ (N : Nat) (c : Go.Code) (a : Act) (w : World) (g : G) (R : Exit → Act → World → Prop) (ro : Option Nat) (n : Nat),
   qdM P N c ac→(ro=none∨ac.noRf=true)→Sim N st a w g→qjj N st a w g Q R→c.wpIn (W ro) n P R a w
theorem qnt {ac:AC} {st:St} {Q:Exit→St→Prop} (h:AWP P (E1 P) ac st Q):AWS P ac st Q:=fun N c a w g R ro n hf hr hs hl =>
 Qq (E:=E1 P) (w1:=w) (g1:=g) YO Vl hf hr h (.refl _ _) hs hl
theorem qn5 {x y:AC} {st:St} {Q:Exit→St→Prop} (h:AWS P x st (Exit.th (fun st=>AWS P y st Q) Q)):AWS P (.seq x y) st Q:=fun N c a w g R ro n hf hr hs hl=>by
 cases c <;> first | exact hf.elim | skip
 rename_i c1 c2
 have hr1:ro=none∨x.noRf=true:=hr.imp (fun h=>h) (fun h=>by simp [AC.noRf] at h;exact h.1)
 have hr2:ro=none∨y.noRf=true:=hr.imp (fun h=>h) (fun h=>by simp [AC.noRf] at h;exact h.2)
 refine wpIn_seq (h _ _ _ _ _ _ _ _ hf.1 hr1 hs fun e st' a' w' g' hq hs' hu hd=>?_)
 cases e with
 | normal=>exact hq _ _ _ _ _ _ _ _ hf.2 hr2 hs' (fun e st2 a2 w2 g2 q2 s2 u2 d2=>hl e st2 a2 w2 g2 q2 s2 (hu.trans u2) (hd.trans hu.tr.size u2 d2))
 | _=>exact hl _ _ _ _ _ hq hs' hu hd
theorem zU {x y:AC} {st:St} {Q:Exit→St→Prop} (h:AWP P (E1 P) x st (Exit.th (fun st=>AWS P y st Q) Q)):AWS P (.seq x y) st Q:=qn5 (qnt h)
theorem qjq {f : FuncId} {fn : Func} {ac : AC} {ts : List Nat} {xs : List AV} {hp : List HObj} {K : AV → List HObj → Prop} (hf : P.funcs[f]? = some fn) (hc : qo P fn ts = some ac) (hr : JN fn.results.toList = some ts)
 (hl:xs.length≤fn.ntmps) (h:AWS P ac { fr:=YJ 0 xs,hp:=hp } (qfA ts K)):zG P f xs hp K:=by
 simp only [qo,Option.map_eq_some_iff] at hc
 obtain ⟨c,hb,rfl⟩:=hc
 have hfit:=QZ (P:=P) (N:=fn.ntmps) (rt:=ts) (ex:=[]) (l:=ts) (Qz c)
 have hr:=QA (P:=P) hr
 rw [←qaQ] at h
 intro ro n w g vs hok hvs hrep
 have go : CallsIn (W none) n P f vs w fun e w' => ∃ v r hp' g', e = .returned v ∧ K r hp' ∧ Rep w' g' false r v ∧ HeapOK (hpf hp') g' w' ∧ Upd (hpf hp) g w (hpf hp') g' w' := by
  refine callsIn_of_wp_marks hf hb trivial (h _ _ _ _ g _ _ _ hfit (.inl rfl) ?_ ?_) rfl
  · refine ⟨by simp [hvs]; omega,fun t => ?_,hok⟩
    show Rep w g false (get (YJ 0 xs) t) _
    rw [VA]
    simp only [Nat.zero_le,if_true,Nat.sub_zero]
    by_cases ht:t<xs.length
    · have e1 : xs.getD t .any = xs[t] := by simp [ht]
      rw [e1]
      have:=hrep t ht
      simp only [Array.getD_eq_getD_getElem?] at this ⊢
      rw [Array.getElem?_append_left (by omega)]
      exact this
    · have e1 : xs.getD t .any = .any := by simp [Nat.le_of_not_lt ht]
      rw [e1];exact .any _ _
  · intro e st' a' w' g' hq hs hu hd
    obtain ⟨ms,d1,d2,d3⟩:=hd
    simp only [List.append_nil] at d1
    have fin : (∃ xs,qhO (hpf st'.hp) st'.fr (ts.map (·,none)) xs ∧ K (qfs xs) st'.hp) → LeavesInM (W none) n P fn a'.tmps (fun e w' => ∃ v r hp' g',e = .returned v ∧ K r hp' ∧ Rep w' g' false r v ∧ HeapOK (hpf hp') g' w' ∧ Upd (hpf hp) g w (hpf hp') g' w') a'.defers .returning w' := fun ⟨ys,hy,hK⟩ => by
     rw [d1]
     obtain ⟨k1,k2,k3⟩:=YE ms w' d2 d3 hs.2.2 hu
     refine Ja ms w' d2 (fun D hD=>(d3 D hD).2.1) ?_
     obtain ⟨v,j1,j2⟩:=Yh (P:=P) k1 (fun i=>(hs.2.1 i).mono k3) hr hy
     exact ⟨v,j1,v,_,_,g',rfl,hK,j2,k1,k2⟩
    cases e with
    | normal=>exact fin hq
    | ret=>exact fin hq
    | _=>exact hq.elim
 exact go
variable {P:Program}
def RowM (hp:List HObj) (x:AV) (l:List Int):Prop:=∃ id off cs,x = .ms id off l.length 1∧qr hp id=some (.cells cs)∧off+l.length≤cs.length∧zS cs off l.length=(l.map fun n=>I n)∧(cs.all AV.isPC)=true
theorem RowM.row {hp x l} (h:RowM hp x l):RowIs hp x l:=by
 obtain ⟨id,off,cs,h1,h2,h3,h4,_⟩:=h
 exact .inr ⟨id,off,cs,h1,h2,h3,h4⟩
theorem Xu {l:List AV} (h:(l.all AV.isPC)=true):(l.all AV.isPure)=true:=by
 rw [List.all_eq_true] at h ⊢
 exact fun x hx=>qaE (h x hx)
theorem RowM.mono {hp H x l} (h:RowM hp x l) (hk:∀ i,rid x=some i→qr H i=qr hp i):RowM H x l:=by
 obtain ⟨id,off,cs,rfl,h1,h2⟩:=h
 exact ⟨id,off,cs,rfl,(hk id rfl).trans h1,h2⟩
theorem RowM.lt {hp x l i} (h:RowM hp x l) (hi:rid x=some i):i<hp.length:=h.row.lt hi
theorem RowM.pur {hp x l} (h:RowM hp x l):∃ ids,qU (hpf hp) x=some (Ls false l,ids):=by
 obtain ⟨id,off,cs,rfl,h1,h2,h3,h4⟩:=h
 refine ⟨[id],?_⟩
 simp only [qU,zu,ze,zh,h1]
 rw [Nat.mul_one,h3,if_pos ⟨h2,Xu h4⟩]
section
variable {K:AV→List (Nat × HObj)→Prop}
end
end Go.AM

namespace Go.AM
open Go.RowKit
abbrev S (l:List UInt8):AV := .v (.string ⟨l.toArray⟩)
theorem qsx (s:ByteArray):s=⟨s.data.toList.toArray⟩:=by apply ByteArray.ext;simp
theorem qp3 (a b:List UInt8):(⟨a.toArray⟩:ByteArray)++⟨b.toArray⟩=⟨(a++b).toArray⟩:=by apply ByteArray.ext;simp
theorem Xw (a:List UInt8):(⟨a.toArray⟩:ByteArray).size=a.length:=rfl
theorem qhU (a:List UInt8):(⟨a.toArray⟩:ByteArray).toList=a:=by rw [ByteArray.toList_eq]
theorem WJ (a:List UInt8) (i j:Nat):(⟨a.toArray⟩:ByteArray).extract i j=⟨((a.drop i).take (j - i)).toArray⟩:=by
 apply ByteArray.ext
 simp [List.take_drop]
theorem qp4 (a:List UInt8) (i:Nat):(⟨a.toArray⟩:ByteArray)[i]?=a[i]?:=by
 by_cases h:i<a.length
 · have h' : i < (⟨a.toArray⟩ : ByteArray).size := h
   rw [List.getElem?_eq_getElem h,getElem?_pos (⟨a.toArray⟩:ByteArray) i h']
   rfl
 · have h' : ¬ i < (⟨a.toArray⟩ : ByteArray).size := h
   rw [List.getElem?_eq_none (by omega),getElem?_neg (⟨a.toArray⟩:ByteArray) i h']
section
variable {P:Program} {E:HE} {fr:List (Nat × AV)} {hp:List HObj} {F:Nat→AV} {os:List AOp} {KS:St→Prop} {KD:St→Tr→Prop} {tr:Tr} {K:AV→List (Nat × HObj)→Prop}
theorem qsO {a0 a1}:Ze P E (.b2s a0 a1::os) ⟨fr,hp⟩ KS=(AOp.b2s a0 a1).wp P (get fr) hp (Qn P E os (some a0) fr hp KS):=rfl
theorem qte {a0 a1}:Ze P E (.s2b a0 a1::os) ⟨fr,hp⟩ KS=(AOp.s2b a0 a1).wp P (get fr) hp (Qn P E os (some a0) fr hp KS):=rfl
theorem qqr {a0 a1 a2 a3}:Ze P E (.apps a0 a1 a2 a3::os) ⟨fr,hp⟩ KS=(AOp.apps a0 a1 a2 a3).wp P (get fr) hp (Qn P E os (some a0) fr hp KS):=rfl
theorem qq4 {a0 a1}:Zi P (.b2s a0 a1::os) ⟨fr,hp⟩ tr KD=(AOp.b2s a0 a1).wp P (get fr) hp (zN P os (some a0) fr hp tr ((evF (get fr) a1).ids) KD):=by simp [Zi,AOp.wp,zN,AOp.foot,AOp.heapy,AOp.opds,AOp.dst,St.step]
theorem qru {a0 a1}:Zi P (.s2b a0 a1::os) ⟨fr,hp⟩ tr KD=(AOp.s2b a0 a1).wp P (get fr) hp (zN P os (some a0) fr hp tr ((evF (get fr) a1).ids) KD):=by simp [Zi,AOp.wp,zN,AOp.foot,AOp.heapy,AOp.opds,AOp.dst,St.step]
theorem qok {a0 a1 a2 a3}:Zi P (.apps a0 a1 a2 a3::os) ⟨fr,hp⟩ tr KD=(AOp.apps a0 a1 a2 a3).wp P (get fr) hp (zN P os (some a0) fr hp tr ((evF (get fr) a2).ids++(evF (get fr) a3).ids) KD):=by simp [Zi,AOp.wp,zN,AOp.foot,AOp.heapy,AOp.opds,AOp.dst,St.step]
def qtk (hp:List HObj) (x:AV) (K:AV→List (Nat × HObj)→Prop):Prop:=∃ bs:List UInt8,ZN (hpf hp) 1 x=some (bs.length,qw bs)∧K (S bs) []
theorem quI {d x}:(AOp.b2s d x).wp P F hp K=qtk hp (evF F x) K:=by
 apply propext
 constructor
 · rintro ⟨r,ws,⟨bs,h1,rfl,rfl⟩,k⟩;exact ⟨bs,h1,k⟩
 · rintro ⟨bs,h1,k⟩;exact ⟨_,_,⟨bs,h1,rfl,rfl⟩,k⟩
theorem qbJ : ∀ {a b : List UInt8},qw a = qw b → a = b
 | [],[],_=>rfl
 | [],_::_,h=>by cases h
 | _::_,[],h=>by cases h
 | x::a,y::b,h=>by
   simp only [qw,List.map_cons,List.cons.injEq,AV.v.injEq,Value.int.injEq,true_and] at h
   obtain ⟨h1,h2⟩:=h
   rw [qbJ (a:=a) (b:=b) h2,show x=y from UInt8.toNat_inj.1 (by omega)]
theorem qZ (l:List UInt8):(qw l).length=l.length:=by simp [qw]
theorem V4 (a b:List UInt8):qw (a++b)=qw a++qw b:=by simp [qw]
theorem qbI {l:List UInt8} {i:Nat} (h:i<l.length):(qw l)[i]?=some (.v (.int .u8 l[i].toNat)):=by simp [qw,h]
theorem Jo (l:List UInt8):((qw l).all AV.isPC)=true:=by
 rw [List.all_eq_true];intro x hx
 obtain ⟨b,_,rfl⟩:=List.mem_map.1 hx
 rfl
theorem qfF (l:List UInt8) (n:Nat):(qw l).take n=qw (l.take n):=by simp [qw]
theorem qg7 {f n} {bs:List UInt8}:qtk hp (.sl f n (qw bs)) K=(n=bs.length∧K (S bs) []):=by
 apply propext
 constructor
 · rintro ⟨b',h1,k⟩
   simp only [ZN] at h1
   split at h1
   · rename_i hl
     simp only [Option.some.injEq,Prod.mk.injEq] at h1
     have:=qbJ h1.2
     subst this
     exact ⟨h1.1,k⟩
   · cases h1
 · rintro ⟨rfl,k⟩
   exact ⟨bs,by simp [ZN,qZ],k⟩
theorem qne {c:Int} (h0:0≤c) (h1:c≤255):((UInt8.ofNat c.toNat).toNat:Int)=c:=by
 have:(UInt8.ofNat c.toNat).toNat=c.toNat % 256:=UInt8.toNat_ofNat'
 rw [this];omega
theorem qjo {f} {c:Int} (h0:0≤c) (h1:c≤255):qtk hp (.sl f 1 [.v (.int .u8 c)]) K=K (S [UInt8.ofNat c.toNat]) []:=by
 have:[AV.v (.int .u8 c)]=qw [UInt8.ofNat c.toNat]:=by simp only [qw,List.map_cons,List.map_nil];rw [qne h0 h1]
 rw [this,qg7];simp
def qvp (x:AV) (K:AV→List (Nat × HObj)→Prop):Prop:=match x with
 | .v (.string s)=>K (.sl false s.size (qw s.data.toList)) []
 | _=>False
theorem quY {d x}:(AOp.s2b d x).wp P F hp K=qvp (evF F x) K:=by
 unfold AOp.wp;simp only [AOp.sem]
 generalize evF F x=u
 cases u with
 | v y=>cases y <;> first | exact Jr | exact jJ
 | _=>exact jJ
theorem quz {l:List UInt8}:qvp (S l) K=K (.sl false l.length (qw l)) []:=rfl
def qqC (hp:List HObj) (bytes:Nat) (x y:AV) (K:AV→List (Nat × HObj)→Prop):Prop:=match y with
 | .v (.string s)=>∃ r ws,jr (hpf hp) hp.length r ws 1 bytes x s.size (qw s.data.toList)∧K r ws
 | _=>False
theorem qsD {d bytes x y}:(AOp.apps d bytes x y).wp P F hp K=qqC hp bytes (evF F x) (evF F y) K:=by
 unfold AOp.wp;simp only [AOp.sem]
 generalize evF F y=u
 cases u with
 | v z=>cases z <;> first | rfl | exact jJ
 | _=>exact jJ
theorem qqM {bytes x} {l:List UInt8}:qqC hp bytes x (S l) K=qnj hp 1 bytes x (.sl false l.length (qw l)) K:=by
 apply propext
 constructor
 · rintro ⟨r,ws,h,k⟩;exact ⟨l.length,_,by simp [ZN,qZ],Jo l,r,ws,h,k⟩
 · rintro ⟨m,ys,h1,h2,r,ws,h,k⟩
   simp [ZN,qZ] at h1
   obtain ⟨rfl,rfl⟩:=h1
   exact ⟨r,ws,h,k⟩
theorem Z4 {a b:List UInt8} (h:a.length+b.length≤9223372036854775807):Xx .add (S a) (S b) K=K (S (a++b)) []:=by
 refine Zn ?_
 simp only [Y5,Xw]
 rw [if_pos h,qp3]
theorem qqN {a b:List UInt8}:Xx .eql (S a) (S b) K=K (B (a==b)) []:=Zn (by simp only [Y5,qhU])
theorem qqO {a b:List UInt8}:Xx .neq (S a) (S b) K=K (B (!(a==b))) []:=Zn (by simp only [Y5,qhU])
def qnW (x i:AV) (K:AV→List (Nat × HObj)→Prop):Prop:=match x,i with
 | .v (.string s),.v (.int _ j)=>0≤j∧∃ b,s[j.toNat]?=some b∧K (.v (.int .u8 b.toNat)) []
 | _,_=>False
theorem quS {d x i}:(AOp.ids d x i).wp P F hp K=qnW (evF F x) (evF F i) K:=by
 unfold AOp.wp;simp only [AOp.sem]
 generalize evF F x=u
 generalize evF F i=v
 cases u with
 | v y =>
   cases v with
   | v z =>
     cases y <;> cases z <;> first | exact jJ | skip
     apply propext
     constructor
     · rintro ⟨r,ws,⟨h1,⟨b,h2,rfl⟩,rfl⟩,k⟩;exact ⟨h1,b,h2,k⟩
     · rintro ⟨h1,b,h2,k⟩;exact ⟨_,_,⟨h1,⟨b,h2,rfl⟩,rfl⟩,k⟩
   | _=>cases y <;> exact jJ
 | _=>cases v <;> exact jJ
theorem qoK {l:List UInt8} {j:Int} {k:IntKind}:qnW (S l) (.v (.int k j)) K=(0≤j∧∃ b,l[j.toNat]?=some b∧K (.v (.int .u8 b.toNat)) []):=by
 simp only [qnW,qp4]
theorem qnC {l:List UInt8} {i:Nat} {k:IntKind} (h:i<l.length):qnW (S l) (.v (.int k (i:Int))) K=K (.v (.int .u8 l[i].toNat)) []:=by
 rw [qoK];simp [h]
theorem qoN {l:List UInt8} {j:Int} {k:IntKind} (i:Nat) (e:j=i) (h:i<l.length):qnW (S l) (.v (.int k j)) K=K (.v (.int .u8 l[i].toNat)) []:=by
 subst e;exact qnC h
theorem qmo {c:UInt8} {l:List UInt8} {k:IntKind}:qnW (S (c::l)) (.v (.int k 0)) K=K (.v (.int .u8 c.toNat)) []:=by
 rw [qoK];simp
theorem qoO {c d:UInt8} {l:List UInt8} {k:IntKind}:qnW (S (c::d::l)) (.v (.int k 1)) K=K (.v (.int .u8 d.toNat)) []:=by
 rw [qoK];simp
def qvn (x:AV) (K:AV→List (Nat × HObj)→Prop):Prop:=match x with
 | .v (.string s)=>K (I s.size) []
 | _=>False
theorem quV {d x}:(AOp.lns d x).wp P F hp K=qvn (evF F x) K:=by
 unfold AOp.wp;simp only [AOp.sem]
 generalize evF F x=u
 cases u with
 | v y=>cases y <;> first | exact Jr | exact jJ
 | _=>exact jJ
theorem qup {l:List UInt8}:qvn (S l) K=K (I l.length) []:=rfl
def qnZ (x:AV) (lo hi:Option AV) (K:AV→List (Nat × HObj)→Prop):Prop:=match x with
 | .v (.string s)=>∃ l h:Nat,(match lo with | none=>l=0 | some y=>y=I l)∧(match hi with | none=>h=s.size | some y=>y=I h)∧l≤h∧h≤s.size∧K (.v (.string (s.extract l h))) []
 | _=>False
theorem qu0 {d x lo hi}:(AOp.sls d x lo hi).wp P F hp K=qnZ (evF F x) (lo.map (evF F)) (hi.map (evF F)) K:=by
 unfold AOp.wp;simp only [AOp.sem]
 generalize evF F x=u
 cases u with
 | v y =>
   cases y <;> first | exact jJ | skip
   apply propext
   constructor
   · rintro ⟨r,ws,⟨l,h,h1,h2,h3,h4,rfl,rfl⟩,k⟩;exact ⟨l,h,h1,h2,h3,h4,k⟩
   · rintro ⟨l,h,h1,h2,h3,h4,k⟩;exact ⟨_,_,⟨l,h,h1,h2,h3,h4,rfl,rfl⟩,k⟩
 | _=>exact jJ
theorem qnM {l:List UInt8} {j:Int} (h0:0≤j) (h1:j≤l.length):qnZ (S l) (some (I j)) none K=K (S (l.drop j.toNat)) []:=by
 apply propext
 simp only [qnZ,Xw,qh3]
 constructor
 · rintro ⟨a,b,e1,rfl,h2,h3,k⟩
   subst e1
   rw [WJ,List.take_of_length_le (by simp)] at k
   simpa using k
 · intro k
   refine ⟨j.toNat,l.length,by omega,rfl,by omega,by omega,?_⟩
   rw [WJ,List.take_of_length_le (by simp)]
   exact k
theorem qsp {l:List UInt8} {j:Int} (h0:0≤j) (h1:j≤l.length):qnZ (S l) none (some (I j)) K=K (S (l.take j.toNat)) []:=by
 apply propext
 simp only [qnZ,Xw,qh3]
 constructor
 · rintro ⟨a,b,rfl,e1,h2,h3,k⟩
   subst e1
   rw [WJ] at k
   simpa using k
 · intro k
   refine ⟨0,j.toNat,rfl,by omega,by omega,by omega,?_⟩
   rw [WJ]
   simpa using k
theorem qm2 {l:List UInt8} {i j:Int} (h0:0≤i) (h1:i≤j) (h2:j≤l.length):qnZ (S l) (some (I i)) (some (I j)) K=K (S ((l.drop i.toNat).take (j.toNat - i.toNat))) []:=by
 apply propext
 simp only [qnZ,Xw,qh3]
 constructor
 · rintro ⟨a,b,e1,e2,h3,h4,k⟩
   subst e1;subst e2
   rw [WJ] at k
   simpa using k
 · intro k
   refine ⟨i.toNat,j.toNat,by omega,by omega,by omega,by omega,?_⟩
   rw [WJ]
   exact k
end
attribute [simp] qsO qq4 qte qru qqr qok quI qjo quY quz qsD qqM Z4 qqN qqO quS qnC qmo qoO quV qup qu0 qnM qsp qm2
end Go.AM

namespace Go.AM
open Go.RowKit
def AccG (hp:List HObj) (x:AV) (sz n:Nat) (cs:List AV):Prop :=
 (x = .sl true 0 []∧n=0∧cs=[])∨∃ id,x = .ms id 0 n sz∧0<n∧qr hp id=some (.cells cs)∧cs.length=n*sz∧(cs.all AV.isPC)=true
theorem AccG.nil {hp sz}:AccG hp (.sl true 0 []) sz 0 [] := .inl ⟨rfl,rfl,rfl⟩
theorem AccG.mono {hp H x sz n cs} (h:AccG hp x sz n cs) (hk:∀ i,rid x=some i→qr H i=qr hp i):AccG H x sz n cs:=by
 rcases h with h | ⟨id,rfl,h1,h2,h3⟩
 · exact .inl h
 · exact .inr ⟨id,rfl,h1,(hk id rfl).trans h2,h3⟩
theorem AccG.lt {hp x sz n cs i} (h:AccG hp x sz n cs) (hi:rid x=some i):i<hp.length:=by
 rcases h with ⟨rfl,_⟩ | ⟨id,rfl,_,h2,_⟩
 · cases hi
 · cases hi;exact qj h2
theorem AccG.len {hp x sz n cs} (h:AccG hp x sz n cs):cs.length=n*sz:=by
 rcases h with ⟨_,rfl,rfl⟩ | ⟨id,_,_,_,h,_⟩
 · simp
 · exact h
theorem AccG.lenW {hp x sz n cs} {K:AV→List (Nat × HObj)→Prop} (h:AccG hp x sz n cs):qnm x K=K (I n) []:=by
 rcases h with ⟨rfl,rfl,_⟩ | ⟨id,rfl,_⟩ <;> rfl
theorem AccG.pc {hp x sz n cs} (h:AccG hp x sz n cs):(cs.all AV.isPC)=true:=by
 rcases h with ⟨_,_,rfl⟩ | ⟨id,_,_,_,_,h⟩
 · rfl
 · exact h
theorem AccG.pur {hp x sz n cs} (h:AccG hp x sz n cs):∃ ids,qU (hpf hp) x=some (.sl (decide (n=0)) n cs,ids)∧∀ i∈ids,rid x=some i∧i<hp.length:=by
 rcases h with ⟨rfl,rfl,rfl⟩ | ⟨id,rfl,h0,h2,h3,h4⟩
 · exact ⟨[],rfl,by simp⟩
 · refine ⟨[id],?_,by simp [rid,qj h2]⟩
   simp only [qU,zu,ze,zh,h2]
   rw [if_pos ⟨by omega,Xu h4⟩,decide_eq_false (by omega)]
   simp only [zS,List.drop_zero]
   rw [List.take_of_length_le (by omega)]
theorem AccG.out {hp x sz n cs} (h:AccG hp x sz n cs):Out (.sl (decide (n=0)) n cs) x hp:=by
 obtain ⟨ids,h1,_⟩:=h.pur
 exact qnG h1
theorem Q4 {hp : List HObj} {x : AV} {sz bytes n : Nat} {cs ys : List AV} {g : Bool} {K : AV → List (Nat × HObj) → Prop} (h : AccG hp x sz n cs) (hn : n ≤ 100000000) (hb : bytes ≤ 1000) (hy : ys.length = sz) (hpc : (ys.all AV.isPC) = true)
 (hK:∀ ws,(∀ i,i<hp.length→rid x≠some i→qr (qH hp ws) i=qr hp i)→hp.length<(qH hp ws).length→AccG (qH hp ws) (.ms hp.length 0 (n+1) sz) sz (n+1) (cs++ys)→K (.ms hp.length 0 (n+1) sz) ws) :
 qnj hp sz bytes x (.sl g 1 ys) K:=by
 have bd:(n+1)*bytes≤140737488355328:=Nat.le_trans (Nat.mul_le_mul (show n+1≤100000001 by omega) hb) (by decide)
 rcases h with ⟨rfl,rfl,rfl⟩ | ⟨id,rfl,h0,h2,h3,h4⟩
 · rw [qed]
   have hn:qr (qH hp [(hp.length,HObj.cells ([]++ys))]) hp.length=some (.cells ([]++ys)):=by
    rw [zt (by simp)];simp [Hp.write,Hp.set_same]
   refine ⟨⟨rfl,by omega,hpc,by simp,bd,by omega,.inl rfl⟩,hK _ (fun i hi _=>?_) (qj hn) (.inr ⟨hp.length,rfl,by omega,hn,by simp [hy],by simpa using hpc⟩)⟩
   rw [zt (by simp),zH];simp only [Hp.write];rw [Hp.set_other _ _ (by omega)];rfl
 · have hlt := qj h2
   rw [qec,h2,J3]
   have hv:zS cs 0 (n*sz)=cs:=by simp only [zS,List.drop_zero];rw [List.take_of_length_le (by omega)]
   rw [hv]
   have hn:qr (qH hp [(id,HObj.gone),(hp.length,HObj.cells (cs++ys))]) hp.length=some (.cells (cs++ys)):=by
    rw [zt (by simp;omega)]
    simp only [Hp.write,Hp.set_same]
   refine ⟨⟨by omega,hpc,rfl,by omega,bd,by omega⟩,hK _ (fun i hi hr=>?_) (qj hn) (.inr ⟨hp.length,rfl,by omega,hn,?_,?_⟩)⟩
   · rw [zt (by simp; omega),zH]; simp only [Hp.write]
     rw [Hp.set_other _ _ (by omega),Hp.set_other _ _ (fun e=>hr (by rw [e];rfl))];rfl
   · rw [List.length_append,h3,hy,Nat.add_mul,Nat.one_mul]
   · rw [List.all_append,h4,hpc];rfl
theorem qeg {P:Program} {f:FuncId} {xs:List AV} {hp:List HObj} {K:AV→List HObj→Prop} (h:zG P f xs hp fun x H=>∃ y ids,qU (hpf H) x=some (y,ids)∧K y (qH H (zB ids))):zG P f xs hp K:=by
 intro ro n w g vs hok hvs hrep
 refine (h ro n w g vs hok hvs hrep).mono ?_
 rintro e w' ⟨v,x,H,g',rfl,⟨y,ids,hpur,hK⟩,hx,hok',hu⟩
 have q:=jD hok' (ids:=ids) hpur (fun i hi=>hi) hx
 obtain ⟨k1,k2⟩:=hok'.giveAll ids (Jw hpur)
 have lt : ∀ p ∈ zB ids,p.1 ≤ H.length := fun p hp' => by
  simp only [zB,List.mem_map] at hp'
  obtain ⟨i,hi,rfl⟩:=hp'
  obtain ⟨cs,hcs⟩:=Jw hpur i hi
  exact Nat.le_of_lt (Zu hcs)
 have e:hpf (qH H (zB ids))=Hp.write (hpf H) (zB ids):=QJ lt
 exact ⟨v,y,_,_,rfl,hK,q.of,by rw [e];exact k1,by rw [e];exact hu.trans k2⟩
theorem Q6 {a sz : Nat} {fr : List (Nat × AV)} {hp : List HObj} {id off : Nat} {cs : List AV} {K : AV → List HObj → Prop} (h1 : get fr a = .ref id off) (h2 : qr hp id = some (.cells cs)) (h3 : off + sz ≤ cs.length) (k : K (.agg (zS cs off sz)) hp) :
 qh4 [(a,some (true,sz))] K .ret ⟨fr,hp⟩:=by
 refine ⟨[.agg (zS cs off sz)],⟨?_,trivial⟩,k⟩
 simp only [WG,h1,zh,h2]
 exact ⟨trivial,h3,trivial⟩
theorem qK {a sz c : Nat} {fr : List (Nat × AV)} {hp : List HObj} {id off : Nat} {cs : List AV} {K : AV → List HObj → Prop} (h1 : get fr a = .ref id off) (h2 : qr hp id = some (.cells cs)) (h3 : off + sz ≤ cs.length) (k : K (.tup [.agg (zS cs off sz),get fr c]) hp) :
 qh4 [(a,some (true,sz)),(c,none)] K .ret ⟨fr,hp⟩:=by
 refine ⟨[.agg (zS cs off sz),get fr c],⟨?_,rfl,trivial⟩,k⟩
 simp only [WG,h1,zh,h2]
 exact ⟨trivial,h3,trivial⟩
end Go.AM

namespace Go.AM
open Go.RowKit
section
variable {P:Program} {F:Nat→AV} {hp:List HObj} {K:AV→List (Nat × HObj)→Prop}
theorem qso {d sz ln:Nat} {x:Opd} {id off:Nat} {cs:List AV} (hx:evF F x = .ref id off) (h:qr hp id=some (.cells cs)) (hl:off+ln*sz≤cs.length) (k:K (.mc id off ln ln sz) []):(AOp.slp d sz ln x none none none).wp P F hp K:=by
 refine ⟨_,_,?_,k⟩
 simp only [AOp.sem,hx,zh,h]
 exact ⟨0,ln,ln,(by first | rfl | trivial),(by first | rfl | trivial),(by first | rfl | trivial),Nat.zero_le _,Nat.le_refl _,Nat.le_refl _,hl,by simp,(by first | rfl | trivial)⟩
theorem qqV {sz:Nat} {z:List AV} {x:Opd} {id off n c:Nat} {cs:List AV} (hx:evF F x = .mc id off n c sz) (h:qr hp id=some (.cells cs)) (hl:off+n*sz≤cs.length) (k:K .any [(id,.cells (splice cs off (zP n z)))]):(AOp.clr sz z x).wp P F hp K:=by
 refine ⟨_,_,?_,k⟩
 simp only [AOp.sem,hx,zh,h]
 exact ⟨cs,(by first | rfl | trivial),(by first | rfl | trivial),hl,(by first | rfl | trivial),(by first | rfl | trivial)⟩
end
end Go.AM

namespace Go.AM
open Go.RowKit
inductive Wk : AV → AV → Prop
 | refl (x:AV):Wk x x
 | any (x:AV):Wk x .any
 | sl (f g:Bool) (n:Nat) (cs ds:List AV) (hg:g=true→f=true) (hl:ds.length=cs.length) (hr:∀ i (h:i<cs.length) (h':i<ds.length),Wk cs[i] ds[i]):Wk (.sl f n cs) (.sl g n ds)
 | ptr (o:Nat) (cs ds:List AV) (hl:ds.length=cs.length) (hr:∀ i (h:i<cs.length) (h':i<ds.length),Wk cs[i] ds[i]):Wk (.ptr cs o) (.ptr ds o)
 | agg (cs ds:List AV) (hl:ds.length=cs.length) (hr:∀ i (h:i<cs.length) (h':i<ds.length),Wk cs[i] ds[i]):Wk (.agg cs) (.agg ds)
 | tup (cs ds:List AV) (hl:ds.length=cs.length) (hr:∀ i (h:i<cs.length) (h':i<ds.length),Wk cs[i] ds[i]):Wk (.tup cs) (.tup ds)
 | fn (f:Fn) (as bs:List AV) (cs ds:List AV) (hl:bs.length=as.length) (hl':ds.length=cs.length) (hr:∀ i (h:i<as.length) (h':i<bs.length),Wk as[i] bs[i]) (hr':∀ i (h:i<cs.length) (h':i<ds.length),Wk cs[i] ds[i]):Wk (.fn f as cs) (.fn f bs ds)
theorem Wk.rep {x y:AV} (k:Wk x y):∀ {w g p v},Rep w g p x v→Rep w g p y v:=by
 induction k with
 | refl x=>exact fun h=>h
 | any x=>exact fun _ => .any _ _
 | sl f g n cs ds hg hl hr ih =>
   intro w gg p v h
   cases h with
   | sl _ _ _ _ a cap vs hn hf hc hrr=>exact .sl _ g n ds a cap vs hn (fun e=>hf (hg e)) (fun i hi=>hc i (by omega)) (fun i hi=>ih i (by omega) hi (hrr i (by omega)))
 | ptr o cs ds hl hr ih =>
   intro w gg p v h
   cases h with
   | ptr _ _ _ b oo vs hc hrr=>exact .ptr _ ds o b oo vs (fun i hi=>hc i (by omega)) (fun i hi=>ih i (by omega) hi (hrr i (by omega)))
 | agg cs ds hl hr ih =>
   intro w gg p v h
   cases h with
   | agg _ _ vs hl' hrr=>exact .agg _ ds vs (by omega) (fun i hi=>ih i (by omega) hi (hrr i (by omega)))
 | tup cs ds hl hr ih =>
   intro w gg p v h
   cases h with
   | tup _ _ vs hl' hrr=>exact .tup _ ds vs (by omega) (fun i hi=>ih i (by omega) hi (hrr i (by omega)))
 | fn f as bs cs ds hl hl' hr hr' ih ih' =>
   intro w gg p v h
   cases h with
   | fn _ _ _ _ xs ys h1 h2 h3 h4=>exact .fn _ f bs ds xs ys (by omega) (by omega) (fun i hi=>ih i (by omega) hi (h3 i (by omega))) (fun i hi=>ih' i (by omega) hi (h4 i (by omega)))
inductive WkL : List AV → List AV → Prop
 | nil:WkL [] []
 | cons {x y xs ys}:Wk x y→WkL xs ys→WkL (x::xs) (y::ys)
theorem WkL.get : ∀ {cs ds : List AV},WkL cs ds → ds.length = cs.length ∧ ∀ i (h : i < cs.length) (h' : i < ds.length),Wk cs[i] ds[i]
 | [],[],_=>⟨rfl,fun i h=>by simp at h⟩
 | x::cs,y::ds,.cons h k=>by
   obtain ⟨l,r⟩:=k.get
   refine ⟨by simp [l],fun i h1 h2=>?_⟩
   cases i with
   | zero=>exact h
   | succ i=>exact r i (by simpa using h1) (by simpa using h2)
theorem WkL.rfl' : ∀ {cs : List AV},WkL cs cs
 | [] => .nil
 | _::_ => .cons (.refl _) WkL.rfl'
theorem WkL.app : ∀ {a b c d : List AV},WkL a b → WkL c d → WkL (a ++ c) (b ++ d)
 | [],[],_,_,_,k=>k
 | _::_,_::_,_,_,.cons h h',k => .cons h (h'.app k)
theorem Wk.slL {f g:Bool} {n:Nat} {cs ds:List AV} (h:WkL cs ds) (hg:g=true→f=true):Wk (.sl f n cs) (.sl g n ds) := .sl f g n cs ds hg h.get.1 h.get.2
theorem Wk.slF {f:Bool} {n:Nat} {cs ds:List AV} (h:WkL cs ds):Wk (.sl f n cs) (.sl false n ds) := .slL h (fun e=>by cases e)
theorem Wk.slf {f:Bool} {n:Nat} {cs:List AV}:Wk (.sl f n cs) (.sl false n cs) := .slF .rfl'
theorem Wk.aggL {cs ds:List AV} (h:WkL cs ds):Wk (.agg cs) (.agg ds) := .agg cs ds h.get.1 h.get.2
theorem Wk.tupL {cs ds:List AV} (h:WkL cs ds):Wk (.tup cs) (.tup ds) := .tup cs ds h.get.1 h.get.2
theorem WkL.flat {α : Type} {f g : α → List AV} : ∀ {l : List α},(∀ a ∈ l,WkL (f a) (g a)) → WkL (l.flatMap f) (l.flatMap g)
 | [],_ => .nil
 | a::l,h=>by
   rw [List.flatMap_cons,List.flatMap_cons]
   exact (h a (by simp)).app (WkL.flat fun b hb=>h b (by simp [hb]))
theorem qmW {P:Program} {f:FuncId} {xs ys:List AV} {r:AV} (h:qC P f ys r) (k:WkL xs ys):qC P f xs r:=fun ro n w g vs h1 h2 h3 =>
 h ro n w g vs h1 (by rw [h2,k.get.1]) fun i hi=>(k.get.2 i (by rw [←k.get.1];exact hi) hi).rep (h3 i (by rw [←k.get.1];exact hi))
def qi6 (r x:AV) (hp:List HObj):Prop:=∃ r',Out r' x hp∧Wk r' r
theorem Out.w {r x:AV} {hp:List HObj} (h:Out r x hp):qi6 r x hp:=⟨r,h,.refl _⟩
theorem qG {r r' x:AV} {hp:List HObj} {is:List Nat} (h:qU (hpf hp) x=some (r',is)) (k:Wk r' r):qi6 r x hp:=⟨r',⟨is,h⟩,k⟩
theorem zO {P:Program} {f:FuncId} {xs:List AV} {r:AV} (h:zG P f xs [] (qi6 r)):qC P f xs r:=by
 intro ro n w g vs hok hvs hrep
 have e0:hpf []=fun _=>none:=by funext i;simp [hpf]
 refine (h ro n w g vs (by rw [e0];exact hok) hvs (fun i hi=>(hrep i hi).of)).mono ?_
 rintro e w' ⟨v,x,hp',g',rfl,⟨r',⟨is,hpur⟩,hk⟩,hx,hok',hu⟩
 rw [e0] at hu
 have q:=jD hok' (ids:=is) hpur (fun i hi=>hi) hx
 obtain ⟨k1,k2⟩:=hok'.giveAll is (Jw hpur)
 exact ⟨v,_,rfl,hk.rep q.bare,k1.bare,(hu.trans k2).bare hok⟩
theorem qlH {P:Program} {f:FuncId} {xs ys zs:List AV} {hp:List HObj} {ids:List Nat} {r:AV} {KC:AV→List HObj→Prop} (h1:qE (hpf hp) xs=some (ys,ids)) (k:WkL ys zs) (h2:qC P f zs r) (h3:KC r (qH hp (bif r.scalar then [] else zB ids))):zG P f xs hp KC :=
 qg h1 (qmW h2 k) h3
end Go.AM

namespace Go.AM
open Go.RowKit
def fl {α:Type} (f:α→List AV) (l:List α):List AV:=l.flatMap f
section
variable {α:Type} {f:α→List AV} {sz:Nat}
theorem YX:fl f []=[]:=rfl
theorem Qh {a:α} {l:List α}:fl f (a::l)=f a++fl f l:=rfl
theorem jq {a b:List α}:fl f (a++b)=fl f a++fl f b:=List.flatMap_append
theorem J8 (hf : ∀ a,(f a).length = sz) : ∀ l : List α,(fl f l).length = l.length * sz
 | []=>by simp [YX]
 | a::l=>by rw [Qh,List.length_append,hf,J8 hf l,List.length_cons,Nat.add_mul];omega
theorem qfT (hf : ∀ a,(f a).length = sz) : ∀ (l : List α) (i : Nat),(fl f l).drop (i * sz) = fl f (l.drop i)
 | l,0=>by simp
 | [],i+1=>by simp [YX]
 | a::l,i+1=>by
   rw [Qh,List.drop_succ_cons,←qfT hf l i,show (i+1)*sz=sz+i*sz by rw [Nat.add_mul];omega,←List.drop_drop,List.drop_left' (hf a)]
theorem qjI (hf : ∀ a,(f a).length = sz) : ∀ (l : List α) (i : Nat),(fl f l).take (i * sz) = fl f (l.take i)
 | l,0=>by simp [YX]
 | [],i+1=>by simp [YX]
 | a::l,i+1=>by
   rw [Qh,List.take_succ_cons,Qh,←qjI hf l i,Nat.add_mul,Nat.one_mul]
   rw [List.take_append,List.take_of_length_le (by rw [hf];omega)]
   congr 2
   rw [hf];omega
theorem qfU (hf:∀ a,(f a).length=sz) {l:List α} {i:Nat} (h:i<l.length):((fl f l).drop (i*sz)).take sz=f l[i]:=by
 rw [qfT hf,List.drop_eq_getElem_cons h,Qh,List.take_append,List.take_of_length_le (by rw [hf];omega),hf]
 simp
theorem j9 (hf:∀ a,(f a).length=sz) {l:List α} {i:Nat} (h:i<l.length) {j:Nat} (hj:j<sz):YN (fl f l) (i*sz+j)=YN (f l[i]) j:=by
 rw [Jk,Jk,←List.getElem?_drop,qfT hf,List.drop_eq_getElem_cons h,Qh,List.getElem?_append_left (by rw [hf];exact hj)]
theorem W9 (hf:∀ a,((f a).all AV.isPC)=true) (l:List α):((fl f l).all AV.isPC)=true:=by
 rw [List.all_eq_true];intro x hx
 obtain ⟨a,_,ha⟩:=List.mem_flatMap.1 hx
 exact List.all_eq_true.1 (hf a) x ha
end
abbrev U (n:Int):AV := .v (.int .u8 n)
abbrev Pt:=Int × Int × Int
def ptC (p:Pt):List AV:=[U p.1,I p.2.1,I p.2.2]
abbrev JF (f:Bool) (l:List Pt):AV := .sl f l.length (fl ptC l)
abbrev Pts (l:List Pt):AV:=JF false l
abbrev Wd:=Int × List UInt8 × Int
def wdC (w:Wd):List AV:=[U w.1,S w.2.1,I w.2.2]
abbrev qlt (f:Bool) (l:List Wd):AV := .sl f l.length (fl wdC l)
abbrev Wds (l:List Wd):AV:=qlt false l
structure Ln where
 kind:Int
 name:List UInt8
 words:List Wd
 num:Int
 deriving DecidableEq
def lnC (l:Ln):List AV:=[I l.kind,S l.name,Wds l.words,I l.num]
abbrev LnV (l:Ln):AV := .agg (lnC l)
abbrev Bk:=List UInt8 × List Pt
def bkC (b:Bk):List AV:=[S b.1,Pts b.2]
abbrev qll (f:Bool) (l:List Bk):AV := .sl f l.length (fl bkC l)
abbrev Bks (l:List Bk):AV:=qll false l
structure Sht where
 num:Int
 bath:Int
 age:Int
 pat:List Pt
 deriving DecidableEq
def shC (s:Sht):List AV:=[I s.num,I s.bath,I s.age,Pts s.pat]
abbrev qnp (s:Sht):AV := .agg (shC s)
abbrev qtl (f:Bool) (l:List Sht):AV := .sl f l.length (fl shC l)
abbrev Shs (l:List Sht):AV:=qtl false l
structure Dy where
 rc:List Bk
 bath:Int
 laid:Int
 pat:List Pt
 sh:List Sht
 deriving DecidableEq
def dyC (d:Dy):List AV:=[Bks d.rc,I d.bath,I d.laid,Pts d.pat,Shs d.sh]
abbrev DyV (d:Dy):AV := .agg (dyC d)
def dy0:Dy:=⟨[],0,0,[],[]⟩
def ln0:Ln:=⟨0,[],[],0⟩
theorem qaI (p:Pt):(ptC p).length=3:=rfl
theorem qa0 (p:Wd):(wdC p).length=3:=rfl
theorem qcm (p:Bk):(bkC p).length=2:=rfl
theorem WH (p:Sht):(shC p).length=4:=rfl
theorem qhK (p:Pt):((ptC p).all AV.isPC)=true:=rfl
theorem qnu (p:Bk):((bkC p).all AV.isPC)=true:=rfl
theorem qnL (p:Sht):((shC p).all AV.isPC)=true:=rfl
def i64 (n:Int):Prop := -9223372036854775808≤n∧n≤9223372036854775807
def PtI (p:Pt):Prop:=(0≤p.1∧p.1≤255)∧i64 p.2.1∧i64 p.2.2
def qno (l:List Pt):Prop:=(∀ p∈l,PtI p)∧l.length≤100000
def WdI (w:Wd):Prop:=(0≤w.1∧w.1≤255)∧i64 w.2.2∧w.2.1.length≤100000
structure LnI (l:Ln):Prop where
 kind:i64 l.kind
 num:i64 l.num
 words:∀ w∈l.words,WdI w
 len:l.words.length≤100000
 name:l.name.length≤100000
structure DyI (d:Dy):Prop where
 rc:∀ b∈d.rc,qno b.2∧b.1.length≤100000
 rl:d.rc.length≤100000
 bath:i64 d.bath
 laid:i64 d.laid
 pat:qno d.pat
 sh:∀ s∈d.sh,i64 s.num∧i64 s.bath∧i64 s.age∧qno s.pat
 sl:d.sh.length≤100000
end Go.AM

namespace Go.AM
open Go.RowKit
def YM (b:UInt8):Bool:=decide (97≤b.toNat)&&decide (b.toNat≤122)
def VY (c:Int):Bool:=decide (97≤c)&&decide (c≤122)
theorem qck (b:UInt8):VY (b.toNat:Int)=YM b:=by
 unfold VY YM
 rw [Bool.eq_iff_iff]
 simp only [Bool.and_eq_true,decide_eq_true_eq]
 omega
def QV : List UInt8 → Bool
 | []=>false
 | c::r=>decide (r.length≤7)&&(decide (65≤c.toNat)&&decide (c.toNat≤90))&&r.all YM
def qfP (b:UInt8):Bool:=decide (48≤b.toNat)&&decide (b.toNat≤57)
def qie (acc : Nat) : List UInt8 → Nat
 | []=>acc
 | b::r=>qie (acc*10+(b.toNat - 48)) r
def Vp (s:List UInt8):Nat:=qie 0 s
def qnw (s:List UInt8):Bool:=match s with
 | []=>false
 | c::r=>decide (r.length≤12) && !decide (c.toNat=48)&&(c::r).all qfP
def qaA (s:List UInt8) (lo hi:Int):Bool:=qnw s&&decide (lo≤(Vp s:Int))&&decide ((Vp s:Int)≤hi)
theorem ZB {acc:Nat} {b:UInt8} {r:List UInt8}:qie acc (b::r)=qie (acc*10+(b.toNat - 48)) r:=by conv=>lhs;unfold qie
theorem Xo {acc:Nat}:qie acc []=acc:=rfl
theorem qcy : ∀ (a b : List UInt8) (acc : Nat),qie acc (a ++ b) = qie (qie acc a) b
 | [],b,acc=>rfl
 | x::a,b,acc=>by rw [List.cons_append,ZB,ZB];exact qcy a b _
theorem qjy : ∀ {a : List UInt8} {acc : Nat},(a.all qfP) = true → qie acc a < (acc + 1) * 10 ^ a.length
 | [],acc,_=>by rw [Xo];simp
 | x::a,acc,h=>by
   rw [List.all_cons,Bool.and_eq_true] at h
   have h1:=h.1
   unfold qfP at h1
   simp only [Bool.and_eq_true,decide_eq_true_eq] at h1
   have:=qjy (a:=a) (acc:=acc*10+(x.toNat - 48)) h.2
   rw [ZB,List.length_cons,Nat.pow_succ]
   have e:(acc*10+(x.toNat - 48)+1)*10 ^ a.length≤((acc+1)*10)*10 ^ a.length:=Nat.mul_le_mul_right _ (by omega)
   have e2:(acc+1)*(10 ^ a.length*10)=((acc+1)*10)*10 ^ a.length:=by rw [Nat.mul_assoc,Nat.mul_comm 10]
   omega
abbrev XZ (n:Nat):List UInt8:=Lib.decDigits n
theorem ZX {n:Nat} (h:n<10):XZ n=[UInt8.ofNat (48+n)]:=Lib.decDigits_one h
theorem Jp {n:Nat} (h:¬ n<10):XZ n=XZ (n / 10)++[UInt8.ofNat (48+n % 10)]:=by
 show Lib.decDigits n=_
 rw [Lib.decDigits,dif_neg h]
theorem Va {k:Nat} (h:k<10):(UInt8.ofNat (48+k)).toNat=48+k:=by
 rw [UInt8.toNat_ofNat'];omega
theorem qhh : ∀ (k n : Nat),n < 10 ^ k → ((XZ n).all qfP) = true
 | 0,n,h=>by
   have:n=0:=by simpa using h
   subst this
   rw [ZX (by decide)]
   decide
 | k+1, n, h=>by
   by_cases hn:n<10
   · rw [ZX hn]
     simp only [List.all_cons,List.all_nil,Bool.and_true,qfP,Va hn]
     simp;omega
   · have h2 : n % 10 < 10 := Nat.mod_lt _ (by decide)
     rw [Jp hn,List.all_append,qhh k (n / 10) (by rw [Nat.pow_succ] at h;omega)]
     simp only [List.all_cons,List.all_nil,Bool.and_true,qfP,Va h2]
     simp;omega
theorem Xs : ∀ n : Nat,n < 10 ^ n
 | 0=>by decide
 | n+1=>by have:=Xs n;rw [Nat.pow_succ];omega
theorem qlV (n:Nat):((XZ n).all qfP)=true:=qhh n n (Xs n)
theorem qhi : ∀ (k n : Nat),n < 10 ^ k → Vp (XZ n) = n
 | 0,n,h=>by
   have:n=0:=by simpa using h
   subst this
   rw [ZX (by decide)]
   decide
 | k+1, n, h=>by
   unfold Vp
   by_cases hn:n<10
   · rw [ZX hn]
     simp only [ZB,Xo,Va hn]
     omega
   · have h2 : n % 10 < 10 := Nat.mod_lt _ (by decide)
     rw [Jp hn,qcy]
     have:=qhi k (n / 10) (by rw [Nat.pow_succ] at h;omega)
     unfold Vp at this
     rw [this]
     simp only [ZB,Xo,Va h2]
     omega
theorem qeq (n:Nat):Vp (XZ n)=n:=qhi n n (Xs n)
theorem j7 : ∀ (k n : Nat),n < 10 ^ (k + 1) → (XZ n).length ≤ k + 1
 | 0,n,h=>by
   rw [ZX (by simpa using h)];simp
 | k+1, n, h=>by
   by_cases hn:n<10
   · rw [ZX hn];simp
   · rw [Jp hn,List.length_append,List.length_singleton]
     have:=j7 k (n / 10) (by rw [Nat.pow_succ] at h;omega)
     omega
theorem qjA (n:Nat):XZ n≠[]:=by
 by_cases hn:n<10
 · rw [ZX hn];simp
 · rw [Jp hn];simp
theorem qer : ∀ (k n : Nat),0 < n → n < 10 ^ k → ∀ c r,XZ n = c :: r → c.toNat ≠ 48
 | 0,n,h0,h,c,r,e=>by
   have:n=0:=by simpa using h
   omega
 | k+1, n, h0, h, c, r, e=>by
   by_cases hn:n<10
   · rw [ZX hn] at e
     cases e
     rw [Va hn];omega
   · rw [Jp hn] at e
     cases hd:XZ (n / 10) with
     | nil=>exact absurd hd (qjA _)
     | cons c' r' =>
       rw [hd] at e
       cases e
       exact qer k (n / 10) (by omega) (by rw [Nat.pow_succ] at h;omega) _ _ hd
theorem qjt {n:Nat} (h0:0<n) (h:n<10000000000000):qnw (XZ n)=true:=by
 have h1:=j7 12 n (by simpa using h)
 have h2:=qlV n
 have h3:=qer n n h0 (Xs n)
 cases hd:XZ n with
 | nil=>exact absurd hd (qjA n)
 | cons c r =>
   rw [hd] at h1 h2
   have h3:=h3 c r hd
   simp only [qnw,h2,Bool.and_true,Bool.and_eq_true,decide_eq_true_eq,Bool.not_eq_true',decide_eq_false_iff_not]
   exact ⟨by simpa using h1,h3⟩
theorem qe3 {n:Nat} {lo hi:Int} (h0:1≤lo) (h1:lo≤n) (h2:(n:Int)≤hi) (h3:hi≤9999999999999):qaA (XZ n) lo hi=true:=by
 unfold qaA
 rw [qeq,qjt (by omega) (by omega)]
 simp [h1,h2]
theorem qjB : ∀ (k : Nat) (s : List UInt8),s.length = k → (s.all qfP) = true → (∀ c r,s = c :: r → c.toNat ≠ 48) → s ≠ [] → XZ (Vp s) = s
 | 0,s,hl,_,_,hne=>absurd (List.eq_nil_of_length_eq_zero hl) hne
 | 1,s,hl,hd,hh,_=>by
   obtain ⟨c,rfl⟩:=List.length_eq_one_iff.1 hl
   simp only [List.all_cons,List.all_nil,Bool.and_true,qfP,Bool.and_eq_true,decide_eq_true_eq] at hd
   have e:Vp [c]=c.toNat - 48:=by unfold Vp;rw [ZB,Xo];omega
   rw [e,ZX (by omega)]
   congr 1
   apply UInt8.toNat_inj.1
   rw [Va (by omega)];omega
 | k+2,s,hl,hd,hh,hne=>by
   obtain ⟨t,b,rfl⟩:∃ t b,s=t++[b]:=⟨s.dropLast,s.getLast hne,(List.dropLast_concat_getLast hne).symm⟩
   rw [List.length_append,List.length_singleton] at hl
   rw [List.all_append,Bool.and_eq_true] at hd
   have hb:=hd.2
   simp only [List.all_cons,List.all_nil,Bool.and_true,qfP,Bool.and_eq_true,decide_eq_true_eq] at hb
   have ht:t≠[]:=by intro e;subst e;simp at hl
   have ih:=qjB (k+1) t (by omega) hd.1 (fun c r e=>hh c (r++[b]) (by rw [e];rfl)) ht
   have e:Vp (t++[b])=Vp t*10+(b.toNat - 48):=by unfold Vp;rw [qcy];rfl
   have h10:¬ Vp t=0:=by
    intro e0
    rw [e0] at ih
    have:XZ 0=[48]:=ZX (by decide)
    rw [this] at ih
    exact hh 48 [b] (by rw [←ih];rfl) rfl
   rw [e,Jp (by omega),show (Vp t*10+(b.toNat - 48)) / 10=Vp t by omega,show (Vp t*10+(b.toNat - 48)) % 10=b.toNat - 48 by omega,ih]
   congr 2
   apply UInt8.toNat_inj.1
   rw [Va (by omega)];omega
theorem qfH {s:List UInt8} (h:qnw s=true):s≠[]∧(s.all qfP)=true∧s.length≤13∧∀ c r,s=c::r→c.toNat≠48:=by
 cases s with
 | nil=>cases h
 | cons c r =>
   simp only [qnw,Bool.and_eq_true,decide_eq_true_eq,Bool.not_eq_true',decide_eq_false_iff_not] at h
   exact ⟨by simp,h.2,by simp;omega,fun c' r' e=>by cases e;exact h.1.2⟩
theorem qep {s:List UInt8} (h:qnw s=true):XZ (Vp s)=s:=by
 obtain ⟨h1,h2,_,h4⟩:=qfH h
 exact qjB _ s rfl h2 h4 h1
theorem qoi {s:List UInt8} (h:qnw s=true):Vp s<10000000000000:=by
 obtain ⟨h1,h2,h3,_⟩:=qfH h
 have:=qjy (acc:=0) h2
 have h4:(10:Nat) ^ s.length≤10 ^ 13:=Nat.pow_le_pow_right (by decide) h3
 have e:(10:Nat) ^ 13=10000000000000:=by decide
 unfold Vp
 omega
end Go.AM

namespace Go.AM
open Go.RowKit
def qM (c : UInt8) : List UInt8 → List (List UInt8)
 | []=>[[]]
 | b::r=>if b=c then []::qM c r else match qM c r with
   | x::xs=>(b::x)::xs
   | []=>[[b]]
theorem Jy (c : UInt8) : ∀ s,qM c s ≠ []
 | []=>by simp [qM]
 | b::r=>by
   unfold qM
   split
   · simp
   · split <;> simp
theorem YC {c : UInt8} : ∀ {a : List UInt8},(∀ b ∈ a,b ≠ c) → qM c a = [a]
 | [],_=>rfl
 | b::a,h=>by
   have hb:=h b (by simp)
   unfold qM
   rw [if_neg hb,YC fun x hx=>h x (by simp [hx])]
theorem qfr {c : UInt8} : ∀ {a r : List UInt8},(∀ b ∈ a,b ≠ c) → qM c (a ++ c :: r) = a :: qM c r
 | [],r,_=>by
   show qM c (c::r)=_
   conv=>lhs;unfold qM
   rw [if_pos rfl]
 | b::a,r,h=>by
   have hb:=h b (by simp)
   show qM c (b::(a++c::r))=_
   conv=>lhs;unfold qM
   rw [if_neg hb,qfr fun x hx=>h x (by simp [hx])]
def JW (c : UInt8) : List UInt8 → List UInt8 × Option (List UInt8)
 | []=>([],none)
 | b::r=>if b=c then ([],some r) else (b::(JW c r).1,(JW c r).2)
theorem qcx {c : UInt8} : ∀ {a : List UInt8},(∀ b ∈ a,b ≠ c) → JW c a = (a,none)
 | [],_=>rfl
 | b::a,h=>by
   have hb:=h b (by simp)
   unfold JW
   rw [if_neg hb,qcx fun x hx=>h x (by simp [hx])]
theorem qcw {c : UInt8} : ∀ {a r : List UInt8},(∀ b ∈ a,b ≠ c) → JW c (a ++ c :: r) = (a,some r)
 | [],r,_=>by
   show JW c (c::r)=_
   conv=>lhs;unfold JW
   rw [if_pos rfl]
 | b::a,r,h=>by
   have hb:=h b (by simp)
   show JW c (b::(a++c::r))=_
   conv=>lhs;unfold JW
   rw [if_neg hb,qcw fun x hx=>h x (by simp [hx])]
theorem qbL (c : UInt8) : ∀ s : List UInt8, (∃ a, (∀ b ∈ a, b ≠ c) ∧ s = a ∧ JW c s = (a, none)) ∨ ∃ a r, (∀ b ∈ a, b ≠ c) ∧ s = a ++ c :: r ∧ JW c s = (a, some r)
 | [] => .inl ⟨[],by simp,rfl,rfl⟩
 | b::s=>by
   by_cases hb:b=c
   · subst hb
     exact .inr ⟨[],s,by simp,rfl,qcw (a:=[]) (by simp)⟩
   · rcases qbL c s with ⟨a,h1,rfl,h3⟩ | ⟨a,r,h1,rfl,h3⟩
     · have : ∀ x ∈ b :: s,x ≠ c := fun x hx => by
        rcases List.mem_cons.1 hx with rfl | hx
        · exact hb
        · exact h1 x hx
       exact .inl ⟨_,this,rfl,qcx this⟩
     · have : ∀ x ∈ b :: a,x ≠ c := fun x hx => by
        rcases List.mem_cons.1 hx with rfl | hx
        · exact hb
        · exact h1 x hx
       exact .inr ⟨b::a,r,this,rfl,qcw this⟩
theorem qof (c:UInt8) (s:List UInt8):s=(JW c s).1++(match (JW c s).2 with | none=>[] | some r=>c::r):=by
 rcases qbL c s with ⟨a,h1,rfl,h3⟩ | ⟨a,r,h1,rfl,h3⟩ <;> rw [h3]
 simp
def qbH : List UInt8 → Option Int
 | [c]=>if YM c then some (c.toNat:Int) else none
 | _=>none
def Jz : Option (List UInt8) → Option Int
 | none=>some 1
 | some t=>if qaA t 2 1000 then some (Vp t:Int) else none
def jW (s:List UInt8):Wd × Bool:=match Jz (JW 42 s).2 with
 | none=>((0,[],0),false)
 | some k=>match qbH (JW 42 s).1 with
   | some c=>((c,[],k),true)
   | none=>((0,(JW 42 s).1,k),QV (JW 42 s).1)
def zg : List (List UInt8) → Option (List Wd)
 | []=>some []
 | s::l=>match jW s,zg l with
   | (w,true),some ws=>some (w::ws)
   | _,_=>none
theorem WM : ∀ {a b : List (List UInt8)},zg (a ++ b) = (match zg a,zg b with
 | some x,some y=>some (x++y)
 | _,_=>none)
 | [],b=>by
   show zg b=_
   simp only [zg]
   cases zg b <;> rfl
 | s::a,b=>by
   simp only [List.cons_append,zg,WM (a:=a) (b:=b)]
   rcases jW s with ⟨w,ok⟩
   cases ok
   · cases zg a <;> cases zg b <;> rfl
   · cases zg a <;> cases zg b <;> rfl
theorem YI : ∀ {l : List (List UInt8)} {ws : List Wd},zg l = some ws → ws.length = l.length
 | [],ws,h=>by simp [zg] at h;subst h;rfl
 | s::l, ws, h=>by
   simp only [zg] at h
   split at h
   · rename_i w ws' _ h2
     cases h
     simp [YI h2]
   · cases h
abbrev QL:Int:=1099511627776
abbrev qdE:List UInt8:=[98,97,116,104]
abbrev qdD:List UInt8:=[98,97,99,107]
abbrev VW:List UInt8:=[97,103,97,105,110]
abbrev qjd:List UInt8:=[108,97,121]
abbrev tDo:List UInt8:=[100,111]
abbrev Zc:List UInt8:=[114,101,99,105,112,101]
def qhE (l:List (List UInt8)):Option Ln:=match l with
 | []=>none
 | a::l=>if a=Zc then match l with
     | []=>none
     | n::ws=>if 1≤ws.length∧ws.length≤8∧QV n=true then (zg ws).map fun w=>⟨1,n,w,0⟩ else none
   else if a=tDo then match l with
    | [w]=>(zg [w]).map fun w=>⟨3,[],w,0⟩
    | _=>none
   else if a=qjd then match l with
    | [n]=>if qaA n 1 QL then some ⟨4,[],[],Vp n⟩ else none
    | _=>none
   else if l=[] then (if a=qdE then some ⟨2,[],[],0⟩ else if a=qdD then some ⟨5,[],[],0⟩ else if a=VW then some ⟨6,[],[],0⟩ else none)
   else none
def WX (s:List UInt8):Option Ln:=qhE (qM 32 s)
def zd (s:List UInt8):Ln:=if s.length≤200 then (WX s).getD ln0 else ln0
def ja (s:List UInt8):Int:=if s.length≤200 then (if (WX s).isSome then 0 else 8) else 7
theorem qcg (c : UInt8) : ∀ s : List UInt8,∀ x xs,qM c s = x :: xs → xs = [] → s = x
 | [],x,xs,h,h0=>by cases h;rfl
 | b::r, x, xs, h, h0=>by
   unfold qM at h
   split at h
   · cases h;exact absurd h0 (Jy c r)
   · split at h
     · rename_i y ys hy
       cases h
       rw [qcg c r y _ hy h0]
     · cases h;rename_i hy;exact absurd hy (Jy c r)
def WI (s:List UInt8):List AV:=[S s]
theorem qhT (s:List UInt8):(WI s).length=1:=rfl
theorem qp2 (s:List UInt8):((WI s).all AV.isPC)=true:=rfl
abbrev qjk (f:Bool) (l:List (List UInt8)):AV := .sl f l.length (fl WI l)
abbrev qqJ (l:List (List UInt8)):AV:=qjk false l
end Go.AM

namespace Go.AM
open Go.RowKit
section
variable {α:Type} {f:α→List AV} {sz:Nat} {P:Program} {hp:List HObj} {K:AV→List (Nat × HObj)→Prop}
theorem qkK (hf:∀ a,(f a).length=sz) {g:Bool} {l:List α} {j:Int} (h0:0≤j) (h1:j≤l.length):qnq sz (.sl g l.length (fl f l)) none (some (I j)) none K=K (.sl (g&&decide (j.toNat=l.length)) (l.take j.toNat).length (fl f (l.take j.toNat))) []:=by
 rw [qhR]
 have e:zS (fl f l) 0 (j.toNat*sz)=fl f (l.take j.toNat):=by
  rw [zS,List.drop_zero,qjI hf]
 have e2:(l.take j.toNat).length=j.toNat:=by rw [List.length_take];omega
 rw [e,e2]
 simp [h0,h1,J8 hf]
theorem VC (hf:∀ a,(f a).length=sz) {l:List α} {i:Nat} (h:i<l.length):Ql (fl f l) (i*sz) sz true K=K (.agg (f l[i])) []:=by
 rw [jI]
 have h2:i*sz+sz≤(fl f l).length:=by
  rw [J8 hf]
  have:(i+1)*sz≤l.length*sz:=Nat.mul_le_mul_right _ h
  rw [Nat.add_mul] at this;omega
 rw [zS,qfU hf h]
 simp [h2]
end
section
variable {K:AV→List (Nat × HObj)→Prop}
theorem qlL {l:List Pt} {i:Nat} (h:i<l.length):Ql (fl ptC l) (i*3) 3 true K=K (.agg (ptC l[i])) []:=VC qaI h
theorem qlP {l:List Wd} {i:Nat} (h:i<l.length):Ql (fl wdC l) (i*3) 3 true K=K (.agg (wdC l[i])) []:=VC qa0 h
theorem qlK {l:List Bk} {i:Nat} (h:i<l.length):Ql (fl bkC l) (i*2) 2 true K=K (.agg (bkC l[i])) []:=VC qcm h
theorem qlM {l:List Sht} {i:Nat} (h:i<l.length):Ql (fl shC l) (i*4) 4 true K=K (.agg (shC l[i])) []:=VC WH h
theorem qpa {l:List (List UInt8)} {i:Nat} (h:i<l.length):YN (fl WI l) i=some (S l[i]):=by
 have:=j9 qhT h (j:=0) (by decide)
 simp only [Nat.mul_one,Nat.add_zero] at this
 rw [this];rfl
theorem qo3 {l:List Pt} {i:Nat} (h:i<l.length):YN (fl ptC l) (i*3)=some (U l[i].1):=by rw [←Nat.add_zero (i*3),j9 qaI h (by decide)];rfl
theorem qo4 {l:List Pt} {i:Nat} (h:i<l.length):YN (fl ptC l) (i*3+1)=some (I l[i].2.1):=by rw [j9 qaI h (by decide)];rfl
theorem qo5 {l:List Pt} {i:Nat} (h:i<l.length):YN (fl ptC l) (i*3+2)=some (I l[i].2.2):=by rw [j9 qaI h (by decide)];rfl
theorem qpb {l:List Wd} {i:Nat} (h:i<l.length):YN (fl wdC l) (i*3)=some (U l[i].1):=by rw [←Nat.add_zero (i*3),j9 qa0 h (by decide)];rfl
theorem qpc {l:List Wd} {i:Nat} (h:i<l.length):YN (fl wdC l) (i*3+1)=some (S l[i].2.1):=by rw [j9 qa0 h (by decide)];rfl
theorem qpd {l:List Wd} {i:Nat} (h:i<l.length):YN (fl wdC l) (i*3+2)=some (I l[i].2.2):=by rw [j9 qa0 h (by decide)];rfl
theorem qo0 {l:List Bk} {i:Nat} (h:i<l.length):YN (fl bkC l) (i*2)=some (S l[i].1):=by rw [←Nat.add_zero (i*2),j9 qcm h (by decide)];rfl
theorem qo1 {l:List Bk} {i:Nat} (h:i<l.length):YN (fl bkC l) (i*2+1)=some (Pts l[i].2):=by rw [j9 qcm h (by decide)];rfl
theorem qo6 {l:List Sht} {i:Nat} (h:i<l.length):YN (fl shC l) (i*4)=some (I l[i].num):=by rw [←Nat.add_zero (i*4),j9 WH h (by decide)];rfl
theorem qo7 {l:List Sht} {i:Nat} (h:i<l.length):YN (fl shC l) (i*4+1)=some (I l[i].bath):=by rw [j9 WH h (by decide)];rfl
theorem qo8 {l:List Sht} {i:Nat} (h:i<l.length):YN (fl shC l) (i*4+2)=some (I l[i].age):=by rw [j9 WH h (by decide)];rfl
theorem qo9 {l:List Sht} {i:Nat} (h:i<l.length):YN (fl shC l) (i*4+3)=some (Pts l[i].pat):=by rw [j9 WH h (by decide)];rfl
theorem qaJ {l:List Pt}:(fl ptC l).length=l.length*3:=J8 qaI l
theorem qqg {l:List Wd}:(fl wdC l).length=l.length*3:=J8 qa0 l
theorem qcn {l:List Bk}:(fl bkC l).length=l.length*2:=J8 qcm l
theorem qdy {l:List Sht}:(fl shC l).length=l.length*4:=J8 WH l
theorem qdC {l:List (List UInt8)}:(fl WI l).length=l.length:=by rw [J8 qhT,Nat.mul_one]
end
attribute [simp] qlL qlP qlK qlM qpa qo3 qo4 qo5 qpb qpc qpd qo0 qo1 qo6 qo7 qo8 qo9 qaJ qqg qcn qdy qdC
theorem Qm {H:List HObj} {o:HObj}:qr (H++[o]) H.length=some o:=qda
end Go.AM

namespace Go.AM
open Go.RowKit
def qje (w:Wd):List UInt8:=(if w.2.1=[] then [UInt8.ofNat w.1.toNat] else w.2.1)++(if w.2.2=1 then [] else 42::XZ (max 0 w.2.2).toNat)
def qp1 (l:Ln):List UInt8 :=
 if l.kind=2 then qdE else if l.kind=5 then qdD else if l.kind=6 then VW else if l.kind=4 then qjd++32::XZ (max 0 l.num).toNat
 else (if l.kind=1 then Zc++32::l.name else tDo)++l.words.flatMap fun w=>32::qje w
def Xh (l:Ln):Bool:=decide (l.words.length≤8)&&decide (ja (qp1 l)=0)&&decide (zd (qp1 l)=l)
def qnh (l:Ln):List UInt8:=if Xh l then qp1 l else []
def qng (l:Ln):Int:=if Xh l then 0 else 8
theorem qk0 (x y:List UInt8):((⟨x.toArray⟩:ByteArray)==⟨y.toArray⟩)=decide (x=y):=by
 have e:((⟨x.toArray⟩:ByteArray)==⟨y.toArray⟩)=(x.toArray==y.toArray):=rfl
 rw [e]
 by_cases h:x=y
 · subst h;simp
 · rw [decide_eq_false h,beq_eq_false_iff_ne]
   intro e;exact h (by simpa using congrArg Array.toList e)
theorem qny {neg:Bool} {a b:Wd} {K:AV→List (Nat × HObj)→Prop}:qnV neg (true,[.int,.str,.int]) (.agg (wdC a)) (.agg (wdC b)) K=K (B (neg != decide (a=b))) []:=by
 refine qjF (a := .agg #[.int .u8 a.1,.string ⟨a.2.1.toArray⟩,.int .i64 a.2.2]) (b := .agg #[.int .u8 b.1,.string ⟨b.2.1.toArray⟩,.int .i64 b.2.2]) rfl rfl ?_
 obtain ⟨a1,a2,a3⟩:=a
 obtain ⟨b1,b2,b3⟩:=b
 have e1:∀ x y:Int,(x==y)=decide (x=y):=fun x y=>rfl
 simp only [eqK,qJ,Zr,if_true,e1,qk0]
 by_cases h1:a1=b1 <;> by_cases h2:a2=b2 <;> by_cases h3:a3=b3 <;> simp [h1,h2,h3]
theorem qrz {neg:Bool} {a b:Pt} {K:AV→List (Nat × HObj)→Prop}:qnV neg (true,[.int,.int,.int]) (.agg (ptC a)) (.agg (ptC b)) K=K (B (neg != decide (a=b))) []:=by
 refine qjF (a := .agg #[.int .u8 a.1,.int .i64 a.2.1,.int .i64 a.2.2]) (b := .agg #[.int .u8 b.1,.int .i64 b.2.1,.int .i64 b.2.2]) rfl rfl ?_
 obtain ⟨a1,a2,a3⟩:=a
 obtain ⟨b1,b2,b3⟩:=b
 have e1:∀ x y:Int,(x==y)=decide (x=y):=fun x y=>rfl
 simp only [eqK,qJ,Zr,if_true,e1]
 by_cases h1:a1=b1 <;> by_cases h2:a2=b2 <;> by_cases h3:a3=b3 <;> simp [h1,h2,h3]
end Go.AM

namespace Go.AM
open Go.RowKit
def qI (n:Nat) (p:Pt):Bool:=(decide (1≤p.2.2)&&decide (p.2.2≤1000))&&(if p.2.1 = -1 then VY p.1 else (decide (p.1=0)&&decide (0≤p.2.1))&&decide (p.2.1<n))
theorem Qc {n:Nat} {p:Pt} (h:qI n p=true):1≤p.2.2∧p.2.2≤1000:=by
 unfold qI at h;simp only [Bool.and_eq_true,decide_eq_true_eq] at h;exact h.1
theorem zk {n:Nat} {p:Pt} (h:qI n p=true):p.2.1 = -1∧VY p.1=true∨p.1=0∧0≤p.2.1∧p.2.1<n:=by
 unfold qI at h;simp only [Bool.and_eq_true,decide_eq_true_eq] at h
 by_cases e:p.2.1 = -1
 · rw [if_pos e] at h;exact .inl ⟨e,h.2⟩
 · rw [if_neg e] at h;simp only [Bool.and_eq_true,decide_eq_true_eq] at h;exact .inr ⟨h.2.1.1,h.2.1.2,h.2.2⟩
theorem WB {n m:Nat} {p:Pt} (h:qI n p=true) (hm:n≤m):qI m p=true:=by
 unfold qI at h ⊢
 simp only [Bool.and_eq_true,decide_eq_true_eq] at h ⊢
 refine ⟨h.1,?_⟩
 have h2:=h.2
 split at h2
 · rename_i e;rw [if_pos e];exact h2
 · rename_i e
   rw [if_neg e]
   simp only [Bool.and_eq_true,decide_eq_true_eq] at h2 ⊢
   exact ⟨h2.1,by omega⟩
abbrev JR:Int:=1125899906842624
def Z9 (long:List Int) (p:Pt):Int:=if 0≤p.2.1 then long.getD p.2.1.toNat 0 else 1
def jT (long:List Int) (n:Int) (p:Pt):Int:=min JR (n+Z9 long p*p.2.2)
def QY (long:List Int) (l:List Pt):Int:=l.foldl (jT long) 0
def JZ (long:List Int):Prop:=(∀ x∈long,0≤x∧x≤JR)∧long.length≤1000000
theorem qkq {long:List Int} (hL:JZ long) {p:Pt} (hp:qI long.length p=true):0≤Z9 long p∧Z9 long p≤JR:=by
 unfold Z9
 split
 · rename_i h0
   rcases zk hp with ⟨h,_⟩ | ⟨_,_,h⟩
   · omega
   · have hi : p.2.1.toNat < long.length := by omega
     rw [List.getD_eq_getElem?_getD,List.getElem?_eq_getElem hi]
     exact hL.1 _ (List.getElem_mem hi)
 · exact ⟨by decide,by decide⟩
theorem qk2 {long:List Int} (hL:JZ long) {p:Pt} (hp:qI long.length p=true) {n:Int} (hn:0≤n∧n≤JR):0≤jT long n p∧jT long n p≤JR:=by
 have h1:=qkq hL hp
 have h2:=Qc hp
 have h3:0≤Z9 long p*p.2.2:=Int.mul_nonneg h1.1 (by omega)
 unfold jT
 omega
theorem qkp {long:List Int} (hL:JZ long) {p:Pt} (hp:qI long.length p=true):0≤Z9 long p*p.2.2∧Z9 long p*p.2.2≤1125899906842624000:=by
 have h1:=qkq hL hp
 have h2:=Qc hp
 refine ⟨Int.mul_nonneg h1.1 (by omega),?_⟩
 have:=Int.mul_le_mul h1.2 h2.2 (by omega) (by decide)
 exact Int.le_trans this (by decide)
theorem zI {α β:Type} {f:β→α→β} {b:β} {l:List α} {i:Nat} (h:i<l.length):(l.take (i+1)).foldl f b=f ((l.take i).foldl f b) l[i]:=by
 rw [List.take_succ_eq_append_getElem h,List.foldl_append];rfl
theorem Vn {long:List Int} (hL:JZ long) {l:List Pt} (hp:∀ p∈l,qI long.length p=true):0≤QY long l∧QY long l≤JR:=by
 have key:∀ (l:List Pt) (n:Int),(∀ p∈l,qI long.length p=true)→0≤n∧n≤JR→0≤l.foldl (jT long) n∧l.foldl (jT long) n≤JR:=by
  intro l
  induction l with
  | nil=>intro n _ hn;exact hn
  | cons p l ih=>intro n h hn;exact ih _ (fun q hq=>h q (by simp [hq])) (qk2 hL (h p (by simp)) hn)
 exact key l 0 hp ⟨by decide,by decide⟩
def qu (l:List Bk):List Int:=l.foldl (fun out b=>out++[QY out b.2]) []
theorem QK {l:List Bk} {i:Nat} (h:i<l.length):qu (l.take (i+1))=qu (l.take i)++[QY (qu (l.take i)) l[i].2]:=zI h
theorem zy:∀ (l:List Bk),(qu l).length=l.length:=by
 intro l
 have key : ∀ (l : List Bk) (out : List Int),(l.foldl (fun out b => out ++ [QY out b.2]) out).length = out.length + l.length := by
  intro l
  induction l with
  | nil=>intro out;rfl
  | cons b l ih=>intro out;rw [List.foldl_cons,ih];simp;omega
 unfold qu;rw [key];simp
def RecV (l:List Bk):Prop:=(∀ i (h:i<l.length),∀ p∈l[i].2,qI i p=true)∧l.length≤1000000
theorem RecV.take {l:List Bk} (h:RecV l) (i:Nat):RecV (l.take i):=by
 refine ⟨fun j hj p hp=>?_,by have:=h.2;rw [List.length_take];omega⟩
 have hj':j<l.length:=by rw [List.length_take] at hj;omega
 rw [List.getElem_take] at hp
 exact h.1 j hj' p hp
theorem jN {l:List Bk} (h:RecV l):JZ (qu l):=by
 have key:∀ i,i≤l.length→JZ (qu (l.take i)):=by
  intro i
  induction i with
  | zero=>intro _;exact ⟨by simp [qu],by simp [qu]⟩
  | succ i ih =>
    intro hi
    have hi':i<l.length:=hi
    have h1:=ih (by omega)
    rw [QK hi']
    have hl:(qu (l.take i)).length=i:=by rw [zy,List.length_take];omega
    have h2:=Vn h1 (l:=l[i].2) (by rw [hl];exact h.1 i hi')
    refine ⟨fun x hx=>?_,by have:=h.2;rw [List.length_append,hl];simp;omega⟩
    rw [List.mem_append] at hx
    rcases hx with hx | hx
    · exact h1.1 x hx
    · simp at hx;subst hx;exact h2
 have:=key l.length (Nat.le_refl _)
 rwa [List.take_length] at this
def Yw (long:List Int) (l:List Pt):Bool:=decide (l.length≤64)&&l.all (qI long.length)&&decide (QY long l≤QL)
def ju (pre:List Bk) (b:Bk):Bool:=QV b.1&&(decide (1≤b.2.length)&&decide (b.2.length≤8)) && !(pre.any fun x=>decide (x.1=b.1))&&b.2.all (qI pre.length)
def VB (l:List Bk):Bool:=(List.range l.length).all fun i=>ju (l.take i) (l.getD i ([],[]))
def jz (l:List Bk):Bool:=decide (l.length≤32)&&VB l&&(qu l).all fun x=>decide (x≤QL)
def jZ (l:List Sht) (b:Int):Int:=((l.filter fun s=>decide (s.bath=b)).length:Int)
def QG (l:List Sht):Int:=match l.getLast? with
 | some s=>s.bath
 | none=>1
def zf (long:List Int) (bath:Int) (pre:List Sht) (s:Sht):Bool :=
 (decide (1≤s.num)&&decide (s.num≤QL))&&(decide (QG pre≤s.bath)&&decide (s.bath≤bath))&&Yw long s.pat&&(decide (s.age=jZ pre s.bath)&&decide (s.age<8)) && !(pre.any fun x=>decide (x.num=s.num))
def jk (long:List Int) (bath:Int) (l:List Sht):Bool:=(List.range l.length).all fun i=>zf long bath (l.take i) (l.getD i ⟨0,0,0,[]⟩)
def Wf (d:Dy):Bool :=
 ((decide (0 ≤ d.bath) && decide (d.bath ≤ 1000)) && (decide (0 ≤ d.laid) && decide (d.laid ≤ 8)) && (!decide (d.bath = 0) || decide (d.pat.length = 0)) && decide (d.sh.length ≤ 400)) &&
   jz d.rc&&Yw (qu d.rc) d.pat&&jk (qu d.rc) d.bath d.sh&&decide (d.laid=jZ d.sh d.bath)
def Wg (d:Dy):Int:=if Wf d then 0 else 2
theorem qhM {n:Nat} {p:Nat→Bool}:(List.range n).all p=true↔∀ i,i<n→p i=true:=by
 rw [List.all_eq_true];exact ⟨fun h i hi=>h i (List.mem_range.2 hi),fun h i hi=>h i (List.mem_range.1 hi)⟩
theorem Zo {l:List Bk}:VB l=true↔∀ i (h:i<l.length),ju (l.take i) l[i]=true:=by
 unfold VB
 rw [qhM]
 constructor
 · intro h i hi
   have:=h i hi
   rwa [List.getD_eq_getElem?_getD,List.getElem?_eq_getElem hi] at this
 · intro h i hi
   rw [List.getD_eq_getElem?_getD,List.getElem?_eq_getElem hi]
   exact h i hi
theorem ZU {long:List Int} {b:Int} {l:List Sht}:jk long b l=true↔∀ i (h:i<l.length),zf long b (l.take i) l[i]=true:=by
 unfold jk
 rw [qhM]
 constructor
 · intro h i hi
   have:=h i hi
   rwa [List.getD_eq_getElem?_getD,List.getElem?_eq_getElem hi] at this
 · intro h i hi
   rw [List.getD_eq_getElem?_getD,List.getElem?_eq_getElem hi]
   exact h i hi
theorem Q5 {pre:List Bk} {b:Bk} (h:ju pre b=true):QV b.1=true∧1≤b.2.length∧b.2.length≤8∧(∀ x∈pre,x.1≠b.1)∧∀ p∈b.2,qI pre.length p=true:=by
 unfold ju at h
 simp only [Bool.and_eq_true,decide_eq_true_eq,Bool.not_eq_true',List.any_eq_false,List.all_eq_true] at h
 exact ⟨h.1.1.1,h.1.1.2.1,h.1.1.2.2,fun x hx=>h.1.2 x hx,h.2⟩
theorem XL {l:List Bk} (h:VB l=true) (hl:l.length≤1000000):RecV l:=by
 refine ⟨fun i hi p hp=>?_,hl⟩
 have:=(Q5 (Zo.1 h i hi)).2.2.2.2 p hp
 rwa [List.length_take,Nat.min_eq_left (by omega)] at this
def qja (n:Int):List AV:=[I n]
theorem qmr (n:Int):(qja n).length=1:=rfl
end Go.AM

namespace Go.AM
open Go.RowKit
def zL (rc:List Bk) (nm:List UInt8):Int:=qix (fun b:Bk=>decide (b.1=nm)) rc
theorem VJ (rc:List Bk) (nm:List UInt8):zL rc nm = -1∧(∀ b∈rc,b.1≠nm)∨∃ (i:Nat) (h:i<rc.length),zL rc nm=(i:Int)∧rc[i].1=nm∧∀ j (hj:j<rc.length),j<i→rc[j].1≠nm:=by
 unfold zL qix
 cases h:rc.findIdx? (fun b:Bk=>decide (b.1=nm)) with
 | none =>
   left
   refine ⟨rfl,fun b hb e=>?_⟩
   have:=List.findIdx?_eq_none_iff.1 h b hb
   simp [e] at this
 | some i =>
   right
   obtain ⟨h1,h2,h3⟩:=List.findIdx?_eq_some_iff_getElem.1 h
   exact ⟨i,h1,rfl,by simpa using h2,fun j hj hlt e=>by have:=h3 j hlt;simp [e] at this⟩
def Xf (rc:List Bk) (w:Wd):Option Pt:=if w.2.1=[] then some (w.1,-1,w.2.2) else if 0≤zL rc w.2.1 then some (w.1,zL rc w.2.1,w.2.2) else none
def Qd (rc : List Bk) : List Wd → Option (List Pt)
 | []=>some []
 | w::ws=>match Xf rc w,Qd rc ws with
   | some p,some ps=>some (p::ps)
   | _,_=>none
theorem WC {rc : List Bk} : ∀ {a b : List Wd},Qd rc (a ++ b) = (match Qd rc a,Qd rc b with
 | some x,some y=>some (x++y)
 | _,_=>none)
 | [],b=>by
   show Qd rc b=_
   simp only [Qd]
   cases Qd rc b <;> rfl
 | w::a,b=>by
   simp only [List.cons_append,Qd,WC (a:=a) (b:=b)]
   cases Xf rc w <;> cases Qd rc a <;> cases Qd rc b <;> rfl
theorem qgp {rc:List Bk} {l:List Wd} {i:Nat} (h:i<l.length) {ps:List Pt} (hp:Qd rc (l.take i)=some ps):Qd rc (l.take (i+1))=match Xf rc l[i] with
 | some p=>some (ps++[p])
 | none=>none:=by
 rw [List.take_succ_eq_append_getElem h,WC,hp]
 simp only [Qd]
 cases Xf rc l[i] <;> rfl
theorem qgo {rc:List Bk} {l:List Wd} {i:Nat} (h:Qd rc (l.take i)=none):Qd rc l=none:=by
 rw [←List.take_append_drop i l,WC,h]
theorem Yv {rc : List Bk} : ∀ {l : List Wd} {ps : List Pt},Qd rc l = some ps → ps.length = l.length
 | [],ps,h=>by simp [Qd] at h;subst h;rfl
 | w::l, ps, h=>by
   simp only [Qd] at h
   split at h
   · rename_i p ps' _ h2
     cases h
     simp [Yv h2]
   · cases h
def WdV (w:Wd):Prop:=(w.2.1=[]∧VY w.1=true∨w.1=0∧QV w.2.1=true)∧1≤w.2.2∧w.2.2≤1000
theorem qmS {rc:List Bk} {w:Wd} (hw:WdV w) {p:Pt} (h:Xf rc w=some p):qI rc.length p=true:=by
 obtain ⟨h1,h2,h3⟩:=hw
 unfold Xf at h
 split at h
 · rename_i e
   cases h
   have ha:VY w.1=true:=by
    rcases h1 with ⟨_,h⟩ | ⟨_,h⟩
    · exact h
    · rw [e] at h;cases h
   simp [qI,h2,h3,ha]
 · rename_i e
   split at h
   · rename_i h0
     cases h
     have ha:w.1=0:=by
      rcases h1 with ⟨h,_⟩ | ⟨h,_⟩
      · exact absurd h e
      · exact h
     have hn:zL rc w.2.1<(rc.length:Int):=by
      rcases VJ rc w.2.1 with ⟨h,_⟩ | ⟨i,hi,h,_⟩ <;> rw [h] <;> omega
     have hne:zL rc w.2.1≠-1:=by omega
     simp [qI,h2,h3,ha,hne,h0,hn]
   · cases h
theorem VM {rc : List Bk} : ∀ {l : List Wd} {ps : List Pt},(∀ w ∈ l,WdV w) → Qd rc l = some ps → ∀ p ∈ ps,qI rc.length p = true
 | [],ps,_,h=>by simp [Qd] at h;subst h;simp
 | w::l, ps, hw, h=>by
   simp only [Qd] at h
   split at h
   · rename_i p ps' h1 h2
     cases h
     intro q hq
     rcases List.mem_cons.1 hq with rfl | hq
     · exact qmS (hw w (by simp)) h1
     · exact VM (fun x hx=>hw x (by simp [hx])) h2 q hq
   · cases h
def zi (d:Dy) (l:Ln):Dy × Int :=
 if l.kind = 1 then
  if 0≤zL d.rc l.name then (d,11) else if 32≤d.rc.length then (d,10) else match Qd d.rc l.words with
   | none=>(d,5)
   | some p=>if QL<QY (qu d.rc) p then (d,4) else ({ d with rc:=d.rc++[(l.name,p)] },0)
 else if l.kind=2 then ({ d with bath:=d.bath+1,laid:=0,pat:=[] },0)
 else if d.bath=0 then (d,9)
 else if l.kind=3 then match Qd d.rc l.words with
  | none=>(d,5)
  | some p=>if 64<(d.pat++p).length then (d,10) else if QL<QY (qu d.rc) (d.pat++p) then (d,4) else ({ d with pat:=d.pat++p },0)
 else if d.sh.any (fun s => decide (s.num = l.num)) then (d,11) else if 8 ≤ d.laid then (d,10)
  else ({ d with sh:=d.sh++[⟨l.num,d.bath,d.laid,d.pat⟩],laid:=d.laid+1,pat:=[] },0)
structure LnV' (l:Ln):Prop where
 words:∀ w∈l.words,WdV w
 len:l.words.length≤8
 name:l.name.length≤8
 nm:l.kind=1→QV l.name=true∧1≤l.words.length
 num:0≤l.num∧l.num≤1099511627776
 kind:1≤l.kind∧l.kind≤6
 lay:l.kind=4→1≤l.num
structure DyW (d:Dy):Prop where
 i:DyI d
 rc:RecV d.rc
 pat:∀ p∈d.pat,qI d.rc.length p=true
 bath:0≤d.bath∧d.bath≤1000
 laid:0≤d.laid∧d.laid≤8
end Go.AM

namespace Go.AM
open Go.RowKit
theorem qk8 {t:Option (List UInt8)} {k:Int} (h:Jz t=some k):1≤k∧k≤1000:=by
 unfold Jz at h
 split at h
 · cases h;decide
 · split at h
   · rename_i hn
     cases h
     unfold qaA at hn
     simp only [Bool.and_eq_true,decide_eq_true_eq] at hn
     omega
   · cases h
theorem qa1 {s:List UInt8} (h:(jW s).2=true):WdV (jW s).1:=by
 unfold jW at h ⊢
 split at h
 · cases h
 · rename_i k hk
   have hr:=qk8 hk
   split at h
   · rename_i c hc
     refine ⟨.inl ⟨rfl,?_⟩,hr⟩
     unfold qbH at hc
     split at hc
     · split at hc
       · rename_i hl
         cases hc
         rw [qck];exact hl
       · cases hc
     · cases hc
   · rename_i hc
     exact ⟨.inr ⟨rfl,h⟩,hr⟩
theorem qdJ : ∀ {l : List (List UInt8)} {ws : List Wd},zg l = some ws → ∀ w ∈ ws,WdV w
 | [],ws,h=>by simp [zg] at h;subst h;simp
 | s::l, ws, h=>by
   simp only [zg] at h
   split at h
   · rename_i w ws' h1 h2
     cases h
     intro x hx
     rcases List.mem_cons.1 hx with rfl | hx
     · have := qa1 (s := s) (by rw [h1])
       rwa [h1] at this
     · exact qdJ h2 x hx
   · cases h
theorem qc8 {s:List UInt8} (h:QV s=true):s.length≤8:=by
 cases s with
 | nil=>simp
 | cons c r =>
   unfold QV at h
   simp only [Bool.and_eq_true,decide_eq_true_eq] at h
   simp only [List.length_cons];omega
theorem qhy {k z:Int} {nm:List UInt8} {ws:List Wd} (h1:∀ w∈ws,WdV w) (h2:ws.length≤8) (h3:nm.length≤8) (h4:k=1→QV nm=true∧1≤ws.length) (h5:0≤z∧z≤1099511627776) (h6:1≤k∧k≤6) (h7:k=4→1≤z):LnV' ⟨k,nm,ws,z⟩:=⟨h1,h2,h3,h4,h5,h6,h7⟩
theorem qmR {l:List (List UInt8)} {x:Ln} (h:qhE l=some x):LnV' x:=by
 unfold qhE at h
 split at h
 · cases h
 · rename_i a l
   split at h
   · split at h
     · cases h
     · rename_i n ws
       split at h
       · rename_i hc
         obtain ⟨c1,c2,c3⟩:=hc
         cases hw:zg ws with
         | none=>rw [hw] at h;cases h
         | some w =>
           rw [hw] at h
           cases h
           have hl:=YI hw
           exact qhy (qdJ hw) (by omega) (qc8 c3) (fun _=>⟨c3,by omega⟩) (by decide) (by decide) (by decide)
       · cases h
   · split at h
     · split at h
       · rename_i w
         cases hw:zg [w] with
         | none=>rw [hw] at h;cases h
         | some ws =>
           rw [hw] at h
           cases h
           have hl:=YI hw
           exact qhy (qdJ hw) (by simp at hl;omega) (by simp) (fun h=>absurd h (by decide)) (by decide) (by decide) (by decide)
       · cases h
     · split at h
       · split at h
         · rename_i n
           split at h
           · rename_i hn
             cases h
             unfold qaA at hn
             simp only [Bool.and_eq_true,decide_eq_true_eq] at hn
             exact qhy (by simp) (by simp) (by simp) (fun h=>absurd h (by decide)) ⟨by omega,hn.2⟩ (by decide) (fun _=>hn.1.2)
           · cases h
         · cases h
       · have triv : ∀ k : Int,1 ≤ k ∧ k ≤ 6 → k ≠ 1 → k ≠ 4 → LnV' ⟨k,[],[],0⟩ := fun k h1 h2 h3 => qhy (by simp) (by simp) (by simp) (fun h => absurd h h2) (by decide) h1 (fun h => absurd h h3)
         split at h
         · split at h
           · cases h;exact triv 2 (by decide) (by decide) (by decide)
           · split at h
             · cases h;exact triv 5 (by decide) (by decide) (by decide)
             · split at h
               · cases h;exact triv 6 (by decide) (by decide) (by decide)
               · cases h
         · cases h
theorem WA {s:List UInt8} (h:ja s=0):LnV' (zd s):=by
 unfold ja at h
 unfold zd
 split at h
 · rename_i hs
   rw [if_pos hs]
   cases hp:WX s with
   | none=>rw [hp] at h;cases h
   | some x=>exact qmR hp
 · cases h
end Go.AM

namespace Go.AM
open Go.RowKit
structure DayV (d:Dy):Prop where
 bath:0≤d.bath∧d.bath≤1000
 laid:0≤d.laid∧d.laid≤8
 pat0:d.bath=0→d.pat=[]
 shl:d.sh.length≤400
 rl:d.rc.length≤32
 rb:∀ i (h:i<d.rc.length),ju (d.rc.take i) d.rc[i]=true
 rm:∀ x∈qu d.rc,x≤QL
 pat:Yw (qu d.rc) d.pat=true
 sh:∀ i (h:i<d.sh.length),zf (qu d.rc) d.bath (d.sh.take i) d.sh[i]=true
 cnt:d.laid=jZ d.sh d.bath
theorem jv {d:Dy}:Wf d=true↔DayV d:=by
 constructor
 · intro h
   unfold Wf jz at h
   simp only [Bool.and_eq_true,decide_eq_true_eq,Bool.or_eq_true,Bool.not_eq_true',decide_eq_false_iff_not,List.all_eq_true] at h
   obtain ⟨⟨⟨⟨⟨⟨⟨h1,h2⟩,h3⟩,h4⟩,⟨h5,h6⟩,h7⟩,h8⟩,h9⟩,h10⟩:=h
   exact ⟨h1,h2,fun e=>by rcases h3 with h | h;exact absurd e h;exact List.eq_nil_of_length_eq_zero h,h4,h5,Zo.1 h6,h7,h8,ZU.1 h9,h10⟩
 · intro h
   unfold Wf jz
   simp only [Bool.and_eq_true,decide_eq_true_eq,Bool.or_eq_true,Bool.not_eq_true',decide_eq_false_iff_not,List.all_eq_true]
   refine ⟨⟨⟨⟨⟨⟨⟨h.bath,h.laid⟩,?_⟩,h.shl⟩,⟨h.rl,Zo.2 h.rb⟩,h.rm⟩,h.pat⟩,ZU.2 h.sh⟩,h.cnt⟩
   by_cases e:d.bath=0
   · right;rw [h.pat0 e];rfl
   · left;exact e
theorem ZZ {long:List Int} {l:List Pt}:Yw long l=true↔l.length≤64∧(∀ p∈l,qI long.length p=true)∧QY long l≤QL:=by
 unfold Yw
 simp only [Bool.and_eq_true,decide_eq_true_eq,List.all_eq_true]
 exact ⟨fun ⟨⟨a,b⟩,c⟩=>⟨a,b,c⟩,fun ⟨a,b,c⟩=>⟨⟨a,b⟩,c⟩⟩
structure ShV (long:List Int) (bath:Int) (pre:List Sht) (s:Sht):Prop where
 num:1≤s.num∧s.num≤QL
 bath:QG pre≤s.bath∧s.bath≤bath
 pat:Yw long s.pat=true
 age:s.age=jZ pre s.bath∧s.age<8
 no:∀ x∈pre,x.num≠s.num
theorem ZT {long:List Int} {bath:Int} {pre:List Sht} {s:Sht}:zf long bath pre s=true↔ShV long bath pre s:=by
 unfold zf
 simp only [Bool.and_eq_true,decide_eq_true_eq,Bool.not_eq_true',List.any_eq_false]
 exact ⟨fun ⟨⟨⟨⟨a,b⟩,c⟩,d⟩,e⟩=>⟨a,b,c,d,e⟩,fun ⟨a,b,c,d,e⟩=>⟨⟨⟨⟨a,b⟩,c⟩,d⟩,e⟩⟩
theorem qnI {n:Nat} {p:Pt} (h:qI n p=true) (hn:n≤1000000):PtI p:=by
 have h1:=Qc h
 refine ⟨?_,?_,by unfold i64;omega⟩
 · rcases zk h with ⟨_,h⟩ | ⟨h,_⟩
   · unfold VY at h;simp only [Bool.and_eq_true,decide_eq_true_eq] at h;omega
   · omega
 · unfold i64
   rcases zk h with ⟨h,_⟩ | ⟨_,h,h2⟩ <;> omega
theorem qcu (l:List Sht) (b:Int):0≤jZ l b∧jZ l b≤l.length:=by
 unfold jZ
 have:=List.length_filter_le (fun s:Sht=>decide (s.bath=b)) l
 omega
theorem DayV.recV {d:Dy} (h:DayV d):RecV d.rc:=XL (Zo.2 h.rb) (by have:=h.rl;omega)
theorem DayV.lens {d:Dy} (h:DayV d):(qu d.rc).length≤32:=by rw [zy];exact h.rl
theorem qoV {l:List Sht} {b:Int} (h:∀ s∈l,s.bath≤b) (hb:1≤b):QG l≤b:=by
 unfold QG
 cases hl:l.getLast? with
 | none=>exact hb
 | some s=>exact h s (List.mem_of_getLast? hl)
theorem qsk {long:List Int} {bath:Int} {l:List Sht} (h:∀ i (hi:i<l.length),ShV long bath (l.take i) l[i]):∀ i (hi:i<l.length),1≤l[i].bath:=by
 intro i
 induction i with
 | zero =>
   intro hi
   have:=(h 0 hi).bath.1
   simpa [QG] using this
 | succ i ih =>
   intro hi
   have h1:=(h (i+1) hi).bath.1
   have h2:=ih (by omega)
   have e:QG (l.take (i+1))=l[i].bath:=by
    unfold QG
    rw [List.take_succ_eq_append_getElem (by omega),List.getLast?_concat]
   omega
theorem DayV.shv {d:Dy} (h:DayV d):∀ i (hi:i<d.sh.length),ShV (qu d.rc) d.bath (d.sh.take i) d.sh[i]:=fun i hi=>ZT.1 (h.sh i hi)
theorem DayV.shm {d:Dy} (h:DayV d):∀ s∈d.sh,(1≤s.num∧s.num≤QL)∧(1≤s.bath∧s.bath≤d.bath)∧Yw (qu d.rc) s.pat=true∧0≤s.age∧s.age<8:=by
 intro s hs
 obtain ⟨i,hi,rfl⟩:=List.mem_iff_getElem.1 hs
 have v:=h.shv i hi
 have:=(qcu (d.sh.take i) d.sh[i].bath).1
 exact ⟨v.num,⟨qsk h.shv i hi,v.bath.2⟩,v.pat,by rw [v.age.1];exact this,v.age.2⟩
theorem DayV.w {d:Dy} (h:DayV d):DyW d:=by
 have hL:=h.lens
 have hb:=h.bath
 have hl:=h.laid
 have hsl:=h.shl
 have hrl:=h.rl
 have hp:=ZZ.1 h.pat
 have pi : ∀ {l : List Pt},Yw (qu d.rc) l = true → qno l := fun {l} hl => by
  have q:=ZZ.1 hl
  exact ⟨fun p hp=>qnI (q.2.1 p hp) (by omega),by omega⟩
 refine ⟨⟨fun b hb=>?_,by omega,by unfold i64;omega,by unfold i64;omega,pi h.pat,fun s hs=>?_,by omega⟩,h.recV,?_,hb,hl⟩
 · obtain ⟨i,hi,rfl⟩ := List.mem_iff_getElem.1 hb
   have bp:=Q5 (h.rb i hi)
   have hn:=qc8 bp.1
   have ht:(d.rc.take i).length≤1000000:=by rw [List.length_take];omega
   exact ⟨⟨fun p hp=>qnI (bp.2.2.2.2 p hp) ht,by omega⟩,by omega⟩
 · have v := h.shm s hs
   have hm:QL=1099511627776:=rfl
   exact ⟨by unfold i64;omega,by unfold i64;omega,by unfold i64;omega,pi v.2.2.1⟩
 · rw [←zy];exact hp.2.1
theorem qpi {L M:List Int} {p:Pt} (h:qI L.length p=true):Z9 (L++M) p=Z9 L p:=by
 unfold Z9
 split
 · rename_i h0
   rcases zk h with ⟨h,_⟩ | ⟨_,_,h⟩
   · omega
   · rw [List.getD_eq_getElem?_getD,List.getD_eq_getElem?_getD,List.getElem?_append_left (by omega)]
 · rfl
theorem qk9 {L M:List Int}:∀ {l:List Pt},(∀ p∈l,qI L.length p=true)→QY (L++M) l=QY L l:=by
 have key:∀ (l:List Pt) (n:Int),(∀ p∈l,qI L.length p=true)→l.foldl (jT (L++M)) n=l.foldl (jT L) n:=by
  intro l
  induction l with
  | nil=>intro n _;rfl
  | cons p l ih =>
    intro n h
    rw [List.foldl_cons,List.foldl_cons,ih _ (fun q hq=>h q (by simp [hq]))]
    have:jT (L++M) n p=jT L n p:=by unfold jT;rw [qpi (h p (by simp))]
    rw [this]
 exact fun {l} h=>key l 0 h
theorem qhF {L M:List Int} {l:List Pt} (h:Yw L l=true):Yw (L++M) l=true:=by
 have q:=ZZ.1 h
 refine ZZ.2 ⟨q.1,fun p hp=>WB (q.2.1 p hp) (by simp),?_⟩
 rw [qk9 q.2.1];exact q.2.2
theorem qaU {L M:List Int} {b c:Int} {pre:List Sht} {s:Sht} (h:zf L b pre s=true) (hbc:b≤c):zf (L++M) c pre s=true:=by
 have v:=ZT.1 h
 exact ZT.2 ⟨v.num,⟨v.bath.1,by have:=v.bath.2;omega⟩,qhF v.pat,v.age,v.no⟩
theorem Xr {l:List Bk} {b:Bk}:qu (l++[b])=qu l++[QY (qu l) b.2]:=by
 unfold qu
 rw [List.foldl_append];rfl
theorem qct {l:List Sht} {s:Sht} {b:Int}:jZ (l++[s]) b=jZ l b+(if s.bath=b then 1 else 0):=by
 unfold jZ
 rw [List.filter_append,List.length_append]
 by_cases h:s.bath=b
 · rw [if_pos h];simp [h]
 · rw [if_neg h];simp [h]
theorem Xn {l:List Sht} {b:Int} (h:∀ s∈l,s.bath≠b):jZ l b=0:=by
 unfold jZ
 rw [List.filter_eq_nil_iff.2 (fun s hs=>by simpa using h s hs)]
 rfl
theorem day0_V:DayV dy0:=by
 refine ⟨by decide,by decide,fun _=>rfl,by decide,by decide,fun i h=>by simp [dy0] at h,fun x h=>by simp [dy0,qu] at h,rfl,fun i h=>by simp [dy0] at h,rfl⟩
theorem qjO {α:Type} {l:List α} {a:α} {i:Nat} (h:i<(l++[a]).length):(∃ h':i<l.length,(l++[a])[i]=l[i]∧(l++[a]).take i=l.take i)∨i=l.length∧(l++[a])[i]=a∧(l++[a]).take i=l:=by
 by_cases hi:i<l.length
 · exact .inl ⟨hi,List.getElem_append_left hi,List.take_append_of_le_length (by omega)⟩
 · have e : i = l.length := by simp at h; omega
   subst e
   exact .inr ⟨rfl,by simp,by simp⟩
theorem qlR {d : Dy} {l : Ln} {k : Nat} (h : DayV d) (hl : LnV' l) (hk4 : l.kind ≤ 4) (hk : k < 400) (hb : d.bath ≤ k) (hs : d.sh.length ≤ k) (he : (zi d l).2 = 0) :
 DayV (zi d l).1∧(zi d l).1.bath≤(k+1:Nat)∧(zi d l).1.sh.length≤k+1:=by
 have hP:=fun {ps} (e:Qd d.rc l.words=some ps)=>VM hl.words e
 have hPl:=fun {ps} (e:Qd d.rc l.words=some ps)=>Yv e
 have hkd:=hl.kind
 have hsb:=h.shm
 unfold zi at he ⊢
 by_cases k1:l.kind=1
 case pos =>
  rw [if_pos k1] at he ⊢
  by_cases b1:0≤zL d.rc l.name
  case pos=>rw [if_pos b1] at he;cases he
  rw [if_neg b1] at he ⊢
  by_cases b2:32≤d.rc.length
  case pos=>rw [if_pos b2] at he;cases he
  rw [if_neg b2] at he ⊢
  cases hp:Qd d.rc l.words with
  | none=>rw [hp] at he;cases he
  | some p =>
  rw [hp] at he
  simp only at he ⊢
  by_cases b3:QL<QY (qu d.rc) p
  case pos=>rw [if_pos b3] at he;cases he
  rw [if_neg b3]
  have hlen:=hPl hp
  have hw:=hl.len
  have hnm:=hl.nm k1
  refine ⟨⟨h.bath,h.laid,h.pat0,h.shl,by simp;omega,fun i hi=>?_,fun x hx=>?_,?_,fun i hi=>?_,h.cnt⟩,by show d.bath≤_;omega,by show d.sh.length≤_;omega⟩
  · rcases qjO hi with ⟨h',e1,e2⟩ | ⟨e0,e1,e2⟩
    · rw [e1,e2];exact h.rb i h'
    · rw [e1,e2]
      unfold ju
      have hno : (d.rc.any fun x => decide (x.1 = l.name)) = false := by
       rw [List.any_eq_false]
       intro b hbm
       rcases VJ d.rc l.name with ⟨_,hn⟩ | ⟨j,hj,hj2,_⟩
       · simpa using hn b hbm
       · omega
      simp only [Bool.and_eq_true,decide_eq_true_eq,Bool.not_eq_true',List.all_eq_true]
      exact ⟨⟨⟨hnm.1,by omega,by omega⟩,hno⟩,hP hp⟩
  · simp only at hx
    rw [Xr] at hx
    rcases List.mem_append.1 hx with hx | hx
    · exact h.rm x hx
    · simp at hx;subst hx;omega
  · simp only
    rw [Xr];exact qhF h.pat
  · simp only
    rw [Xr];exact qaU (h.sh i hi) (Int.le_refl _)
 rw [if_neg k1] at he ⊢
 by_cases k2:l.kind=2
 case pos =>
  rw [if_pos k2]
  have hbb:=h.bath
  refine ⟨⟨⟨by show 0≤d.bath+1;omega,by show d.bath+1≤1000;omega⟩,⟨by show (0:Int)≤0;decide,by show (0:Int)≤8;decide⟩,fun _=>rfl,h.shl,h.rl,h.rb,h.rm,rfl,fun i hi=>?_,?_⟩,by show d.bath+1≤_;omega,by show d.sh.length≤_;omega⟩
  · have := qaU (M := []) (c := d.bath + 1) (h.sh i hi) (by omega)
    rwa [List.append_nil] at this
  · show 0 = jZ d.sh (d.bath + 1)
    rw [Xn fun s hs'=>by have:=(hsb s hs').2.1.2;omega]
 rw [if_neg k2] at he ⊢
 by_cases b0:d.bath=0
 case pos=>rw [if_pos b0] at he;cases he
 rw [if_neg b0] at he ⊢
 by_cases k3:l.kind=3
 case pos =>
  rw [if_pos k3] at he ⊢
  cases hp:Qd d.rc l.words with
  | none=>rw [hp] at he;cases he
  | some p =>
  rw [hp] at he
  simp only at he ⊢
  by_cases b4:64<(d.pat++p).length
  case pos=>rw [if_pos b4] at he;cases he
  rw [if_neg b4] at he ⊢
  by_cases b3:QL<QY (qu d.rc) (d.pat++p)
  case pos=>rw [if_pos b3] at he;cases he
  rw [if_neg b3]
  have q:=ZZ.1 h.pat
  refine ⟨⟨h.bath,h.laid,fun e=>absurd e b0,h.shl,h.rl,h.rb,h.rm,ZZ.2 ⟨Nat.le_of_not_lt b4,fun x hx=>?_,Int.not_lt.1 b3⟩,h.sh,h.cnt⟩,by show d.bath≤_;omega,by show d.sh.length≤_;omega⟩
  rcases List.mem_append.1 hx with hx | hx
  · exact q.2.1 x hx
  · rw [zy];exact hP hp x hx
 rw [if_neg k3] at he ⊢
 by_cases b5:d.sh.any (fun s=>decide (s.num=l.num))=true
 case pos=>rw [if_pos b5] at he;cases he
 rw [if_neg b5] at he ⊢
 by_cases b6:8≤d.laid
 case pos=>rw [if_pos b6] at he;cases he
 rw [if_neg b6]
 have hbb:=h.bath
 have hla:=h.laid
 have hno:∀ x∈d.sh,x.num≠l.num:=fun x hx e=>b5 (List.any_eq_true.2 ⟨x,hx,by simpa using e⟩)
 refine ⟨⟨h.bath,⟨by show 0≤d.laid+1;omega,by show d.laid+1≤8;omega⟩,fun _=>rfl,by simp;omega,h.rl,h.rb,h.rm,rfl,fun i hi=>?_,?_⟩,by show d.bath≤_;omega,by simp;omega⟩
 · rcases qjO hi with ⟨h',e1,e2⟩ | ⟨e0,e1,e2⟩
   · rw [e1,e2];exact h.sh i h'
   · rw [e1,e2]
     exact ZT.2 ⟨⟨hl.lay (by omega),hl.num.2⟩,⟨qoV (fun s hs'=>(hsb s hs').2.1.2) (by show 1≤d.bath;omega),Int.le_refl _⟩,h.pat,⟨h.cnt,by show d.laid<8;omega⟩,hno⟩
 · show d.laid + 1 = jZ (d.sh ++ [_]) d.bath
   rw [qct,←h.cnt]
   simp
end Go.AM

namespace Go.AM
open Go.RowKit
structure Pl where
 ds:List Dy
 kept:List (List UInt8)
 at':Nat
 errs:List Int
def pl0:Pl:=⟨[],[],0,[]⟩
def qX (q:Pl):Dy:=(dy0::q.ds).getD q.at' dy0
def Qk (q:Pl) (s:List UInt8):Pl :=
 if ja s≠0 then { q with errs:=q.errs++[ja s] }
 else if (zd s).kind=5∧q.at'=0∨(zd s).kind=6∧q.at'=q.kept.length then { q with errs:=q.errs++[5] }
 else if (zd s).kind=5 then { q with at':=q.at' - 1,errs:=q.errs++[0] }
 else if (zd s).kind=6 then { q with at':=q.at'+1,errs:=q.errs++[0] }
 else if (zi (qX q) (zd s)).2=0 then ⟨q.ds.take q.at'++[(zi (qX q) (zd s)).1],q.kept.take q.at'++[s],q.at'+1,q.errs++[0]⟩
 else { q with errs:=q.errs++[(zi (qX q) (zd s)).2] }
structure PlV (n:Nat) (q:Pl):Prop where
 at':q.at'≤q.ds.length
 kept:q.kept.length=q.ds.length
 len:q.ds.length≤n
 errs:q.errs.length=n
 days:∀ i (h:i<q.ds.length),DayV q.ds[i]∧q.ds[i].bath≤(i+1:Nat)∧q.ds[i].sh.length≤i+1
theorem quu:PlV 0 pl0:=⟨by decide,rfl,by decide,rfl,fun i h=>by simp [pl0] at h⟩
theorem PlV.day {n q} (h:PlV n q):DayV (qX q)∧(qX q).bath≤(q.at':Int)∧(qX q).sh.length≤q.at':=by
 unfold qX
 have h1:=h.at'
 cases ha:q.at' with
 | zero=>exact ⟨day0_V,by show (0:Int)≤0;decide,by show 0≤0;decide⟩
 | succ j =>
   rw [ha] at h1
   have hj:j<q.ds.length:=by omega
   have e:(dy0::q.ds).getD (j+1) dy0=q.ds[j]:=by
    rw [List.getD_eq_getElem?_getD,List.getElem?_cons_succ,List.getElem?_eq_getElem hj];rfl
   rw [e];exact h.days j hj
theorem PlV.app {n q} (h:PlV n q) (e:Int) {a:Nat} (ha:a≤q.ds.length):PlV (n+1) { q with at':=a,errs:=q.errs++[e] } :=
 ⟨ha,h.kept,by have:=h.len;show q.ds.length≤n+1;omega,by have:=h.errs;simp;exact this,h.days⟩
theorem PlV.step {n q} {s:List UInt8} (h:PlV n q) (hn:n<400):PlV (n+1) (Qk q s):=by
 have h1:=h.at'
 have h2:=h.len
 have h3:=h.kept
 unfold Qk
 by_cases c1:ja s=0
 case neg=>rw [if_pos c1];exact h.app _ h1
 rw [if_neg (by simpa using c1)]
 have hl:=WA c1
 by_cases c2:(zd s).kind=5∧q.at'=0∨(zd s).kind=6∧q.at'=q.kept.length
 case pos=>rw [if_pos c2];exact h.app _ h1
 rw [if_neg c2]
 by_cases c3:(zd s).kind=5
 case pos=>rw [if_pos c3];exact h.app 0 (a:=q.at' - 1) (by omega)
 rw [if_neg c3]
 by_cases c4:(zd s).kind=6
 case pos=>rw [if_pos c4];exact h.app 0 (a:=q.at'+1) (by omega)
 rw [if_neg c4]
 by_cases c5:(zi (qX q) (zd s)).2=0
 case neg=>rw [if_neg c5];exact h.app _ h1
 rw [if_pos c5]
 have hk:=hl.kind
 have hd:=h.day
 have hN:=qlR (k:=q.at') hd.1 hl (by omega) (by omega) hd.2.1 hd.2.2 c5
 have tl:(q.ds.take q.at').length=q.at':=by rw [List.length_take];omega
 refine ⟨by simp;omega,by simp;omega,by simp;omega,by have:=h.errs;simp;exact this,fun i hi=>?_⟩
 simp only at hi ⊢
 rcases qjO hi with ⟨h',e1,_⟩ | ⟨e0,e1,_⟩
 · rw [e1,List.getElem_take];exact h.days i (by omega)
 · rw [e1,e0,tl];exact hN
def jP (l:List (List UInt8)):Pl:=l.foldl Qk pl0
theorem Yx {l:List (List UInt8)} {i:Nat} (h:i<l.length):jP (l.take (i+1))=Qk (jP (l.take i)) l[i]:=zI h
theorem qdf {l:List (List UInt8)} (hl:l.length≤400):∀ i,i≤l.length→PlV i (jP (l.take i)):=by
 intro i
 induction i with
 | zero=>intro _;exact quu
 | succ i ih=>intro h;rw [Yx (by omega)];exact (ih (by omega)).step (by omega)
def qph (s:List UInt8):Bool:=match s.getLast? with
 | some b=>decide (b≠10)
 | none=>false
def VZ (s:List UInt8):Int:=if 65536<s.length then 7 else if qph s then 8 else if 400<(qM 10 s).dropLast.length then 6 else 0
def qav (s:List UInt8):List (List UInt8):=if VZ s=0 then (qM 10 s).dropLast else []
theorem YB {c : UInt8} : ∀ {s : List UInt8},(qM c s).length ≤ s.length + 1 ∧ ∀ w ∈ qM c s,w.length ≤ s.length
 | []=>⟨by simp [qM],by simp [qM]⟩
 | b::r=>by
   obtain ⟨h1,h2⟩:=YB (c:=c) (s:=r)
   unfold qM
   split
   · refine ⟨by simp; omega,fun w hw => ?_⟩
     rcases List.mem_cons.1 hw with rfl | hw
     · simp
     · have:=h2 w hw;simp;omega
   · split
     · rename_i x xs e
       rw [e] at h1 h2
       refine ⟨by simp at h1 ⊢;omega,fun w hw=>?_⟩
       rcases List.mem_cons.1 hw with rfl | hw
       · have:=h2 x (by simp);simp;omega
       · have:=h2 w (by simp [hw]);simp;omega
     · exact ⟨by simp,fun w hw=>by simp at hw;subst hw;simp⟩
def qkt (s:List UInt8):Dy:=if VZ s=0 then qX (jP (qav s)) else dy0
def qmU (s:List UInt8):List Int:=if VZ s=0 then (jP (qav s)).errs else []
def qaG (s:List UInt8):List (List UInt8):=if VZ s=0 then (jP (qav s)).kept.take (jP (qav s)).at' else []
theorem qgg {s:List UInt8}:(qav s).length≤400∧∀ w∈qav s,w.length≤s.length:=by
 unfold qav
 split
 · rename_i h
   unfold VZ at h
   split at h
   · cases h
   · split at h
     · cases h
     · split at h
       · cases h
       · rename_i h3
         refine ⟨by omega,fun w hw=>?_⟩
         exact (YB (c:=10) (s:=s)).2 w (List.dropLast_subset _ hw)
 · exact ⟨by simp,by simp⟩
end Go.AM

namespace Go.AM
open Go.RowKit
def Za (d:Dy) (p:Pt):Int:=if Wf d then (if qI d.rc.length p then 0 else 3) else 2
theorem VK {d:Dy} {p:Pt}:Za d p=0↔Wf d=true∧qI d.rc.length p=true:=by
 unfold Za
 cases Wf d <;> cases qI d.rc.length p <;> simp
def qc5 (d:Dy) (p:Pt):Int:=if Za d p=0 then QY (qu d.rc) [p] else 0
def qnH (has:List Int) (act:Int) (p:Pt):Int:=if p.1=act then 1 else if 0≤p.2.1 then has.getD p.2.1.toNat 0 else 0
def qfC (has:List Int) (act:Int) (n:Int) (p:Pt):Int:=n+qnH has act p*p.2.2
def qa7 (has:List Int) (act:Int) (l:List Pt):Int:=l.foldl (qfC has act) 0
def qiv (act:Int) (l:List Bk):List Int:=l.foldl (fun out b=>out++[qa7 out act b.2]) []
theorem qht {act:Int} {l:List Bk} {i:Nat} (h:i<l.length):qiv act (l.take (i+1))=qiv act (l.take i)++[qa7 (qiv act (l.take i)) act l[i].2]:=zI h
theorem qj1 {act:Int}:∀ (l:List Bk),(qiv act l).length=l.length:=by
 have key : ∀ (l : List Bk) (out : List Int),(l.foldl (fun out b => out ++ [qa7 out act b.2]) out).length = out.length + l.length := by
  intro l
  induction l with
  | nil=>intro out;rfl
  | cons b l ih=>intro out;rw [List.foldl_cons,ih];simp;omega
 intro l
 unfold qiv;rw [key];simp
def qlm (has long:List Int):Prop:=has.length=long.length∧∀ i,0≤has.getD i 0∧has.getD i 0≤long.getD i 0
theorem qmM {has long:List Int} (h:qlm has long) {act:Int} (ha:VY act=true) {p:Pt} (hp:qI long.length p=true):0≤qnH has act p∧qnH has act p≤Z9 long p:=by
 have h97:97≤act:=by unfold VY at ha;simp only [Bool.and_eq_true,decide_eq_true_eq] at ha;omega
 have hq:=h.2 p.2.1.toNat
 unfold qnH Z9
 by_cases e:p.1=act
 · rw [if_pos e]
   rcases zk hp with ⟨h1,_⟩ | ⟨h1,_⟩
   · rw [if_neg (by omega)];decide
   · omega
 · rw [if_neg e]
   by_cases e2:0≤p.2.1
   · rw [if_pos e2,if_pos e2];exact hq
   · rw [if_neg e2,if_neg e2];decide
theorem qn0 {has long:List Int} (h:qlm has long) {act:Int} (ha:VY act=true):∀ {l:List Pt},(∀ p∈l,qI long.length p=true)→0≤qa7 has act l∧min JR (qa7 has act l)≤QY long l:=by
 have hfar:JR=1125899906842624:=rfl
 have key:∀ (l:List Pt) (m n:Int),(∀ p∈l,qI long.length p=true)→0≤m→min JR m≤n→0≤l.foldl (qfC has act) m∧min JR (l.foldl (qfC has act) m)≤l.foldl (jT long) n:=by
  intro l
  induction l with
  | nil=>intro m n _ h1 h2;exact ⟨h1,h2⟩
  | cons p l ih =>
    intro m n hp h1 h2
    rw [List.foldl_cons,List.foldl_cons]
    have ho:=qmM h ha (hp p (by simp))
    have ht:=Qc (hp p (by simp))
    have h3:0≤qnH has act p*p.2.2:=Int.mul_nonneg ho.1 (by omega)
    have h4:qnH has act p*p.2.2≤Z9 long p*p.2.2:=Int.mul_le_mul_of_nonneg_right ho.2 (by omega)
    refine ih _ _ (fun q hq=>hp q (by simp [hq])) (by unfold qfC;omega) ?_
    unfold qfC jT
    omega
 exact fun {l} hl=>key l 0 0 hl (Int.le_refl _) (by decide)
theorem qlv {has long:List Int} (h:qlm has long) {act:Int} (ha:VY act=true) {l:List Pt} (hl:∀ p∈l,qI long.length p=true) (ht:QY long l≤QL):0≤qa7 has act l∧qa7 has act l≤QY long l:=by
 have:=qn0 h ha hl
 have hfar:JR=1125899906842624:=rfl
 have hmax:QL=1099511627776:=rfl
 omega
theorem VE {l m:List Int} {i:Nat}:(l++m).getD i 0=if i<l.length then l.getD i 0 else m.getD (i - l.length) 0:=by
 rw [List.getD_eq_getElem?_getD]
 by_cases h:i<l.length
 · rw [if_pos h,List.getElem?_append_left h,List.getD_eq_getElem?_getD]
 · rw [if_neg h,List.getElem?_append_right (by omega),List.getD_eq_getElem?_getD]
theorem jy {l:List Bk} (i:Nat):∃ r,qu l=qu (l.take i)++r:=by
 have e:∀ (m k:List Bk),∃ r,qu (k++m)=qu k++r:=by
  intro m
  induction m with
  | nil=>intro k;exact ⟨[],by simp⟩
  | cons b m ih=>intro k;obtain ⟨r,hr⟩:=ih (k++[b]);exact ⟨QY (qu k) b.2::r,by rw [←List.append_cons] at hr;rw [hr,Xr];simp⟩
 obtain ⟨r,hr⟩:=e (l.drop i) (l.take i)
 exact ⟨r,by rw [←hr,List.take_append_drop]⟩
theorem qrP {act:Int} (ha:VY act=true) {l:List Bk} (hR:RecV l) (hm:∀ x∈qu l,x≤QL):∀ i,i≤l.length→qlm (qiv act (l.take i)) (qu (l.take i)):=by
 intro i
 induction i with
 | zero=>intro _;exact ⟨rfl,fun i=>by simp [qiv,qu]⟩
 | succ i ih =>
   intro hi
   have ih:=ih (by omega)
   have hlt:i<l.length:=by omega
   have hll:(qu (l.take i)).length=i:=by rw [zy,List.length_take];omega
   have hhl:(qiv act (l.take i)).length=i:=by rw [qj1,List.length_take];omega
   have hpv:∀ p∈l[i].2,qI (qu (l.take i)).length p=true:=by rw [hll];exact hR.1 i hlt
   have htm:QY (qu (l.take i)) l[i].2≤QL:=by
    obtain ⟨r,hr⟩:=jy (l:=l) (i+1)
    rw [QK hlt] at hr
    exact hm _ (by rw [hr];simp)
   have fit:=qlv ih ha hpv htm
   rw [qht hlt,QK hlt]
   refine ⟨by simp [hll,hhl],fun j=>?_⟩
   rw [VE,VE,hll,hhl]
   by_cases hj:j<i
   · rw [if_pos hj,if_pos hj];exact ih.2 j
   · rw [if_neg hj,if_neg hj]
     cases hk:j - i with
     | zero=>exact fit
     | succ k=>simp
def qe2 (d:Dy) (p:Pt) (act:Int):Int:=if Za d p=0 then (if VY act then 0 else 8) else Za d p
def qiB (d:Dy) (p:Pt) (act:Int):Int:=if qe2 d p act=0 then qa7 (qiv act d.rc) act [p] else 0
def Jg (d:Dy) (n:Int):Option Sht:=if Wf d then d.sh.find? (fun s=>decide (s.num=n)) else none
def Zw (d:Dy) (n:Int):Int:=if Wf d then (if (Jg d n).isSome then 0 else 5) else 2
def sh0:Sht:=⟨0,0,0,[]⟩
end Go.AM

namespace Go.AM
open Go.RowKit
def qaC (T:List (List UInt8)) (p:Pt):List UInt8:=if 0≤p.2.1 then T.getD p.2.1.toNat [] else [UInt8.ofNat p.1.toNat]
def ZF (T:List (List UInt8)) (p:Pt) (k:Nat):List UInt8:=(List.replicate k (qaC T p)).flatten
def spell (T:List (List UInt8)) (l:List Pt):List UInt8:=l.flatMap fun p=>ZF T p p.2.2.toNat
def spR (l:List Bk):List (List UInt8):=l.foldl (fun out b=>out++[spell out b.2]) []
theorem qhS {l:List Bk} {i:Nat} (h:i<l.length):spR (l.take (i+1))=spR (l.take i)++[spell (spR (l.take i)) l[i].2]:=zI h
theorem qkS:∀ (l:List Bk),(spR l).length=l.length:=by
 have key : ∀ (l : List Bk) (out : List (List UInt8)),(l.foldl (fun out b => out ++ [spell out b.2]) out).length = out.length + l.length := by
  intro l
  induction l with
  | nil=>intro out;rfl
  | cons b l ih=>intro out;rw [List.foldl_cons,ih];simp;omega
 intro l
 unfold spR;rw [key];simp
theorem qi1 {T:List (List UInt8)} {p:Pt} {k:Nat}:(ZF T p k).length=k*(qaC T p).length:=by
 unfold ZF;simp
theorem qgH {T:List (List UInt8)} {p:Pt} {k:Nat}:ZF T p (k+1)=ZF T p k++qaC T p:=by
 unfold ZF;rw [List.replicate_succ',List.flatten_append];simp
theorem qce {T:List (List UInt8)} {l:List Pt} {i:Nat} (h:i<l.length):spell T (l.take (i+1))=spell T (l.take i)++ZF T l[i] l[i].2.2.toNat:=by
 unfold spell
 rw [List.take_succ_eq_append_getElem h,List.flatMap_append];simp
def qtw (T:List (List UInt8)) (long:List Int):Prop:=T.length=long.length∧∀ i,((T.getD i []).length:Int)=long.getD i 0
theorem qmP {T:List (List UInt8)} {long:List Int} (h:qtw T long) (p:Pt):((qaC T p).length:Int)=Z9 long p:=by
 unfold qaC Z9
 by_cases e:0≤p.2.1
 · rw [if_pos e,if_pos e];exact h.2 _
 · rw [if_neg e,if_neg e];rfl
theorem qaV {T:List (List UInt8)} {long:List Int} (h:qtw T long) {l:List Pt} (hp:∀ p∈l,0≤p.2.2):min JR ((spell T l).length:Int)=QY long l:=by
 have hfar:JR=1125899906842624:=rfl
 have key:∀ (l:List Pt) (m:Nat) (n:Int),(∀ p∈l,0≤p.2.2)→min JR (m:Int)=n→min JR ((m+(spell T l).length:Nat):Int)=l.foldl (jT long) n:=by
  intro l
  induction l with
  | nil=>intro m n _ h;simpa [spell] using h
  | cons p l ih =>
    intro m n hp h1
    have h0:=hp p (by simp)
    have ho:=qmP h p
    rw [List.foldl_cons]
    have e:(spell T (p::l)).length=p.2.2.toNat*(qaC T p).length+(spell T l).length:=by
     unfold spell;rw [List.flatMap_cons,List.length_append,qi1]
    have e2:((p.2.2.toNat*(qaC T p).length:Nat):Int)=Z9 long p*p.2.2:=by
     rw [Int.natCast_mul,ho,Int.mul_comm,Int.toNat_of_nonneg h0]
    have := ih (m + p.2.2.toNat * (qaC T p).length) (jT long n p) (fun q hq => hp q (by simp [hq])) (by
     unfold jT
     generalize p.2.2.toNat*(qaC T p).length=X at *
     omega)
    rw [←this,e]
    congr 2;omega
 have:=key l 0 0 hp (by decide)
 rw [Nat.zero_add] at this
 exact this
theorem VF {l m:List (List UInt8)} {i:Nat}:(l++m).getD i []=if i<l.length then l.getD i [] else m.getD (i - l.length) []:=by
 rw [List.getD_eq_getElem?_getD]
 by_cases h:i<l.length
 · rw [if_pos h,List.getElem?_append_left h,List.getD_eq_getElem?_getD]
 · rw [if_neg h,List.getElem?_append_right (by omega),List.getD_eq_getElem?_getD]
theorem quC {l:List Bk} (hR:RecV l) (hm:∀ x∈qu l,x≤QL):∀ i,i≤l.length→qtw (spR (l.take i)) (qu (l.take i)):=by
 have hfar:JR=1125899906842624:=rfl
 have hmx:QL=1099511627776:=rfl
 intro i
 induction i with
 | zero=>intro _;exact ⟨rfl,fun i=>by simp [spR,qu]⟩
 | succ i ih =>
   intro hi
   have ih:=ih (by omega)
   have hlt:i<l.length:=by omega
   have hll:(qu (l.take i)).length=i:=by rw [zy,List.length_take];omega
   have hsl:(spR (l.take i)).length=i:=by rw [qkS,List.length_take];omega
   have hpv:∀ p∈l[i].2,0≤p.2.2:=fun p hp=>by have:=Qc (hR.1 i hlt p hp);omega
   have htm:QY (qu (l.take i)) l[i].2≤QL:=by
    obtain ⟨r,hr⟩:=jy (l:=l) (i+1)
    rw [QK hlt] at hr
    exact hm _ (by rw [hr];simp)
   have sl:=qaV ih hpv
   rw [qhS hlt,QK hlt]
   refine ⟨by simp [hll,hsl],fun j=>?_⟩
   rw [VF,VE,hll,hsl]
   by_cases hj:j<i
   · rw [if_pos hj,if_pos hj];exact ih.2 j
   · rw [if_neg hj,if_neg hj]
     cases hk:j - i with
     | zero=>simp only [List.getD_cons_zero];omega
     | succ k=>simp
theorem qmO {T U:List (List UInt8)} {p:Pt} (h:qI T.length p=true):qaC (T++U) p=qaC T p:=by
 unfold qaC
 split
 · rename_i h0
   rcases zk h with ⟨h,_⟩ | ⟨_,_,h⟩
   · omega
   · rw [VF,if_pos (by omega)]
 · rfl
theorem qkU {T U:List (List UInt8)} {l:List Pt} (h:∀ p∈l,qI T.length p=true):spell (T++U) l=spell T l:=by
 unfold spell
 induction l with
 | nil=>rfl
 | cons p l ih =>
   rw [List.flatMap_cons,List.flatMap_cons,ih fun q hq=>h q (by simp [hq])]
   unfold ZF
   rw [qmO (h p (by simp))]
theorem qkT {l:List Bk} (i:Nat):∃ r,spR l=spR (l.take i)++r:=by
 have e:∀ (m k:List Bk),∃ r,spR (k++m)=spR k++r:=by
  intro m
  induction m with
  | nil=>intro k;exact ⟨[],by simp⟩
  | cons b m ih => intro k; obtain ⟨r,hr⟩ := ih (k ++ [b]); exact ⟨spell (spR k) b.2 :: r,by
   rw [←List.append_cons] at hr
   rw [hr,show spR (k++[b])=spR k++[spell (spR k) b.2] by unfold spR;rw [List.foldl_append];rfl]
   simp⟩
 obtain ⟨r,hr⟩:=e (l.drop i) (l.take i)
 exact ⟨r,by rw [←hr,List.take_append_drop]⟩
theorem qpZ {l:List Bk} (hR:RecV l) {i:Nat} (h:i<l.length):(spR l).getD i []=spell (spR l) l[i].2:=by
 obtain ⟨r,hr⟩:=qkT (l:=l) (i+1)
 obtain ⟨r2,hr2⟩:=qkT (l:=l) i
 have hsl:(spR (l.take i)).length=i:=by rw [qkS,List.length_take];omega
 have hp:∀ p∈l[i].2,qI (spR (l.take i)).length p=true:=by rw [hsl];exact hR.1 i h
 have e2:spell (spR l) l[i].2=spell (spR (l.take i)) l[i].2:=by rw [hr2,qkU hp]
 rw [e2,hr,qhS h,VF,if_pos (by simp;omega),VF,if_neg (by omega),hsl]
 simp
end Go.AM

namespace Go.AM
open Go.RowKit
def qfc (long : List Int) : List Pt → Int
 | []=>0
 | p::l=>Z9 long p*p.2.2+qfc long l
theorem qdG {long:List Int} (hn:∀ x∈long,0≤x):∀ {l:List Pt},(∀ p∈l,qI long.length p=true)→0≤qfc long l∧QY long l=min JR (qfc long l):=by
 have hfar:JR=1125899906842624:=rfl
 have key:∀ (l:List Pt) (m n:Int),(∀ p∈l,qI long.length p=true)→0≤m→n=min JR m→0≤qfc long l∧l.foldl (jT long) n=min JR (m+qfc long l):=by
  intro l
  induction l with
  | nil=>intro m n _ h0 h;exact ⟨Int.le_refl _,by simp [qfc,h]⟩
  | cons p l ih =>
    intro m n hp h0 h
    have hpi:=hp p (by simp)
    have tm:=Qc hpi
    have ho:0≤Z9 long p:=by
     unfold Z9
     split
     · rename_i e
       rcases zk hpi with ⟨h,_⟩ | ⟨_,_,h⟩
       · omega
       · rw [List.getD_eq_getElem?_getD,List.getElem?_eq_getElem (show p.2.1.toNat < long.length by omega)]
         exact hn _ (List.getElem_mem _)
     · decide
    have m0:0≤Z9 long p*p.2.2:=Int.mul_nonneg ho (by omega)
    have:=ih (m+Z9 long p*p.2.2) (jT long n p) (fun q hq=>hp q (by simp [hq])) (by omega) (by unfold jT;omega)
    have e:qfc long (p::l)=Z9 long p*p.2.2+qfc long l:=rfl
    rw [List.foldl_cons,this.2,e]
    refine ⟨by omega,?_⟩
    congr 1;omega
 intro l hp
 have:=key l 0 0 hp (Int.le_refl _) (by decide)
 rw [Int.zero_add] at this
 exact this
theorem qpj {long:List Int} (hn:∀ x∈long,1≤x) {p:Pt} (hp:qI long.length p=true):1≤Z9 long p:=by
 unfold Z9
 split
 · rename_i e
   rcases zk hp with ⟨h,_⟩ | ⟨_,_,h⟩
   · omega
   · rw [List.getD_eq_getElem?_getD,List.getElem?_eq_getElem (show p.2.1.toNat < long.length by omega)]
     exact hn _ (List.getElem_mem _)
 · decide
theorem qqa {long:List Int} (hn:∀ x∈long,1≤x) {l:List Pt} (hl:l≠[]) (hp:∀ p∈l,qI long.length p=true):1≤QY long l:=by
 have hfar:JR=1125899906842624:=rfl
 have h:=qdG (fun x hx=>by have:=hn x hx;omega) hp
 cases l with
 | nil=>exact absurd rfl hl
 | cons p l =>
   have hpi:=hp p (by simp)
   have tm:=Qc hpi
   have ho:=qpj hn hpi
   have m0:1*1≤Z9 long p*p.2.2:=Int.mul_le_mul ho tm.1 (by decide) (by omega)
   have r:=(qdG (fun x hx=>by have:=hn x hx;omega) (l:=l) (fun q hq=>hp q (by simp [hq]))).1
   have e:qfc long (p::l)=Z9 long p*p.2.2+qfc long l:=rfl
   rw [h.2,e]
   omega
theorem qmA {l:List Bk} (hR:RecV l) (hne:∀ b∈l,b.2≠[]):∀ i,i≤l.length→∀ x∈qu (l.take i),1≤x:=by
 intro i
 induction i with
 | zero=>intro _ x hx;simp [qu] at hx
 | succ i ih =>
   intro hi x hx
   have hlt:i<l.length:=by omega
   have hll:(qu (l.take i)).length=i:=by rw [zy,List.length_take];omega
   rw [QK hlt] at hx
   rcases List.mem_append.1 hx with hx | hx
   · exact ih (by omega) x hx
   · rw [List.mem_singleton] at hx
     rw [hx]
     exact qqa (ih (by omega)) (hne _ (List.getElem_mem hlt)) (by rw [hll];exact hR.1 i hlt)
def qde (long : List Int) : List Pt → Int → Pt × Int
 | [],i=>((0,-1,1),i)
 | p::l,i=>if i<QY long [p] then (p,i) else qde long l (i - QY long [p])
theorem qp9 {long:List Int} {p:Pt}:QY long [p]=min JR (Z9 long p*p.2.2):=by
 show min JR (0+Z9 long p*p.2.2)=_
 rw [Int.zero_add]
def atF (long : List Int) (rc : List Bk) : Nat → Pt → Int → Int
 | 0,p,_=>p.1
 | n+1,p,i=>if p.2.1<0 then p.1 else atF long rc n (qde long (rc.getD p.2.1.toNat ([],[])).2 (i.tmod (long.getD p.2.1.toNat 0))).1 (qde long (rc.getD p.2.1.toNat ([],[])).2 (i.tmod (long.getD p.2.1.toNat 0))).2
def atE (d:Dy) (p:Pt) (i:Int):Int:=if Za d p=0 then (if i<0∨qc5 d p≤i then 3 else 0) else Za d p
def atR (d:Dy) (p:Pt) (i:Int):Int:=if atE d p i=0 then atF (qu d.rc) d.rc (d.rc.length+1) p i else 0
end Go.AM

namespace Go.AM
open Go.RowKit
variable {α:Type} [DecidableEq α]
structure KeyOK (enc:α→Value) (ks:KS):Prop where
 eq:∀ a b,eqK ks (enc a) (enc b)=some (decide (a=b))
abbrev K3 (α:Type):=α × Nat × Int
def qdN (enc:α→Value) (q:K3 α):Value × Nat × AV:=(enc q.1,q.2.1,I q.2.2)
def mpK (enc:α→Value) (L:List (K3 α)) (clk:Nat):HObj := .mp (L.map (qdN enc)) clk
def JS : List (K3 α) → α → Option Int
 | [],_=>none
 | q::L,D=>if q.1=D then some q.2.2 else JS L D
variable {enc:α→Value} {ks:KS}
theorem Yr (h : KeyOK enc ks) {D : α} : ∀ {L : List (K3 α)} {i : Nat},(∀ q ∈ L,q.1 ≠ D) → Zk ks (enc D) (L.map (qdN enc)) i = some none
 | [],_,_=>rfl
 | q::L,i,hn=>by
   have h1:=hn q (by simp)
   simp only [List.map_cons,Zk,qdN,h.eq]
   rw [decide_eq_false (Ne.symm h1)]
   exact Yr h fun r hr=>hn r (by simp [hr])
theorem Ys (h : KeyOK enc ks) {D : α} {q : K3 α} {B : List (K3 α)} (hq : q.1 = D) : ∀ {A : List (K3 α)} {i : Nat},(∀ r ∈ A,r.1 ≠ D) → Zk ks (enc D) ((A ++ q :: B).map (qdN enc)) i = some (some (i + A.length))
 | [],i,_=>by
   simp only [List.nil_append,List.map_cons,Zk,qdN,h.eq]
   rw [decide_eq_true hq.symm];rfl
 | r::A,i,hn=>by
   have h1:=hn r (by simp)
   simp only [List.cons_append,List.map_cons,Zk,qdN,h.eq]
   rw [decide_eq_false (Ne.symm h1)]
   have:=Ys h hq (B:=B) (A:=A) (i:=i+1) (fun r hr=>hn r (by simp [hr]))
   rw [this,List.length_cons]
   show some (some (i+1+A.length))=_
   rw [show i+1+A.length=i+(A.length+1) by omega]
theorem qhv (D : α) : ∀ (L : List (K3 α)), (∀ q ∈ L, q.1 ≠ D) ∨ ∃ A q B, L = A ++ q :: B ∧ q.1 = D ∧ ∀ r ∈ A, r.1 ≠ D
 | [] => .inl (by simp)
 | q::L=>by
   by_cases e:q.1=D
   · exact .inr ⟨[],q,L,rfl,e,by simp⟩
   · rcases qhv D L with h | ⟨A,r,B,h1,h2,h3⟩
     · exact .inl fun r hr => by
        rcases List.mem_cons.1 hr with rfl | hr
        · exact e
        · exact h r hr
     · refine .inr ⟨q :: A,r,B,by rw [h1]; rfl,h2,fun s hs => ?_⟩
       rcases List.mem_cons.1 hs with rfl | hs
       · exact e
       · exact h3 s hs
theorem jL {D : α} : ∀ {L : List (K3 α)},(∀ q ∈ L,q.1 ≠ D) → JS L D = none
 | [],_=>rfl
 | q::L,h=>by
   simp only [JS]
   rw [if_neg (h q (by simp))]
   exact jL (fun r hr=>h r (by simp [hr]))
theorem qjP {D : α} {q : K3 α} {B : List (K3 α)} (hq : q.1 = D) : ∀ {A : List (K3 α)},(∀ q ∈ A,q.1 ≠ D) → JS (A ++ q :: B) D = some q.2.2
 | [],_=>by simp only [List.nil_append,JS,if_pos hq]
 | r::A,h=>by
   simp only [List.cons_append,JS]
   rw [if_neg (h r (by simp))]
   exact qjP hq (fun r hr=>h r (by simp [hr]))
theorem QF {D : α} : ∀ {L : List (K3 α)},JS L D = none → ∀ q ∈ L,q.1 ≠ D
 | [],_,q,hq=>by cases hq
 | r::L, h, q, hq=>by
   simp only [JS] at h
   by_cases e:r.1=D
   · rw [if_pos e] at h;cases h
   · rw [if_neg e] at h
     rcases List.mem_cons.1 hq with rfl | hq
     · exact e
     · exact QF h q hq
theorem qaf {c : Nat} {v : Int} {E D : α} : ∀ {L : List (K3 α)},(∀ q ∈ L,q.1 ≠ E) → JS (L ++ [(E,c,v)]) D = if D = E then some v else JS L D
 | [],_=>by
   simp only [List.nil_append,JS]
   by_cases e:E=D
   · rw [if_pos e,if_pos e.symm]
   · rw [if_neg e,if_neg (Ne.symm e)]
 | r::A,h=>by
   simp only [List.cons_append,JS]
   have ih:=qaf (c:=c) (v:=v) (E:=E) (D:=D) (L:=A) (fun r hr=>h r (by simp [hr]))
   have h1:=h r (by simp)
   by_cases e:r.1=D
   · rw [if_pos e,if_pos e,if_neg (by rw [←e];exact h1)]
   · rw [if_neg e,if_neg e,ih]
theorem qhp {q : K3 α} {B : List (K3 α)} {c : Nat} {v : Int} {D : α} : ∀ {A : List (K3 α)},(∀ r ∈ A,r.1 ≠ q.1) → JS (A ++ (q.1,c,v) :: B) D = if D = q.1 then some v else JS (A ++ q :: B) D
 | [],_=>by
   simp only [List.nil_append,JS]
   by_cases e:q.1=D
   · rw [if_pos e,if_pos e.symm]
   · rw [if_neg e,if_neg (Ne.symm e),if_neg e]
 | r::A,h=>by
   simp only [List.cons_append,JS]
   have ih:=qhp (q:=q) (B:=B) (c:=c) (v:=v) (D:=D) (A:=A) (fun r hr=>h r (by simp [hr]))
   have h1:=h r (by simp)
   by_cases e:r.1=D
   · rw [if_pos e,if_pos e,if_neg (by rw [←e];exact h1)]
   · rw [if_neg e,if_neg e,ih]
theorem qho {q : K3 α} {B : List (K3 α)} {D : α} : ∀ {A : List (K3 α)},(A ++ q :: B).Pairwise (fun q r => q.1 ≠ r.1) → JS (A ++ B) D = if D = q.1 then none else JS (A ++ q :: B) D
 | [],hp=>by
   rw [List.nil_append,List.pairwise_cons] at hp
   simp only [List.nil_append,JS]
   by_cases e:q.1=D
   · rw [if_pos e.symm];exact jL fun r hr=>by rw [←e];exact (hp.1 r hr).symm
   · rw [if_neg (Ne.symm e),if_neg e]
 | r::A,hp=>by
   rw [List.cons_append,List.pairwise_cons] at hp
   have ih:=qho (D:=D) hp.2
   have h1:=hp.1 q (by simp)
   simp only [List.cons_append,JS]
   by_cases e:r.1=D
   · rw [if_pos e,if_pos e,if_neg (by rw [←e];exact h1)]
   · rw [if_neg e,if_neg e,ih]
section
variable {P:Program} {E:HE} {fr:List (Nat × AV)} {hp:List HObj} {F:Nat→AV} {os:List AOp} {KS:St→Prop} {K:AV→List (Nat × HObj)→Prop}
theorem qrQ {i:Nat} {o:HObj} (h:qr hp i=some o):hpf hp i=some o:=by rw [zh];exact h
theorem qj9 (h:KeyOK enc ks) (D:α):eqK ks (enc D) (enc D)=some true:=by rw [h.eq];simp
theorem qhw {A B:List (K3 α)} {q:K3 α}:((A++q::B).map (qdN enc))[A.length]?=some (qdN enc q):=by simp
theorem qmu {A B:List (K3 α)} {q:K3 α} {v:Int}:((A++q::B).map (qdN enc)).set A.length ((qdN enc q).1,(qdN enc q).2.1,I v)=(A++(q.1,q.2.1,v)::B).map (qdN enc):=by
 simp [List.set_append,qdN]
theorem qrX (h : KeyOK enc ks) {x : Nat} {D : α} {v : Int} {m ky vv : Opd} {L : List (K3 α)} {clk : Nat} (hm : evF F m = .mp x) (hk : (evF F ky).val = some (enc D)) (hv : evF F vv = I v) (ho : qr hp x = some (mpK enc L clk))
 (k1:∀ A q B,L=A++q::B→q.1=D→(∀ r∈A,r.1≠D)→K .any [(x,mpK enc (A++(q.1,q.2.1,v)::B) clk)])
 (k2:(∀ q∈L,q.1≠D)→K .any [(x,mpK enc (L++[(D,clk,v)]) (clk+1))]) :
 (AOp.ins ks m ky vv).wp P F hp K:=by
 rcases qhv D L with hn | ⟨A,q,B,rfl,h2,h3⟩
 · refine ⟨.any,_,?_,k2 hn⟩
   simp only [AOp.sem,hm,qrQ ho,mpK]
   exact ⟨enc D,hk,qj9 h D,(by first | rfl | trivial),.inr ⟨Yr h hn,by rw [hv];simp [qdN]⟩⟩
 · refine ⟨.any,_,?_,k1 A q B rfl h2 h3⟩
   simp only [AOp.sem,hm,qrQ ho,mpK]
   refine ⟨enc D,hk,qj9 h D,(by first | rfl | trivial),.inl ⟨A.length,qdN enc q,?_,qhw,?_⟩⟩
   · have := Ys h h2 (B := B) (i := 0) h3
     rw [Nat.zero_add] at this;exact this
   · rw [hv,qmu]
theorem qr6 (h : KeyOK enc ks) {d x : Nat} {D : α} {z : AV} {ok : Bool} {m ky : Opd} {L : List (K3 α)} {clk : Nat} (hm : evF F m = .mp x) (hk : (evF F ky).val = some (enc D)) (ho : qr hp x = some (mpK enc L clk))
 (k:K (match JS L D with | some v=>bif ok then .tup [I v,B true] else I v | none=>bif ok then .tup [z,B false] else z) []) :
 (AOp.lku d ks z ok m ky).wp P F hp K:=by
 refine ⟨_,[],?_,k⟩
 simp only [AOp.sem,hm,qrQ ho,mpK]
 refine ⟨enc D,hk,qj9 h D,(by first | rfl | trivial),?_⟩
 rcases qhv D L with hn | ⟨A,q,B,rfl,h2,h3⟩
 · exact .inr ⟨Yr h hn,by rw [jL hn]⟩
 · refine .inl ⟨A.length,qdN enc q,?_,qhw,?_⟩
   · have := Ys h h2 (B := B) (i := 0) h3
     rw [Nat.zero_add] at this;exact this
   · rw [qjP h2 h3];rfl
theorem qvI (h : KeyOK enc ks) {x : Nat} {D : α} {m ky : Opd} {L : List (K3 α)} {clk : Nat} (hm : evF F m = .mp x) (hk : (evF F ky).val = some (enc D)) (ho : qr hp x = some (mpK enc L clk))
 (k1:∀ A q B,L=A++q::B→q.1=D→(∀ r∈A,r.1≠D)→K .any [(x,mpK enc (A++B) clk)])
 (k2:(∀ q∈L,q.1≠D)→K .any []) :
 (AOp.del ks m ky).wp P F hp K:=by
 rcases qhv D L with hn | ⟨A,q,B,rfl,h2,h3⟩
 · refine ⟨.any,[],?_,k2 hn⟩
   simp only [AOp.sem,hm,qrQ ho,mpK]
   exact ⟨enc D,hk,qj9 h D,(by first | rfl | trivial),.inr ⟨Yr h hn,(by first | rfl | trivial)⟩⟩
 · refine ⟨.any,_,?_,k1 A q B rfl h2 h3⟩
   simp only [AOp.sem,hm,qrQ ho,mpK]
   refine ⟨enc D,hk,qj9 h D,(by first | rfl | trivial),.inl ⟨A.length,?_,?_⟩⟩
   · have := Ys h h2 (B := B) (i := 0) h3
     rw [Nat.zero_add] at this;exact this
   · have:((A++q::B).map (qdN enc)).eraseIdx A.length=(A++B).map (qdN enc):=by
      rw [List.map_append,List.map_cons,List.eraseIdx_append_of_length_le (by simp)]
      simp
     rw [this]
end
def Qa (s:List UInt8):Value := .string ⟨s.toArray⟩
theorem qoU:KeyOK Qa (false,[.str]):=⟨fun a b=>by
 have e:((⟨a.toArray⟩:ByteArray)==⟨b.toArray⟩)=decide (a=b):=by
  have e1:((⟨a.toArray⟩:ByteArray)==⟨b.toArray⟩)=(a.toArray==b.toArray):=rfl
  rw [e1]
  by_cases h:a=b
  · subst h;simp
  · rw [decide_eq_false h,beq_eq_false_iff_ne]
    intro e;exact h (by simpa using congrArg Array.toList e)
 simp [eqK,Qa,Zr,e]⟩
def qih (n:Int):Value := .int .i64 n
theorem qtn:KeyOK qih (false,[.int]):=⟨fun a b=>by
 simp only [eqK,qih,Zr]
 by_cases h:a=b
 · subst h;simp
 · simp [h]⟩
end Go.AM

namespace Go.AM
open Go.RowKit
def qlj (s:List UInt8) (lo hi:Int):Bool:=match Lib.parseIntB 64 s with
 | .ok v=>decide (lo≤v)&&(decide (v≤hi)&&decide (Lib.itoa v=s))
 | _=>false
theorem qb1 : ∀ (s : List UInt8) (acc : Nat),(s.all qfP) = true → qie acc s < 10000000000000 → Lib.parseUintM (2 ^ 64 - 1) acc s = .ok (qie acc s)
 | [],acc,_,_=>rfl
 | c::r,acc,hd,hl=>by
   rw [List.all_cons,Bool.and_eq_true] at hd
   have hc:=hd.1
   unfold qfP at hc
   simp only [Bool.and_eq_true,decide_eq_true_eq] at hc
   have hge:∀ (r:List UInt8) (a:Nat),a≤qie a r:=by
    intro r
    induction r with
    | nil=>intro a;exact Nat.le_refl _
    | cons x r ih=>intro a;rw [ZB];exact Nat.le_trans (by omega) (ih _)
   rw [ZB] at hl
   have:=hge r (acc*10+(c.toNat - 48))
   show (if 48≤c.toNat∧c.toNat≤57 then _ else _)=_
   rw [if_pos hc,if_neg (by omega),if_neg (by omega),ZB]
   exact qb1 r _ hd.2 hl
theorem qaD {s:List UInt8} (h:qnw s=true):Lib.parseIntB 64 s = .ok (Vp s:Int):=by
 obtain ⟨h1,h2,h3,h4⟩:=qfH h
 have hl:=qoi h
 cases s with
 | nil=>exact absurd rfl h1
 | cons c r =>
   have hc:=(by rw [List.all_cons,Bool.and_eq_true] at h2;exact h2.1:qfP c=true)
   unfold qfP at hc
   simp only [Bool.and_eq_true,decide_eq_true_eq] at hc
   have n1:¬ (c.toNat=43∨c.toNat=45):=by omega
   have n2:¬ c.toNat=45:=by omega
   have e:Lib.parseUintB 64 (c::r) = .ok (Vp (c::r)):=by
    unfold Lib.parseUintB
    rw [if_neg (by simp)]
    exact qb1 (c::r) 0 h2 hl
   unfold Lib.parseIntB
   have n3:¬ c.toNat=43:=by omega
   simp only [n2,n3,false_or,not_false_eq_true,true_and,false_and,if_false]
   rw [e]
   have e2:(2:Nat) ^ (64 - 1)=9223372036854775808:=by decide
   exact if_neg (by omega)
theorem qpe {s:List UInt8} {lo hi:Int} (h1:1≤lo) (h2:hi≤9999999999999):qlj s lo hi=qaA s lo hi:=by
 rw [Bool.eq_iff_iff]
 constructor
 · intro h
   unfold qlj at h
   cases hp:Lib.parseIntB 64 s with
   | ok v =>
     rw [hp] at h
     simp only [Bool.and_eq_true,decide_eq_true_eq] at h
     obtain ⟨a,b,c⟩:=h
     obtain ⟨n,rfl⟩:∃ n:Nat,v=n:=⟨v.toNat,by omega⟩
     have e:XZ n=s:=by
      rw [←c]
      unfold Lib.itoa
      rw [if_neg (by omega),Int.toNat_natCast]
     rw [←e]
     exact qe3 h1 a b h2
   | range=>rw [hp] at h;cases h
   | _=>rw [hp] at h;cases h
 · intro h
   unfold qaA at h
   simp only [Bool.and_eq_true,decide_eq_true_eq] at h
   unfold qlj
   rw [qaD h.1.1]
   simp only [Bool.and_eq_true,decide_eq_true_eq]
   refine ⟨h.1.2,h.2,?_⟩
   unfold Lib.itoa
   rw [if_neg (by omega),Int.toNat_natCast]
   exact qep h.1.1
end Go.AM

namespace Go.AM
open Go.RowKit
theorem qqc (c:UInt8):UInt8.ofNat ((c.toNat:Int)).toNat=c:=by
 rw [Int.toNat_natCast];exact UInt8.ofNat_toNat
theorem qg6 {a:List UInt8} {c:Int} (h:qbH a=some c):[UInt8.ofNat c.toNat]=a:=by
 unfold qbH at h
 split at h
 · split at h
   · cases h;rw [qqc]
   · cases h
 · cases h
theorem qgj {a:List UInt8} (h:QV a=true):a≠[]:=by
 rintro rfl;cases h
theorem qmJ {r:List UInt8} {lo hi:Int} (h:qaA r lo hi=true):XZ (max 0 (Vp r:Int)).toNat=r:=by
 unfold qaA at h
 simp only [Bool.and_eq_true,decide_eq_true_eq] at h
 rw [show (max 0 (Vp r:Int)).toNat=Vp r by omega]
 exact qep h.1.1
theorem qld {s:List UInt8} {w:Wd} (h:jW s=(w,true)):qje w=s:=by
 rcases qbL 42 s with ⟨a,h1,rfl,h3⟩ | ⟨a,r,h1,rfl,h3⟩
 · unfold jW at h
   rw [h3] at h
   simp only [Jz] at h
   cases ha:qbH s with
   | some c =>
     rw [ha] at h
     simp only [Prod.mk.injEq,and_true] at h
     subst h
     unfold qje
     simp only [if_true,List.append_nil]
     exact qg6 ha
   | none =>
     rw [ha] at h
     simp only [Prod.mk.injEq] at h
     obtain ⟨rfl,h⟩:=h
     unfold qje
     simp only [if_true,List.append_nil,if_neg (qgj h)]
 · unfold jW at h
   rw [h3] at h
   by_cases hn:qaA r 2 1000=true
   · simp only [Jz,hn,if_true] at h
     have hb:=qmJ hn
     have h2:¬ (Vp r:Int)=1:=by
      unfold qaA at hn
      simp only [Bool.and_eq_true,decide_eq_true_eq] at hn
      omega
     cases ha:qbH a with
     | some c =>
       rw [ha] at h
       simp only [Prod.mk.injEq,and_true] at h
       subst h
       unfold qje
       simp only [if_true,if_neg h2,hb]
       rw [qg6 ha]
     | none =>
       rw [ha] at h
       simp only [Prod.mk.injEq] at h
       obtain ⟨rfl,h⟩:=h
       unfold qje
       simp only [if_neg (qgj h),if_neg h2,hb]
   · have hn' : qaA r 2 1000 = false := by simpa using hn
     simp only [Jz,hn'] at h
     simp at h
theorem qi3 {w:Wd} (h:WdV w):jW (qje w)=(w,true):=by
 obtain ⟨a,nm,t⟩:=w
 obtain ⟨h1,h2⟩:=h
 simp only at h1 h2
 obtain ⟨base, hb, hne, hc⟩ : ∃ base : List UInt8, (if nm = [] then [UInt8.ofNat a.toNat] else nm) = base ∧ (∀ b ∈ base, b ≠ 42) ∧
  ∀ k,(match qbH base with | some c=>((c,[],k),true) | none=>((0,base,k),QV base):Wd × Bool)=((a,nm,k),true):=by
  refine ⟨_,rfl,?_⟩
  rcases h1 with ⟨rfl,h⟩ | ⟨rfl,h⟩
  · rw [if_pos rfl]
    unfold VY at h
    simp only [Bool.and_eq_true,decide_eq_true_eq] at h
    have e:(UInt8.ofNat a.toNat).toNat=a.toNat:=by rw [UInt8.toNat_ofNat'];omega
    have hl:YM (UInt8.ofNat a.toNat)=true:=by
     unfold YM;rw [e];simp only [Bool.and_eq_true,decide_eq_true_eq];omega
    refine ⟨fun b hb=>?_,fun k=>?_⟩
    · simp at hb; subst hb
      intro e2
      rw [e2] at e
      have:(42:UInt8).toNat=42:=rfl
      omega
    · have:qbH [UInt8.ofNat a.toNat]=some a:=by
       unfold qbH
       simp only [hl,if_true,e]
       congr 1;omega
      rw [this]
  · rw [if_neg (qgj h)]
    have hall:∀ b∈nm, 65≤b.toNat:=by
     cases nm with
     | nil=>cases h
     | cons c r =>
       unfold QV at h
       simp only [Bool.and_eq_true,decide_eq_true_eq,List.all_eq_true] at h
       intro b hb
       rcases List.mem_cons.1 hb with rfl | hb
       · exact h.1.2.1
       · have := h.2 b hb
         unfold YM at this
         simp only [Bool.and_eq_true,decide_eq_true_eq] at this
         omega
    refine ⟨fun b hb e=>?_,fun k=>?_⟩
    · have := hall b hb
      rw [e] at this
      exact absurd this (by decide)
    · have:qbH nm=none:=by
       cases nm with
       | nil=>cases h
       | cons c r =>
         cases r with
         | nil =>
           unfold QV at h
           simp only [Bool.and_eq_true,decide_eq_true_eq] at h
           unfold qbH YM
           simp only
           rw [if_neg (by simp only [Bool.and_eq_true,decide_eq_true_eq];omega)]
         | cons d r=>rfl
      rw [this,h]
 unfold qje jW
 simp only [hb]
 by_cases ht:t=1
 · subst ht
   simp only [if_true,List.append_nil]
   rw [qcx hne]
   exact hc 1
 · rw [if_neg ht,qcw hne]
   have hn:qaA (XZ (max 0 t).toNat) 2 1000=true:=by
    refine qe3 (by decide) ?_ ?_ (by decide) <;> omega
   simp only [Jz,hn,if_true,qeq]
   have e:((max 0 t).toNat:Int)=t:=by omega
   rw [e]
   exact hc t
def V6 (w:Wd):List UInt8:=(if w.2.1=[] then [UInt8.ofNat w.1.toNat] else w.2.1)++(if w.2.2=1 then [] else 42::Lib.itoa w.2.2)
def XM (w:Wd):Bool:=decide (jW (V6 w)=(w,true))
def XN (l:List Wd):List UInt8 × Bool:=if l.all XM then (l.flatMap fun w=>32::V6 w,true) else ([],false)
def qhd (l:Ln):List UInt8 :=
 if l.kind=1 then Zc++32::l.name++(XN l.words).1 else if l.kind=2 then qdE else if l.kind=3 then tDo++(XN l.words).1 else if l.kind=4 then qjd++32::Lib.itoa l.num
 else if l.kind=5 then qdD else if l.kind=6 then VW else []
def qee (l:Ln):Bool:=(XN l.words).2&&decide (ja (qhd l)=0)&&decide (zd (qhd l)=l)
theorem qhu {n:Int} (h:0≤n):Lib.itoa n=XZ (max 0 n).toNat:=by
 unfold Lib.itoa
 rw [if_neg (by omega),show (max 0 n).toNat=n.toNat by omega]
theorem qn7 {w:Wd} (h:WdV w):V6 w=qje w:=by
 unfold V6 qje
 have:=h.2
 rw [qhu (n:=w.2.2) (by omega)]
theorem qqR {w:Wd} (h:XM w=true):V6 w=qje w:=by
 unfold XM at h
 rw [decide_eq_true_eq] at h
 exact (qld h).symm
theorem qn9 {l:List Wd} (h:(XN l).2=true):(XN l).1=l.flatMap fun w=>32::qje w:=by
 unfold XN at h ⊢
 by_cases ha:l.all XM=true
 · rw [if_pos ha]
   rw [List.all_eq_true] at ha
   simp only
   rw [List.flatMap_def,List.flatMap_def]
   congr 1
   exact List.map_congr_left fun w hw=>by rw [qqR (ha w hw)]
 · rw [if_neg ha] at h;cases h
theorem qjp {l:Ln} (h:(XN l.words).2=true) (hk:1≤l.kind∧l.kind≤6) (hn:l.kind=4→0≤l.num):qhd l=qp1 l:=by
 have e:=qn9 h
 unfold qhd qp1
 by_cases k1:l.kind=1
 · rw [if_pos k1,if_neg (by omega),if_neg (by omega),if_neg (by omega),if_neg (by omega),if_pos k1,e]
 · rw [if_neg k1]
   by_cases k2:l.kind=2
   · rw [if_pos k2,if_pos k2]
   · rw [if_neg k2, if_neg k2]
     by_cases k3:l.kind=3
     · rw [if_pos k3,if_neg (by omega),if_neg (by omega),if_neg (by omega),if_neg (by omega),e]
     · rw [if_neg k3]
       by_cases k4:l.kind=4
       · rw [if_pos k4,if_neg (by omega),if_neg (by omega),if_pos k4,qhu (hn k4)]
       · rw [if_neg k4]
         by_cases k5:l.kind=5
         · rw [if_pos k5,if_pos k5]
         · rw [if_neg k5,if_neg k5,if_pos (by omega),if_pos (by omega)]
theorem qlG (l:Ln):qee l=Xh l∧(qee l=true→qhd l=qp1 l):=by
 have key:qee l=true→Xh l=true∧qhd l=qp1 l:=by
  intro h
  unfold qee at h
  simp only [Bool.and_eq_true,decide_eq_true_eq] at h
  obtain ⟨⟨h1,h2⟩,h3⟩:=h
  have V:=WA h2
  rw [h3] at V
  have e:=qjp h1 V.kind (fun k=>by have:=V.lay k;omega)
  refine ⟨?_,e⟩
  unfold Xh
  rw [←e,h2,h3]
  simp only [Bool.and_eq_true,decide_eq_true_eq,and_true]
  exact V.len
 refine ⟨?_,fun h=>(key h).2⟩
 rw [Bool.eq_iff_iff]
 refine ⟨fun h=>(key h).1,fun h=>?_⟩
 unfold Xh at h
 simp only [Bool.and_eq_true,decide_eq_true_eq] at h
 obtain ⟨⟨_,h2⟩,h3⟩:=h
 have V:=WA h2
 rw [h3] at V
 have h1:(XN l.words).2=true:=by
  unfold XN
  rw [if_pos]
  rw [List.all_eq_true]
  intro w hw
  have v:=V.words w hw
  unfold XM
  rw [decide_eq_true_eq,qn7 v]
  exact qi3 v
 have e:=qjp h1 V.kind (fun k=>by have:=V.lay k;omega)
 unfold qee
 rw [e,h1,h2,h3]
 simp
end Go.AM

namespace Go.AM
open Go.RowKit
def PlR (q:Pl):Prop:=∀ i (h:i<q.ds.length) (h':i<q.kept.length),(ja q.kept[i]=0∧(zd q.kept[i]).kind≤4)∧zi ((dy0::q.ds).getD i dy0) (zd q.kept[i])=(q.ds[i],0)
theorem PlR.zero:PlR pl0:=fun i h=>by simp [pl0] at h
theorem qeV {l:List Dy} {n i:Nat} (h:i≤n) (hn:n≤l.length):(dy0::l.take n).getD i dy0=(dy0::l).getD i dy0:=by
 cases i with
 | zero=>rfl
 | succ j =>
   rw [List.getD_eq_getElem?_getD,List.getD_eq_getElem?_getD,List.getElem?_cons_succ,List.getElem?_cons_succ,List.getElem?_take,if_pos (by omega)]
theorem qeW {l:List Dy} {d:Dy} {i:Nat} (h:i≤l.length):(dy0::(l++[d])).getD i dy0=(dy0::l).getD i dy0:=by
 cases i with
 | zero=>rfl
 | succ j=>rw [List.getD_eq_getElem?_getD,List.getD_eq_getElem?_getD,List.getElem?_cons_succ,List.getElem?_cons_succ,List.getElem?_append_left (by omega)]
theorem PlR.push {n:Nat} {q:Pl} {s:List UInt8} {d:Dy} {e:List Int} (h:PlR q) (hv:PlV n q) (h1:ja s=0) (h2:(zd s).kind≤4) (h3:zi (qX q) (zd s)=(d,0)):PlR ⟨q.ds.take q.at'++[d],q.kept.take q.at'++[s],q.at'+1,e⟩:=by
 have ha:=hv.at'
 have hk:=hv.kept
 have l1:(q.ds.take q.at').length=q.at':=by rw [List.length_take];omega
 have l2:(q.kept.take q.at').length=q.at':=by rw [List.length_take];omega
 intro i hi hi'
 simp only at hi hi' ⊢
 rw [qeW (by simp at hi;omega),qeV (by simp at hi;omega) ha]
 by_cases hc:i<q.at'
 · rw [List.getElem_append_left (by omega),List.getElem_append_left (by omega),List.getElem_take,List.getElem_take]
   exact h i (by omega) (by omega)
 · have e1 : i = q.at' := by simp at hi; omega
   subst e1
   rw [List.getElem_append_right (by omega),List.getElem_append_right (by omega)]
   simp only [l1,l2,Nat.sub_self,List.getElem_cons_zero]
   exact ⟨⟨h1,h2⟩,h3⟩
theorem PlR.step {n:Nat} {q:Pl} {s:List UInt8} (h:PlR q) (hv:PlV n q):PlR (Qk q s):=by
 unfold Qk
 by_cases c1:ja s=0
 case neg=>rw [if_pos c1];exact h
 rw [if_neg (by simpa using c1)]
 split
 · exact h
 · split
   · exact h
   · split
     · exact h
     · rename_i c3 c4
       split
       · rename_i c5
         have V:=(WA c1).kind
         exact h.push hv c1 (by omega) (Prod.ext rfl c5)
       · exact h
theorem qpo {l:List (List UInt8)} (hl:l.length≤400):∀ i,i≤l.length→PlR (jP (l.take i)):=by
 intro i
 induction i with
 | zero=>intro _;exact .zero
 | succ i ih=>intro h;rw [Yx (by omega)];exact (ih (by omega)).step (qdf hl i (by omega))
end Go.AM

namespace Go.AM
open Go.RowKit
section
variable {P:Program} {E:HE} {w1:World} {g1:G}
def qa4 (P:Program) (w1:World) (g1:G) (ac:AC) (st:St) (Q:Exit→St→Prop):Prop :=
 ∀ (N : Nat) (c : Go.Code) (a : Act) (w : World) (g : G) (R : Exit → Act → World → Prop) (ro : Option Nat) (n : Nat),
   qdM P N c ac→(ro=none∨ac.noRf=true)→Trans w1 g1 w g→Sim N st a w g→qjj N st a w g Q R→c.wpIn (W ro) n P R a w
theorem ZA (hY:YS P E w1 g1) (hR:RS P E) {ac:AC} {st:St} {Q:Exit→St→Prop} (h:AWP P E ac st Q):qa4 P w1 g1 ac st Q:=fun N c a w g R ro n hf hr ht hs hl=>Qq hY hR hf hr h ht hs hl
theorem ZW {x y:AC} {st:St} {Q:Exit→St→Prop} (h:qa4 P w1 g1 x st (Exit.th (fun st=>qa4 P w1 g1 y st Q) Q)):qa4 P w1 g1 (.seq x y) st Q:=fun N c a w g R ro n hf hr ht hs hl=>by
 cases c <;> first | exact hf.elim | skip
 rename_i c1 c2
 have hr1:ro=none∨x.noRf=true:=hr.imp (fun h=>h) (fun h=>by simp [AC.noRf] at h;exact h.1)
 have hr2:ro=none∨y.noRf=true:=hr.imp (fun h=>h) (fun h=>by simp [AC.noRf] at h;exact h.2)
 refine wpIn_seq (h _ _ _ _ _ _ _ _ hf.1 hr1 ht hs fun e st' a' w' g' hq hs' hu hd=>?_)
 cases e with
 | normal=>exact hq _ _ _ _ _ _ _ _ hf.2 hr2 (ht.trans hu.tr) hs' (fun e st2 a2 w2 g2 q2 s2 u2 d2=>hl e st2 a2 w2 g2 q2 s2 (hu.trans u2) (hd.trans hu.tr.size u2 d2))
 | _=>exact hl _ _ _ _ _ hq hs' hu hd
theorem jC {id:Nat} {x:AC} {st:St} {Q:Exit→St→Prop} (h:qa4 P w1 g1 x st (Exit.blk id Q)):qa4 P w1 g1 (.block id x) st Q:=fun N c a w g R ro n hf hr ht hs hl=>by
 cases c <;> first | exact hf.elim | skip
 obtain ⟨rfl,hf⟩:=hf
 refine wpIn_block (h _ _ _ _ _ _ _ _ hf hr ht hs fun e st' a' w' g' hq hs' hu hd=>?_)
 cases e with
 | exit id' =>
   simp only [Exit.blk] at hq
   simp only [Exit.inBlock]
   split
   · rename_i e;rw [if_pos e] at hq;exact hl _ _ _ _ _ hq hs' hu hd
   · rename_i e;rw [if_neg e] at hq;exact hl _ _ _ _ _ hq hs' hu hd
 | _=>exact hl _ _ _ _ _ hq hs' hu hd
theorem XI {d:Opd} {x y:AC} {st:St} {Q:Exit→St→Prop} {t:Bool} (ht:evF (get st.fr) d = .v (.bool t)) (h1:t=true→qa4 P w1 g1 x st Q) (h2:t=false→qa4 P w1 g1 y st Q):qa4 P w1 g1 (.cond d x y) st Q:=fun N c a w g R ro n hf hr htr hs hl=>by
 cases c <;> first | exact hf.elim | skip
 rename_i d' c1 c2
 have hr1:ro=none∨x.noRf=true:=hr.imp (fun h=>h) (fun h=>by simp [AC.noRf] at h;exact h.1)
 have hr2:ro=none∨y.noRf=true:=hr.imp (fun h=>h) (fun h=>by simp [AC.noRf] at h;exact h.2)
 obtain ⟨hd,e1,e2⟩:=hf
 have:=qF hs.2.1 hd
 rw [ht] at this
 have hv:a.eval d' = .bool t:=QR this
 exact wpIn_cond_split hv (fun e=>h1 e _ _ _ _ _ _ _ _ e1 hr1 htr hs hl) (fun e=>h2 e _ _ _ _ _ _ _ _ e2 hr2 htr hs hl)
theorem XJ {α:Type} {x:AC} {st:St} {Q:Exit→St→Prop} (I:α→St) (C:α→Prop) (μ:α→Nat) (a0:α) (h0:C a0) (hle:St.le st (I a0)) (hround:∀ b,C b→qa4 P w1 g1 x (I b) (Exit.th (Next I C μ b) Q)):qa4 P w1 g1 (.loop x) st Q:=fun N c a w g R ro n hf hr ht hs hl=>by
 cases c <;> first | exact hf.elim | skip
 rename_i c
 have hf:qdM P N c x:=hf
 obtain ⟨g2,hs1,hu1⟩:=hle N a w g hs
 let Inv:Nat→Act→World→Prop:=fun m a' w'=>∃ b g',C b∧μ b=m∧Sim N (I b) a' w' g'∧Upd (hpf st.hp) g w (hpf (I b).hp) g' w'∧DStep w a (hpf (I b).hp) g' w' a'
 have loop : ∀ (m : Nat) (a' : Act) (w' : World),Inv m a' w' → (Code.loop c).wpIn (W ro) n P R a' w' := fun m => by
  intro a' w' hI
  refine wpIn_loop_ghost Inv m hI ?_
  intro m a' w' ⟨b,g',hb,hm,hs',hu',hd'⟩
  refine hround b hb _ _ _ _ _ _ _ _ hf hr (ht.trans hu'.tr) hs' fun e st2 a2 w2 g2 q2 s2 u2 d2=>?_
  cases e with
  | normal =>
    obtain ⟨b',hb',hlt,hle'⟩:=q2
    obtain ⟨g3,hs3,hu3⟩:=hle' N a2 w2 g2 s2
    exact ⟨μ b',by omega,b',g3,hb',rfl,hs3,(hu'.trans u2).trans hu3,(hd'.trans hu'.tr.size u2 d2).keep hu3⟩
  | _=>exact hl _ _ _ _ _ q2 s2 (hu'.trans u2) (hd'.trans hu'.tr.size u2 d2)
 exact loop (μ a0) a w ⟨a0,g2,h0,rfl,hs1,hu1,.nil rfl⟩
theorem Qg (hY:YS P E w1 g1) (hR:RS P E) {x y:AC} {st:St} {Q:Exit→St→Prop} (h:AWP P E x st (Exit.th (fun st=>qa4 P w1 g1 y st Q) Q)):qa4 P w1 g1 (.seq x y) st Q:=ZW (ZA hY hR h)
theorem Yk {f : FuncId} {fn : Func} {ac : AC} {ts : List Nat} {xs : List AV} {hp : List HObj} {K : AV → List HObj → Prop} (hf : P.funcs[f]? = some fn) (hc : qo P fn ts = some ac) (hr : JN fn.results.toList = some ts)
 (hl:xs.length≤fn.ntmps) (h:qa4 P w1 g1 ac { fr:=YJ 0 xs,hp:=hp } (qfA ts K)):Vq P w1 g1 f xs hp K:=by
 simp only [qo,Option.map_eq_some_iff] at hc
 obtain ⟨c,hb,rfl⟩:=hc
 have hfit:=QZ (P:=P) (N:=fn.ntmps) (rt:=ts) (ex:=[]) (l:=ts) (Qz c)
 have hr:=QA (P:=P) hr
 rw [←qaQ] at h
 intro ro n w g vs hok htr hvs hrep
 have go : CallsIn (W none) n P f vs w fun e w' => ∃ v r hp' g', e = .returned v ∧ K r hp' ∧ Rep w' g' false r v ∧ HeapOK (hpf hp') g' w' ∧ Upd (hpf hp) g w (hpf hp') g' w' := by
  refine callsIn_of_wp_marks hf hb trivial (h _ _ _ _ g _ _ _ hfit (.inl rfl) htr ?_ ?_) rfl
  · refine ⟨by simp [hvs]; omega,fun t => ?_,hok⟩
    show Rep w g false (get (YJ 0 xs) t) _
    rw [VA]
    simp only [Nat.zero_le,if_true,Nat.sub_zero]
    by_cases ht:t<xs.length
    · have e1 : xs.getD t .any = xs[t] := by simp [ht]
      rw [e1]
      have:=hrep t ht
      simp only [Array.getD_eq_getD_getElem?] at this ⊢
      rw [Array.getElem?_append_left (by omega)]
      exact this
    · have e1 : xs.getD t .any = .any := by simp [Nat.le_of_not_lt ht]
      rw [e1];exact .any _ _
  · intro e st' a' w' g' hq hs hu hd
    obtain ⟨ms,d1,d2,d3⟩:=hd
    simp only [List.append_nil] at d1
    have fin : (∃ xs,qhO (hpf st'.hp) st'.fr (ts.map (·,none)) xs ∧ K (qfs xs) st'.hp) → LeavesInM (W none) n P fn a'.tmps (fun e w' => ∃ v r hp' g',e = .returned v ∧ K r hp' ∧ Rep w' g' false r v ∧ HeapOK (hpf hp') g' w' ∧ Upd (hpf hp) g w (hpf hp') g' w') a'.defers .returning w' := fun ⟨ys,hy,hK⟩ => by
     rw [d1]
     obtain ⟨k1,k2,k3⟩:=YE ms w' d2 d3 hs.2.2 hu
     refine Ja ms w' d2 (fun D hD=>(d3 D hD).2.1) ?_
     obtain ⟨v,j1,j2⟩:=Yh (P:=P) k1 (fun i=>(hs.2.1 i).mono k3) hr hy
     exact ⟨v,j1,v,_,_,g',rfl,hK,j2,k1,k2⟩
    cases e with
    | normal=>exact fin hq
    | ret=>exact fin hq
    | _=>exact hq.elim
 exact go
theorem qjr {f:FuncId} {xs:List AV} {hp:List HObj} {K:AV→List HObj→Prop} (h:∀ w1 g1,Vq P w1 g1 f xs hp K):zG P f xs hp K:=fun ro n w g vs a b c=>h w g ro n w g vs a (.refl _ _) b c
theorem V7 {f:FuncId} {xs:List AV} {hp:List HObj} {K K':AV→List HObj→Prop} (hk:∀ r H,K r H→K' r H) (h:Vq P w1 g1 f xs hp K):Vq P w1 g1 f xs hp K':=fun ro n w g vs a t b c =>
 (h ro n w g vs a t b c).mono fun e w' ⟨v,r,hp',g',e1,e2,e3⟩=>⟨v,r,hp',g',e1,hk _ _ e2,e3⟩
theorem jH {f:FuncId} {xs:List AV} {hp:List HObj} {K K':AV→List HObj→Prop} (hk:∀ r H,K r H→K' r H) (h:zG P f xs hp K):zG P f xs hp K':=fun ro n w g vs a b c =>
 (h ro n w g vs a b c).mono fun e w' ⟨v,r,hp',g',e1,e2,e3⟩=>⟨v,r,hp',g',e1,hk _ _ e2,e3⟩
def qa5 (P:Program) (E:HE) (w1:World) (g1:G) (o:AOp) (st:St) (K:St→Prop):Prop:=match o with
 | .call d f args=>Vq P w1 g1 f (args.map (evF (get st.fr))) st.hp fun r hp'=>K { fr:=(d,r)::st.fr,hp:=hp' }
 | o=>aop P E o st K
theorem XP {N n : Nat} {ro : Option Nat} {o : Oper} {ao : AOp} (hc : jn P N o = some ao) {st : St} {K : St → Prop} (h : qa5 P E w1 g1 ao st K) {a : Act} {w : World} {g : G} (hY : YS P E w1 g1) (hg1 : Trans w1 g1 w g) (hs : Sim N st a w g)
 {next:Act→World→Prop} {Q:Exit→Act→World→Prop} (hn:qqF N st a w g K next):o.wpIn (W ro) n P a w next Q:=by
 cases ao with
 | call d f qs =>
   obtain ⟨args,ats,ho,hd,hlt,hf,hq⟩:=qeo hc
   obtain ⟨l1,l2⟩:=Jb hq
   refine ⟨fun _ _=>trivial,?_⟩
   rw [Oper.semAt_eq _ _ _ (by rw [ho];simp)]
   have hrun:(execOp a.eval o).run P w = .ok (.enter f (args.map a.eval)) w:=by
    simp [execOp,ho,resolve,Act.eval,Deferred.ofValue,invoke,jg hf]
   rw [hrun]
   refine ⟨fun h=>by simp [Fence.wide] at h,?_⟩
   refine (h ro (n - 1) w g (args.map a.eval) hs.2.2 hg1 (by simp [l1]) (fun i hi=>?_)).mono ?_
   · simp at hi
     have:=qF hs.2.1 (l2 i (by omega) hi)
     simpa [show i<args.size by simp at l1;omega] using this
   · rintro e w' ⟨v,r,hp',g',rfl,hK,hr,hok,hu⟩
     refine hn _ _ w' g' hK ?_ hu (Qr _ _ _)
     have:=hs.step (d:=some d) (fun k e=>by cases e;exact hlt) hu hr hok
     rw [hd];exact this
 | _=>exact Vy hc h hY hg1 hs hn
theorem qlB (hY : YS P E w1 g1) {os : List AOp} {d : Nat} {f : FuncId} {args : List Opd} {ks : List Nat} {st : St} {Q : Exit → St → Prop}
 (h:Ze P E os st fun st1=>Vq P w1 g1 f (args.map (evF (get st1.fr))) st1.hp fun r hp'=>Q .normal (St.keep { fr:=(d,r)::st1.fr,hp:=hp' } ks)):qa4 P w1 g1 (.rgn [⟨none,os++[.call d f args]⟩] ks) st Q:=by
 intro N c a w g R ro n hf hr ht hs hl
 cases c <;> first | exact hf.elim | skip
 rename_i id ops dd
 obtain ⟨rfl,cl,hc,hg⟩:=hf
 have hcl : cl = (os ++ [AOp.call d f args]).map fun o => ((none : Option (Nat × Bool)),o) := by
  have fg : ∀ l : List (Option (Nat × Bool) × AOp), ((grp l).flatMap fun g => g.ops.map fun o => (g.guard, o)) = l := fun l => by
   induction l with
   | nil=>rfl
   | cons x l ih =>
     obtain ⟨g,o⟩:=x
     simp only [grp]
     split
     · rename_i g' os' gs hg'
       rw [hg'] at ih
       split
       · rename_i hcc
         obtain ⟨rfl,_⟩:=hcc
         simp only [List.flatMap_cons,List.map_cons,List.cons_append] at ih ⊢
         rw [ih]
       · simp only [List.flatMap_cons,List.map_cons,List.map_nil,List.cons_append,List.nil_append] at ih ⊢
         rw [ih]
     · rename_i hg'
       rw [hg'] at ih
       simp only [List.flatMap_cons,List.flatMap_nil,List.map_cons,List.map_nil,List.cons_append,List.nil_append] at ih ⊢
       rw [←ih]
  rw [←fg cl,←hg]
  simp
 refine wpIn_region ?_
 rw [List.range_eq_range']
 have key : ∀ (os : List AOp) (k : Nat) (l : List Oper) (st : St) (a : Act) (w : World) (g : G) (Q' : Exit → Act → World → Prop), (∀ j, l[j]? = ops[k + j]?) → QP P N ops l = some ((os ++ [AOp.call d f args]).map fun o => ((none : Option (Nat × Bool)), o)) →
  (Ze P E os st fun st1=>Vq P w1 g1 f (args.map (evF (get st1.fr))) st1.hp fun r hp'=>Q .normal (St.keep { fr:=(d,r)::st1.fr,hp:=hp' } ks))→Trans w1 g1 w g→Sim N st a w g →
  qqF N st a w g (fun st'=>Q .normal (st'.keep ks)) (Q' .normal)→wpOpsIn (W ro) n P ops Q' (List.range' k l.length) a w:=by
  intro os
  induction os with
  | nil =>
    intro k l st a w g Q' hl' hc h ht hs hn
    cases l with
    | nil=>simp [QP] at hc
    | cons o l =>
      simp only [QP] at hc
      split at hc
      · rename_i ao gd cl' h1 h2 h3
        simp only [List.nil_append,List.map_cons,List.map_nil,Option.some.injEq,List.cons.injEq,Prod.mk.injEq] at hc
        obtain ⟨⟨rfl,rfl⟩,rfl⟩:=hc
        have hln:l=[]:=by
         cases l with
         | nil=>rfl
         | cons o2 l2=>simp only [QP] at h3;split at h3 <;> cases h3
        subst hln
        have ho:ops[k]?=some o:=by have:=hl' 0;simpa using this.symm
        simp only [List.length_cons,List.length_nil,List.range'_succ,wpOpsIn,ho,List.range'_zero]
        rw [Zx h2]
        simp only [Zg,if_true]
        exact XP (E:=E) (K:=fun st'=>Q .normal (st'.keep ks)) h1 h hY ht hs hn
      · cases hc
  | cons o1 os ih =>
    intro k l st a w g Q' hl' hc h ht hs hn
    cases l with
    | nil=>simp [QP] at hc
    | cons o l =>
      simp only [QP] at hc
      split at hc
      · rename_i ao gd cl' h1 h2 h3
        simp only [List.cons_append,List.map_cons,Option.some.injEq,List.cons.injEq,Prod.mk.injEq] at hc
        obtain ⟨⟨rfl,rfl⟩,rfl⟩:=hc
        have ho:ops[k]?=some o:=by have:=hl' 0;simpa using this.symm
        have hl2:∀ j,l[j]?=ops[k+1+j]?:=fun j=>by have:=hl' (j+1);simpa [Nat.add_assoc,Nat.add_comm 1 j] using this
        simp only [List.length_cons,List.range'_succ,wpOpsIn,ho]
        rw [Zx h2]
        simp only [Zg,if_true]
        refine Vy h1 h hY ht hs fun st' a' w' g' hK hs' hu hd=>?_
        exact ih (k+1) l st' a' w' g' Q' hl2 h3 hK (ht.trans hu.tr) hs' fun st2 a2 w2 g2 k2 s2 u2 e2=>hn st2 a2 w2 g2 k2 s2 (hu.trans u2) (e2.trans hd)
      · cases hc
 have:=key os 0 ops.toList st a w g R (by simp) (by rw [hc,hcl]) h ht hs (fun st' a' w' g' hK hs' hu hd=>hl _ _ a' w' g' hK (hs'.keep ks) hu (.nil hd))
 simpa using this
end
def Xg (X:Nat→Bool) (i:Nat):Nat→Bool:=fun j=>if j=i then true else X j
section
variable {P:Program} {n:Nat} {ro:Option Nat} {ops:Array Oper} {pre:List (List Nat)}
theorem qn4 {Q : Exit → Act → World → Prop}
 (ed:∀ k (hk:k<ops.size),∀ e∈ops[k].after,Region.binds .any e=true→e.on<k)
 (ed2:∀ k (hk:k<ops.size),∀ j∈pre.getD k [],∃ e∈ops[k].after,Region.binds .any e=true∧(e.on=j∨j∈pre.getD e.on []))
 {Inv:(Nat→Bool)→Act→World→Prop}
 (hI:∀ X i a w (next:Act→World→Prop),Clo pre ops X→i<ops.size→X i=false→(∀ j∈pre.getD i [],X j=true)→Inv X a w→(∀ a' w',Inv (Xg X i) a' w'→next a' w')→wpOpIn (W ro) n P ops Q i next a w)
 (hQ:∀ X a w,(∀ i,i<ops.size→X i=true)→Inv X a w→Q .normal a w) :
 ∀ (fuel:Nat) (listed:Array Bool) (a:Act) (w:World),listed.size=ops.size→Clo pre ops (lst listed)→unl (lst listed) ops.size≤fuel→Inv (lst listed) a w→wpAnyIn (W ro) n P .any ops Q fuel listed a w:=by
 intro fuel
 induction fuel with
 | zero =>
   intro listed a w hl hX hfu hi
   have h:=qdI (X:=lst listed) (n:=ops.size) (by omega)
   exact ⟨qb8 h,hQ _ a w h hi⟩
 | succ fuel ih =>
   intro listed a w hl hX hfu hinv
   refine ⟨fun h=>hQ _ a w (qfd hl ed h) hinv,fun i hi=>?_⟩
   obtain ⟨hlt,hx,he⟩:=qb9 hi
   have hget : ∀ j,j < ops.size → (listed.getD j false = true) → lst listed j = true := fun j hj h => by
    have:j<listed.size:=by omega
    simpa [lst,this] using h
   have hr : ∀ j ∈ pre.getD i [],lst listed j = true := fun j hj => by
    obtain ⟨e,hm,hb,h⟩:=ed2 i hlt j hj
    have hon:=ed i hlt e hm hb
    have hL:=hget e.on (by omega) (he e hm hb)
    rcases h with h | h
    · rw [←h];exact hL
    · exact hX e.on (by omega) hL j h
   have hi':i<listed.size:=by omega
   have hy:lst (listed.setIfInBounds i true) i=true:=by simp [lst,hi']
   have hj : ∀ j,j ≠ i → lst (listed.setIfInBounds i true) j = lst listed j := fun j hne => by
    simp only [lst,Array.getD_eq_getD_getElem?]
    rw [Array.getElem?_setIfInBounds_ne (Ne.symm hne)]
   have hup:Xg (lst listed) i=lst (listed.setIfInBounds i true):=by
    funext j
    simp only [Xg]
    by_cases e:j=i
    · subst e;rw [if_pos rfl,hy]
    · rw [if_neg e,hj j e]
   refine hI (lst listed) i a w _ hX hlt hx hr hinv fun a' w' hv=>?_
   rw [hup] at hv
   refine ih _ a' w' (by simpa using hl) (fun k hk hk1 j hjm=>?_) ?_ hv
   · by_cases e : j = i
     · subst e;exact hy
     · rw [hj j e]
       by_cases e':k=i
       · subst e';exact hr j hjm
       · rw [hj k e'] at hk1;exact hX k hk hk1 j hjm
   · have := qgK hx hy hj ops.size hlt
     omega
end
end Go.AM
