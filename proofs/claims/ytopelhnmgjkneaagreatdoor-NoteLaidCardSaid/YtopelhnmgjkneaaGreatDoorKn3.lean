/-
  Kn3: texts joined: Am17d Am18 Sl1 Gn1 St1 Gn2 Gn3 Nw1 Nt1 Nt2 Nt3 Nt4 Nt5 Nt6 Nt7 Nt8 Nt9 Nt10 Nt11 Nt15 Nt16 Mk1 Nt22 Nt23 Nt24 Px1. Own work.
-/
import Derived.Test.YtopelhnmgjkneaaGreatDoorKn2
import Derived.ChangeKeysEq
import Derived.Laws.StructEq
import Derived.Laws.Strings
import Derived.Lib.ItoaNum
import Derived.Lib.ParseIntB
set_option linter.all false
set_option linter.unusedSimpArgs false
set_option linter.unusedVariables false
set_option linter.unusedSectionVars false

namespace Go.AM
open Go.RowKit
section
variable {P:Program} {E:HE} {N:Nat} {ro:Option Nat} {n:Nat}
def YK : Nat → List AV → List (Nat × AV)
 | _,[]=>[]
 | k,x::xs=>(k,x)::YK (k+1) xs
theorem VB : ∀ (xs : List AV) (k t : Nat),get (YK k xs) t = if k ≤ t then xs.getD (t - k) .any else .any
 | [],k,t=>by simp [YK,get]
 | x::xs, k, t=>by
   simp only [YK,get]
   split
   · rename_i e;subst e;simp
   · rename_i e
     rw [VB xs (k+1) t]
     by_cases h:k+1≤t
     · rw [if_pos h,if_pos (by omega)]
       obtain ⟨d,rfl⟩:∃ d,t=k+1+d:=⟨t - (k+1),by omega⟩
       rw [show k+1+d - (k+1)=d by omega,show k+1+d - k=d+1 by omega]
       rfl
     · rw [if_neg h,if_neg (by omega)]
def JO : List ResultVar → Option (List Nat)
 | []=>some []
 | .tmp t::r=>(JO r).map (t::·)
 | _=>none
def qiP (ts:List Nat) (fr:List (Nat × AV)):AV:=match ts with
 | [t]=>get fr t
 | _ => .tup (ts.map (get fr))
abbrev RC:=List (Nat × Option (Bool × Nat))
def ZR (P : Program) : List ResultVar → Option RC
 | []=>some []
 | .tmp t::r=>(ZR P r).map ((t,none)::·)
 | .cell a t::r=>match zC P t,ZR P r with
   | some i,some l=>some ((a,some i)::l)
   | _,_=>none
def qhP (hp : Hp) (fr : List (Nat × AV)) : RC → List AV → Prop
 | [],[]=>True
 | (t,none)::r,x::xs=>x=get fr t∧qhP hp fr r xs
 | (a,some (agg,sz))::r,x::xs=>WH hp x [] agg sz (get fr a)∧qhP hp fr r xs
 | _,_=>False
def qft : List AV → AV
 | [x]=>x
 | xs => .tup xs
theorem qdu {hp g w} (hok : HeapOK hp g w) {fr : List (Nat × AV)} {a : Act} (hF : FrOK w g (get fr) a) : ∀ {rs : List ResultVar} {rc : RC} {xs : List AV} (f : ResultVar → Sem Value),
 (∀ t,f (.tmp t)=pure (a.tmps.getD t undef))→(∀ b t,f (.cell b t)=(do loadVar t (←asAddr (a.tmps.getD b undef))))→ZR P rs=some rc→qhP hp fr rc xs →
 ∃ vs:List Value,(rs.mapM f).run P w = .ok vs w∧vs.length=xs.length∧∀ i (h:i<xs.length),Rep w g false xs[i] (vs.getD i undef)
 | [],rc,xs,f,h1,h2,h,hx=>by
   simp [ZR] at h;subst h
   cases xs with
   | nil=>exact ⟨[],rfl,rfl,fun i hi=>by simp at hi⟩
   | cons _ _=>exact hx.elim
 | .tmp t::rs,rc,xs,f,h1,h2,h,hx=>by
   simp only [ZR,Option.map_eq_some_iff] at h
   obtain ⟨l,h',rfl⟩:=h
   cases xs with
   | nil=>exact hx.elim
   | cons x xs =>
     obtain ⟨rfl,hx⟩:=hx
     obtain ⟨vs,k1,k2,k3⟩:=qdu hok hF f h1 h2 h' hx
     refine ⟨a.tmps.getD t undef::vs,?_,by simp [k2],fun i hi=>?_⟩
     · rw [List.mapM_cons,h1]
       simp only [Sem.run_bind,Sem.run_pure,Result.andThen_ok,k1]
     · cases i with
       | zero=>exact hF t
       | succ i=>simpa using k3 i (by simpa using hi)
 | .cell b t::rs, rc, xs, f, h1, h2, h, hx=>by
   simp only [ZR] at h
   split at h
   · rename_i i l hi hl
     cases h
     obtain ⟨agg,sz⟩:=i
     cases xs with
     | nil=>exact hx.elim
     | cons x xs =>
       obtain ⟨hld,hx⟩:=hx
       obtain ⟨vs,k1,k2,k3⟩:=qdu hok hF f h1 h2 hl hx
       have e1:=hF b
       have main:∃ v, ((do loadVar t (←asAddr (a.tmps.getD b undef)):Sem Value)).run P w = .ok v w∧Rep w g false x v:=by
        simp only [WH] at hld
        split at hld
        · rename_i cs off hu
          rw [hu] at e1
          obtain ⟨c,q,hv,hrow⟩:=WF e1
          obtain ⟨v,j1,j2⟩:=JP hi hrow hld.2
          exact ⟨v,by rw [hv];simp [asAddr,j1],j2⟩
        · rename_i id off hu
          split at hld
          · rename_i cs hid
            rw [hu] at e1
            obtain ⟨c,q,hv,hrow,_⟩:=WG e1 hok hid
            obtain ⟨v,j1,j2⟩:=JP hi hrow hld.2
            exact ⟨v,by rw [hv];simp [asAddr,j1],j2⟩
          · exact hld.elim
        · exact hld.elim
       obtain ⟨v,m1,m2⟩:=main
       refine ⟨v::vs,?_,by simp [k2],fun i hi=>?_⟩
       · rw [List.mapM_cons,h2]
         simp only [Sem.run_bind,Result.andThen_ok] at m1 ⊢
         rw [m1]
         simp only [Result.andThen_ok,k1,Sem.run_pure]
       · cases i with
         | zero=>exact m2
         | succ i=>simpa using k3 i (by simpa using hi)
   · cases h
theorem Yi {hp g w} (hok : HeapOK hp g w) {fr : List (Nat × AV)} {a : Act} (hF : FrOK w g (get fr) a) {fn : Func} {rc : RC} {xs : List AV} (h : ZR P fn.results.toList = some rc) (hx : qhP hp fr rc xs) :
 ∃ v,(results fn a.tmps).run P w = .ok v w∧Rep w g false (qft xs) v:=by
 simp only [results]
 rw [Array.mapM_eq_mapM_toList]
 simp only [Sem.run_bind,Sem.run_pure,map_eq_pure_bind]
 obtain ⟨vs,k1,k2,k3⟩:=qdu hok hF (fun x=>match x with | .tmp t=>pure (a.tmps.getD t undef) | .cell b t=>do loadVar t (←asAddr (a.tmps.getD b undef))) (fun _=>rfl) (fun _ _=>rfl) h hx
 have gen : xs.length ≠ 1 → ∃ v,(Result.ok (if h : vs.toArray.size = 1 then vs.toArray[0] else Value.tuple vs.toArray) w : Result Value) = .ok v w ∧ Rep w g false (.tup xs) v := fun hne => by
  refine ⟨.tuple vs.toArray,?_,.tup _ _ _ k2 k3⟩
  have:¬ vs.toArray.size=1:=by simp;omega
  rw [dif_neg this]
 have key:∃ v,(Result.ok (if h:vs.toArray.size=1 then vs.toArray[0] else Value.tuple vs.toArray) w:Result Value) = .ok v w∧Rep w g false (qft xs) v:=by
  match xs,k2,k3,gen with
  | [],k2,k3,gen=>exact gen (by simp)
  | [x], k2, k3, _ =>
    obtain ⟨v,rfl⟩:∃ v,vs=[v]:=by
     cases vs with
     | nil=>simp at k2
     | cons v vs=>cases vs with
       | nil=>exact ⟨v,rfl⟩
       | cons _ _=>simp at k2
    exact ⟨v,by simp,k3 0 (by simp)⟩
  | x::y::xs,k2,k3,gen=>exact gen (by simp)
 obtain ⟨v,h1,h2⟩:=key
 refine ⟨v,?_,h2⟩
 refine (congrArg (fun r=>Result.andThen (Result.andThen r (fun a w'=>Result.ok a.toArray w')) (fun (a:Array Value) w'=>Result.ok (if h:a.size=1 then a[0] else Value.tuple a) w')) k1).trans ?_
 simp only [Result.andThen_ok,Sem.run_pure]
 exact h1
def qh5 (rc : RC) (K : AV → List HObj → Prop) : Exit → St → Prop
 | .normal,st | .ret,st=>∃ xs,qhP (hpf st.hp) st.fr rc xs∧K (qft xs) st.hp
 | _,_=>False
theorem Jb {fn : Func} {tmps : Array Value} {R : Ending → World → Prop} : ∀ (ms : List Nat) (w : World),ms.Nodup → (∀ D ∈ ms,w.heap[D]? = some (.deferred (some []))) →
 (∃ v,(results fn tmps).run P (ms.foldl (fun w D=>w.putObj D (.deferred none)) w) = .ok v (ms.foldl (fun w D=>w.putObj D (.deferred none)) w)∧R (.returned v) (ms.foldl (fun w D=>w.putObj D (.deferred none)) w)) →
 LeavesInM (W ro) n P fn tmps R (ms.map mark) .returning w
 | [],w,hn,hD,h=>h
 | D::ms,w,hn,hD,h=>by
   refine ⟨by simp,.inl ⟨D,_,rfl,run_takeDeferred (hD D (by simp)),?_⟩⟩
   rw [List.nodup_cons] at hn
   exact Jb ms _ hn.2 (fun D' hD'=>(World.putObj_heap_other (fun e=>hn.1 (by rw [←e];exact hD'))).trans (hD D' (by simp [hD']))) h
theorem YF {hp0 g0 w0 hp g} : ∀ (ms : List Nat) (w : World),ms.Nodup → (∀ D ∈ ms,w0.heap.size ≤ D ∧ w.heap[D]? = some (.deferred (some [])) ∧ ¬ qno hp g D) → HeapOK hp g w → Upd hp0 g0 w0 hp g w →
 HeapOK hp g (ms.foldl (fun w D=>w.putObj D (.deferred none)) w)∧Upd hp0 g0 w0 hp g (ms.foldl (fun w D=>w.putObj D (.deferred none)) w)∧Trans w g (ms.foldl (fun w D=>w.putObj D (.deferred none)) w) g
 | [],w,hn,hD,h,u=>⟨h,u,.refl _ _⟩
 | D::ms,w,hn,hD,h,u=>by
   rw [List.nodup_cons] at hn
   obtain ⟨k1,k2,k3⟩:=hD D (by simp)
   obtain ⟨h1,u1,t1⟩:=qk5 h u k2 k3 k1
   obtain ⟨h2,u2,t2⟩ := YF ms _ hn.2 (fun D' hD' => by
    obtain ⟨q1,q2,q3⟩:=hD D' (by simp [hD'])
    exact ⟨q1,(World.putObj_heap_other (fun e=>hn.1 (by rw [←e];exact hD'))).trans q2,q3⟩) h1 u1
   exact ⟨h2,u2,t1.trans t2⟩
theorem qhf {w1 : World} {g1 : G} (hY : YS P E w1 g1) (hR : RS P E) {f : FuncId} {fn : Func} {c : Code} {ac : AC} {rc : RC} {xs : List AV} {hp : List HObj} {K : AV → List HObj → Prop} (hf : P.funcs[f]? = some fn) (hb : fn.body = some c) (hc : qdN P fn.ntmps c ac)
 (hr:ZR P fn.results.toList=some rc) (hl:xs.length≤fn.ntmps) (h:AWP P E ac { fr:=YK 0 xs,hp:=hp } (qh5 rc K)):Vr P w1 g1 f xs hp K:=by
 intro ro n w g vs hok htr hvs hrep
 have go : CallsIn (W none) n P f vs w fun e w' => ∃ v r hp' g', e = .returned v ∧ K r hp' ∧ Rep w' g' false r v ∧ HeapOK (hpf hp') g' w' ∧ Upd (hpf hp) g w (hpf hp') g' w' := by
  refine callsIn_of_wp_marks hf hb trivial (Qr hY hR hc (.inl rfl) h htr (g:=g) ?_ ?_) rfl
  · refine ⟨by simp [hvs]; omega,fun t => ?_,hok⟩
    show Rep w g false (get (YK 0 xs) t) _
    rw [VB]
    simp only [Nat.zero_le,if_true,Nat.sub_zero]
    by_cases ht:t<xs.length
    · have e1 : xs.getD t .any = xs[t] := by simp [ht]
      rw [e1]
      have:=hrep t ht
      simp only [Array.getD_eq_getD_getElem?] at this ⊢
      rw [Array.getElem?_append_left (by omega)]
      exact this
    · have e1 : xs.getD t .any = .any := by simp [Nat.le_of_not_lt ht]
      rw [e1];exact .any _ _
  · intro e st' a' w' g' hq hs hu hd
    obtain ⟨ms,d1,d2,d3⟩:=hd
    simp only [List.append_nil] at d1
    have fin : (∃ xs,qhP (hpf st'.hp) st'.fr rc xs ∧ K (qft xs) st'.hp) → LeavesInM (W none) n P fn a'.tmps (fun e w' => ∃ v r hp' g',e = .returned v ∧ K r hp' ∧ Rep w' g' false r v ∧ HeapOK (hpf hp') g' w' ∧ Upd (hpf hp) g w (hpf hp') g' w') a'.defers .returning w' := fun ⟨ys,hy,hK⟩ => by
     rw [d1]
     obtain ⟨k1,k2,k3⟩:=YF ms w' d2 d3 hs.2.2 hu
     refine Jb ms w' d2 (fun D hD=>(d3 D hD).2.1) ?_
     obtain ⟨v,j1,j2⟩:=Yi (P:=P) k1 (fun i=>(hs.2.1 i).mono k3) hr hy
     exact ⟨v,j1,v,_,_,g',rfl,hK,j2,k1,k2⟩
    cases e with
    | normal=>exact fin hq
    | ret=>exact fin hq
    | _=>exact hq.elim
 exact go
def noY:Nat→List AV→List HObj→(AV→List HObj→Prop)→Prop:=fun _ _ _ _=>False
def noR:AV→List HObj→(List AV→List HObj→(AV→List HObj→Prop)→Prop)→(List HObj→Prop)→Prop:=fun _ _ _ _=>False
def qo (P:Program) (fn:Func) (ts:List Nat):Option AC:=fn.body.map fun c=>(ann ts (comp P fn.ntmps c) [] ts).1
def R1 (P:Program):AV→List HObj→(List AV→List HObj→(AV→List HObj→Prop)→Prop)→(List HObj→Prop)→Prop:=fun v hp H K0 =>
 ∃ f caps fn ac ts rc,v = .fn (.func f) [] caps ∧ Wu P f = true ∧ P.funcs[f]? = some fn ∧ qo P fn ts = some ac ∧ ZR P fn.results.toList = some rc ∧ caps.length + 1 ≤ fn.ntmps ∧
   AWP P ⟨fun id xs hp' K=>id=hp.length∧H xs hp' K,noR⟩ ac { fr:=YK 0 (.yl hp.length::caps),hp:=hp++[.lp .ready (hp.length+1),.gone] } (qh5 rc fun _ hp'=>K0 hp')
def E1 (P:Program):HE:=⟨noY,R1 P⟩
theorem qkE {Y}:RS P ⟨Y,noR⟩:=fun _ _ _ _ h=>h.elim
theorem Vm:RS P (E1 P):=by
 rintro v hp H K0 ⟨f,caps,fn,ac,ts,rc,rfl,hfun,hf,hc,hr,hl,h⟩
 refine ⟨f,caps,rfl,hfun,fun w1 g1 hH=>?_⟩
 simp only [qo,Option.map_eq_some_iff] at hc
 obtain ⟨c,hb,rfl⟩:=hc
 exact qhf (E:=⟨fun id xs hp' K=>id=hp.length∧H xs hp' K,noR⟩) (fun id xs hp' K ⟨e,hh⟩=>by subst e;exact hH xs hp' K hh) qkE hf hb (Q4 (QA c)) hr (by simp;omega) h
theorem YP {w1 g1}:YS P (E1 P) w1 g1:=fun _ _ _ _ h=>h.elim
theorem zj {f : FuncId} {fn : Func} {ac : AC} {ts : List Nat} {rc : RC} {xs : List AV} {hp : List HObj} {K : AV → List HObj → Prop} (hf : P.funcs[f]? = some fn) (hc : qo P fn ts = some ac)
 (hr:ZR P fn.results.toList=some rc) (hl:xs.length≤fn.ntmps) (h:AWP P (E1 P) ac { fr:=YK 0 xs,hp:=hp } (qh5 rc K)):zG P f xs hp K:=by
 simp only [qo,Option.map_eq_some_iff] at hc
 obtain ⟨c,hb,rfl⟩:=hc
 exact fun ro n w g vs hok hvs hrep=>qhf (E:=E1 P) (w1:=w) (g1:=g) YP Vm hf hb (Q4 (QA c)) hr hl h ro n w g vs hok (.refl _ _) hvs hrep
theorem QB : ∀ {rs : List ResultVar} {ts : List Nat},JO rs = some ts → ZR P rs = some (ts.map (·,none))
 | [],ts,h=>by simp [JO] at h;subst h;rfl
 | .tmp t::r,ts,h=>by
   simp only [JO,Option.map_eq_some_iff] at h
   obtain ⟨ts',h',rfl⟩:=h
   simp [ZR,QB h']
 | .cell a t::r,ts,h=>by cases h
theorem qaQ {hp : Hp} {fr : List (Nat × AV)} : ∀ (ts : List Nat) (xs : List AV),qhP hp fr (ts.map (·,none)) xs ↔ xs = ts.map (get fr)
 | [],[]=>by simp [qhP]
 | [],x::xs=>by simp [qhP]
 | t::ts,[]=>by simp [qhP]
 | t::ts,x::xs=>by simp [qhP,qaQ ts xs]
theorem qff (ts:List Nat) (fr:List (Nat × AV)):qft (ts.map (get fr))=qiP ts fr:=by
 match ts with
 | []=>rfl
 | [t]=>rfl
 | t::u::r=>rfl
def qfB (ts : List Nat) (K : AV → List HObj → Prop) : Exit → St → Prop
 | .normal,st | .ret,st=>K (qiP ts st.fr) st.hp
 | _,_=>False
theorem qaR {ts:List Nat} {K:AV→List HObj→Prop}:qh5 (ts.map (·,none)) K=qfB ts K:=by
 have key : ∀ st : St,(∃ xs,qhP (hpf st.hp) st.fr (ts.map (·,none)) xs ∧ K (qft xs) st.hp) = K (qiP ts st.fr) st.hp := fun st => propext ⟨fun ⟨xs,h1,h2⟩ => by
  rw [qaQ] at h1;subst h1;rw [qff] at h2;exact h2,fun h=>⟨_,(qaQ _ _).2 rfl,by rw [qff];exact h⟩⟩
 funext e st
 cases e <;> first | exact key st | rfl
theorem qh9 {f : FuncId} {fn : Func} {ac : AC} {ts : List Nat} {xs : List AV} {hp : List HObj} {K : AV → List HObj → Prop} (hf : P.funcs[f]? = some fn) (hc : qo P fn ts = some ac) (hr : JO fn.results.toList = some ts)
 (hl:xs.length≤fn.ntmps) (h:AWP P (E1 P) ac { fr:=YK 0 xs,hp:=hp } (qfB ts K)):zG P f xs hp K :=
 zj hf hc (QB hr) hl (by rw [qaR];exact h)
def G.bare (g:G):G:={ S:=g.S,ρ:=fun _=>none }
theorem HeapOK.bare {hp g w} (h:HeapOK hp g w):HeapOK (fun _=>none) g.bare w :=
 ⟨fun _ _=>rfl,fun _ _ h=>(by cases h),fun _ _ _ _ _ _ _ h=>(by cases h),h.ex,h.tab⟩
theorem Upd.bare {g w hp' g' w'} (h0:HeapOK (fun _=>none) g w) (h:Upd (fun _=>none) g w hp' g' w'):Upd (fun _=>none) g w (fun _=>none) g'.bare w' :=
 ⟨⟨h.tr.S,h.tr.cell,fun id l hl=>(by rw [h0.dom id rfl] at hl;cases hl),h.tr.shp,h.tr.os,h.tr.tape,h.tr.output,h.tr.size,h.tr.drawn⟩,fun c ⟨_,_,_,h,_⟩=>(by cases h),h.S,h.keep⟩
theorem Rep.bare {w g v x} (h:Rep w g true x v):Rep w g.bare true x v:=by
 generalize hp:true=p at h
 induction h with
 | v p x=>exact .v _ x
 | any p x=>exact .any _ x
 | sl p full n cs a cap vs hn hf hc hr ih=>exact .sl _ full n cs a cap vs hn hf hc (fun i h=>ih i h rfl)
 | agg p cs vs hl hr ih=>exact .agg _ cs vs hl (fun i h=>ih i h hp)
 | tup p cs vs hl hr ih=>exact .tup _ cs vs hl (fun i h=>ih i h hp)
 | ptr p cs off b o vs hc hr ih=>exact .ptr _ cs off b o vs hc (fun i h=>ih i h rfl)
 | ref=>cases hp
 | ms=>cases hp
 | msz=>cases hp
 | fn p f as bs xs ys hl hl' hr hr' ih ih'=>exact .fn _ f as bs xs ys hl hl' (fun i h=>ih i h hp) (fun i h=>ih' i h hp)
 | mp=>cases hp
 | mc=>cases hp
 | mcz=>cases hp
 | yl=>cases hp
def Out (r:AV) (x:AV) (hp:List HObj):Prop:=∃ is,qU (hpf hp) x=some (r,is)
theorem qT {f:FuncId} {xs:List AV} {r:AV} (h:zG P f xs [] (Out r)):qC P f xs r:=by
 intro ro n w g vs hok hvs hrep
 have e0:hpf []=fun _=>none:=by funext i;simp [hpf]
 refine (h ro n w g vs (by rw [e0];exact hok) hvs (fun i hi=>(hrep i hi).of)).mono ?_
 rintro e w' ⟨v,x,hp',g',rfl,⟨is,hpur⟩,hx,hok',hu⟩
 rw [e0] at hu
 have q:=jE hok' (ids:=is) hpur (fun i hi=>hi) hx
 obtain ⟨k1,k2⟩:=hok'.giveAll is (Jx hpur)
 exact ⟨v,_,rfl,q.bare,k1.bare,(hu.trans k2).bare hok⟩
end
def qnZ (P:Program) (f:FuncId) (xs:List AV) (hp:List HObj) (K:AV→List (Nat × HObj)→Prop):Prop :=
 ∃ ys ids,qE (hpf hp) xs=some (ys,ids)∧((∃ r,qC P f ys r∧K r (bif r.scalar then [] else zB ids))∨(∃ m sz cs,qbH P f ys m sz cs∧K (.ms hp.length 0 m sz) (zB ids++[(hp.length,.cells cs)]))∨∃ Φ,qnY P f ys Φ∧K (.mp hp.length) (zB ids++[(hp.length,.mpp Φ)]))
def AOp.wp (P:Program) (o:AOp) (F:Nat→AV) (hp:List HObj) (K:AV→List (Nat × HObj)→Prop):Prop :=
 ∃ r ws,o.sem P (evF F) (hpf hp) hp.length r ws∧K r ws
def Qo (P:Program) (E:HE) (os:List AOp) (d:Option Nat) (fr:List (Nat × AV)) (hp:List HObj) (K:St→Prop) (r:AV) (ws:List (Nat × HObj)):Prop:=Zf P E os ⟨jL fr d r,qH hp ws⟩ K
def qoe (P:Program) (E:HE) (os:List AOp) (d:Nat) (fr:List (Nat × AV)) (K:St→Prop) (r:AV) (hp:List HObj):Prop:=Zf P E os ⟨(d,r)::fr,hp⟩ K
def zN (P:Program) (os:List AOp) (d:Option Nat) (fr:List (Nat × AV)) (hp:List HObj) (tr:Tr) (ft:List Nat) (K:St→Tr→Prop) (r:AV) (ws:List (Nat × HObj)):Prop :=
 Zj P os ⟨jL fr d r,qH hp ws⟩ (tr++[(ft,ws.map (·.1))]) K
section
variable {P:Program} {E:HE} {fr:List (Nat × AV)} {hp:List HObj} {F:Nat→AV} {os:List AOp} {KS:St→Prop} {KD:St→Tr→Prop} {tr:Tr} {K:AV→List (Nat × HObj)→Prop}
theorem qjS:zB []=[]:=rfl
theorem qis {i is}:zB (i::is)=(i,.gone)::zB is:=rfl
theorem JJ {k t x}:get ((k,x)::fr) t=if k=t then x else get fr t:=rfl
theorem qgc {t}:get [] t = .any:=rfl
theorem qvM {t}:evF F (.t t)=F t:=rfl
theorem qvL {x}:evF F (.k x)=x:=rfl
theorem qqm {d:Option Nat} {r ws}:Qo P E os d fr hp KS r ws=Zf P E os ⟨jL fr d r,qH hp ws⟩ KS:=rfl
theorem qqn {d:Nat} {r hp}:qoe P E os d fr KS r hp=Zf P E os ⟨(d,r)::fr,hp⟩ KS:=rfl
theorem qqo {d:Option Nat} {ft r ws}:zN P os d fr hp tr ft KD r ws=Zj P os ⟨jL fr d r,qH hp ws⟩ (tr++[(ft,ws.map (·.1))]) KD:=rfl
theorem qu4:Zf P E [] ⟨fr,hp⟩ KS=KS ⟨fr,hp⟩:=rfl
theorem qsK:Zj P [] ⟨fr,hp⟩ tr KD=KD ⟨fr,hp⟩ tr:=rfl
theorem qsI {d f args}:Zf P E (.call d f args::os) ⟨fr,hp⟩ KS=zG P f (args.map (evF (get fr))) hp (qoe P E os d fr KS):=rfl
def qdP (P:Program) (E:HE) (x:AV) (args:List AV) (hp:List HObj) (KC:AV→List HObj→Prop):Prop:=match x with
 | .fn (.func f) first caps=>Wu P f=true∧zG P f (first++args++caps) hp KC
 | .yl id=>∃ K0,E.Y id args hp K0∧∀ r hp',K0 r hp'→KC r hp'
 | _=>False
theorem qql {d x args}:Zf P E (.callv d x args::os) ⟨fr,hp⟩ KS=qdP P E (evF (get fr) x) (args.map (evF (get fr))) hp (qoe P E os d fr KS):=by
 simp only [Zf,aop,qdP]
 generalize evF (get fr) x=u
 cases u with
 | fn f as bs=>cases f <;> rfl
 | _=>rfl
theorem qtV {f first caps args} {KC:AV→List HObj→Prop}:qdP P E (.fn (.func f) first caps) args hp KC=(Wu P f=true∧zG P f (first++args++caps) hp KC):=rfl
theorem qt5 {a0 a1}:Zj P (.mv a0 a1::os) ⟨fr,hp⟩ tr KD=(AOp.mv a0 a1).wp P (get fr) hp (zN P os (some a0) fr hp tr ([]) KD):=rfl
theorem qoq {a0 a1 a2 a3}:Zj P (.pick a0 a1 a2 a3::os) ⟨fr,hp⟩ tr KD=(AOp.pick a0 a1 a2 a3).wp P (get fr) hp (zN P os (some a0) fr hp tr ([]) KD):=rfl
theorem qq6 {a0 a1 a2 a3}:Zj P (.bin a0 a1 a2 a3::os) ⟨fr,hp⟩ tr KD=(AOp.bin a0 a1 a2 a3).wp P (get fr) hp (zN P os (some a0) fr hp tr ([]) KD):=rfl
theorem qt8 {a0 a1 a2}:Zj P (.un a0 a1 a2::os) ⟨fr,hp⟩ tr KD=(AOp.un a0 a1 a2).wp P (get fr) hp (zN P os (some a0) fr hp tr ([]) KD):=rfl
theorem qrh {a0 a1 a2}:Zj P (.ext a0 a1 a2::os) ⟨fr,hp⟩ tr KD=(AOp.ext a0 a1 a2).wp P (get fr) hp (zN P os (some a0) fr hp tr ([]) KD):=rfl
theorem qt4 {a0 a1 a2 a3}:Zj P (.ld a0 a1 a2 a3::os) ⟨fr,hp⟩ tr KD=(AOp.ld a0 a1 a2 a3).wp P (get fr) hp (zN P os (some a0) fr hp tr ((evF (get fr) a3).ids) KD):=by simp [Zj,AOp.wp,zN,AOp.foot,AOp.heapy,AOp.opds,AOp.dst,St.step]
theorem qt7 {a0 a1 a2}:Zj P (.st a0 a1 a2::os) ⟨fr,hp⟩ tr KD=(AOp.st a0 a1 a2).wp P (get fr) hp (zN P os none fr hp tr ((evF (get fr) a1).ids++(evF (get fr) a2).ids) KD):=by simp [Zj,AOp.wp,zN,AOp.foot,AOp.heapy,AOp.opds,AOp.dst,St.step]
theorem qt1 {a0 a1}:Zj P (.al a0 a1::os) ⟨fr,hp⟩ tr KD=(AOp.al a0 a1).wp P (get fr) hp (zN P os (some a0) fr hp tr ([]) KD):=rfl
theorem qq9 {a0 a1 a2 a3 a4}:Zj P (.bsl a0 a1 a2 a3 a4::os) ⟨fr,hp⟩ tr KD=(AOp.bsl a0 a1 a2 a3 a4).wp P (get fr) hp (zN P os (some a0) fr hp tr ((a4.map (·.2)).flatMap fun x=>(evF (get fr) x).ids) KD):=rfl
theorem qq7 {a0 a1 a2}:Zj P (.bld a0 a1 a2::os) ⟨fr,hp⟩ tr KD=(AOp.bld a0 a1 a2).wp P (get fr) hp (zN P os (some a0) fr hp tr ([]) KD):=rfl
theorem qt2 {a0 a1 a2}:Zj P (.fa a0 a1 a2::os) ⟨fr,hp⟩ tr KD=(AOp.fa a0 a1 a2).wp P (get fr) hp (zN P os (some a0) fr hp tr ([]) KD):=rfl
theorem qt3 {a0 a1 a2 a3}:Zj P (.ia a0 a1 a2 a3::os) ⟨fr,hp⟩ tr KD=(AOp.ia a0 a1 a2 a3).wp P (get fr) hp (zN P os (some a0) fr hp tr ([]) KD):=rfl
theorem qrj {a0 a1 a2 a3 a4}:Zj P (.iaa a0 a1 a2 a3 a4::os) ⟨fr,hp⟩ tr KD=(AOp.iaa a0 a1 a2 a3 a4).wp P (get fr) hp (zN P os (some a0) fr hp tr ([]) KD):=rfl
theorem qrn {a0 a1}:Zj P (.len a0 a1::os) ⟨fr,hp⟩ tr KD=(AOp.len a0 a1).wp P (get fr) hp (zN P os (some a0) fr hp tr ([]) KD):=rfl
theorem qrq {a0 a1}:Zj P (.lns a0 a1::os) ⟨fr,hp⟩ tr KD=(AOp.lns a0 a1).wp P (get fr) hp (zN P os (some a0) fr hp tr ([]) KD):=rfl
theorem qrw {a0 a1 a2 a3 a4 a5}:Zj P (.slc a0 a1 a2 a3 a4 a5::os) ⟨fr,hp⟩ tr KD=(AOp.slc a0 a1 a2 a3 a4 a5).wp P (get fr) hp (zN P os (some a0) fr hp tr ([]) KD):=rfl
theorem qry {a0 a1 a2 a3}:Zj P (.sls a0 a1 a2 a3::os) ⟨fr,hp⟩ tr KD=(AOp.sls a0 a1 a2 a3).wp P (get fr) hp (zN P os (some a0) fr hp tr ([]) KD):=rfl
theorem qq4 {a0 a1 a2 a3 a4}:Zj P (.app a0 a1 a2 a3 a4::os) ⟨fr,hp⟩ tr KD=(AOp.app a0 a1 a2 a3 a4).wp P (get fr) hp (zN P os (some a0) fr hp tr ((evF (get fr) a3).ids++(evF (get fr) a4).ids) KD):=by simp [Zj,AOp.wp,zN,AOp.foot,AOp.heapy,AOp.opds,AOp.dst,St.step]
theorem qrt {a0 a1 a2 a3 a4 a5}:Zj P (.mks a0 a1 a2 a3 a4 a5::os) ⟨fr,hp⟩ tr KD=(AOp.mks a0 a1 a2 a3 a4 a5).wp P (get fr) hp (zN P os (some a0) fr hp tr ([]) KD):=rfl
theorem qrc {a0 a1 a2}:Zj P (.cnv a0 a1 a2::os) ⟨fr,hp⟩ tr KD=(AOp.cnv a0 a1 a2).wp P (get fr) hp (zN P os (some a0) fr hp tr ([]) KD):=rfl
theorem qop {a0 a1}:Zj P (.nilc a0 a1::os) ⟨fr,hp⟩ tr KD=(AOp.nilc a0 a1).wp P (get fr) hp (zN P os (some a0) fr hp tr ([]) KD):=rfl
theorem qoo {a0 a1 a2}:Zj P (.call a0 a1 a2::os) ⟨fr,hp⟩ tr KD=(AOp.call a0 a1 a2).wp P (get fr) hp (zN P os (some a0) fr hp tr (a2.flatMap fun x=>(evF (get fr) x).ids) KD):=rfl
theorem qul {x}:(AV.v x).ids=[]:=rfl
theorem qrX {a b c}:(AV.sl a b c).ids=[]:=rfl
theorem qoQ {a b}:(AV.ptr a b).ids=[]:=rfl
theorem qoR {a b}:(AV.ref a b).ids=[a]:=rfl
theorem qrW {a b c d}:(AV.ms a b c d).ids=[a]:=rfl
theorem qrV {a}:(AV.mp a).ids=[a]:=rfl
theorem qrU {a b c}:(AV.fn a b c).ids=b.flatMap AV.ids0++c.flatMap AV.ids0:=rfl
theorem qoM {cs}:(AV.agg cs).ids=cs.flatMap AV.ids1:=rfl
theorem qrT {x}:(AV.v x).ids1=[]:=rfl
theorem qoK {a b c}:(AV.sl a b c).ids1=[]:=rfl
theorem qqr {d f args}:(AOp.call d f args).wp P F hp K=qnZ P f (args.map (evF F)) hp K:=by
 apply propext
 constructor
 · rintro ⟨r,ws,⟨ys,ids,h1,h2⟩,h3⟩
   rcases h2 with ⟨h2,rfl⟩ | ⟨m,sz,cs,h2,rfl,rfl⟩ | ⟨Φ,h2,rfl,rfl⟩
   · exact ⟨ys,ids,h1,.inl ⟨r,h2,h3⟩⟩
   · exact ⟨ys,ids,h1,.inr (.inl ⟨m,sz,cs,h2,h3⟩)⟩
   · exact ⟨ys,ids,h1,.inr (.inr ⟨Φ,h2,h3⟩)⟩
 · rintro ⟨ys,ids,h1,h2⟩
   rcases h2 with ⟨r,h2,h3⟩ | ⟨m,sz,cs,h2,h3⟩ | ⟨Φ,h2,h3⟩
   · exact ⟨r,_,⟨ys,ids,h1,.inl ⟨h2,rfl⟩⟩,h3⟩
   · exact ⟨_,_,⟨ys,ids,h1,.inr (.inl ⟨m,sz,cs,h2,rfl,rfl⟩)⟩,h3⟩
   · exact ⟨_,_,⟨ys,ids,h1,.inr (.inr ⟨Φ,h2,rfl,rfl⟩)⟩,h3⟩
theorem qvc {a0 a1}:Zf P E (.mv a0 a1::os) ⟨fr,hp⟩ KS=(AOp.mv a0 a1).wp P (get fr) hp (Qo P E os (some a0) fr hp KS):=rfl
theorem qqw {a0 a1 a2 a3}:Zf P E (.pick a0 a1 a2 a3::os) ⟨fr,hp⟩ KS=(AOp.pick a0 a1 a2 a3).wp P (get fr) hp (Qo P E os (some a0) fr hp KS):=rfl
theorem qsQ {a0 a1 a2 a3}:Zf P E (.bin a0 a1 a2 a3::os) ⟨fr,hp⟩ KS=(AOp.bin a0 a1 a2 a3).wp P (get fr) hp (Qo P E os (some a0) fr hp KS):=rfl
theorem qvf {a0 a1 a2}:Zf P E (.un a0 a1 a2::os) ⟨fr,hp⟩ KS=(AOp.un a0 a1 a2).wp P (get fr) hp (Qo P E os (some a0) fr hp KS):=rfl
theorem qs1 {a0 a1 a2}:Zf P E (.ext a0 a1 a2::os) ⟨fr,hp⟩ KS=(AOp.ext a0 a1 a2).wp P (get fr) hp (Qo P E os (some a0) fr hp KS):=rfl
theorem qvb {a0 a1 a2 a3}:Zf P E (.ld a0 a1 a2 a3::os) ⟨fr,hp⟩ KS=(AOp.ld a0 a1 a2 a3).wp P (get fr) hp (Qo P E os (some a0) fr hp KS):=rfl
theorem qve {a0 a1 a2}:Zf P E (.st a0 a1 a2::os) ⟨fr,hp⟩ KS=(AOp.st a0 a1 a2).wp P (get fr) hp (Qo P E os none fr hp KS):=rfl
theorem qsS {a0 a1 a2}:Zf P E (.box a0 a1 a2::os) ⟨fr,hp⟩ KS=(AOp.box a0 a1 a2).wp P (get fr) hp (Qo P E os (some a0) fr hp KS):=rfl
theorem qu8 {a0 a1}:Zf P E (.al a0 a1::os) ⟨fr,hp⟩ KS=(AOp.al a0 a1).wp P (get fr) hp (Qo P E os (some a0) fr hp KS):=rfl
theorem qsT {a0 a1 a2 a3 a4}:Zf P E (.bsl a0 a1 a2 a3 a4::os) ⟨fr,hp⟩ KS=(AOp.bsl a0 a1 a2 a3 a4).wp P (get fr) hp (Qo P E os (some a0) fr hp KS):=rfl
theorem qsR {a0 a1 a2}:Zf P E (.bld a0 a1 a2::os) ⟨fr,hp⟩ KS=(AOp.bld a0 a1 a2).wp P (get fr) hp (Qo P E os (some a0) fr hp KS):=rfl
theorem qu9 {a0 a1 a2}:Zf P E (.fa a0 a1 a2::os) ⟨fr,hp⟩ KS=(AOp.fa a0 a1 a2).wp P (get fr) hp (Qo P E os (some a0) fr hp KS):=rfl
theorem qs2 {a0 a1 a2 a3 a4}:Zf P E (.fld a0 a1 a2 a3 a4::os) ⟨fr,hp⟩ KS=(AOp.fld a0 a1 a2 a3 a4).wp P (get fr) hp (Qo P E os (some a0) fr hp KS):=rfl
theorem qva {a0 a1 a2 a3}:Zf P E (.ia a0 a1 a2 a3::os) ⟨fr,hp⟩ KS=(AOp.ia a0 a1 a2 a3).wp P (get fr) hp (Qo P E os (some a0) fr hp KS):=rfl
theorem qs3 {a0 a1 a2 a3 a4}:Zf P E (.iaa a0 a1 a2 a3 a4::os) ⟨fr,hp⟩ KS=(AOp.iaa a0 a1 a2 a3 a4).wp P (get fr) hp (Qo P E os (some a0) fr hp KS):=rfl
theorem qs5 {a0 a1 a2 a3 a4 a5}:Zf P E (.idx a0 a1 a2 a3 a4 a5::os) ⟨fr,hp⟩ KS=(AOp.idx a0 a1 a2 a3 a4 a5).wp P (get fr) hp (Qo P E os (some a0) fr hp KS):=rfl
theorem qs4 {a0 a1 a2}:Zf P E (.ids a0 a1 a2::os) ⟨fr,hp⟩ KS=(AOp.ids a0 a1 a2).wp P (get fr) hp (Qo P E os (some a0) fr hp KS):=rfl
theorem qs7 {a0 a1}:Zf P E (.len a0 a1::os) ⟨fr,hp⟩ KS=(AOp.len a0 a1).wp P (get fr) hp (Qo P E os (some a0) fr hp KS):=rfl
theorem qta {a0 a1}:Zf P E (.lns a0 a1::os) ⟨fr,hp⟩ KS=(AOp.lns a0 a1).wp P (get fr) hp (Qo P E os (some a0) fr hp KS):=rfl
theorem qtg {a0 a1 a2 a3 a4 a5}:Zf P E (.slc a0 a1 a2 a3 a4 a5::os) ⟨fr,hp⟩ KS=(AOp.slc a0 a1 a2 a3 a4 a5).wp P (get fr) hp (Qo P E os (some a0) fr hp KS):=rfl
theorem qti {a0 a1 a2 a3}:Zf P E (.sls a0 a1 a2 a3::os) ⟨fr,hp⟩ KS=(AOp.sls a0 a1 a2 a3).wp P (get fr) hp (Qo P E os (some a0) fr hp KS):=rfl
theorem qsO {a0 a1 a2 a3 a4}:Zf P E (.app a0 a1 a2 a3 a4::os) ⟨fr,hp⟩ KS=(AOp.app a0 a1 a2 a3 a4).wp P (get fr) hp (Qo P E os (some a0) fr hp KS):=rfl
theorem qsX {a0 a1 a2 a3}:Zf P E (.cpy a0 a1 a2 a3::os) ⟨fr,hp⟩ KS=(AOp.cpy a0 a1 a2 a3).wp P (get fr) hp (Qo P E os (some a0) fr hp KS):=rfl
theorem qtd {a0 a1 a2 a3 a4 a5}:Zf P E (.mks a0 a1 a2 a3 a4 a5::os) ⟨fr,hp⟩ KS=(AOp.mks a0 a1 a2 a3 a4 a5).wp P (get fr) hp (Qo P E os (some a0) fr hp KS):=rfl
theorem qsW {a0 a1 a2}:Zf P E (.cnv a0 a1 a2::os) ⟨fr,hp⟩ KS=(AOp.cnv a0 a1 a2).wp P (get fr) hp (Qo P E os (some a0) fr hp KS):=rfl
theorem qvd {a0 a1 a2 a3}:Zf P E (.mx a0 a1 a2 a3::os) ⟨fr,hp⟩ KS=(AOp.mx a0 a1 a2 a3).wp P (get fr) hp (Qo P E os (some a0) fr hp KS):=rfl
theorem qqv {a0 a1}:Zf P E (.nilc a0 a1::os) ⟨fr,hp⟩ KS=(AOp.nilc a0 a1).wp P (get fr) hp (Qo P E os (some a0) fr hp KS):=rfl
theorem qtb {a0 a1 a2 a3}:Zf P E (.mkf a0 a1 a2 a3::os) ⟨fr,hp⟩ KS=(AOp.mkf a0 a1 a2 a3).wp P (get fr) hp (Qo P E os (some a0) fr hp KS):=rfl
theorem qjH {α β:Type} {a:α} {b:β} {K:α→β→Prop} {p:Prop}:(∃ r ws,(p∧r=a∧ws=b)∧K r ws)=(p∧K a b) :=
 propext ⟨fun ⟨_,_,⟨h,e1,e2⟩,k⟩=>⟨h,by subst e1;subst e2;exact k⟩,fun ⟨h,k⟩=>⟨a,b,⟨h,rfl,rfl⟩,k⟩⟩
theorem Js {α β:Type} {a:α} {b:β} {K:α→β→Prop}:(∃ r ws,(r=a∧ws=b)∧K r ws)=K a b :=
 propext ⟨fun ⟨_,_,⟨e1,e2⟩,k⟩=>by subst e1;subst e2;exact k,fun k=>⟨a,b,⟨rfl,rfl⟩,k⟩⟩
theorem qua {α β γ:Type} {p:γ→Prop} {f:γ→α} {b:β} {K:α→β→Prop}:(∃ r ws,(∃ z,p z∧r=f z∧ws=b)∧K r ws)=∃ z,p z∧K (f z) b :=
 propext ⟨fun ⟨_,_,⟨z,h,e1,e2⟩,k⟩=>⟨z,h,by subst e1;subst e2;exact k⟩,fun ⟨z,h,k⟩=>⟨_,_,⟨z,h,rfl,rfl⟩,k⟩⟩
theorem jK {α β:Type} {K:α→β→Prop}:(∃ r ws,False∧K r ws)=False:=by simp
theorem qv5 {d x}:(AOp.mv d x).wp P F hp K=K (evF F x) []:=Js
def qqJ (c a b:AV) (K:AV→List (Nat × HObj)→Prop):Prop:=match c with
 | .v (.bool t)=>K (bif t then a else b) []
 | _=>False
theorem qsH {d c a b}:(AOp.pick d c a b).wp P F hp K=qqJ (evF F c) (evF F a) (evF F b) K:=by
 unfold AOp.wp;simp only [AOp.sem]
 generalize evF F c=u
 cases u with
 | v x=>cases x <;> first | exact Js | exact jK
 | _=>exact jK
theorem qqf {t a b}:qqJ (B t) a b K=K (bif t then a else b) []:=rfl
def Xy (op:BinOp) (x y:AV) (K:AV→List (Nat × HObj)→Prop):Prop:=match x,y with
 | .v a,.v b=>∃ z,Y6 op a b=some z∧K (.v z) []
 | _,_=>False
theorem quK {d op x y}:(AOp.bin d op x y).wp P F hp K=Xy op (evF F x) (evF F y) K:=by
 unfold AOp.wp;simp only [AOp.sem]
 generalize evF F x=u
 generalize evF F y=v
 cases u <;> cases v <;> first | exact qua | exact jK
theorem Zo {op a b z} (h:Y6 op a b=some z):Xy op (.v a) (.v b) K=K (.v z) []:=by
 unfold Xy;simp only [h,Option.some.injEq,exists_eq_left']
theorem qtA {k:IntKind} {a b:Int}:Xy .add (.v (.int k a)) (.v (.int k b)) K=K (.v (.int k (k.wrap (a+b)))) []:=Zo (by simp [Y6])
theorem qtN {k:IntKind} {a b:Int}:Xy .sub (.v (.int k a)) (.v (.int k b)) K=K (.v (.int k (k.wrap (a - b)))) []:=Zo (by simp [Y6])
theorem qtH {k:IntKind} {a b:Int}:Xy .mul (.v (.int k a)) (.v (.int k b)) K=K (.v (.int k (k.wrap (a*b)))) []:=Zo (by simp [Y6])
theorem qtJ {k:IntKind} {a b:Int} (h:b≠0):Xy .quo (.v (.int k a)) (.v (.int k b)) K=K (.v (.int k (k.wrap (a.tdiv b)))) []:=Zo (by simp [Y6,h])
theorem qtK {k:IntKind} {a b:Int} (h:b≠0):Xy .rem (.v (.int k a)) (.v (.int k b)) K=K (.v (.int k (a.tmod b))) []:=Zo (by simp [Y6,h])
theorem qtB {k:IntKind} {a b:Int}:Xy .and (.v (.int k a)) (.v (.int k b)) K=K (.v (.int k (k.wrap (BitVec.ofInt k.bits a &&& BitVec.ofInt k.bits b).toNat))) []:=Zo (by simp [Y6])
theorem qvE {k:IntKind} {a b:Int}:Xy .or (.v (.int k a)) (.v (.int k b)) K=K (.v (.int k (k.wrap (BitVec.ofInt k.bits a ||| BitVec.ofInt k.bits b).toNat))) []:=Zo (by simp [Y6])
theorem qtL {k k':IntKind} {a b:Int} (h:0≤b):Xy .shl (.v (.int k a)) (.v (.int k' b)) K=K (.v (.int k (k.wrap (a*2 ^ (min b.toNat k.bits))))) []:=Zo (by simp [Y6];omega)
theorem qtM {k k':IntKind} {a b:Int} (h:0≤b):Xy .shr (.v (.int k a)) (.v (.int k' b)) K=K (.v (.int k (a.fdiv (2 ^ (min b.toNat k.bits))))) []:=Zo (by simp [Y6];omega)
theorem qtC {k:IntKind} {a b:Int}:Xy .eql (.v (.int k a)) (.v (.int k b)) K=K (B (a==b)) []:=Zo (by simp [Y6])
theorem qtI {k:IntKind} {a b:Int}:Xy .neq (.v (.int k a)) (.v (.int k b)) K=K (B (a != b)) []:=Zo (by simp [Y6])
theorem qtG {k:IntKind} {a b:Int}:Xy .lss (.v (.int k a)) (.v (.int k b)) K=K (B (decide (a<b))) []:=Zo (by simp [Y6])
theorem qtF {k:IntKind} {a b:Int}:Xy .leq (.v (.int k a)) (.v (.int k b)) K=K (B (decide (a≤b))) []:=Zo (by simp [Y6])
theorem qtE {k:IntKind} {a b:Int}:Xy .gtr (.v (.int k a)) (.v (.int k b)) K=K (B (decide (a>b))) []:=Zo (by simp [Y6])
theorem qtD {k:IntKind} {a b:Int}:Xy .geq (.v (.int k a)) (.v (.int k b)) K=K (B (decide (a≥b))) []:=Zo (by simp [Y6])
def UnW (op:UnOp) (x:AV) (K:AV→List (Nat × HObj)→Prop):Prop:=match x with
 | .v a=>∃ z,unV op a=some z∧K (.v z) []
 | _=>False
theorem qv8 {d op x}:(AOp.un d op x).wp P F hp K=UnW op (evF F x) K:=by
 unfold AOp.wp;simp only [AOp.sem]
 generalize evF F x=u
 cases u <;> first | exact qua | exact jK
theorem quF {b:Bool}:UnW .not (B b) K=K (B !b) []:=by unfold UnW;simp [unV]
def qvl (x:AV) (i:Nat) (K:AV→List (Nat × HObj)→Prop):Prop:=match x with
 | .tup vs=>∃ y,vs[i]?=some y∧K y []
 | _=>False
theorem quQ {d x i}:(AOp.ext d x i).wp P F hp K=qvl (evF F x) i K:=by
 unfold AOp.wp;simp only [AOp.sem]
 generalize evF F x=u
 cases u <;> first | exact qua | exact jK
def YO : List AV → Nat → Option AV
 | [],_=>none
 | a::l,n=>if n=0 then some a else YO l (n - 1)
theorem Jl : ∀ (l : List AV) (n : Nat),YO l n = l[n]?
 | [],n=>by simp [YO]
 | a::l,0=>by simp [YO]
 | a::l,n+1=>by simp [YO,Jl l n]
theorem qkj {a:AV} {l:List AV} {n}:YO (a::l) n=if n=0 then some a else YO l (n - 1):=rfl
def qqI (o:Option AV) (K:AV→List (Nat × HObj)→Prop):Prop:=match o with
 | some y=>K y []
 | none=>False
theorem Yv {y:AV}:qqI (some y) K=K y []:=rfl
theorem qnG {o:Option AV}:(∃ y,o=some y∧K y [])=qqI o K:=by
 cases o <;> simp [qqI]
theorem qt9 {vs:List AV} {i}:qvl (.tup vs) i K=qqI (YO vs i) K:=by rw [Jl];exact qnG
def Qm (cs:List AV) (off sz:Nat) (agg:Bool) (K:AV→List (Nat × HObj)→Prop):Prop:=match agg with
 | true=>off+sz≤cs.length∧K (.agg (zT cs off sz)) []
 | false=>∃ y,cs[off]?=some y∧K y []
theorem jJ {cs:List AV} {off sz}:Qm cs off sz true K=(off+sz≤cs.length∧K (.agg (zT cs off sz)) []):=rfl
theorem J7 {cs:List AV} {off sz}:Qm cs off sz false K=qqI (YO cs off) K:=by rw [Jl];exact qnG
theorem qcs {cs:List AV} {off sz agg} {p:Prop}:(∃ r ws,((match agg with | true=>off+sz≤cs.length∧r = .agg (zT cs off sz) | false=>∃ y,cs[off]?=some y∧r=y)∧ws=[])∧K r ws)=Qm cs off sz agg K:=by
 apply propext
 cases agg with
 | true =>
   constructor
   · rintro ⟨r,ws,⟨⟨h,rfl⟩,rfl⟩,k⟩;exact ⟨h,k⟩
   · rintro ⟨h,k⟩;exact ⟨_,_,⟨⟨h,rfl⟩,rfl⟩,k⟩
 | false =>
   constructor
   · rintro ⟨r,ws,⟨⟨y,h,rfl⟩,rfl⟩,k⟩;exact ⟨_,h,k⟩
   · rintro ⟨y,h,k⟩;exact ⟨_,_,⟨⟨y,h,rfl⟩,rfl⟩,k⟩
def LdW (hp:List HObj) (agg:Bool) (sz:Nat) (x:AV) (K:AV→List (Nat × HObj)→Prop):Prop:=match x with
 | .ptr cs off=>Qm cs off sz agg K
 | .ref id off=>match hp[id]? with
   | some (.cells cs)=>Qm cs off sz agg K
   | _=>False
 | _=>False
theorem qv4 {d agg sz x}:(AOp.ld d agg sz x).wp P F hp K=LdW hp agg sz (evF F x) K:=by
 unfold AOp.wp;simp only [AOp.sem,WH]
 have sw : ∀ (cs : List AV) (off : Nat),(∃ r ws,(ws = [] ∧ (match agg with | true => off + sz ≤ cs.length ∧ r = .agg (zT cs off sz) | false => ∃ y,cs[off]? = some y ∧ r = y)) ∧ K r ws) = Qm cs off sz agg K := fun cs off => by
  rw [←qcs (p:=True)]
  exact propext ⟨fun ⟨r,ws,⟨a,b⟩,k⟩=>⟨r,ws,⟨b,a⟩,k⟩,fun ⟨r,ws,⟨a,b⟩,k⟩=>⟨r,ws,⟨b,a⟩,k⟩⟩
 generalize evF F x=u
 cases u with
 | ptr cs off=>exact sw cs off
 | ref id off =>
   simp only [hpf,LdW]
   generalize hp[id]?=o
   cases o with
   | none=>exact jK
   | some o=>cases o <;> first | exact sw _ _ | exact jK
 | _=>exact jK
theorem qr2 {agg sz cs off}:LdW hp agg sz (.ptr cs off) K=Qm cs off sz agg K:=rfl
def qr : List HObj → Nat → Option HObj
 | [],_=>none
 | a::l,n=>if n=0 then some a else qr l (n - 1)
theorem zH : ∀ (l : List HObj) (n : Nat),qr l n = l[n]?
 | [],n=>by simp [qr]
 | a::l,0=>by simp [qr]
 | a::l,n+1=>by simp [qr,zH l n]
theorem qkk {a:HObj} {l:List HObj} {n}:qr (a::l) n=if n=0 then some a else qr l (n - 1):=rfl
theorem qdb {l:List HObj} {o:HObj}:qr (l++[o]) l.length=some o:=by simp [zH]
theorem qk {l k:List HObj} {n} (h:n<l.length):qr (l++k) n=qr l n:=by rw [zH,zH,List.getElem?_append_left h]
def LdR (o:Option HObj) (agg:Bool) (sz off:Nat) (K:AV→List (Nat × HObj)→Prop):Prop:=match o with
 | some (.cells cs)=>Qm cs off sz agg K
 | _=>False
theorem qf {cs agg sz off}:LdR (some (.cells cs)) agg sz off K=Qm cs off sz agg K:=rfl
theorem qr3 {agg sz id off}:LdW hp agg sz (.ref id off) K=LdR (qr hp id) agg sz off K:=by
 simp only [LdW,zH];rfl
def StW (hp:List HObj) (sz:Nat) (a x:AV) (K:AV→List (Nat × HObj)→Prop):Prop:=match a with
 | .ref id off=>match hp[id]? with
   | some (.cells cs)=>(x.cells.length=sz∧(x.cells.all AV.isCell)=true∧off+sz≤cs.length)∧K .any [(id,.cells (splice cs off x.cells))]
   | _=>False
 | _=>False
theorem qv7 {sz a x}:(AOp.st sz a x).wp P F hp K=StW hp sz (evF F a) (evF F x) K:=by
 unfold AOp.wp;simp only [AOp.sem,qkI]
 generalize evF F a=u
 cases u with
 | ref id off =>
   simp only [hpf,StW]
   generalize hp[id]?=o
   cases o with
   | none=>exact jK
   | some o =>
     cases o with
     | cells cs =>
       apply propext
       constructor
       · rintro ⟨r,ws,⟨h1,h2,h3,rfl,rfl⟩,k⟩;exact ⟨⟨h1,h2,h3⟩,k⟩
       · rintro ⟨⟨h1,h2,h3⟩,k⟩;exact ⟨_,_,⟨h1,h2,h3,rfl,rfl⟩,k⟩
     | _=>exact jK
 | _=>exact jK
def StR (o:Option HObj) (sz id off:Nat) (x:AV) (K:AV→List (Nat × HObj)→Prop):Prop:=match o with
 | some (.cells cs)=>(x.cells.length=sz∧(x.cells.all AV.isCell)=true∧off+sz≤cs.length)∧K .any [(id,.cells (splice cs off x.cells))]
 | _=>False
theorem qt {cs sz id off x}:StR (some (.cells cs)) sz id off x K=((x.cells.length=sz∧(x.cells.all AV.isCell)=true∧off+sz≤cs.length)∧K .any [(id,.cells (splice cs off x.cells))]):=rfl
theorem qsx {sz id off x}:StW hp sz (.ref id off) x K=StR (qr hp id) sz id off x K:=by
 simp only [StW,zH];rfl
theorem quM {d sz x}:(AOp.box d sz x).wp P F hp K=(((evF F x).cells.length=sz∧((evF F x).cells.all AV.isCell)=true)∧K (.ref hp.length 0) [(hp.length,.cells (evF F x).cells)]):=by
 unfold AOp.wp;simp only [AOp.sem]
 apply propext
 constructor
 · rintro ⟨r,ws,⟨h1,h2,rfl,rfl⟩,k⟩;exact ⟨⟨h1,h2⟩,k⟩
 · rintro ⟨⟨h1,h2⟩,k⟩;exact ⟨_,_,⟨h1,h2,rfl,rfl⟩,k⟩
theorem qv1 {d z}:(AOp.al d z).wp P F hp K=K (.ref hp.length 0) [(hp.length,.cells z)]:=Js
def qvj (P:Program) (hp:List HObj) (n sz:Nat) (zero:List AV) (is:List Nat) (xs:List AV) (K:AV→List (Nat × HObj)→Prop):Prop :=
 ∃ ys ids,qE (hpf hp) xs=some (ys,ids)∧(ys.all fun y=>y.cells.all AV.isCell&&y.cells.all AV.isPure&&(y.cells.length==sz))=true∧K (.sl true n (place (zP n zero) sz (is.zip ys))) (zB ids)
theorem zq {n sz : Nat} {zero : List AV} {is : List Nat} {xs ys : List AV} {ids : List Nat} (h1 : qE (hpf hp) xs = some (ys,ids)) (h2 : (ys.all fun y => y.cells.all AV.isCell && y.cells.all AV.isPure && (y.cells.length == sz)) = true)
 (h3:K (.sl true n (place (zP n zero) sz (is.zip ys))) (zB ids)):qvj P hp n sz zero is xs K:=⟨ys,ids,h1,h2,h3⟩
theorem qkt {cs:List AV} {sz:Nat}:place cs sz []=cs:=rfl
theorem qiK {cs:List AV} {sz i:Nat} {x:AV} {r}:place cs sz ((i,x)::r)=place (splice cs (i*sz) x.cells) sz r:=rfl
theorem qiJ {cs:List AV}:WZ cs []=cs:=rfl
theorem qgr {cs:List AV} {off n:Nat} {x:AV} {r}:WZ cs ((off,n,x)::r)=WZ (splice cs off x.cells) r:=rfl
theorem quN {d n sz z ps}:(AOp.bsl d n sz z ps).wp P F hp K=qvj P hp n sz z (ps.map (·.1)) (ps.map fun p=>evF F p.2) K:=by
 apply propext
 constructor
 · rintro ⟨r,ws,⟨ys,ids,h1,h2,rfl,rfl⟩,k⟩;exact ⟨ys,ids,h1,h2,k⟩
 · rintro ⟨ys,ids,h1,h2,k⟩;exact ⟨_,_,⟨ys,ids,h1,h2,rfl,rfl⟩,k⟩
theorem quL {d z ps}:(AOp.bld d z ps).wp P F hp K=((ps.all fun p=>(evF F p.2.2).cells.all AV.isCell&&((evF F p.2.2).cells.length==p.2.1))=true∧K (.agg (WZ z (ps.map fun p=>(p.1,p.2.1,evF F p.2.2)))) []):=qjH
def FaW (x:AV) (off:Nat) (K:AV→List (Nat × HObj)→Prop):Prop:=match x with
 | .ptr cs o=>K (.ptr cs (o+off)) []
 | .ref id o=>K (.ref id (o+off)) []
 | _=>False
theorem qv2 {d x off}:(AOp.fa d x off).wp P F hp K=FaW (evF F x) off K:=by
 unfold AOp.wp;simp only [AOp.sem]
 generalize evF F x=u
 cases u <;> first | exact Js | exact jK
theorem qrK {cs o off}:FaW (.ptr cs o) off K=K (.ptr cs (o+off)) []:=rfl
theorem qrL {id o off}:FaW (.ref id o) off K=K (.ref id (o+off)) []:=rfl
def qvm (agg:Bool) (sz off:Nat) (x:AV) (K:AV→List (Nat × HObj)→Prop):Prop:=match x with
 | .agg cs=>Qm cs off sz agg K
 | _=>False
theorem quR {d agg sz off x}:(AOp.fld d agg sz off x).wp P F hp K=qvm agg sz off (evF F x) K:=by
 unfold AOp.wp;simp only [AOp.sem]
 generalize evF F x=u
 cases u <;> first | exact qcs (p:=True) | exact jK
theorem qot {agg sz off cs}:qvm agg sz off (.agg cs) K=Qm cs off sz agg K:=rfl
def IaW (sz:Nat) (x i:AV) (K:AV→List (Nat × HObj)→Prop):Prop:=match x,i with
 | .sl _ n cs,.v (.int _ j)=>(0≤j∧j<n)∧cs.length=n*sz∧K (.ptr cs (j.toNat*sz)) []
 | .ms id off n sz',.v (.int _ j)=>(0≤j∧j<n)∧sz'=sz∧K (.ref id (off+j.toNat*sz)) []
 | .mc id off n _ sz',.v (.int _ j)=>(0≤j∧j<n)∧sz'=sz∧K (.ref id (off+j.toNat*sz)) []
 | _,_=>False
theorem qv3 {d sz x i}:(AOp.ia d sz x i).wp P F hp K=IaW sz (evF F x) (evF F i) K:=by
 unfold AOp.wp;simp only [AOp.sem]
 generalize evF F x=u
 generalize evF F i=v
 cases u with
 | sl f n cs =>
   cases v with
   | v y =>
     cases y <;> first | exact jK | skip
     apply propext
     constructor
     · rintro ⟨r,ws,⟨h1,rfl,rfl,h2⟩,k⟩;exact ⟨h1,h2,k⟩
     · rintro ⟨h1,h2,k⟩;exact ⟨_,_,⟨h1,rfl,rfl,h2⟩,k⟩
   | _=>exact jK
 | ms id off n sz' =>
   cases v with
   | v y =>
     cases y <;> first | exact jK | skip
     apply propext
     constructor
     · rintro ⟨r,ws,⟨h1,h2,rfl,rfl⟩,k⟩;exact ⟨h1,h2,k⟩
     · rintro ⟨h1,h2,k⟩;exact ⟨_,_,⟨h1,h2,rfl,rfl⟩,k⟩
   | _=>exact jK
 | mc id off n c sz' =>
   cases v with
   | v y =>
     cases y <;> first | exact jK | skip
     apply propext
     constructor
     · rintro ⟨r,ws,⟨h1,h2,rfl,rfl⟩,k⟩;exact ⟨h1,h2,k⟩
     · rintro ⟨h1,h2,k⟩;exact ⟨_,_,⟨h1,h2,rfl,rfl⟩,k⟩
   | _=>exact jK
 | _=>cases v <;> exact jK
theorem quk {sz f n cs j k}:IaW sz (.sl f n cs) (.v (.int k j)) K=((0≤j∧j<n)∧cs.length=n*sz∧K (.ptr cs (j.toNat*sz)) []):=rfl
theorem quj {sz id off n sz' j k}:IaW sz (.ms id off n sz') (.v (.int k j)) K=((0≤j∧j<n)∧sz'=sz∧K (.ref id (off+j.toNat*sz)) []):=rfl
def qtt (ln sz:Nat) (x i:AV) (K:AV→List (Nat × HObj)→Prop):Prop:=match x,i with
 | .ptr cs o,.v (.int _ j)=>(0≤j∧j<ln)∧K (.ptr cs (o+j.toNat*sz)) []
 | .ref id o,.v (.int _ j)=>(0≤j∧j<ln)∧K (.ref id (o+j.toNat*sz)) []
 | _,_=>False
theorem quS {d ln sz x i}:(AOp.iaa d ln sz x i).wp P F hp K=qtt ln sz (evF F x) (evF F i) K:=by
 unfold AOp.wp;simp only [AOp.sem]
 generalize evF F x=u
 generalize evF F i=v
 cases u with
 | ptr cs o =>
   cases v with
   | v y=>cases y <;> first | exact jK | exact qjH
   | _=>exact jK
 | ref id o =>
   cases v with
   | v y=>cases y <;> first | exact jK | exact qjH
   | _=>exact jK
 | _=>cases v <;> exact jK
theorem qoC {ln sz id o j k}:qtt ln sz (.ref id o) (.v (.int k j)) K=((0≤j∧j<ln)∧K (.ref id (o+j.toNat*sz)) []):=rfl
def qtu (ln:Nat) (agg:Bool) (sz:Nat) (x i:AV) (K:AV→List (Nat × HObj)→Prop):Prop:=match x,i with
 | .agg cs,.v (.int _ j)=>(0≤j∧j<ln)∧Qm cs (j.toNat*sz) sz agg K
 | _,_=>False
theorem quU {d ln agg sz x i}:(AOp.idx d ln agg sz x i).wp P F hp K=qtu ln agg sz (evF F x) (evF F i) K:=by
 unfold AOp.wp;simp only [AOp.sem]
 generalize evF F x=u
 generalize evF F i=v
 cases u with
 | agg cs =>
   cases v with
   | v y =>
     cases y <;> first | exact jK | skip
     simp only [qtu]
     rw [←qcs (p:=True)]
     apply propext
     constructor
     · rintro ⟨r,ws,⟨h1,h2,h3⟩,k⟩;exact ⟨h1,r,ws,⟨h2,h3⟩,k⟩
     · rintro ⟨h1,r,ws,⟨h2,h3⟩,k⟩;exact ⟨r,ws,⟨h1,h2,h3⟩,k⟩
   | _=>exact jK
 | _=>cases v <;> exact jK
theorem qoT {ln agg sz cs j k}:qtu ln agg sz (.agg cs) (.v (.int k j)) K=((0≤j∧j<ln)∧Qm cs (j.toNat*sz) sz agg K):=rfl
def qnn (x:AV) (K:AV→List (Nat × HObj)→Prop):Prop:=match x with
 | .sl _ n _=>K (I n) []
 | .ms _ _ n _=>K (I n) []
 | .mc _ _ n _ _=>K (I n) []
 | _=>False
theorem quV {d x}:(AOp.len d x).wp P F hp K=qnn (evF F x) K:=by
 unfold AOp.wp;simp only [AOp.sem]
 generalize evF F x=u
 cases u <;> first | exact Js | exact jK
theorem qr6 {f n cs}:qnn (.sl f n cs) K=K (I n) []:=rfl
theorem qr5 {id off n sz}:qnn (.ms id off n sz) K=K (I n) []:=rfl
def qnr (sz:Nat) (x:AV) (lo hi mx:Option AV) (K:AV→List (Nat × HObj)→Prop):Prop:=∃ r ws,qfo r ws sz x lo hi mx∧K r ws
theorem qu0 {d sz x lo hi mx}:(AOp.slc d sz x lo hi mx).wp P F hp K=qnr sz (evF F x) (lo.map (evF F)) (hi.map (evF F)) (mx.map (evF F)) K:=rfl
theorem qh4 {a b:Int}:(I a=I b)=(a=b):=by simp [I]
theorem qhS {sz f n cs j}:qnr sz (.sl f n cs) none (some (I j)) none K=((0≤j∧j≤n∧cs.length=n*sz)∧K (.sl (f&&decide (j.toNat=n)) j.toNat (zT cs 0 (j.toNat*sz))) []):=by
 apply propext
 constructor
 · rintro ⟨r,ws,⟨l,h,h1,h2,h3,h4,h5,h6,h7⟩,k⟩
   simp only [qh4] at h2
   subst h1;subst h2
   simp only [Nat.sub_zero,Nat.zero_mul] at h6
   subst h6;subst h7
   exact ⟨⟨by omega,by omega,h5⟩,by simpa using k⟩
 · rintro ⟨⟨h1,h2,h3⟩,k⟩
   exact ⟨_,_,⟨0,j.toNat,rfl,by rw [Int.toNat_of_nonneg h1],by omega,by omega,h3,rfl,rfl⟩,by simpa using k⟩
theorem qsn {sz f n cs j}:qnr sz (.sl f n cs) (some (I j)) none none K=((0≤j∧j≤n∧cs.length=n*sz)∧K (.sl f (n - j.toNat) (zT cs (j.toNat*sz) ((n - j.toNat)*sz))) []):=by
 apply propext
 constructor
 · rintro ⟨r,ws,⟨l,h,h1,h2,h3,h4,h5,h6,h7⟩,k⟩
   simp only [qh4] at h1
   subst h1;subst h2
   simp only [decide_true,Bool.and_true] at h6
   subst h6;subst h7
   exact ⟨⟨by omega,by omega,h5⟩,by simpa using k⟩
 · rintro ⟨⟨h1,h2,h3⟩,k⟩
   exact ⟨_,_,⟨j.toNat,n,by rw [Int.toNat_of_nonneg h1],rfl,by omega,by omega,h3,rfl,rfl⟩,by simpa using k⟩
theorem qm2 {sz f n cs i j}:qnr sz (.sl f n cs) (some (I i)) (some (I j)) none K=((0≤i∧i≤j∧j≤n∧cs.length=n*sz)∧K (.sl (f&&decide (j.toNat=n)) (j.toNat - i.toNat) (zT cs (i.toNat*sz) ((j.toNat - i.toNat)*sz))) []):=by
 apply propext
 constructor
 · rintro ⟨r,ws,⟨l,h,h1,h2,h3,h4,h5,h6,h7⟩,k⟩
   simp only [qh4] at h1 h2
   subst h1;subst h2
   subst h6;subst h7
   exact ⟨⟨by omega,by omega,by omega,h5⟩,by simpa using k⟩
 · rintro ⟨⟨h1,h2,h3,h4⟩,k⟩
   exact ⟨_,_,⟨i.toNat,j.toNat,by rw [Int.toNat_of_nonneg h1],by rw [Int.toNat_of_nonneg (by omega)],by omega,by omega,h4,rfl,rfl⟩,by simpa using k⟩
def qvk (k:IntKind) (x:AV) (K:AV→List (Nat × HObj)→Prop):Prop:=match x with
 | .v (.int _ n)=>K (.v (.int k (k.wrap n))) []
 | _=>False
theorem quO {d k x}:(AOp.cnv d k x).wp P F hp K=qvk k (evF F x) K:=by
 unfold AOp.wp;simp only [AOp.sem]
 generalize evF F x=u
 cases u with
 | v y=>cases y <;> first | exact Js | exact jK
 | _=>exact jK
theorem qod {k k' n}:qvk k (.v (.int k' n)) K=K (.v (.int k (k.wrap n))) []:=rfl
def MxW (max:Bool) (x y:AV) (K:AV→List (Nat × HObj)→Prop):Prop:=match x,y with
 | .v (.int k a),.v (.int _ b)=>K (.v (.int k (bif max then (if b>a then b else a) else (if b<a then b else a)))) []
 | _,_=>False
theorem qv6 {d max x y}:(AOp.mx d max x y).wp P F hp K=MxW max (evF F x) (evF F y) K:=by
 unfold AOp.wp;simp only [AOp.sem]
 generalize evF F x=u
 generalize evF F y=v
 cases u with
 | v a =>
   cases v with
   | v b=>cases a <;> cases b <;> first | exact Js | exact jK
   | _=>cases a <;> exact jK
 | _=>cases v <;> exact jK
theorem qnF {max k a k' b}:MxW max (.v (.int k a)) (.v (.int k' b)) K=K (.v (.int k (bif max then (if b>a then b else a) else (if b<a then b else a)))) []:=rfl
theorem qsb {k a k' b}:MxW true (.v (.int k a)) (.v (.int k' b)) K=K (.v (.int k (max a b))) []:=by
 rw [qnF,cond_true]
 have:(if b>a then b else a)=max a b:=by by_cases h:b>a <;> simp [h] <;> omega
 rw [this]
theorem qsc {k a k' b}:MxW false (.v (.int k a)) (.v (.int k' b)) K=K (.v (.int k (min a b))) []:=by
 rw [qnF,cond_false]
 have:(if b<a then b else a)=min a b:=by by_cases h:b<a <;> simp [h] <;> omega
 rw [this]
def qls (x:AV) (K:AV→List (Nat × HObj)→Prop):Prop:=match x with
 | .ptr cs o=>K (.ptr cs o) []
 | .ref id o=>K (.ref id o) []
 | .fn (.func f) as bs=>K (.fn (.func f) as bs) []
 | _=>False
theorem qsG {d x}:(AOp.nilc d x).wp P F hp K=qls (evF F x) K:=by
 unfold AOp.wp;simp only [AOp.sem]
 generalize evF F x=u
 cases u with
 | fn f as bs=>cases f <;> first | exact Js | exact jK
 | ptr=>exact Js
 | ref=>exact Js
 | _=>exact jK
theorem qmH {id o}:qls (.ref id o) K=K (.ref id o) []:=rfl
theorem quX {d f as bs}:(AOp.mkf d f as bs).wp P F hp K=K (.fn f (as.map (evF F)) (bs.map (evF F))) []:=Js
def qnk (hp:List HObj) (sz bytes:Nat) (x y:AV) (K:AV→List (Nat × HObj)→Prop):Prop:=∃ m ys,ZO (hpf hp) sz y=some (m,ys)∧(ys.all AV.isPC)=true∧∃ r ws,jt (hpf hp) hp.length r ws sz bytes x m ys∧K r ws
theorem quI {d sz bytes x y}:(AOp.app d sz bytes x y).wp P F hp K=qnk hp sz bytes (evF F x) (evF F y) K:=by
 apply propext
 constructor
 · rintro ⟨r,ws,⟨m,ys,h1,h2,h3⟩,k⟩;exact ⟨m,ys,h1,h2,r,ws,h3,k⟩
 · rintro ⟨m,ys,h1,h2,r,ws,h3,k⟩;exact ⟨r,ws,⟨m,ys,h1,h2,h3⟩,k⟩
theorem qee {sz bytes n m f g} {cs ys : List AV} : qnk hp sz bytes (.sl f n cs) (.sl g m ys) K =
 ((f=true∧ys.length=m*sz∧(ys.all AV.isPC)=true∧cs.length=n*sz∧(n+m)*bytes≤140737488355328∧n+m≤140737488355328∧(n=0∨0<m))∧K (.ms hp.length 0 (n+m) sz) [(hp.length,.cells (cs++ys))]):=by
 apply propext
 constructor
 · rintro ⟨m',ys',h1,h2,r,ws,h3,k⟩
   simp only [ZO] at h1
   split at h1
   · rename_i hl; cases h1
     obtain ⟨a1,a2,a3,a4,a5,rfl,rfl⟩:=h3
     exact ⟨⟨a1,hl,h2,a2,a3,a4,a5⟩,k⟩
   · cases h1
 · rintro ⟨⟨a1,a2,a3,a4,a5,a6,a7⟩,k⟩
   exact ⟨m,ys,by simp [ZO,a2],a3,_,_,⟨a1,a4,a5,a6,a7,rfl,rfl⟩,k⟩
def qvi (o:Option HObj) (new sz bytes id off n sz' m:Nat) (ys:List AV) (K:AV→List (Nat × HObj)→Prop):Prop:=match o with
 | some (.cells cs)=>(ys.length=m*sz∧(ys.all AV.isPC)=true∧sz'=sz∧off+n*sz≤cs.length∧(n+m)*bytes≤140737488355328∧n+m≤140737488355328)∧K (.ms new 0 (n+m) sz) [(id,.gone),(new,.cells (zT cs off (n*sz)++ys))]
 | _=>False
theorem J4 {cs new sz bytes id off n sz' m ys}:qvi (some (.cells cs)) new sz bytes id off n sz' m ys K=((ys.length=m*sz∧(ys.all AV.isPC)=true∧sz'=sz∧off+n*sz≤cs.length∧(n+m)*bytes≤140737488355328∧n+m≤140737488355328)∧K (.ms new 0 (n+m) sz) [(id,.gone),(new,.cells (zT cs off (n*sz)++ys))]):=rfl
theorem qed {sz bytes id off n sz' m g} {ys:List AV}:qnk hp sz bytes (.ms id off n sz') (.sl g m ys) K=qvi (qr hp id) hp.length sz bytes id off n sz' m ys K:=by
 apply propext
 rw [zH]
 constructor
 · rintro ⟨m',ys',h1,h2,r,ws,h3,k⟩
   simp only [ZO] at h1
   split at h1
   · rename_i hl; cases h1
     simp only [jt,hpf] at h3
     cases ho:hp[id]? with
     | none=>rw [ho] at h3;exact h3.elim
     | some o =>
       rw [ho] at h3
       cases o with
       | cells cs =>
         obtain ⟨a1,a2,a3,a4,rfl,rfl⟩:=h3
         exact ⟨⟨hl,h2,a1,a2,a3,a4⟩,k⟩
       | _=>exact h3.elim
   · cases h1
 · intro h
   cases ho:hp[id]? with
   | none=>rw [ho] at h;exact h.elim
   | some o =>
     rw [ho] at h
     cases o with
     | cells cs =>
       obtain ⟨⟨a1,a2,a3,a4,a5,a6⟩,k⟩:=h
       refine ⟨m,ys,by simp [ZO,a1],a2,_,_,?_,k⟩
       simp only [jt,hpf,ho]
       exact ⟨a3,a4,a5,a6,trivial,trivial⟩
     | _=>exact h.elim
def qvp (hp:List HObj) (sz bytes:Nat) (zero:List AV) (x y:AV) (K:AV→List (Nat × HObj)→Prop):Prop :=
 ∃ k:Nat,x=I k∧y=I k∧k*bytes≤140737488355328∧k≤140737488355328∧zero.length=sz∧K (.ms hp.length 0 k sz) [(hp.length,.cells (zP k zero))]
theorem quY {d sz bytes z n c}:(AOp.mks d sz bytes z n c).wp P F hp K=qvp hp sz bytes z (evF F n) (evF F c) K:=by
 apply propext
 constructor
 · rintro ⟨r,ws,⟨k,h1,h2,h3,h4,h5,rfl,rfl⟩,hk⟩;exact ⟨k,h1,h2,h3,h4,h5,hk⟩
 · rintro ⟨k,h1,h2,h3,h4,h5,hk⟩;exact ⟨_,_,⟨k,h1,h2,h3,h4,h5,rfl,rfl⟩,hk⟩
theorem qsU {a0 a1}:Zf P E (.cap a0 a1::os) ⟨fr,hp⟩ KS=(AOp.cap a0 a1).wp P (get fr) hp (Qo P E os (some a0) fr hp KS):=rfl
theorem qsV {a0 a1 a2}:Zf P E (.clr a0 a1 a2::os) ⟨fr,hp⟩ KS=(AOp.clr a0 a1 a2).wp P (get fr) hp (Qo P E os none fr hp KS):=rfl
theorem qqt {a0 a1 a2 a3 a4 a5}:Zf P E (.appz a0 a1 a2 a3 a4 a5::os) ⟨fr,hp⟩ KS=(AOp.appz a0 a1 a2 a3 a4 a5).wp P (get fr) hp (Qo P E os (some a0) fr hp KS):=rfl
theorem qth {a0 a1 a2 a3 a4 a5 a6}:Zf P E (.slp a0 a1 a2 a3 a4 a5 a6::os) ⟨fr,hp⟩ KS=(AOp.slp a0 a1 a2 a3 a4 a5 a6).wp P (get fr) hp (Qo P E os (some a0) fr hp KS):=rfl
theorem qtc {a0}:Zf P E (.mkm a0::os) ⟨fr,hp⟩ KS=(AOp.mkm a0).wp P (get fr) hp (Qo P E os (some a0) fr hp KS):=rfl
theorem qs6 {a0 a1 a2 a3}:Zf P E (.ins a0 a1 a2 a3::os) ⟨fr,hp⟩ KS=(AOp.ins a0 a1 a2 a3).wp P (get fr) hp (Qo P E os none fr hp KS):=rfl
theorem qs8 {a0 a1 a2 a3 a4 a5}:Zf P E (.lku a0 a1 a2 a3 a4 a5::os) ⟨fr,hp⟩ KS=(AOp.lku a0 a1 a2 a3 a4 a5).wp P (get fr) hp (Qo P E os (some a0) fr hp KS):=rfl
theorem qsZ {a0 a1 a2 a3 a4}:Zf P E (.eqk a0 a1 a2 a3 a4::os) ⟨fr,hp⟩ KS=(AOp.eqk a0 a1 a2 a3 a4).wp P (get fr) hp (Qo P E os (some a0) fr hp KS):=rfl
theorem qrm {a0 a1 a2 a3}:Zj P (.ins a0 a1 a2 a3::os) ⟨fr,hp⟩ tr KD=(AOp.ins a0 a1 a2 a3).wp P (get fr) hp (zN P os none fr hp tr ((AOp.ins a0 a1 a2 a3).foot (get fr)) KD):=rfl
theorem qro {a0 a1 a2 a3 a4 a5}:Zj P (.lku a0 a1 a2 a3 a4 a5::os) ⟨fr,hp⟩ tr KD=(AOp.lku a0 a1 a2 a3 a4 a5).wp P (get fr) hp (zN P os (some a0) fr hp tr ((AOp.lku a0 a1 a2 a3 a4 a5).foot (get fr)) KD):=rfl
theorem qre {a0 a1 a2}:Zj P (.del a0 a1 a2::os) ⟨fr,hp⟩ tr KD=(AOp.del a0 a1 a2).wp P (get fr) hp (zN P os none fr hp tr ((AOp.del a0 a1 a2).foot (get fr)) KD):=rfl
theorem qrf {a0 a1 a2 a3 a4}:Zj P (.eqk a0 a1 a2 a3 a4::os) ⟨fr,hp⟩ tr KD=(AOp.eqk a0 a1 a2 a3 a4).wp P (get fr) hp (zN P os (some a0) fr hp tr ((AOp.eqk a0 a1 a2 a3 a4).foot (get fr)) KD):=rfl
theorem qmb {a0 a1 a2 a3 a4 a5} {G:Nat→AV}:(AOp.lku a0 a1 a2 a3 a4 a5).foot G=(evF G a4).ids++(evF G a5).ids:=by simp [AOp.foot,AOp.heapy,AOp.opds]
theorem qma {a0 a1 a2 a3} {G:Nat→AV}:(AOp.ins a0 a1 a2 a3).foot G=(evF G a1).ids++((evF G a2).ids++(evF G a3).ids):=by simp [AOp.foot,AOp.heapy,AOp.opds]
theorem ql7 {a0 a1 a2} {G:Nat→AV}:(AOp.del a0 a1 a2).foot G=(evF G a1).ids++(evF G a2).ids:=by simp [AOp.foot,AOp.heapy,AOp.opds]
theorem ql8 {a0 a1 a2 a3 a4} {G:Nat→AV}:(AOp.eqk a0 a1 a2 a3 a4).foot G=[]:=rfl
def qnW (neg:Bool) (ks:Bool × List Leaf) (x y:AV) (K:AV→List (Nat × HObj)→Prop):Prop:=∃ a b z,x.val=some a∧y.val=some b∧eqK ks a b=some z∧K (B (neg != z)) []
theorem quP {d neg ks x y}:(AOp.eqk d neg ks x y).wp P F hp K=qnW neg ks (evF F x) (evF F y) K:=by
 apply propext
 constructor
 · rintro ⟨r,ws,⟨a,b,z,h1,h2,h3,rfl,rfl⟩,k⟩;exact ⟨a,b,z,h1,h2,h3,k⟩
 · rintro ⟨a,b,z,h1,h2,h3,k⟩;exact ⟨_,_,⟨a,b,z,h1,h2,h3,rfl,rfl⟩,k⟩
theorem qjG {neg:Bool} {ks:Bool × List Leaf} {x y:AV} {a b:Value} {z:Bool} (hx:x.val=some a) (hy:y.val=some b) (hz:eqK ks a b=some z):qnW neg ks x y K=K (B (neg != z)) []:=by
 apply propext
 constructor
 · rintro ⟨a',b',z',e1,e2,e3,k⟩
   rw [hx] at e1;rw [hy] at e2
   cases e1;cases e2
   rw [hz] at e3;cases e3
   exact k
 · exact fun k=>⟨a,b,z,hx,hy,hz,k⟩
variable {Q:Exit→St→Prop} {x y:AC}
def qfy (P:Program) (E:HE) (t:Bool) (x y:AC) (st:St) (Q:Exit→St→Prop):Prop:=(t=true→AWP P E x st Q)∧(t=false→AWP P E y st Q)
def qnV (P:Program) (E:HE) (c:AV) (x y:AC) (st:St) (Q:Exit→St→Prop):Prop:=match c with
 | .v (.bool t)=>qfy P E t x y st Q
 | _=>False
theorem qsJ {c}:AWP P E (.cond c x y) ⟨fr,hp⟩ Q=qnV P E (evF (get fr) c) x y ⟨fr,hp⟩ Q:=by
 simp only [AWP,qnV]
 generalize evF (get fr) c=u
 cases u with
 | v y=>cases y <;> rfl
 | _=>rfl
theorem qqU {t st}:qnV P E (B t) x y st Q=qfy P E t x y st Q:=rfl
theorem qqV {st}:qfy P E true x y st Q=AWP P E x st Q:=by simp [qfy]
theorem qob {st}:qfy P E false x y st Q=AWP P E y st Q:=by simp [qfy]
theorem qP {t:Bool} {st:St} (h1:t=true→AWP P E x st Q) (h2:t=false→AWP P E y st Q):qfy P E t x y st Q:=⟨h1,h2⟩
theorem qsN:AWP P E .skip ⟨fr,hp⟩ Q=Q .normal ⟨fr,hp⟩:=rfl
theorem qu6 {gs ks}:AWP P E (.rgn gs ks) ⟨fr,hp⟩ Q=ZM P E gs ⟨fr,hp⟩ fun st=>Q .normal (st.keep ks):=rfl
theorem qu3 {gs un ks}:AWP P E (.drw gs un ks) ⟨fr,hp⟩ Q=Zg P gs ⟨fr,hp⟩ [] fun st tr=>jq tr un=true∧Q .normal (st.keep ks):=rfl
theorem qu7:AWP P E (.seq x y) ⟨fr,hp⟩ Q=AWP P E x ⟨fr,hp⟩ (Exit.th (fun st=>AWP P E y st Q) Q):=rfl
theorem qqk {id}:AWP P E (.block id x) ⟨fr,hp⟩ Q=AWP P E x ⟨fr,hp⟩ (Exit.blk id Q):=rfl
theorem qsL {id}:AWP P E (.exit id) ⟨fr,hp⟩ Q=Q (.exit id) ⟨fr,hp⟩:=rfl
theorem qu5:AWP P E .ret ⟨fr,hp⟩ Q=Q .ret ⟨fr,hp⟩:=rfl
theorem qqp {l}:AWP P E (.label l) ⟨fr,hp⟩ Q=Q .normal ⟨fr,hp⟩:=rfl
def zW : Option (List Nat × List Nat) → Option (List Nat × List Nat) → Bool
 | some (ri,wi),some (rj,wj)=>zE wi rj&&zE wi wj&&zE wj ri
 | _,_=>false
def zJ : Tr → Nat → Option (List Nat × List Nat)
 | [],_=>none
 | a::l,n=>if n=0 then some a else zJ l (n - 1)
theorem qkm : ∀ (l : Tr) (n : Nat),zJ l n = l[n]?
 | [],n=>by simp [zJ]
 | a::l,0=>by simp [zJ]
 | a::l,n+1=>by simp [zJ,qkm l n]
theorem qkl {a:List Nat × List Nat} {l:Tr} {n}:zJ (a::l) n=if n=0 then some a else zJ l (n - 1):=rfl
theorem qfM {i j un}:jq tr ((i,j)::un)=(zW (zJ tr i) (zJ tr j)&&jq tr un):=by
 simp only [jq,qkm]
 generalize tr[i]?=a
 generalize tr[j]?=b
 cases a <;> cases b <;> rfl
theorem qid:jq tr []=true:=rfl
theorem qjv {ri wi rj wj}:zW (some (ri,wi)) (some (rj,wj))=(zE wi rj&&zE wi wj&&zE wj ri):=rfl
theorem qlX {b:List Nat}:zE [] b=true:=rfl
theorem qjD {x:Nat} {a b:List Nat}:zE (x::a) b=(!b.contains x&&zE a b):=rfl
def qmt (fr:List (Nat × AV)) (ks:List Nat):List (Nat × AV):=ks.map fun t=>(t,get fr t)
theorem qsM {ks}:St.keep ⟨fr,hp⟩ ks=⟨qmt fr ks,hp⟩:=rfl
theorem qj9 {k ks}:qmt fr (k::ks)=(k,get fr k)::qmt fr ks:=rfl
theorem qmu:qmt fr []=[]:=rfl
theorem qvZ {st:St}:Exit.th KS Q .normal st=KS st:=rfl
theorem qvY {st:St} {id}:Exit.th KS Q (.exit id) st=Q (.exit id) st:=rfl
theorem qv0 {st:St}:Exit.th KS Q .ret st=Q .ret st:=rfl
theorem qtR {st:St} {id}:Exit.blk id Q .normal st=Q .normal st:=rfl
theorem qtS {st:St} {id}:Exit.blk id Q .ret st=Q .ret st:=rfl
theorem qtQ {st:St} {id id'}:Exit.blk id Q (.exit id') st=if id'=id then Q .normal st else Q (.exit id') st:=rfl
theorem qud:ZM P E [] ⟨fr,hp⟩ KS=KS ⟨fr,hp⟩:=rfl
theorem qrM {gs}:ZM P E (⟨none,os⟩::gs) ⟨fr,hp⟩ KS=Zf P E os ⟨fr,hp⟩ fun st=>ZM P E gs st KS:=rfl
def GdB (P:Program) (E:HE) (c b:Bool) (os:List AOp) (gs:List Grp) (st:St) (K:St→Prop):Prop:=(c=b→Zf P E os st fun st=>ZM P E gs st K)∧(c≠b→ZM P E gs (Qg os st) K)
def GdX (P:Program) (E:HE) (x:AV) (b:Bool) (os:List AOp) (gs:List Grp) (st:St) (K:St→Prop):Prop:=match x with
 | .v (.bool c)=>GdB P E c b os gs st K
 | .v (.tuple _)=>ZM P E gs (Qg os st) K
 | _=>False
theorem qrN {j b gs}:ZM P E (⟨some (j,b),os⟩::gs) ⟨fr,hp⟩ KS=GdX P E (get fr j) b os gs ⟨fr,hp⟩ KS:=by
 simp only [ZM,GdX]
 generalize get fr j=u
 cases u with
 | v y=>cases y <;> rfl
 | _=>rfl
theorem qou {c b gs st}:GdX P E (B c) b os gs st KS=GdB P E c b os gs st KS:=rfl
theorem qmg {c b gs st}:GdX P E (.v (.tuple c)) b os gs st KS=ZM P E gs (Qg os st) KS:=rfl
theorem quh {gs st}:GdB P E true true os gs st KS=Zf P E os st fun st=>ZM P E gs st KS:=by simp [GdB]
theorem que {gs st}:GdB P E false false os gs st KS=Zf P E os st fun st=>ZM P E gs st KS:=by simp [GdB]
theorem qug {gs st}:GdB P E true false os gs st KS=ZM P E gs (Qg os st) KS:=by simp [GdB]
theorem quf {gs st}:GdB P E false true os gs st KS=ZM P E gs (Qg os st) KS:=by simp [GdB]
def DdB (P:Program) (c b:Bool) (os:List AOp) (gs:List Grp) (st:St) (tr:Tr) (K:St→Tr→Prop):Prop :=
 (c=b→Zj P os st tr fun st tr=>Zg P gs st tr K)∧(c≠b→Zg P gs (Qg os st) (tr++os.map fun _=>([],[])) K)
def DdX (P:Program) (x:AV) (b:Bool) (os:List AOp) (gs:List Grp) (st:St) (tr:Tr) (K:St→Tr→Prop):Prop:=match x with
 | .v (.bool c)=>DdB P c b os gs st tr K
 | .v (.tuple _)=>Zg P gs (Qg os st) (tr++os.map fun _=>([],[])) K
 | _=>False
theorem qtW:Zg P [] ⟨fr,hp⟩ tr KD=KD ⟨fr,hp⟩ tr:=rfl
theorem qqX {gs}:Zg P (⟨none,os⟩::gs) ⟨fr,hp⟩ tr KD=Zj P os ⟨fr,hp⟩ tr fun st tr=>Zg P gs st tr KD:=rfl
theorem qqY {j b gs}:Zg P (⟨some (j,b),os⟩::gs) ⟨fr,hp⟩ tr KD=DdX P (get fr j) b os gs ⟨fr,hp⟩ tr KD:=by
 simp only [Zg,DdX]
 generalize get fr j=u
 cases u with
 | v y=>cases y <;> rfl
 | _=>rfl
theorem qoh {c b gs st}:DdX P (B c) b os gs st tr KD=DdB P c b os gs st tr KD:=rfl
theorem qlU {c b gs st}:DdX P (.v (.tuple c)) b os gs st tr KD=Zg P gs (Qg os st) (tr++os.map fun _=>([],[])) KD:=rfl
theorem qt0 {gs st}:DdB P true true os gs st tr KD=Zj P os st tr fun st tr=>Zg P gs st tr KD:=by simp [DdB]
theorem qtX {gs st}:DdB P false false os gs st tr KD=Zj P os st tr fun st tr=>Zg P gs st tr KD:=by simp [DdB]
theorem qtZ {gs st}:DdB P true false os gs st tr KD=Zg P gs (Qg os st) (tr++os.map fun _=>([],[])) KD:=by simp [DdB]
theorem qtY {gs st}:DdB P false true os gs st tr KD=Zg P gs (Qg os st) (tr++os.map fun _=>([],[])) KD:=by simp [DdB]
def qsD : List AOp → List (Nat × AV) → List (Nat × AV)
 | [],fr=>fr
 | o::os,fr=>qsD os (jL fr o.dst (.v (.tuple #[])))
theorem qh1 : ∀ {os : List AOp} {fr : List (Nat × AV)},Qg os ⟨fr,hp⟩ = ⟨qsD os fr,hp⟩
 | [],fr=>rfl
 | o::os,fr=>by
   rw [jW]
   have:Qg [o] ⟨fr,hp⟩=⟨jL fr o.dst (.v (.tuple #[])),hp⟩:=by rw [qaY];rfl
   rw [this,qh1];rfl
theorem qng:qsD [] fr=fr:=rfl
theorem qlb {o:AOp}:qsD (o::os) fr=qsD os (jL fr o.dst (.v (.tuple #[]))):=rfl
theorem qg {f:FuncId} {xs ys:List AV} {ids:List Nat} {r:AV} {KC:AV→List HObj→Prop} (h1:qE (hpf hp) xs=some (ys,ids)) (h2:qC P f ys r) (h3:KC r (qH hp (bif r.scalar then [] else zB ids))):zG P f xs hp KC:=by
 intro ro n w g vs hok hvs hrep
 refine (qek hok h1 hvs hrep h2).mono ?_
 rintro e w' ⟨v,rfl,g',q1,q2,q3⟩
 have hlen : ∀ p ∈ (bif r.scalar then [] else zB ids),p.1 ≤ hp.length := fun p hpm => by
  cases hs:r.scalar with
  | true=>rw [hs] at hpm;simp at hpm
  | false =>
    rw [hs] at hpm
    simp only [cond_false,zB,List.mem_map] at hpm
    obtain ⟨i,hi,rfl⟩:=hpm
    exact Nat.le_of_lt (jd h1 i hi)
 rw [←QK hlen] at q2 q3
 exact ⟨v,r,_,g',rfl,h3,q1,q2,q3⟩
theorem qQ {f:FuncId} {xs ys:List AV} {ids:List Nat} {r:AV} (h1:qE (hpf hp) xs=some (ys,ids)) (h2:qC P f ys r) (h3:K r (bif r.scalar then [] else zB ids)):qnZ P f xs hp K:=⟨ys,ids,h1,.inl ⟨r,h2,h3⟩⟩
theorem qiM {f:FuncId} {xs ys:List AV} {ids:List Nat} {m sz:Nat} {cs:List AV} (h1:qE (hpf hp) xs=some (ys,ids)) (h2:qbH P f ys m sz cs) (h3:K (.ms hp.length 0 m sz) (zB ids++[(hp.length,.cells cs)])):qnZ P f xs hp K:=⟨ys,ids,h1,.inr (.inl ⟨m,sz,cs,h2,h3⟩)⟩
theorem qoY {f:FuncId} {xs:List AV} {m sz:Nat} {cs:List AV} (hpc:(cs.all AV.isPC)=true) (h:zG P f xs [] fun x hp=>∃ id,x = .ms id 0 m sz∧hpf hp id=some (.cells cs)):qbH P f xs m sz cs:=by
 refine ⟨hpc,?_⟩
 intro ro n w g vs hok hvs hrep
 have e0:hpf []=fun _=>none:=by funext i;simp [hpf]
 refine (h ro n w g vs (by rw [e0];exact hok) hvs (fun i hi=>(hrep i hi).of)).mono ?_
 rintro e w' ⟨v,x,hp',g',rfl,⟨id,rfl,hid⟩,hx,hok',hu⟩
 rw [e0] at hu
 obtain ⟨l,hl,hrl⟩:=hok'.rep id _ hid
 have hpure:∀ i (hi:i<cs.length) x,Rep w' g' false cs[i] x→Rep w' { S:=g'.S,ρ:=fun j=>if j=0 then some l else none } false cs[i] x:=fun i hi x hr=>(((Yz (qaF (jj hpc i hi)) hr)).pure rfl _).of
 have hrl' : HRep w' { S := g'.S,ρ := fun j => if j = 0 then some l else none } (.cells cs) l := by
  cases l with
  | virg=>exact hrl
  | base L=>exact hrl
  | blk c d =>
    obtain ⟨arr,ty,fz,a1,a2,a3,a4,a5⟩:=hrl
    exact ⟨arr,ty,fz,a1,a2,a3,a4,fun i hi=>by obtain ⟨x,h1,h2⟩:=a5 i hi;exact ⟨x,h1,hpure i hi x h2⟩⟩
 refine ⟨v,{ S:=g'.S,ρ:=fun j=>if j=0 then some l else none },rfl,?_,?_,?_⟩
 · cases hx with
   | ms _ _ _ _ c d cap arr ty fz h1 h2 h3 h4=>rw [hl] at h1;cases h1;exact .ms _ _ _ _ c d cap arr ty fz (by simp) h2 h3 h4
   | msz _ _ _ a l' h1=>rw [hl] at h1;cases h1;exact .msz _ _ _ a l (by simp)
 · refine ⟨fun i hi => ?_,fun i o ho => ?_,fun i i' o o' c d d' ho ho' hl1 hl2 hr1 hr2 => ?_,hok'.ex,hok'.tab⟩
   · by_cases e : i = 0
     · subst e;simp [made] at hi
     · simp [e]
   · by_cases e : i = 0
     · subst e;simp [made] at ho;subst ho;exact ⟨l,by simp,hrl'⟩
     · simp [made,e] at ho
   · by_cases e : i = 0
     · by_cases e' : i' = 0
       · rw [e,e']
       · simp [e'] at hr2
     · simp [e] at hr1
 · refine ⟨⟨hu.tr.S,hu.tr.cell,fun i l' hl' => (by rw [hok.dom i rfl] at hl'; cases hl'),hu.tr.shp,hu.tr.os,hu.tr.tape,hu.tr.output,hu.tr.size,hu.tr.drawn⟩,?_,hu.S,hu.keep⟩
   rintro c ⟨i,o,d,ho,hlv,hr1⟩
   by_cases e:i=0
   · subst e
     simp at hr1;subst hr1
     rcases hu.live c ⟨id,_,d,hid,rfl,hl⟩ with ⟨_,_,_,h,_⟩ | h
     · cases h
     · exact .inr h
   · simp [e] at hr1
theorem qux {ts:List Nat} {KC:AV→List HObj→Prop}:qfB ts KC .normal ⟨fr,hp⟩=KC (qiP ts fr) hp:=rfl
theorem quy {ts:List Nat} {KC:AV→List HObj→Prop}:qfB ts KC .ret ⟨fr,hp⟩=KC (qiP ts fr) hp:=rfl
theorem walk {f : FuncId} {fn : Func} {ac : AC} {ts : List Nat} {xs : List AV} {KC : AV → List HObj → Prop} (hf : P.funcs[f]? = some fn) (hc : qo P fn ts = some ac) (hr : JO fn.results.toList = some ts)
 (hl:xs.length≤fn.ntmps) (h:AWP P (E1 P) ac ⟨YK 0 xs,hp⟩ (qfB ts KC)):zG P f xs hp KC:=qh9 hf hc hr hl h
def Next {α:Type} (I:α→St) (C:α→Prop) (μ:α→Nat) (a:α) (st:St):Prop:=∃ a',C a'∧μ a'<μ a∧St.le st (I a')
theorem St.le.rfl' (st:St):St.le st st:=fun N a w g h=>⟨g,h,.refl _ _ _⟩
theorem qkg {α:Type} (I:α→St) (C:α→Prop) (μ:α→Nat) (a0:α) {st:St} (h0:C a0) (hs:St.le st (I a0)) (round:∀ a,C a→AWP P E x (I a) (Exit.th (Next I C μ a) Q)):AWP P E (.loop x) st Q :=
 ⟨α,I,C,μ,a0,h0,hs,round⟩
theorem qO {α:Type} (I:α→St) (C:α→Prop) (μ:α→Nat) (a0:α) {st:St} (h0:C a0) (hs:st=I a0) (round:∀ a,C a→AWP P E x (I a) (Exit.th (Next I C μ a) Q)):AWP P E (.loop x) st Q :=
 qkg I C μ a0 h0 (hs ▸ St.le.rfl' st) round
theorem qz {α:Type} {I:α→St} {C:α→Prop} {μ:α→Nat} {a:α} {st:St} (a':α) (h:C a') (hm:μ a'<μ a) (hs:st=I a'):Next I C μ a st:=⟨a',h,hm,hs ▸ St.le.rfl' st⟩
theorem JH {l:List Int} {j sz} (h:j<l.length):Qm (l.map fun n=>I n) j sz false K=K (I (l.getD j 0)) []:=by
 simp [Qm,h]
theorem quu {r:AV} {x:Value}:Out r (.v x) hp=(r = .v x):=by
 apply propext
 constructor
 · rintro ⟨is,h⟩;simp [qU,zu,ze] at h;exact h.1.symm
 · rintro rfl;exact ⟨[],rfl⟩
theorem qnH {r x:AV} {is:List Nat} (h:qU (hpf hp) x=some (r,is)):Out r x hp:=⟨is,h⟩
end
attribute [simp] qvc qqw qsQ qvf qs1 qvb qve qsS qu8 qsT qsR qu9 qs2 qva qs3 qs5 qs4 qs7 qta qtg qti qsO qsX qtd qsW qvd qqv qtb
attribute [simp] qt5 qoq qq6 qt8 qrh qt4 qt7 qt1 qq9 qq7 qt2 qt3 qrj qrn qrq qrw qry qq4 qrt qrc qop qoo
attribute [simp low] jJ J7
attribute [simp] qee qed J4 qhS qsn qm2 Option.map_none Option.map_some qkt qiK qiJ qgr qkj Yv qng qlb qdb qkk qf qt qux quy quu
attribute [simp] qqm qqn qqo qu4 qsK qsI qql qtV qqr qv5 qsH qqf quK qtA qtN qtH qtJ qtK qtB qvE qtL qtM qtC qtI qtG qtF qtE qtD qv8 quF quQ qt9 qv4 qr2 qr3 qv7 qsx quM qv1 quN quL qv2 qrK qrL quR qot qv3 quk quj quS qoC quU qoT quV qr6 qr5 qu0 quO qod qv6 qsb qsc qsG qmH quX quI quY qsJ qqU qqV qob qsN qu6 qu3 qu7 qqk qsL qu5 qqp qsM qvZ qvY qv0 qtR qtS qtQ qud qrM qrN qou qmg quh que qug quf qtW qqX qqY qoh qlU qt0 qtX qtZ qtY qh1
attribute [simp] qj9 qmu JJ qgc qvM qvL jL qH JY AOp.dst qul qrX qoQ qoR qrW qrV qrU qoM qrT qoK qkl qfM qid qjv qlX qjD YK qiP AV.cells AV.isCell AV.isPure AV.isPure0 AV.isPC zT splice qjS qis AV.scalar
attribute [simp] qsU qsV qqt qth qtc qs6 qrm qs8 qro qre qsZ qrf qmb qma ql7 ql8 quP
end Go.AM

set_option maxRecDepth 100000
namespace Go.AM
open Go.RowKit
theorem qb {n:Int} (h : -9223372036854775808≤n∧n<9223372036854775808):IntKind.i64.wrap n=n:=by
 simp [IntKind.wrap,IntKind.bits,IntKind.signed,Int.bmod]
 omega
variable {P:Program} {hp:List HObj} {K:AV→List (Nat × HObj)→Prop}
end Go.AM

namespace Go.AM
open Go.RowKit
abbrev Ls (f:Bool) (l:List Int):AV := .sl f l.length (l.map fun n=>I n)
def qiy {α:Type} (p:α→Bool) (l:List α):Int:=match l.findIdx? p with
 | some k=>k
 | none => -1
theorem qas {α:Type} {p:α→Bool} {l:List α} {i:Nat} (h:i<l.length) (hp:p l[i]=true) (hn:∀ k (hk:k<l.length),k<i→p l[k]=false):qiy p l=i:=by
 have:l.findIdx? p=some i:=List.findIdx?_eq_some_iff_getElem.2 ⟨h,hp,fun j hj=>by simpa using hn j (by omega) hj⟩
 simp [qiy,this]
theorem zt {hp:List HObj} {ws:List (Nat × HObj)} (h:∀ p∈ws,p.1≤hp.length) (i:Nat):qr (qH hp ws) i=Hp.write (hpf hp) ws i:=by
 rw [zH];exact congrFun (QK h) i
def qqi : AV → AV
 | .sl _ n cs => .sl false n cs
 | x=>x
def weak : AV → AV
 | .tup vs => .tup (vs.map qqi)
 | .agg vs => .agg (vs.map qqi)
 | x=>qqi x
theorem qkW {l:List Int} {k:Nat} {v:Int} (h:k<l.length):splice (l.map fun n=>I n) k [I v]=(l.set k v).map fun n=>I n:=by
 simp only [splice,List.length_singleton]
 rw [List.set_eq_take_append_cons_drop,if_pos h]
 simp [List.map_take,List.map_drop]
theorem qi {hp:List HObj} {id:Nat} {o:HObj} (h:id<hp.length):qr (hp.set id o) id=some o:=by
 rw [zH,List.getElem?_set_self h]
theorem qh {hp:List HObj} {id j:Nat} {o:HObj} (h:id≠j):qr (hp.set id o) j=qr hp j:=by
 rw [zH,zH,List.getElem?_set_ne h]
def rid : AV → Option Nat
 | .ms id _ _ _=>some id
 | _=>none
theorem qj {hp:List HObj} {i:Nat} {o:HObj} (h:qr hp i=some o):i<hp.length:=by rw [zH] at h;exact Zv h
section
variable {hp:List HObj} {K:AV→List (Nat × HObj)→Prop}
end
theorem qsj {P : Program} {E : HE} {g : Opd} {ps ks : List Nat} {x y : AC} {fr : List (Nat × AV)} {hp : List HObj} {Q : Exit → St → Prop} {K0 : List HObj → Prop}
 (h1 : E.R (evF (get fr) g) hp (fun xs hp' K => hpf hp' hp.length = some (.lp .ready (hp.length + 1)) ∧ xs.length = ps.length ∧
       AWP P E x { fr := putPs ps xs fr,hp := hp' } (Exit.th (fun st1 => hpf st1.hp hp.length = some (.lp .ready (hp.length + 1)) ∧
        AWP P E y { fr:=st1.fr,hp:=JY st1.hp hp.length (.lp .busy (hp.length+1)) } (qg6 hp.length K)) (fun _ _=>False))) K0)
 (h2:∀ hp',K0 hp'→qh6 hp.length fr ks Q hp'):AWP P E (.rf g ps x y ks) ⟨fr,hp⟩ Q:=⟨K0,h1,h2⟩
theorem zh (hp:List HObj) (i:Nat):hpf hp i=qr hp i:=(zH hp i).symm
theorem qaS {id:Nat} {fr:List (Nat × AV)} {ks:List Nat} {Q:Exit→St→Prop} {hp:List HObj} {m:Nat} (h:qr hp id=some (.lp .ready m)) (hq:Q .normal (St.keep { fr:=fr,hp:=hp.set id .gone } ks)):qh6 id fr ks Q hp:=by
 simp only [qh6,zh,h]
 have:=qj h
 simp only [JY,this,if_true]
 exact hq
theorem qh3 : ∀ (n : Nat) (x : AV),zP n [x] = List.replicate n x
 | 0,_=>rfl
 | n+1,x=>by simp [zP,qh3 n x,List.replicate_succ]
theorem Wv {hp:List HObj} {ids:List Nat} {i:Nat} (h:∀ j∈ids,j<hp.length) (h0:i∉ids):qr (qH hp (zB ids)) i=qr hp i:=by
 have h1 : ∀ p ∈ zB ids,p.1 ≤ hp.length := fun p hp' => by
  simp only [zB,List.mem_map] at hp'
  obtain ⟨j,hj,rfl⟩:=hp'
  exact Nat.le_of_lt (h j hj)
 have h2:=congrFun (QK h1) i
 rw [Qk,if_neg h0] at h2
 rw [zH,zH]
 exact h2
theorem JW {hp : List HObj} : ∀ {ids : List Nat},hp.length ≤ (qH hp (zB ids)).length
 | ids=>Zz _ _
theorem qrZ {P : Program} {E : HE} {d : Nat} {neg : Bool} {x : Opd} {os : List AOp} {fr : List (Nat × AV)} {hp : List HObj} {K : St → Prop} {f : Bool} {n : Nat} {cs : List AV} (hx : evF (get fr) x = .sl f n cs)
 (h0:cs=[]→∀ c,Zf P E os ⟨(d,.v (.bool c))::fr,hp⟩ K) (h1:cs≠[]→Zf P E os ⟨(d,.v (.bool neg))::fr,hp⟩ K):Zf P E (.isn d neg 0 x::os) ⟨fr,hp⟩ K:=by
 simp only [Zf,aop,AOp.many,hx]
 cases cs with
 | nil=>exact ⟨h0 rfl false,h0 rfl true⟩
 | cons a l=>exact h1 (by simp)
theorem qel {P:Program} {F:Nat→AV} {hp:List HObj} {K:AV→List (Nat × HObj)→Prop} {d n:Nat} {x:Opd} {cs:List AV} (hx:evF F x = .sl true n cs) (k:K (I n) []):(AOp.cap d x).wp P F hp K:=by
 refine ⟨_,_,?_,k⟩
 simp only [AOp.sem,hx]
 exact ⟨by trivial,by first | rfl | trivial,by first | rfl | trivial⟩
theorem qir {hp : Hp} {g : G} {w : World} (h : HeapOK hp g w) {id : Nat} {cs cs' : List AV} {is : List Nat} (h1 : hp id = some (.cells cs)) (h2 : Qq hp cs = some (cs',is)) (hid : id ∉ is)
 (hids:∀ i∈is,∃ cs,hp i=some (.cells cs)) (hrep:cs'.length=cs.length∧∀ j (hj:j<cs.length) (hj':j<cs'.length) v,Rep w g false cs[j] v→Rep w (g.pub (QJ hp g is)) true cs'[j] v) :
 HeapOK (Hp.set (Hp.write hp (zB is)) id (.cells cs')) (g.pub (QJ hp g is)) w∧Upd hp g w (Hp.set (Hp.write hp (zB is)) id (.cells cs')) (g.pub (QJ hp g is)) w:=by
 obtain ⟨hokA,updA⟩:=h.giveAll is hids
 have hA:Hp.write hp (zB is) id=some (.cells cs):=by rw [Qk,if_neg hid];exact h1
 obtain ⟨l0,r1,r2⟩:=hokA.rep id _ hA
 have T:=updA.tr
 have hl0:g.ρ id=some l0:=r1
 obtain ⟨l1,s1,s2⟩:=h.rep id _ h1
 rw [hl0] at s1;cases s1
 have new:HRep w (g.pub (QJ hp g is)) (.cells cs') l0:=by
  cases l0 with
  | virg =>
    have e:cs=[]:=s2
    have:cs'=[]:=List.eq_nil_of_length_eq_zero (by rw [hrep.1,e];rfl)
    exact this
  | base L=>exact r2.elim
  | blk c d =>
    obtain ⟨arr,ty,fz,a1,a2,a3,a4,a5⟩:=r2
    obtain ⟨arr',ty',fz',b1,b2,b3,b4,b5⟩:=s2
    rw [a1] at b1;cases b1
    refine ⟨arr,ty,fz,a1,by rw [hrep.1];exact a2,a3,a4,fun i hi=>?_⟩
    have hi':i<cs.length:=by rw [←hrep.1];exact hi
    obtain ⟨x,x1,x2⟩:=b5 i hi'
    exact ⟨x,x1,(hrep.2 i hi' hi x x2).of⟩
 have tr:Trans w (g.pub (QJ hp g is)) w (g.pub (QJ hp g is)) := .refl _ _
 have live:(HObj.cells cs').live=(HObj.cells cs).live:=rfl
 refine ⟨hokA.change (fun i=>i=id) tr (fun i hi=>Hp.set_other _ _ hi) (fun _ _=>rfl) (fun _ _ _ _ _ _ _ _=>rfl) (fun _ _ _ _ _ _ _ _ _ hq=>hq) ?_ ?_ hokA.ex,updA.trans ⟨tr,?_,fun b q hs => .inl hs,fun b hb _=>rfl⟩⟩
 · rintro i rfl
   exact ⟨_,l0,Hp.set_same _ _ _,r1,new⟩
 · intro i i' o o' c d d' hi ho ho' hl hl' hr hr'
   subst hi
   by_cases e:i'=i
   · exact e.symm
   · rw [Hp.set_other _ _ e] at ho'
     exact hokA.inj i i' _ o' c d d' hA ho' rfl hl' hr hr'
 · rintro c ⟨i,o,d,ho,hl,hr⟩
   by_cases e:i=id
   · subst e
     exact .inl ⟨i,_,d,hA,rfl,hr⟩
   · rw [Hp.set_other _ _ e] at ho
     exact .inl ⟨i,o,d,ho,hl,hr⟩
theorem qeg {P : Program} {f : FuncId} {xs ys : List AV} {hp : List HObj} {K : AV → List HObj → Prop} {id : Nat} {cs cs' : List AV} {is : List Nat} (h1 : qr hp id = some (.cells cs)) (h2 : Qq (hpf hp) cs = some (cs',is)) (hid : id ∉ is)
 (hlen:ys.length=xs.length) (hargs:∀ i (h:i<xs.length) (h':i<ys.length),xs[i]=ys[i]∨∃ js,qU (hpf hp) xs[i]=some (ys[i],js)∧∀ j∈js,j∈is)
 (hcall:zG P f ys (qH hp (zB is++[(id,.cells cs')])) K):zG P f xs hp K:=by
 intro ro n w g vs hok hvs hrep
 have hids:=Vk h2
 obtain ⟨q1,q2⟩:=qir hok (by rw [zH] at h1;exact h1) h2 hid hids (JM hok h2 fun i h=>h)
 have lt : ∀ p ∈ zB is ++ [(id,HObj.cells cs')],p.1 ≤ hp.length := fun p hp' => by
  rw [List.mem_append] at hp'
  rcases hp' with hp' | hp'
  · simp only [zB,List.mem_map] at hp'
    obtain ⟨i,hi,rfl⟩:=hp'
    obtain ⟨cs,hcs⟩:=hids i hi
    exact Nat.le_of_lt (Zv hcs)
  · simp at hp';subst hp';exact Nat.le_of_lt (qj h1)
 have e:hpf (qH hp (zB is++[(id,.cells cs')]))=Hp.set (Hp.write (hpf hp) (zB is)) id (.cells cs'):=by
  rw [QK lt,ji]
 refine (hcall ro n w _ vs (by rw [e];exact q1) (by omega) fun i hi=>?_).mono ?_
 · rcases hargs i (by omega) hi with h | ⟨js,h,hs⟩
   · rw [←h];exact (hrep i (by omega)).mono q2.tr
   · exact (jE hok h hs (hrep i (by omega))).of
 · rintro e' w' ⟨v,r,hp',g',a1,a2,a3,a4,a5⟩
   exact ⟨v,r,hp',g',a1,a2,a3,a4,q2.trans (by rw [e] at a5;exact a5)⟩
theorem qW {P:Program} {E:HE} {c:AC} {st:St} {K:Exit→St→Prop} (h:∀ K',K'=K→AWP P E c st K'):AWP P E c st K:=h K rfl
theorem qke {fr fr':List (Nat × AV)} {hp:List HObj} (h:∀ t,get fr' t=get fr t∨get fr' t = .any):St.le ⟨fr,hp⟩ ⟨fr',hp⟩:=by
 rintro N a w g ⟨h1,hF,hok⟩
 refine ⟨g,⟨h1,fun t=>?_,hok⟩,.refl _ _ _⟩
 show Rep _ _ _ (get fr' t) _
 rcases h t with e | e
 · rw [e];exact hF t
 · rw [e];exact .any _ _
variable {P:Program}
def AWS (P:Program) (ac:AC) (st:St) (Q:Exit→St→Prop):Prop :=
 ∀ (N : Nat) (c : Go.Code) (a : Act) (w : World) (g : G) (R : Exit → Act → World → Prop) (ro : Option Nat) (n : Nat),
   qdN P N c ac→(ro=none∨ac.noRf=true)→Sim N st a w g→qjk N st a w g Q R→c.wpIn (W ro) n P R a w
theorem qnu {ac:AC} {st:St} {Q:Exit→St→Prop} (h:AWP P (E1 P) ac st Q):AWS P ac st Q:=fun N c a w g R ro n hf hr hs hl =>
 Qr (E:=E1 P) (w1:=w) (g1:=g) YP Vm hf hr h (.refl _ _) hs hl
theorem qn6 {x y:AC} {st:St} {Q:Exit→St→Prop} (h:AWS P x st (Exit.th (fun st=>AWS P y st Q) Q)):AWS P (.seq x y) st Q:=fun N c a w g R ro n hf hr hs hl=>by
 cases c <;> first | exact hf.elim | skip
 rename_i c1 c2
 have hr1:ro=none∨x.noRf=true:=hr.imp (fun h=>h) (fun h=>by simp [AC.noRf] at h;exact h.1)
 have hr2:ro=none∨y.noRf=true:=hr.imp (fun h=>h) (fun h=>by simp [AC.noRf] at h;exact h.2)
 refine wpIn_seq (h _ _ _ _ _ _ _ _ hf.1 hr1 hs fun e st' a' w' g' hq hs' hu hd=>?_)
 cases e with
 | normal=>exact hq _ _ _ _ _ _ _ _ hf.2 hr2 hs' (fun e st2 a2 w2 g2 q2 s2 u2 d2=>hl e st2 a2 w2 g2 q2 s2 (hu.trans u2) (hd.trans hu.tr.size u2 d2))
 | _=>exact hl _ _ _ _ _ hq hs' hu hd
theorem zV {x y:AC} {st:St} {Q:Exit→St→Prop} (h:AWP P (E1 P) x st (Exit.th (fun st=>AWS P y st Q) Q)):AWS P (.seq x y) st Q:=qn6 (qnu h)
theorem qjr {f : FuncId} {fn : Func} {ac : AC} {ts : List Nat} {xs : List AV} {hp : List HObj} {K : AV → List HObj → Prop} (hf : P.funcs[f]? = some fn) (hc : qo P fn ts = some ac) (hr : JO fn.results.toList = some ts)
 (hl:xs.length≤fn.ntmps) (h:AWS P ac { fr:=YK 0 xs,hp:=hp } (qfB ts K)):zG P f xs hp K:=by
 simp only [qo,Option.map_eq_some_iff] at hc
 obtain ⟨c,hb,rfl⟩:=hc
 have hfit:=Q4 (P:=P) (N:=fn.ntmps) (rt:=ts) (ex:=[]) (l:=ts) (QA c)
 have hr:=QB (P:=P) hr
 rw [←qaR] at h
 intro ro n w g vs hok hvs hrep
 have go : CallsIn (W none) n P f vs w fun e w' => ∃ v r hp' g', e = .returned v ∧ K r hp' ∧ Rep w' g' false r v ∧ HeapOK (hpf hp') g' w' ∧ Upd (hpf hp) g w (hpf hp') g' w' := by
  refine callsIn_of_wp_marks hf hb trivial (h _ _ _ _ g _ _ _ hfit (.inl rfl) ?_ ?_) rfl
  · refine ⟨by simp [hvs]; omega,fun t => ?_,hok⟩
    show Rep w g false (get (YK 0 xs) t) _
    rw [VB]
    simp only [Nat.zero_le,if_true,Nat.sub_zero]
    by_cases ht:t<xs.length
    · have e1 : xs.getD t .any = xs[t] := by simp [ht]
      rw [e1]
      have:=hrep t ht
      simp only [Array.getD_eq_getD_getElem?] at this ⊢
      rw [Array.getElem?_append_left (by omega)]
      exact this
    · have e1 : xs.getD t .any = .any := by simp [Nat.le_of_not_lt ht]
      rw [e1];exact .any _ _
  · intro e st' a' w' g' hq hs hu hd
    obtain ⟨ms,d1,d2,d3⟩:=hd
    simp only [List.append_nil] at d1
    have fin : (∃ xs,qhP (hpf st'.hp) st'.fr (ts.map (·,none)) xs ∧ K (qft xs) st'.hp) → LeavesInM (W none) n P fn a'.tmps (fun e w' => ∃ v r hp' g',e = .returned v ∧ K r hp' ∧ Rep w' g' false r v ∧ HeapOK (hpf hp') g' w' ∧ Upd (hpf hp) g w (hpf hp') g' w') a'.defers .returning w' := fun ⟨ys,hy,hK⟩ => by
     rw [d1]
     obtain ⟨k1,k2,k3⟩:=YF ms w' d2 d3 hs.2.2 hu
     refine Jb ms w' d2 (fun D hD=>(d3 D hD).2.1) ?_
     obtain ⟨v,j1,j2⟩:=Yi (P:=P) k1 (fun i=>(hs.2.1 i).mono k3) hr hy
     exact ⟨v,j1,v,_,_,g',rfl,hK,j2,k1,k2⟩
    cases e with
    | normal=>exact fin hq
    | ret=>exact fin hq
    | _=>exact hq.elim
 exact go
variable {P:Program}
theorem Xv {l:List AV} (h:(l.all AV.isPC)=true):(l.all AV.isPure)=true:=by
 rw [List.all_eq_true] at h ⊢
 exact fun x hx=>qaF (h x hx)
section
variable {K:AV→List (Nat × HObj)→Prop}
end
end Go.AM

namespace Go.AM
open Go.RowKit
abbrev S (l:List UInt8):AV := .v (.string ⟨l.toArray⟩)
theorem qsy (s:ByteArray):s=⟨s.data.toList.toArray⟩:=by apply ByteArray.ext;simp
theorem qp4 (a b:List UInt8):(⟨a.toArray⟩:ByteArray)++⟨b.toArray⟩=⟨(a++b).toArray⟩:=by apply ByteArray.ext;simp
theorem Xx (a:List UInt8):(⟨a.toArray⟩:ByteArray).size=a.length:=rfl
theorem qhV (a:List UInt8):(⟨a.toArray⟩:ByteArray).toList=a:=by rw [ByteArray.toList_eq]
theorem WK (a:List UInt8) (i j:Nat):(⟨a.toArray⟩:ByteArray).extract i j=⟨((a.drop i).take (j - i)).toArray⟩:=by
 apply ByteArray.ext
 simp [List.take_drop]
theorem qp5 (a:List UInt8) (i:Nat):(⟨a.toArray⟩:ByteArray)[i]?=a[i]?:=by
 by_cases h:i<a.length
 · have h' : i < (⟨a.toArray⟩ : ByteArray).size := h
   rw [List.getElem?_eq_getElem h,getElem?_pos (⟨a.toArray⟩:ByteArray) i h']
   rfl
 · have h' : ¬ i < (⟨a.toArray⟩ : ByteArray).size := h
   rw [List.getElem?_eq_none (by omega),getElem?_neg (⟨a.toArray⟩:ByteArray) i h']
section
variable {P:Program} {E:HE} {fr:List (Nat × AV)} {hp:List HObj} {F:Nat→AV} {os:List AOp} {KS:St→Prop} {KD:St→Tr→Prop} {tr:Tr} {K:AV→List (Nat × HObj)→Prop}
theorem qsP {a0 a1}:Zf P E (.b2s a0 a1::os) ⟨fr,hp⟩ KS=(AOp.b2s a0 a1).wp P (get fr) hp (Qo P E os (some a0) fr hp KS):=rfl
theorem qtf {a0 a1}:Zf P E (.s2b a0 a1::os) ⟨fr,hp⟩ KS=(AOp.s2b a0 a1).wp P (get fr) hp (Qo P E os (some a0) fr hp KS):=rfl
theorem qq5 {a0 a1}:Zj P (.b2s a0 a1::os) ⟨fr,hp⟩ tr KD=(AOp.b2s a0 a1).wp P (get fr) hp (zN P os (some a0) fr hp tr ((evF (get fr) a1).ids) KD):=by simp [Zj,AOp.wp,zN,AOp.foot,AOp.heapy,AOp.opds,AOp.dst,St.step]
theorem qol {a0 a1 a2 a3}:Zj P (.apps a0 a1 a2 a3::os) ⟨fr,hp⟩ tr KD=(AOp.apps a0 a1 a2 a3).wp P (get fr) hp (zN P os (some a0) fr hp tr ((evF (get fr) a2).ids++(evF (get fr) a3).ids) KD):=by simp [Zj,AOp.wp,zN,AOp.foot,AOp.heapy,AOp.opds,AOp.dst,St.step]
def qtl (hp:List HObj) (x:AV) (K:AV→List (Nat × HObj)→Prop):Prop:=∃ bs:List UInt8,ZO (hpf hp) 1 x=some (bs.length,qw bs)∧K (S bs) []
theorem quJ {d x}:(AOp.b2s d x).wp P F hp K=qtl hp (evF F x) K:=by
 apply propext
 constructor
 · rintro ⟨r,ws,⟨bs,h1,rfl,rfl⟩,k⟩;exact ⟨bs,h1,k⟩
 · rintro ⟨bs,h1,k⟩;exact ⟨_,_,⟨bs,h1,rfl,rfl⟩,k⟩
theorem qbK : ∀ {a b : List UInt8},qw a = qw b → a = b
 | [],[],_=>rfl
 | [],_::_,h=>by cases h
 | _::_,[],h=>by cases h
 | x::a,y::b,h=>by
   simp only [qw,List.map_cons,List.cons.injEq,AV.v.injEq,Value.int.injEq,true_and] at h
   obtain ⟨h1,h2⟩:=h
   rw [qbK (a:=a) (b:=b) h2,show x=y from UInt8.toNat_inj.1 (by omega)]
theorem qZ (l:List UInt8):(qw l).length=l.length:=by simp [qw]
theorem V5 (a b:List UInt8):qw (a++b)=qw a++qw b:=by simp [qw]
theorem qbJ {l:List UInt8} {i:Nat} (h:i<l.length):(qw l)[i]?=some (.v (.int .u8 l[i].toNat)):=by simp [qw,h]
theorem Jp (l:List UInt8):((qw l).all AV.isPC)=true:=by
 rw [List.all_eq_true];intro x hx
 obtain ⟨b,_,rfl⟩:=List.mem_map.1 hx
 rfl
theorem qfG (l:List UInt8) (n:Nat):(qw l).take n=qw (l.take n):=by simp [qw]
theorem qg8 {f n} {bs:List UInt8}:qtl hp (.sl f n (qw bs)) K=(n=bs.length∧K (S bs) []):=by
 apply propext
 constructor
 · rintro ⟨b',h1,k⟩
   simp only [ZO] at h1
   split at h1
   · rename_i hl
     simp only [Option.some.injEq,Prod.mk.injEq] at h1
     have:=qbK h1.2
     subst this
     exact ⟨h1.1,k⟩
   · cases h1
 · rintro ⟨rfl,k⟩
   exact ⟨bs,by simp [ZO,qZ],k⟩
theorem qnf {c:Int} (h0:0≤c) (h1:c≤255):((UInt8.ofNat c.toNat).toNat:Int)=c:=by
 have:(UInt8.ofNat c.toNat).toNat=c.toNat % 256:=UInt8.toNat_ofNat'
 rw [this];omega
theorem qjp {f} {c:Int} (h0:0≤c) (h1:c≤255):qtl hp (.sl f 1 [.v (.int .u8 c)]) K=K (S [UInt8.ofNat c.toNat]) []:=by
 have:[AV.v (.int .u8 c)]=qw [UInt8.ofNat c.toNat]:=by simp only [qw,List.map_cons,List.map_nil];rw [qnf h0 h1]
 rw [this,qg8];simp
def qvq (x:AV) (K:AV→List (Nat × HObj)→Prop):Prop:=match x with
 | .v (.string s)=>K (.sl false s.size (qw s.data.toList)) []
 | _=>False
theorem quZ {d x}:(AOp.s2b d x).wp P F hp K=qvq (evF F x) K:=by
 unfold AOp.wp;simp only [AOp.sem]
 generalize evF F x=u
 cases u with
 | v y=>cases y <;> first | exact Js | exact jK
 | _=>exact jK
theorem quA {l:List UInt8}:qvq (S l) K=K (.sl false l.length (qw l)) []:=rfl
def qqD (hp:List HObj) (bytes:Nat) (x y:AV) (K:AV→List (Nat × HObj)→Prop):Prop:=match y with
 | .v (.string s)=>∃ r ws,jt (hpf hp) hp.length r ws 1 bytes x s.size (qw s.data.toList)∧K r ws
 | _=>False
theorem qsE {d bytes x y}:(AOp.apps d bytes x y).wp P F hp K=qqD hp bytes (evF F x) (evF F y) K:=by
 unfold AOp.wp;simp only [AOp.sem]
 generalize evF F y=u
 cases u with
 | v z=>cases z <;> first | rfl | exact jK
 | _=>exact jK
theorem qqN {bytes x} {l:List UInt8}:qqD hp bytes x (S l) K=qnk hp 1 bytes x (.sl false l.length (qw l)) K:=by
 apply propext
 constructor
 · rintro ⟨r,ws,h,k⟩;exact ⟨l.length,_,by simp [ZO,qZ],Jp l,r,ws,h,k⟩
 · rintro ⟨m,ys,h1,h2,r,ws,h,k⟩
   simp [ZO,qZ] at h1
   obtain ⟨rfl,rfl⟩:=h1
   exact ⟨r,ws,h,k⟩
theorem Z5 {a b:List UInt8} (h:a.length+b.length≤9223372036854775807):Xy .add (S a) (S b) K=K (S (a++b)) []:=by
 refine Zo ?_
 simp only [Y6,Xx]
 rw [if_pos h,qp4]
theorem qqO {a b:List UInt8}:Xy .eql (S a) (S b) K=K (B (a==b)) []:=Zo (by simp only [Y6,qhV])
theorem qqP {a b:List UInt8}:Xy .neq (S a) (S b) K=K (B (!(a==b))) []:=Zo (by simp only [Y6,qhV])
def qnX (x i:AV) (K:AV→List (Nat × HObj)→Prop):Prop:=match x,i with
 | .v (.string s),.v (.int _ j)=>0≤j∧∃ b,s[j.toNat]?=some b∧K (.v (.int .u8 b.toNat)) []
 | _,_=>False
theorem quT {d x i}:(AOp.ids d x i).wp P F hp K=qnX (evF F x) (evF F i) K:=by
 unfold AOp.wp;simp only [AOp.sem]
 generalize evF F x=u
 generalize evF F i=v
 cases u with
 | v y =>
   cases v with
   | v z =>
     cases y <;> cases z <;> first | exact jK | skip
     apply propext
     constructor
     · rintro ⟨r,ws,⟨h1,⟨b,h2,rfl⟩,rfl⟩,k⟩;exact ⟨h1,b,h2,k⟩
     · rintro ⟨h1,b,h2,k⟩;exact ⟨_,_,⟨h1,⟨b,h2,rfl⟩,rfl⟩,k⟩
   | _=>cases y <;> exact jK
 | _=>cases v <;> exact jK
theorem qoL {l:List UInt8} {j:Int} {k:IntKind}:qnX (S l) (.v (.int k j)) K=(0≤j∧∃ b,l[j.toNat]?=some b∧K (.v (.int .u8 b.toNat)) []):=by
 simp only [qnX,qp5]
theorem qnD {l:List UInt8} {i:Nat} {k:IntKind} (h:i<l.length):qnX (S l) (.v (.int k (i:Int))) K=K (.v (.int .u8 l[i].toNat)) []:=by
 rw [qoL];simp [h]
theorem qoO {l:List UInt8} {j:Int} {k:IntKind} (i:Nat) (e:j=i) (h:i<l.length):qnX (S l) (.v (.int k j)) K=K (.v (.int .u8 l[i].toNat)) []:=by
 subst e;exact qnD h
theorem qmp {c:UInt8} {l:List UInt8} {k:IntKind}:qnX (S (c::l)) (.v (.int k 0)) K=K (.v (.int .u8 c.toNat)) []:=by
 rw [qoL];simp
def qvo (x:AV) (K:AV→List (Nat × HObj)→Prop):Prop:=match x with
 | .v (.string s)=>K (I s.size) []
 | _=>False
theorem quW {d x}:(AOp.lns d x).wp P F hp K=qvo (evF F x) K:=by
 unfold AOp.wp;simp only [AOp.sem]
 generalize evF F x=u
 cases u with
 | v y=>cases y <;> first | exact Js | exact jK
 | _=>exact jK
theorem quq {l:List UInt8}:qvo (S l) K=K (I l.length) []:=rfl
def qn0 (x:AV) (lo hi:Option AV) (K:AV→List (Nat × HObj)→Prop):Prop:=match x with
 | .v (.string s)=>∃ l h:Nat,(match lo with | none=>l=0 | some y=>y=I l)∧(match hi with | none=>h=s.size | some y=>y=I h)∧l≤h∧h≤s.size∧K (.v (.string (s.extract l h))) []
 | _=>False
theorem qu1 {d x lo hi}:(AOp.sls d x lo hi).wp P F hp K=qn0 (evF F x) (lo.map (evF F)) (hi.map (evF F)) K:=by
 unfold AOp.wp;simp only [AOp.sem]
 generalize evF F x=u
 cases u with
 | v y =>
   cases y <;> first | exact jK | skip
   apply propext
   constructor
   · rintro ⟨r,ws,⟨l,h,h1,h2,h3,h4,rfl,rfl⟩,k⟩;exact ⟨l,h,h1,h2,h3,h4,k⟩
   · rintro ⟨l,h,h1,h2,h3,h4,k⟩;exact ⟨_,_,⟨l,h,h1,h2,h3,h4,rfl,rfl⟩,k⟩
 | _=>exact jK
theorem qnN {l:List UInt8} {j:Int} (h0:0≤j) (h1:j≤l.length):qn0 (S l) (some (I j)) none K=K (S (l.drop j.toNat)) []:=by
 apply propext
 simp only [qn0,Xx,qh4]
 constructor
 · rintro ⟨a,b,e1,rfl,h2,h3,k⟩
   subst e1
   rw [WK,List.take_of_length_le (by simp)] at k
   simpa using k
 · intro k
   refine ⟨j.toNat,l.length,by omega,rfl,by omega,by omega,?_⟩
   rw [WK,List.take_of_length_le (by simp)]
   exact k
theorem qsq {l:List UInt8} {j:Int} (h0:0≤j) (h1:j≤l.length):qn0 (S l) none (some (I j)) K=K (S (l.take j.toNat)) []:=by
 apply propext
 simp only [qn0,Xx,qh4]
 constructor
 · rintro ⟨a,b,rfl,e1,h2,h3,k⟩
   subst e1
   rw [WK] at k
   simpa using k
 · intro k
   refine ⟨0,j.toNat,rfl,by omega,by omega,by omega,?_⟩
   rw [WK]
   simpa using k
theorem qm3 {l:List UInt8} {i j:Int} (h0:0≤i) (h1:i≤j) (h2:j≤l.length):qn0 (S l) (some (I i)) (some (I j)) K=K (S ((l.drop i.toNat).take (j.toNat - i.toNat))) []:=by
 apply propext
 simp only [qn0,Xx,qh4]
 constructor
 · rintro ⟨a,b,e1,e2,h3,h4,k⟩
   subst e1;subst e2
   rw [WK] at k
   simpa using k
 · intro k
   refine ⟨i.toNat,j.toNat,by omega,by omega,by omega,by omega,?_⟩
   rw [WK]
   exact k
end
attribute [simp] qsP qq5 qtf qol quJ qjp quZ quA qsE qqN Z5 qqO qqP quT qnD qmp quW quq qu1 qnN qsq qm3
def AccG (hp:List HObj) (x:AV) (sz n:Nat) (cs:List AV):Prop :=
 (x = .sl true 0 []∧n=0∧cs=[])∨∃ id,x = .ms id 0 n sz∧0<n∧qr hp id=some (.cells cs)∧cs.length=n*sz∧(cs.all AV.isPC)=true
theorem AccG.nil {hp sz}:AccG hp (.sl true 0 []) sz 0 [] := .inl ⟨rfl,rfl,rfl⟩
theorem AccG.mono {hp H x sz n cs} (h:AccG hp x sz n cs) (hk:∀ i,rid x=some i→qr H i=qr hp i):AccG H x sz n cs:=by
 rcases h with h | ⟨id,rfl,h1,h2,h3⟩
 · exact .inl h
 · exact .inr ⟨id,rfl,h1,(hk id rfl).trans h2,h3⟩
theorem AccG.lt {hp x sz n cs i} (h:AccG hp x sz n cs) (hi:rid x=some i):i<hp.length:=by
 rcases h with ⟨rfl,_⟩ | ⟨id,rfl,_,h2,_⟩
 · cases hi
 · cases hi;exact qj h2
theorem AccG.len {hp x sz n cs} (h:AccG hp x sz n cs):cs.length=n*sz:=by
 rcases h with ⟨_,rfl,rfl⟩ | ⟨id,_,_,_,h,_⟩
 · simp
 · exact h
theorem AccG.lenW {hp x sz n cs} {K:AV→List (Nat × HObj)→Prop} (h:AccG hp x sz n cs):qnn x K=K (I n) []:=by
 rcases h with ⟨rfl,rfl,_⟩ | ⟨id,rfl,_⟩ <;> rfl
theorem AccG.pc {hp x sz n cs} (h:AccG hp x sz n cs):(cs.all AV.isPC)=true:=by
 rcases h with ⟨_,_,rfl⟩ | ⟨id,_,_,_,_,h⟩
 · rfl
 · exact h
theorem AccG.pur {hp x sz n cs} (h:AccG hp x sz n cs):∃ ids,qU (hpf hp) x=some (.sl (decide (n=0)) n cs,ids)∧∀ i∈ids,rid x=some i∧i<hp.length:=by
 rcases h with ⟨rfl,rfl,rfl⟩ | ⟨id,rfl,h0,h2,h3,h4⟩
 · exact ⟨[],rfl,by simp⟩
 · refine ⟨[id],?_,by simp [rid,qj h2]⟩
   simp only [qU,zu,ze,zh,h2]
   rw [if_pos ⟨by omega,Xv h4⟩,decide_eq_false (by omega)]
   simp only [zT,List.drop_zero]
   rw [List.take_of_length_le (by omega)]
theorem AccG.out {hp x sz n cs} (h:AccG hp x sz n cs):Out (.sl (decide (n=0)) n cs) x hp:=by
 obtain ⟨ids,h1,_⟩:=h.pur
 exact qnH h1
theorem Q5 {hp : List HObj} {x : AV} {sz bytes n : Nat} {cs ys : List AV} {g : Bool} {K : AV → List (Nat × HObj) → Prop} (h : AccG hp x sz n cs) (hn : n ≤ 100000000) (hb : bytes ≤ 1000) (hy : ys.length = sz) (hpc : (ys.all AV.isPC) = true)
 (hK:∀ ws,(∀ i,i<hp.length→rid x≠some i→qr (qH hp ws) i=qr hp i)→hp.length<(qH hp ws).length→AccG (qH hp ws) (.ms hp.length 0 (n+1) sz) sz (n+1) (cs++ys)→K (.ms hp.length 0 (n+1) sz) ws) :
 qnk hp sz bytes x (.sl g 1 ys) K:=by
 have bd:(n+1)*bytes≤140737488355328:=Nat.le_trans (Nat.mul_le_mul (show n+1≤100000001 by omega) hb) (by decide)
 rcases h with ⟨rfl,rfl,rfl⟩ | ⟨id,rfl,h0,h2,h3,h4⟩
 · rw [qee]
   have hn:qr (qH hp [(hp.length,HObj.cells ([]++ys))]) hp.length=some (.cells ([]++ys)):=by
    rw [zt (by simp)];simp [Hp.write,Hp.set_same]
   refine ⟨⟨rfl,by omega,hpc,by simp,bd,by omega,.inl rfl⟩,hK _ (fun i hi _=>?_) (qj hn) (.inr ⟨hp.length,rfl,by omega,hn,by simp [hy],by simpa using hpc⟩)⟩
   rw [zt (by simp),zH];simp only [Hp.write];rw [Hp.set_other _ _ (by omega)];rfl
 · have hlt := qj h2
   rw [qed,h2,J4]
   have hv:zT cs 0 (n*sz)=cs:=by simp only [zT,List.drop_zero];rw [List.take_of_length_le (by omega)]
   rw [hv]
   have hn:qr (qH hp [(id,HObj.gone),(hp.length,HObj.cells (cs++ys))]) hp.length=some (.cells (cs++ys)):=by
    rw [zt (by simp;omega)]
    simp only [Hp.write,Hp.set_same]
   refine ⟨⟨by omega,hpc,rfl,by omega,bd,by omega⟩,hK _ (fun i hi hr=>?_) (qj hn) (.inr ⟨hp.length,rfl,by omega,hn,?_,?_⟩)⟩
   · rw [zt (by simp; omega),zH]; simp only [Hp.write]
     rw [Hp.set_other _ _ (by omega),Hp.set_other _ _ (fun e=>hr (by rw [e];rfl))];rfl
   · rw [List.length_append,h3,hy,Nat.add_mul,Nat.one_mul]
   · rw [List.all_append,h4,hpc];rfl
theorem qeh {P:Program} {f:FuncId} {xs:List AV} {hp:List HObj} {K:AV→List HObj→Prop} (h:zG P f xs hp fun x H=>∃ y ids,qU (hpf H) x=some (y,ids)∧K y (qH H (zB ids))):zG P f xs hp K:=by
 intro ro n w g vs hok hvs hrep
 refine (h ro n w g vs hok hvs hrep).mono ?_
 rintro e w' ⟨v,x,H,g',rfl,⟨y,ids,hpur,hK⟩,hx,hok',hu⟩
 have q:=jE hok' (ids:=ids) hpur (fun i hi=>hi) hx
 obtain ⟨k1,k2⟩:=hok'.giveAll ids (Jx hpur)
 have lt : ∀ p ∈ zB ids,p.1 ≤ H.length := fun p hp' => by
  simp only [zB,List.mem_map] at hp'
  obtain ⟨i,hi,rfl⟩:=hp'
  obtain ⟨cs,hcs⟩:=Jx hpur i hi
  exact Nat.le_of_lt (Zv hcs)
 have e:hpf (qH H (zB ids))=Hp.write (hpf H) (zB ids):=QK lt
 exact ⟨v,y,_,_,rfl,hK,q.of,by rw [e];exact k1,by rw [e];exact hu.trans k2⟩
theorem Q7 {a sz : Nat} {fr : List (Nat × AV)} {hp : List HObj} {id off : Nat} {cs : List AV} {K : AV → List HObj → Prop} (h1 : get fr a = .ref id off) (h2 : qr hp id = some (.cells cs)) (h3 : off + sz ≤ cs.length) (k : K (.agg (zT cs off sz)) hp) :
 qh5 [(a,some (true,sz))] K .ret ⟨fr,hp⟩:=by
 refine ⟨[.agg (zT cs off sz)],⟨?_,trivial⟩,k⟩
 simp only [WH,h1,zh,h2]
 exact ⟨trivial,h3,trivial⟩
theorem qK {a sz c : Nat} {fr : List (Nat × AV)} {hp : List HObj} {id off : Nat} {cs : List AV} {K : AV → List HObj → Prop} (h1 : get fr a = .ref id off) (h2 : qr hp id = some (.cells cs)) (h3 : off + sz ≤ cs.length) (k : K (.tup [.agg (zT cs off sz),get fr c]) hp) :
 qh5 [(a,some (true,sz)),(c,none)] K .ret ⟨fr,hp⟩:=by
 refine ⟨[.agg (zT cs off sz),get fr c],⟨?_,rfl,trivial⟩,k⟩
 simp only [WH,h1,zh,h2]
 exact ⟨trivial,h3,trivial⟩
section
variable {P:Program} {F:Nat→AV} {hp:List HObj} {K:AV→List (Nat × HObj)→Prop}
theorem qsp {d sz ln:Nat} {x:Opd} {id off:Nat} {cs:List AV} (hx:evF F x = .ref id off) (h:qr hp id=some (.cells cs)) (hl:off+ln*sz≤cs.length) (k:K (.mc id off ln ln sz) []):(AOp.slp d sz ln x none none none).wp P F hp K:=by
 refine ⟨_,_,?_,k⟩
 simp only [AOp.sem,hx,zh,h]
 exact ⟨0,ln,ln,(by first | rfl | trivial),(by first | rfl | trivial),(by first | rfl | trivial),Nat.zero_le _,Nat.le_refl _,Nat.le_refl _,hl,by simp,(by first | rfl | trivial)⟩
theorem qqW {sz:Nat} {z:List AV} {x:Opd} {id off n c:Nat} {cs:List AV} (hx:evF F x = .mc id off n c sz) (h:qr hp id=some (.cells cs)) (hl:off+n*sz≤cs.length) (k:K .any [(id,.cells (splice cs off (zP n z)))]):(AOp.clr sz z x).wp P F hp K:=by
 refine ⟨_,_,?_,k⟩
 simp only [AOp.sem,hx,zh,h]
 exact ⟨cs,(by first | rfl | trivial),(by first | rfl | trivial),hl,(by first | rfl | trivial),(by first | rfl | trivial)⟩
end
inductive Wk : AV → AV → Prop
 | refl (x:AV):Wk x x
 | any (x:AV):Wk x .any
 | sl (f g:Bool) (n:Nat) (cs ds:List AV) (hg:g=true→f=true) (hl:ds.length=cs.length) (hr:∀ i (h:i<cs.length) (h':i<ds.length),Wk cs[i] ds[i]):Wk (.sl f n cs) (.sl g n ds)
 | ptr (o:Nat) (cs ds:List AV) (hl:ds.length=cs.length) (hr:∀ i (h:i<cs.length) (h':i<ds.length),Wk cs[i] ds[i]):Wk (.ptr cs o) (.ptr ds o)
 | agg (cs ds:List AV) (hl:ds.length=cs.length) (hr:∀ i (h:i<cs.length) (h':i<ds.length),Wk cs[i] ds[i]):Wk (.agg cs) (.agg ds)
 | tup (cs ds:List AV) (hl:ds.length=cs.length) (hr:∀ i (h:i<cs.length) (h':i<ds.length),Wk cs[i] ds[i]):Wk (.tup cs) (.tup ds)
 | fn (f:Fn) (as bs:List AV) (cs ds:List AV) (hl:bs.length=as.length) (hl':ds.length=cs.length) (hr:∀ i (h:i<as.length) (h':i<bs.length),Wk as[i] bs[i]) (hr':∀ i (h:i<cs.length) (h':i<ds.length),Wk cs[i] ds[i]):Wk (.fn f as cs) (.fn f bs ds)
theorem Wk.rep {x y:AV} (k:Wk x y):∀ {w g p v},Rep w g p x v→Rep w g p y v:=by
 induction k with
 | refl x=>exact fun h=>h
 | any x=>exact fun _ => .any _ _
 | sl f g n cs ds hg hl hr ih =>
   intro w gg p v h
   cases h with
   | sl _ _ _ _ a cap vs hn hf hc hrr=>exact .sl _ g n ds a cap vs hn (fun e=>hf (hg e)) (fun i hi=>hc i (by omega)) (fun i hi=>ih i (by omega) hi (hrr i (by omega)))
 | ptr o cs ds hl hr ih =>
   intro w gg p v h
   cases h with
   | ptr _ _ _ b oo vs hc hrr=>exact .ptr _ ds o b oo vs (fun i hi=>hc i (by omega)) (fun i hi=>ih i (by omega) hi (hrr i (by omega)))
 | agg cs ds hl hr ih =>
   intro w gg p v h
   cases h with
   | agg _ _ vs hl' hrr=>exact .agg _ ds vs (by omega) (fun i hi=>ih i (by omega) hi (hrr i (by omega)))
 | tup cs ds hl hr ih =>
   intro w gg p v h
   cases h with
   | tup _ _ vs hl' hrr=>exact .tup _ ds vs (by omega) (fun i hi=>ih i (by omega) hi (hrr i (by omega)))
 | fn f as bs cs ds hl hl' hr hr' ih ih' =>
   intro w gg p v h
   cases h with
   | fn _ _ _ _ xs ys h1 h2 h3 h4=>exact .fn _ f bs ds xs ys (by omega) (by omega) (fun i hi=>ih i (by omega) hi (h3 i (by omega))) (fun i hi=>ih' i (by omega) hi (h4 i (by omega)))
inductive WkL : List AV → List AV → Prop
 | nil:WkL [] []
 | cons {x y xs ys}:Wk x y→WkL xs ys→WkL (x::xs) (y::ys)
theorem WkL.get : ∀ {cs ds : List AV},WkL cs ds → ds.length = cs.length ∧ ∀ i (h : i < cs.length) (h' : i < ds.length),Wk cs[i] ds[i]
 | [],[],_=>⟨rfl,fun i h=>by simp at h⟩
 | x::cs,y::ds,.cons h k=>by
   obtain ⟨l,r⟩:=k.get
   refine ⟨by simp [l],fun i h1 h2=>?_⟩
   cases i with
   | zero=>exact h
   | succ i=>exact r i (by simpa using h1) (by simpa using h2)
theorem WkL.rfl' : ∀ {cs : List AV},WkL cs cs
 | [] => .nil
 | _::_ => .cons (.refl _) WkL.rfl'
theorem WkL.app : ∀ {a b c d : List AV},WkL a b → WkL c d → WkL (a ++ c) (b ++ d)
 | [],[],_,_,_,k=>k
 | _::_,_::_,_,_,.cons h h',k => .cons h (h'.app k)
theorem Wk.slL {f g:Bool} {n:Nat} {cs ds:List AV} (h:WkL cs ds) (hg:g=true→f=true):Wk (.sl f n cs) (.sl g n ds) := .sl f g n cs ds hg h.get.1 h.get.2
theorem Wk.slF {f:Bool} {n:Nat} {cs ds:List AV} (h:WkL cs ds):Wk (.sl f n cs) (.sl false n ds) := .slL h (fun e=>by cases e)
theorem Wk.slf {f:Bool} {n:Nat} {cs:List AV}:Wk (.sl f n cs) (.sl false n cs) := .slF .rfl'
theorem Wk.aggL {cs ds:List AV} (h:WkL cs ds):Wk (.agg cs) (.agg ds) := .agg cs ds h.get.1 h.get.2
theorem Wk.tupL {cs ds:List AV} (h:WkL cs ds):Wk (.tup cs) (.tup ds) := .tup cs ds h.get.1 h.get.2
theorem WkL.flat {α : Type} {f g : α → List AV} : ∀ {l : List α},(∀ a ∈ l,WkL (f a) (g a)) → WkL (l.flatMap f) (l.flatMap g)
 | [],_ => .nil
 | a::l,h=>by
   rw [List.flatMap_cons,List.flatMap_cons]
   exact (h a (by simp)).app (WkL.flat fun b hb=>h b (by simp [hb]))
theorem qmX {P:Program} {f:FuncId} {xs ys:List AV} {r:AV} (h:qC P f ys r) (k:WkL xs ys):qC P f xs r:=fun ro n w g vs h1 h2 h3 =>
 h ro n w g vs h1 (by rw [h2,k.get.1]) fun i hi=>(k.get.2 i (by rw [←k.get.1];exact hi) hi).rep (h3 i (by rw [←k.get.1];exact hi))
def qi7 (r x:AV) (hp:List HObj):Prop:=∃ r',Out r' x hp∧Wk r' r
theorem Out.w {r x:AV} {hp:List HObj} (h:Out r x hp):qi7 r x hp:=⟨r,h,.refl _⟩
theorem qG {r r' x:AV} {hp:List HObj} {is:List Nat} (h:qU (hpf hp) x=some (r',is)) (k:Wk r' r):qi7 r x hp:=⟨r',⟨is,h⟩,k⟩
theorem zO {P:Program} {f:FuncId} {xs:List AV} {r:AV} (h:zG P f xs [] (qi7 r)):qC P f xs r:=by
 intro ro n w g vs hok hvs hrep
 have e0:hpf []=fun _=>none:=by funext i;simp [hpf]
 refine (h ro n w g vs (by rw [e0];exact hok) hvs (fun i hi=>(hrep i hi).of)).mono ?_
 rintro e w' ⟨v,x,hp',g',rfl,⟨r',⟨is,hpur⟩,hk⟩,hx,hok',hu⟩
 rw [e0] at hu
 have q:=jE hok' (ids:=is) hpur (fun i hi=>hi) hx
 obtain ⟨k1,k2⟩:=hok'.giveAll is (Jx hpur)
 exact ⟨v,_,rfl,hk.rep q.bare,k1.bare,(hu.trans k2).bare hok⟩
theorem qlI {P:Program} {f:FuncId} {xs ys zs:List AV} {hp:List HObj} {ids:List Nat} {r:AV} {KC:AV→List HObj→Prop} (h1:qE (hpf hp) xs=some (ys,ids)) (k:WkL ys zs) (h2:qC P f zs r) (h3:KC r (qH hp (bif r.scalar then [] else zB ids))):zG P f xs hp KC :=
 qg h1 (qmX h2 k) h3
def fl {α:Type} (f:α→List AV) (l:List α):List AV:=l.flatMap f
section
variable {α:Type} {f:α→List AV} {sz:Nat}
theorem YY:fl f []=[]:=rfl
theorem Qi {a:α} {l:List α}:fl f (a::l)=f a++fl f l:=rfl
theorem jr {a b:List α}:fl f (a++b)=fl f a++fl f b:=List.flatMap_append
theorem J9 (hf : ∀ a,(f a).length = sz) : ∀ l : List α,(fl f l).length = l.length * sz
 | []=>by simp [YY]
 | a::l=>by rw [Qi,List.length_append,hf,J9 hf l,List.length_cons,Nat.add_mul];omega
theorem qfU (hf : ∀ a,(f a).length = sz) : ∀ (l : List α) (i : Nat),(fl f l).drop (i * sz) = fl f (l.drop i)
 | l,0=>by simp
 | [],i+1=>by simp [YY]
 | a::l,i+1=>by
   rw [Qi,List.drop_succ_cons,←qfU hf l i,show (i+1)*sz=sz+i*sz by rw [Nat.add_mul];omega,←List.drop_drop,List.drop_left' (hf a)]
theorem qjJ (hf : ∀ a,(f a).length = sz) : ∀ (l : List α) (i : Nat),(fl f l).take (i * sz) = fl f (l.take i)
 | l,0=>by simp [YY]
 | [],i+1=>by simp [YY]
 | a::l,i+1=>by
   rw [Qi,List.take_succ_cons,Qi,←qjJ hf l i,Nat.add_mul,Nat.one_mul]
   rw [List.take_append,List.take_of_length_le (by rw [hf];omega)]
   congr 2
   rw [hf];omega
theorem qfV (hf:∀ a,(f a).length=sz) {l:List α} {i:Nat} (h:i<l.length):((fl f l).drop (i*sz)).take sz=f l[i]:=by
 rw [qfU hf,List.drop_eq_getElem_cons h,Qi,List.take_append,List.take_of_length_le (by rw [hf];omega),hf]
 simp
theorem Ja (hf:∀ a,(f a).length=sz) {l:List α} {i:Nat} (h:i<l.length) {j:Nat} (hj:j<sz):YO (fl f l) (i*sz+j)=YO (f l[i]) j:=by
 rw [Jl,Jl,←List.getElem?_drop,qfU hf,List.drop_eq_getElem_cons h,Qi,List.getElem?_append_left (by rw [hf];exact hj)]
theorem Xa (hf:∀ a,((f a).all AV.isPC)=true) (l:List α):((fl f l).all AV.isPC)=true:=by
 rw [List.all_eq_true];intro x hx
 obtain ⟨a,_,ha⟩:=List.mem_flatMap.1 hx
 exact List.all_eq_true.1 (hf a) x ha
end
abbrev U (n:Int):AV := .v (.int .u8 n)
abbrev Pt:=Int × Int × Int
def ptC (p:Pt):List AV:=[U p.1,I p.2.1,I p.2.2]
abbrev JG (f:Bool) (l:List Pt):AV := .sl f l.length (fl ptC l)
abbrev Pts (l:List Pt):AV:=JG false l
abbrev Wd:=Int × List UInt8 × Int
def wdC (w:Wd):List AV:=[U w.1,S w.2.1,I w.2.2]
abbrev qlu (f:Bool) (l:List Wd):AV := .sl f l.length (fl wdC l)
abbrev Wds (l:List Wd):AV:=qlu false l
structure Ln where
 kind:Int
 name:List UInt8
 words:List Wd
 num:Int
 deriving DecidableEq
def lnC (l:Ln):List AV:=[I l.kind,S l.name,Wds l.words,I l.num]
abbrev LnV (l:Ln):AV := .agg (lnC l)
abbrev Bk:=List UInt8 × List Pt
def bkC (b:Bk):List AV:=[S b.1,Pts b.2]
abbrev qlm (f:Bool) (l:List Bk):AV := .sl f l.length (fl bkC l)
abbrev Bks (l:List Bk):AV:=qlm false l
structure Sht where
 num:Int
 bath:Int
 age:Int
 pat:List Pt
 deriving DecidableEq
def shC (s:Sht):List AV:=[I s.num,I s.bath,I s.age,Pts s.pat]
abbrev qnq (s:Sht):AV := .agg (shC s)
abbrev qtm (f:Bool) (l:List Sht):AV := .sl f l.length (fl shC l)
abbrev Shs (l:List Sht):AV:=qtm false l
structure Dy where
 rc:List Bk
 bath:Int
 laid:Int
 pat:List Pt
 sh:List Sht
 deriving DecidableEq
def dyC (d:Dy):List AV:=[Bks d.rc,I d.bath,I d.laid,Pts d.pat,Shs d.sh]
abbrev DyV (d:Dy):AV := .agg (dyC d)
def dy0:Dy:=⟨[],0,0,[],[]⟩
def ln0:Ln:=⟨0,[],[],0⟩
theorem qaJ (p:Pt):(ptC p).length=3:=rfl
theorem qa1 (p:Wd):(wdC p).length=3:=rfl
theorem qcn (p:Bk):(bkC p).length=2:=rfl
theorem WI (p:Sht):(shC p).length=4:=rfl
theorem qhL (p:Pt):((ptC p).all AV.isPC)=true:=rfl
theorem qnv (p:Bk):((bkC p).all AV.isPC)=true:=rfl
theorem qnM (p:Sht):((shC p).all AV.isPC)=true:=rfl
def i64 (n:Int):Prop := -9223372036854775808≤n∧n≤9223372036854775807
def PtI (p:Pt):Prop:=(0≤p.1∧p.1≤255)∧i64 p.2.1∧i64 p.2.2
def qnp (l:List Pt):Prop:=(∀ p∈l,PtI p)∧l.length≤100000
def WdI (w:Wd):Prop:=(0≤w.1∧w.1≤255)∧i64 w.2.2∧w.2.1.length≤100000
structure LnI (l:Ln):Prop where
 kind:i64 l.kind
 num:i64 l.num
 words:∀ w∈l.words,WdI w
 len:l.words.length≤100000
 name:l.name.length≤100000
structure DyI (d:Dy):Prop where
 rc:∀ b∈d.rc,qnp b.2∧b.1.length≤100000
 rl:d.rc.length≤100000
 bath:i64 d.bath
 laid:i64 d.laid
 pat:qnp d.pat
 sh:∀ s∈d.sh,i64 s.num∧i64 s.bath∧i64 s.age∧qnp s.pat
 sl:d.sh.length≤100000
def YN (b:UInt8):Bool:=decide (97≤b.toNat)&&decide (b.toNat≤122)
def VZ (c:Int):Bool:=decide (97≤c)&&decide (c≤122)
theorem qcl (b:UInt8):VZ (b.toNat:Int)=YN b:=by
 unfold VZ YN
 rw [Bool.eq_iff_iff]
 simp only [Bool.and_eq_true,decide_eq_true_eq]
 omega
def QW : List UInt8 → Bool
 | []=>false
 | c::r=>decide (r.length≤7)&&(decide (65≤c.toNat)&&decide (c.toNat≤90))&&r.all YN
def qfQ (b:UInt8):Bool:=decide (48≤b.toNat)&&decide (b.toNat≤57)
def qif (acc : Nat) : List UInt8 → Nat
 | []=>acc
 | b::r=>qif (acc*10+(b.toNat - 48)) r
def Vq (s:List UInt8):Nat:=qif 0 s
def qnx (s:List UInt8):Bool:=match s with
 | []=>false
 | c::r=>decide (r.length≤12) && !decide (c.toNat=48)&&(c::r).all qfQ
def qaB (s:List UInt8) (lo hi:Int):Bool:=qnx s&&decide (lo≤(Vq s:Int))&&decide ((Vq s:Int)≤hi)
theorem ZC {acc:Nat} {b:UInt8} {r:List UInt8}:qif acc (b::r)=qif (acc*10+(b.toNat - 48)) r:=by conv=>lhs;unfold qif
theorem Xp {acc:Nat}:qif acc []=acc:=rfl
theorem qcz : ∀ (a b : List UInt8) (acc : Nat),qif acc (a ++ b) = qif (qif acc a) b
 | [],b,acc=>rfl
 | x::a,b,acc=>by rw [List.cons_append,ZC,ZC];exact qcz a b _
theorem qjz : ∀ {a : List UInt8} {acc : Nat},(a.all qfQ) = true → qif acc a < (acc + 1) * 10 ^ a.length
 | [],acc,_=>by rw [Xp];simp
 | x::a,acc,h=>by
   rw [List.all_cons,Bool.and_eq_true] at h
   have h1:=h.1
   unfold qfQ at h1
   simp only [Bool.and_eq_true,decide_eq_true_eq] at h1
   have:=qjz (a:=a) (acc:=acc*10+(x.toNat - 48)) h.2
   rw [ZC,List.length_cons,Nat.pow_succ]
   have e:(acc*10+(x.toNat - 48)+1)*10 ^ a.length≤((acc+1)*10)*10 ^ a.length:=Nat.mul_le_mul_right _ (by omega)
   have e2:(acc+1)*(10 ^ a.length*10)=((acc+1)*10)*10 ^ a.length:=by rw [Nat.mul_assoc,Nat.mul_comm 10]
   omega
abbrev X0 (n:Nat):List UInt8:=Lib.decDigits n
theorem ZY {n:Nat} (h:n<10):X0 n=[UInt8.ofNat (48+n)]:=Lib.decDigits_one h
theorem Jq {n:Nat} (h:¬ n<10):X0 n=X0 (n / 10)++[UInt8.ofNat (48+n % 10)]:=by
 show Lib.decDigits n=_
 rw [Lib.decDigits,dif_neg h]
theorem Vb {k:Nat} (h:k<10):(UInt8.ofNat (48+k)).toNat=48+k:=by
 rw [UInt8.toNat_ofNat'];omega
theorem qhi : ∀ (k n : Nat),n < 10 ^ k → ((X0 n).all qfQ) = true
 | 0,n,h=>by
   have:n=0:=by simpa using h
   subst this
   rw [ZY (by decide)]
   decide
 | k+1, n, h=>by
   by_cases hn:n<10
   · rw [ZY hn]
     simp only [List.all_cons,List.all_nil,Bool.and_true,qfQ,Vb hn]
     simp;omega
   · have h2 : n % 10 < 10 := Nat.mod_lt _ (by decide)
     rw [Jq hn,List.all_append,qhi k (n / 10) (by rw [Nat.pow_succ] at h;omega)]
     simp only [List.all_cons,List.all_nil,Bool.and_true,qfQ,Vb h2]
     simp;omega
theorem Xt : ∀ n : Nat,n < 10 ^ n
 | 0=>by decide
 | n+1=>by have:=Xt n;rw [Nat.pow_succ];omega
theorem qlW (n:Nat):((X0 n).all qfQ)=true:=qhi n n (Xt n)
theorem qhj : ∀ (k n : Nat),n < 10 ^ k → Vq (X0 n) = n
 | 0,n,h=>by
   have:n=0:=by simpa using h
   subst this
   rw [ZY (by decide)]
   decide
 | k+1, n, h=>by
   unfold Vq
   by_cases hn:n<10
   · rw [ZY hn]
     simp only [ZC,Xp,Vb hn]
     omega
   · have h2 : n % 10 < 10 := Nat.mod_lt _ (by decide)
     rw [Jq hn,qcz]
     have:=qhj k (n / 10) (by rw [Nat.pow_succ] at h;omega)
     unfold Vq at this
     rw [this]
     simp only [ZC,Xp,Vb h2]
     omega
theorem qer (n:Nat):Vq (X0 n)=n:=qhj n n (Xt n)
theorem j8 : ∀ (k n : Nat),n < 10 ^ (k + 1) → (X0 n).length ≤ k + 1
 | 0,n,h=>by
   rw [ZY (by simpa using h)];simp
 | k+1, n, h=>by
   by_cases hn:n<10
   · rw [ZY hn];simp
   · rw [Jq hn,List.length_append,List.length_singleton]
     have:=j8 k (n / 10) (by rw [Nat.pow_succ] at h;omega)
     omega
theorem qjB (n:Nat):X0 n≠[]:=by
 by_cases hn:n<10
 · rw [ZY hn];simp
 · rw [Jq hn];simp
theorem qes : ∀ (k n : Nat),0 < n → n < 10 ^ k → ∀ c r,X0 n = c :: r → c.toNat ≠ 48
 | 0,n,h0,h,c,r,e=>by
   have:n=0:=by simpa using h
   omega
 | k+1, n, h0, h, c, r, e=>by
   by_cases hn:n<10
   · rw [ZY hn] at e
     cases e
     rw [Vb hn];omega
   · rw [Jq hn] at e
     cases hd:X0 (n / 10) with
     | nil=>exact absurd hd (qjB _)
     | cons c' r' =>
       rw [hd] at e
       cases e
       exact qes k (n / 10) (by omega) (by rw [Nat.pow_succ] at h;omega) _ _ hd
theorem qju {n:Nat} (h0:0<n) (h:n<10000000000000):qnx (X0 n)=true:=by
 have h1:=j8 12 n (by simpa using h)
 have h2:=qlW n
 have h3:=qes n n h0 (Xt n)
 cases hd:X0 n with
 | nil=>exact absurd hd (qjB n)
 | cons c r =>
   rw [hd] at h1 h2
   have h3:=h3 c r hd
   simp only [qnx,h2,Bool.and_true,Bool.and_eq_true,decide_eq_true_eq,Bool.not_eq_true',decide_eq_false_iff_not]
   exact ⟨by simpa using h1,h3⟩
theorem qe4 {n:Nat} {lo hi:Int} (h0:1≤lo) (h1:lo≤n) (h2:(n:Int)≤hi) (h3:hi≤9999999999999):qaB (X0 n) lo hi=true:=by
 unfold qaB
 rw [qer,qju (by omega) (by omega)]
 simp [h1,h2]
theorem qjC : ∀ (k : Nat) (s : List UInt8),s.length = k → (s.all qfQ) = true → (∀ c r,s = c :: r → c.toNat ≠ 48) → s ≠ [] → X0 (Vq s) = s
 | 0,s,hl,_,_,hne=>absurd (List.eq_nil_of_length_eq_zero hl) hne
 | 1,s,hl,hd,hh,_=>by
   obtain ⟨c,rfl⟩:=List.length_eq_one_iff.1 hl
   simp only [List.all_cons,List.all_nil,Bool.and_true,qfQ,Bool.and_eq_true,decide_eq_true_eq] at hd
   have e:Vq [c]=c.toNat - 48:=by unfold Vq;rw [ZC,Xp];omega
   rw [e,ZY (by omega)]
   congr 1
   apply UInt8.toNat_inj.1
   rw [Vb (by omega)];omega
 | k+2,s,hl,hd,hh,hne=>by
   obtain ⟨t,b,rfl⟩:∃ t b,s=t++[b]:=⟨s.dropLast,s.getLast hne,(List.dropLast_concat_getLast hne).symm⟩
   rw [List.length_append,List.length_singleton] at hl
   rw [List.all_append,Bool.and_eq_true] at hd
   have hb:=hd.2
   simp only [List.all_cons,List.all_nil,Bool.and_true,qfQ,Bool.and_eq_true,decide_eq_true_eq] at hb
   have ht:t≠[]:=by intro e;subst e;simp at hl
   have ih:=qjC (k+1) t (by omega) hd.1 (fun c r e=>hh c (r++[b]) (by rw [e];rfl)) ht
   have e:Vq (t++[b])=Vq t*10+(b.toNat - 48):=by unfold Vq;rw [qcz];rfl
   have h10:¬ Vq t=0:=by
    intro e0
    rw [e0] at ih
    have:X0 0=[48]:=ZY (by decide)
    rw [this] at ih
    exact hh 48 [b] (by rw [←ih];rfl) rfl
   rw [e,Jq (by omega),show (Vq t*10+(b.toNat - 48)) / 10=Vq t by omega,show (Vq t*10+(b.toNat - 48)) % 10=b.toNat - 48 by omega,ih]
   congr 2
   apply UInt8.toNat_inj.1
   rw [Vb (by omega)];omega
theorem qfI {s:List UInt8} (h:qnx s=true):s≠[]∧(s.all qfQ)=true∧s.length≤13∧∀ c r,s=c::r→c.toNat≠48:=by
 cases s with
 | nil=>cases h
 | cons c r =>
   simp only [qnx,Bool.and_eq_true,decide_eq_true_eq,Bool.not_eq_true',decide_eq_false_iff_not] at h
   exact ⟨by simp,h.2,by simp;omega,fun c' r' e=>by cases e;exact h.1.2⟩
theorem qeq {s:List UInt8} (h:qnx s=true):X0 (Vq s)=s:=by
 obtain ⟨h1,h2,_,h4⟩:=qfI h
 exact qjC _ s rfl h2 h4 h1
theorem qoj {s:List UInt8} (h:qnx s=true):Vq s<10000000000000:=by
 obtain ⟨h1,h2,h3,_⟩:=qfI h
 have:=qjz (acc:=0) h2
 have h4:(10:Nat) ^ s.length≤10 ^ 13:=Nat.pow_le_pow_right (by decide) h3
 have e:(10:Nat) ^ 13=10000000000000:=by decide
 unfold Vq
 omega
def qM (c : UInt8) : List UInt8 → List (List UInt8)
 | []=>[[]]
 | b::r=>if b=c then []::qM c r else match qM c r with
   | x::xs=>(b::x)::xs
   | []=>[[b]]
theorem Jz (c : UInt8) : ∀ s,qM c s ≠ []
 | []=>by simp [qM]
 | b::r=>by
   unfold qM
   split
   · simp
   · split <;> simp
theorem YD {c : UInt8} : ∀ {a : List UInt8},(∀ b ∈ a,b ≠ c) → qM c a = [a]
 | [],_=>rfl
 | b::a,h=>by
   have hb:=h b (by simp)
   unfold qM
   rw [if_neg hb,YD fun x hx=>h x (by simp [hx])]
theorem qfs {c : UInt8} : ∀ {a r : List UInt8},(∀ b ∈ a,b ≠ c) → qM c (a ++ c :: r) = a :: qM c r
 | [],r,_=>by
   show qM c (c::r)=_
   conv=>lhs;unfold qM
   rw [if_pos rfl]
 | b::a,r,h=>by
   have hb:=h b (by simp)
   show qM c (b::(a++c::r))=_
   conv=>lhs;unfold qM
   rw [if_neg hb,qfs fun x hx=>h x (by simp [hx])]
def JX (c : UInt8) : List UInt8 → List UInt8 × Option (List UInt8)
 | []=>([],none)
 | b::r=>if b=c then ([],some r) else (b::(JX c r).1,(JX c r).2)
theorem qcy {c : UInt8} : ∀ {a : List UInt8},(∀ b ∈ a,b ≠ c) → JX c a = (a,none)
 | [],_=>rfl
 | b::a,h=>by
   have hb:=h b (by simp)
   unfold JX
   rw [if_neg hb,qcy fun x hx=>h x (by simp [hx])]
theorem qcx {c : UInt8} : ∀ {a r : List UInt8},(∀ b ∈ a,b ≠ c) → JX c (a ++ c :: r) = (a,some r)
 | [],r,_=>by
   show JX c (c::r)=_
   conv=>lhs;unfold JX
   rw [if_pos rfl]
 | b::a,r,h=>by
   have hb:=h b (by simp)
   show JX c (b::(a++c::r))=_
   conv=>lhs;unfold JX
   rw [if_neg hb,qcx fun x hx=>h x (by simp [hx])]
theorem qbM (c : UInt8) : ∀ s : List UInt8, (∃ a, (∀ b ∈ a, b ≠ c) ∧ s = a ∧ JX c s = (a, none)) ∨ ∃ a r, (∀ b ∈ a, b ≠ c) ∧ s = a ++ c :: r ∧ JX c s = (a, some r)
 | [] => .inl ⟨[],by simp,rfl,rfl⟩
 | b::s=>by
   by_cases hb:b=c
   · subst hb
     exact .inr ⟨[],s,by simp,rfl,qcx (a:=[]) (by simp)⟩
   · rcases qbM c s with ⟨a,h1,rfl,h3⟩ | ⟨a,r,h1,rfl,h3⟩
     · have : ∀ x ∈ b :: s,x ≠ c := fun x hx => by
        rcases List.mem_cons.1 hx with rfl | hx
        · exact hb
        · exact h1 x hx
       exact .inl ⟨_,this,rfl,qcy this⟩
     · have : ∀ x ∈ b :: a,x ≠ c := fun x hx => by
        rcases List.mem_cons.1 hx with rfl | hx
        · exact hb
        · exact h1 x hx
       exact .inr ⟨b::a,r,this,rfl,qcx this⟩
theorem qog (c:UInt8) (s:List UInt8):s=(JX c s).1++(match (JX c s).2 with | none=>[] | some r=>c::r):=by
 rcases qbM c s with ⟨a,h1,rfl,h3⟩ | ⟨a,r,h1,rfl,h3⟩ <;> rw [h3]
 simp
def qbI : List UInt8 → Option Int
 | [c]=>if YN c then some (c.toNat:Int) else none
 | _=>none
def JA : Option (List UInt8) → Option Int
 | none=>some 1
 | some t=>if qaB t 2 1000 then some (Vq t:Int) else none
def jX (s:List UInt8):Wd × Bool:=match JA (JX 42 s).2 with
 | none=>((0,[],0),false)
 | some k=>match qbI (JX 42 s).1 with
   | some c=>((c,[],k),true)
   | none=>((0,(JX 42 s).1,k),QW (JX 42 s).1)
def zg : List (List UInt8) → Option (List Wd)
 | []=>some []
 | s::l=>match jX s,zg l with
   | (w,true),some ws=>some (w::ws)
   | _,_=>none
theorem WN : ∀ {a b : List (List UInt8)},zg (a ++ b) = (match zg a,zg b with
 | some x,some y=>some (x++y)
 | _,_=>none)
 | [],b=>by
   show zg b=_
   simp only [zg]
   cases zg b <;> rfl
 | s::a,b=>by
   simp only [List.cons_append,zg,WN (a:=a) (b:=b)]
   rcases jX s with ⟨w,ok⟩
   cases ok
   · cases zg a <;> cases zg b <;> rfl
   · cases zg a <;> cases zg b <;> rfl
theorem YJ : ∀ {l : List (List UInt8)} {ws : List Wd},zg l = some ws → ws.length = l.length
 | [],ws,h=>by simp [zg] at h;subst h;rfl
 | s::l, ws, h=>by
   simp only [zg] at h
   split at h
   · rename_i w ws' _ h2
     cases h
     simp [YJ h2]
   · cases h
abbrev QM:Int:=1099511627776
abbrev tBath:List UInt8:=[98,97,116,104]
abbrev qdE:List UInt8:=[98,97,99,107]
abbrev VX:List UInt8:=[97,103,97,105,110]
abbrev qje:List UInt8:=[108,97,121]
abbrev tDo:List UInt8:=[100,111]
abbrev Zd:List UInt8:=[114,101,99,105,112,101]
def qhF (l:List (List UInt8)):Option Ln:=match l with
 | []=>none
 | a::l=>if a=Zd then match l with
     | []=>none
     | n::ws=>if 1≤ws.length∧ws.length≤8∧QW n=true then (zg ws).map fun w=>⟨1,n,w,0⟩ else none
   else if a=tDo then match l with
    | [w]=>(zg [w]).map fun w=>⟨3,[],w,0⟩
    | _=>none
   else if a=qje then match l with
    | [n]=>if qaB n 1 QM then some ⟨4,[],[],Vq n⟩ else none
    | _=>none
   else if l=[] then (if a=tBath then some ⟨2,[],[],0⟩ else if a=qdE then some ⟨5,[],[],0⟩ else if a=VX then some ⟨6,[],[],0⟩ else none)
   else none
def WY (s:List UInt8):Option Ln:=qhF (qM 32 s)
def zd (s:List UInt8):Ln:=if s.length≤200 then (WY s).getD ln0 else ln0
def jc (s:List UInt8):Int:=if s.length≤200 then (if (WY s).isSome then 0 else 8) else 7
theorem qch (c : UInt8) : ∀ s : List UInt8,∀ x xs,qM c s = x :: xs → xs = [] → s = x
 | [],x,xs,h,h0=>by cases h;rfl
 | b::r, x, xs, h, h0=>by
   unfold qM at h
   split at h
   · cases h;exact absurd h0 (Jz c r)
   · split at h
     · rename_i y ys hy
       cases h
       rw [qch c r y _ hy h0]
     · cases h;rename_i hy;exact absurd hy (Jz c r)
def WJ (s:List UInt8):List AV:=[S s]
theorem qhU (s:List UInt8):(WJ s).length=1:=rfl
theorem qp3 (s:List UInt8):((WJ s).all AV.isPC)=true:=rfl
abbrev qjl (f:Bool) (l:List (List UInt8)):AV := .sl f l.length (fl WJ l)
abbrev qqK (l:List (List UInt8)):AV:=qjl false l
section
variable {α:Type} {f:α→List AV} {sz:Nat} {P:Program} {hp:List HObj} {K:AV→List (Nat × HObj)→Prop}
theorem qkL (hf:∀ a,(f a).length=sz) {g:Bool} {l:List α} {j:Int} (h0:0≤j) (h1:j≤l.length):qnr sz (.sl g l.length (fl f l)) none (some (I j)) none K=K (.sl (g&&decide (j.toNat=l.length)) (l.take j.toNat).length (fl f (l.take j.toNat))) []:=by
 rw [qhS]
 have e:zT (fl f l) 0 (j.toNat*sz)=fl f (l.take j.toNat):=by
  rw [zT,List.drop_zero,qjJ hf]
 have e2:(l.take j.toNat).length=j.toNat:=by rw [List.length_take];omega
 rw [e,e2]
 simp [h0,h1,J9 hf]
theorem VD (hf:∀ a,(f a).length=sz) {l:List α} {i:Nat} (h:i<l.length):Qm (fl f l) (i*sz) sz true K=K (.agg (f l[i])) []:=by
 rw [jJ]
 have h2:i*sz+sz≤(fl f l).length:=by
  rw [J9 hf]
  have:(i+1)*sz≤l.length*sz:=Nat.mul_le_mul_right _ h
  rw [Nat.add_mul] at this;omega
 rw [zT,qfV hf h]
 simp [h2]
end
section
variable {K:AV→List (Nat × HObj)→Prop}
theorem qlM {l:List Pt} {i:Nat} (h:i<l.length):Qm (fl ptC l) (i*3) 3 true K=K (.agg (ptC l[i])) []:=VD qaJ h
theorem qlQ {l:List Wd} {i:Nat} (h:i<l.length):Qm (fl wdC l) (i*3) 3 true K=K (.agg (wdC l[i])) []:=VD qa1 h
theorem qlL {l:List Bk} {i:Nat} (h:i<l.length):Qm (fl bkC l) (i*2) 2 true K=K (.agg (bkC l[i])) []:=VD qcn h
theorem qlN {l:List Sht} {i:Nat} (h:i<l.length):Qm (fl shC l) (i*4) 4 true K=K (.agg (shC l[i])) []:=VD WI h
theorem qpb {l:List (List UInt8)} {i:Nat} (h:i<l.length):YO (fl WJ l) i=some (S l[i]):=by
 have:=Ja qhU h (j:=0) (by decide)
 simp only [Nat.mul_one,Nat.add_zero] at this
 rw [this];rfl
theorem qo4 {l:List Pt} {i:Nat} (h:i<l.length):YO (fl ptC l) (i*3)=some (U l[i].1):=by rw [←Nat.add_zero (i*3),Ja qaJ h (by decide)];rfl
theorem qo5 {l:List Pt} {i:Nat} (h:i<l.length):YO (fl ptC l) (i*3+1)=some (I l[i].2.1):=by rw [Ja qaJ h (by decide)];rfl
theorem qo6 {l:List Pt} {i:Nat} (h:i<l.length):YO (fl ptC l) (i*3+2)=some (I l[i].2.2):=by rw [Ja qaJ h (by decide)];rfl
theorem qpc {l:List Wd} {i:Nat} (h:i<l.length):YO (fl wdC l) (i*3)=some (U l[i].1):=by rw [←Nat.add_zero (i*3),Ja qa1 h (by decide)];rfl
theorem qpd {l:List Wd} {i:Nat} (h:i<l.length):YO (fl wdC l) (i*3+1)=some (S l[i].2.1):=by rw [Ja qa1 h (by decide)];rfl
theorem qpe {l:List Wd} {i:Nat} (h:i<l.length):YO (fl wdC l) (i*3+2)=some (I l[i].2.2):=by rw [Ja qa1 h (by decide)];rfl
theorem qo1 {l:List Bk} {i:Nat} (h:i<l.length):YO (fl bkC l) (i*2)=some (S l[i].1):=by rw [←Nat.add_zero (i*2),Ja qcn h (by decide)];rfl
theorem qo2 {l:List Bk} {i:Nat} (h:i<l.length):YO (fl bkC l) (i*2+1)=some (Pts l[i].2):=by rw [Ja qcn h (by decide)];rfl
theorem qo7 {l:List Sht} {i:Nat} (h:i<l.length):YO (fl shC l) (i*4)=some (I l[i].num):=by rw [←Nat.add_zero (i*4),Ja WI h (by decide)];rfl
theorem qpa {l:List Sht} {i:Nat} (h:i<l.length):YO (fl shC l) (i*4+3)=some (Pts l[i].pat):=by rw [Ja WI h (by decide)];rfl
theorem qaK {l:List Pt}:(fl ptC l).length=l.length*3:=J9 qaJ l
theorem qqh {l:List Wd}:(fl wdC l).length=l.length*3:=J9 qa1 l
theorem qco {l:List Bk}:(fl bkC l).length=l.length*2:=J9 qcn l
theorem qdz {l:List Sht}:(fl shC l).length=l.length*4:=J9 WI l
theorem qdD {l:List (List UInt8)}:(fl WJ l).length=l.length:=by rw [J9 qhU,Nat.mul_one]
end
attribute [simp] qlM qlQ qlL qlN qpb qo4 qo5 qo6 qpc qpd qpe qo1 qo2 qo7 qpa qaK qqh qco qdz qdD
theorem Qn {H:List HObj} {o:HObj}:qr (H++[o]) H.length=some o:=qdb
def qjf (w:Wd):List UInt8:=(if w.2.1=[] then [UInt8.ofNat w.1.toNat] else w.2.1)++(if w.2.2=1 then [] else 42::X0 (max 0 w.2.2).toNat)
def qp2 (l:Ln):List UInt8 :=
 if l.kind=2 then tBath else if l.kind=5 then qdE else if l.kind=6 then VX else if l.kind=4 then qje++32::X0 (max 0 l.num).toNat
 else (if l.kind=1 then Zd++32::l.name else tDo)++l.words.flatMap fun w=>32::qjf w
def Xi (l:Ln):Bool:=decide (l.words.length≤8)&&decide (jc (qp2 l)=0)&&decide (zd (qp2 l)=l)
def qni (l:Ln):List UInt8:=if Xi l then qp2 l else []
def qnh (l:Ln):Int:=if Xi l then 0 else 8
theorem qk1 (x y:List UInt8):((⟨x.toArray⟩:ByteArray)==⟨y.toArray⟩)=decide (x=y):=by
 have e:((⟨x.toArray⟩:ByteArray)==⟨y.toArray⟩)=(x.toArray==y.toArray):=rfl
 rw [e]
 by_cases h:x=y
 · subst h;simp
 · rw [decide_eq_false h,beq_eq_false_iff_ne]
   intro e;exact h (by simpa using congrArg Array.toList e)
theorem qnz {neg:Bool} {a b:Wd} {K:AV→List (Nat × HObj)→Prop}:qnW neg (true,[.int,.str,.int]) (.agg (wdC a)) (.agg (wdC b)) K=K (B (neg != decide (a=b))) []:=by
 refine qjG (a := .agg #[.int .u8 a.1,.string ⟨a.2.1.toArray⟩,.int .i64 a.2.2]) (b := .agg #[.int .u8 b.1,.string ⟨b.2.1.toArray⟩,.int .i64 b.2.2]) rfl rfl ?_
 obtain ⟨a1,a2,a3⟩:=a
 obtain ⟨b1,b2,b3⟩:=b
 have e1:∀ x y:Int,(x==y)=decide (x=y):=fun x y=>rfl
 simp only [eqK,qJ,Zs,if_true,e1,qk1]
 by_cases h1:a1=b1 <;> by_cases h2:a2=b2 <;> by_cases h3:a3=b3 <;> simp [h1,h2,h3]
theorem qrA {neg:Bool} {a b:Pt} {K:AV→List (Nat × HObj)→Prop}:qnW neg (true,[.int,.int,.int]) (.agg (ptC a)) (.agg (ptC b)) K=K (B (neg != decide (a=b))) []:=by
 refine qjG (a := .agg #[.int .u8 a.1,.int .i64 a.2.1,.int .i64 a.2.2]) (b := .agg #[.int .u8 b.1,.int .i64 b.2.1,.int .i64 b.2.2]) rfl rfl ?_
 obtain ⟨a1,a2,a3⟩:=a
 obtain ⟨b1,b2,b3⟩:=b
 have e1:∀ x y:Int,(x==y)=decide (x=y):=fun x y=>rfl
 simp only [eqK,qJ,Zs,if_true,e1]
 by_cases h1:a1=b1 <;> by_cases h2:a2=b2 <;> by_cases h3:a3=b3 <;> simp [h1,h2,h3]
def qI (n:Nat) (p:Pt):Bool:=(decide (1≤p.2.2)&&decide (p.2.2≤1000))&&(if p.2.1 = -1 then VZ p.1 else (decide (p.1=0)&&decide (0≤p.2.1))&&decide (p.2.1<n))
theorem Qd {n:Nat} {p:Pt} (h:qI n p=true):1≤p.2.2∧p.2.2≤1000:=by
 unfold qI at h;simp only [Bool.and_eq_true,decide_eq_true_eq] at h;exact h.1
theorem zk {n:Nat} {p:Pt} (h:qI n p=true):p.2.1 = -1∧VZ p.1=true∨p.1=0∧0≤p.2.1∧p.2.1<n:=by
 unfold qI at h;simp only [Bool.and_eq_true,decide_eq_true_eq] at h
 by_cases e:p.2.1 = -1
 · rw [if_pos e] at h;exact .inl ⟨e,h.2⟩
 · rw [if_neg e] at h;simp only [Bool.and_eq_true,decide_eq_true_eq] at h;exact .inr ⟨h.2.1.1,h.2.1.2,h.2.2⟩
theorem WC {n m:Nat} {p:Pt} (h:qI n p=true) (hm:n≤m):qI m p=true:=by
 unfold qI at h ⊢
 simp only [Bool.and_eq_true,decide_eq_true_eq] at h ⊢
 refine ⟨h.1,?_⟩
 have h2:=h.2
 split at h2
 · rename_i e;rw [if_pos e];exact h2
 · rename_i e
   rw [if_neg e]
   simp only [Bool.and_eq_true,decide_eq_true_eq] at h2 ⊢
   exact ⟨h2.1,by omega⟩
abbrev JS:Int:=1125899906842624
def ja (long:List Int) (p:Pt):Int:=if 0≤p.2.1 then long.getD p.2.1.toNat 0 else 1
def jU (long:List Int) (n:Int) (p:Pt):Int:=min JS (n+ja long p*p.2.2)
def QZ (long:List Int) (l:List Pt):Int:=l.foldl (jU long) 0
def J3 (long:List Int):Prop:=(∀ x∈long,0≤x∧x≤JS)∧long.length≤1000000
theorem qkr {long:List Int} (hL:J3 long) {p:Pt} (hp:qI long.length p=true):0≤ja long p∧ja long p≤JS:=by
 unfold ja
 split
 · rename_i h0
   rcases zk hp with ⟨h,_⟩ | ⟨_,_,h⟩
   · omega
   · have hi : p.2.1.toNat < long.length := by omega
     rw [List.getD_eq_getElem?_getD,List.getElem?_eq_getElem hi]
     exact hL.1 _ (List.getElem_mem hi)
 · exact ⟨by decide,by decide⟩
theorem qk3 {long:List Int} (hL:J3 long) {p:Pt} (hp:qI long.length p=true) {n:Int} (hn:0≤n∧n≤JS):0≤jU long n p∧jU long n p≤JS:=by
 have h1:=qkr hL hp
 have h2:=Qd hp
 have h3:0≤ja long p*p.2.2:=Int.mul_nonneg h1.1 (by omega)
 unfold jU
 omega
theorem qkq {long:List Int} (hL:J3 long) {p:Pt} (hp:qI long.length p=true):0≤ja long p*p.2.2∧ja long p*p.2.2≤1125899906842624000:=by
 have h1:=qkr hL hp
 have h2:=Qd hp
 refine ⟨Int.mul_nonneg h1.1 (by omega),?_⟩
 have:=Int.mul_le_mul h1.2 h2.2 (by omega) (by decide)
 exact Int.le_trans this (by decide)
theorem zI {α β:Type} {f:β→α→β} {b:β} {l:List α} {i:Nat} (h:i<l.length):(l.take (i+1)).foldl f b=f ((l.take i).foldl f b) l[i]:=by
 rw [List.take_succ_eq_append_getElem h,List.foldl_append];rfl
theorem Vo {long:List Int} (hL:J3 long) {l:List Pt} (hp:∀ p∈l,qI long.length p=true):0≤QZ long l∧QZ long l≤JS:=by
 have key:∀ (l:List Pt) (n:Int),(∀ p∈l,qI long.length p=true)→0≤n∧n≤JS→0≤l.foldl (jU long) n∧l.foldl (jU long) n≤JS:=by
  intro l
  induction l with
  | nil=>intro n _ hn;exact hn
  | cons p l ih=>intro n h hn;exact ih _ (fun q hq=>h q (by simp [hq])) (qk3 hL (h p (by simp)) hn)
 exact key l 0 hp ⟨by decide,by decide⟩
def qu (l:List Bk):List Int:=l.foldl (fun out b=>out++[QZ out b.2]) []
theorem QL {l:List Bk} {i:Nat} (h:i<l.length):qu (l.take (i+1))=qu (l.take i)++[QZ (qu (l.take i)) l[i].2]:=zI h
theorem zy:∀ (l:List Bk),(qu l).length=l.length:=by
 intro l
 have key : ∀ (l : List Bk) (out : List Int),(l.foldl (fun out b => out ++ [QZ out b.2]) out).length = out.length + l.length := by
  intro l
  induction l with
  | nil=>intro out;rfl
  | cons b l ih=>intro out;rw [List.foldl_cons,ih];simp;omega
 unfold qu;rw [key];simp
def RecV (l:List Bk):Prop:=(∀ i (h:i<l.length),∀ p∈l[i].2,qI i p=true)∧l.length≤1000000
theorem RecV.take {l:List Bk} (h:RecV l) (i:Nat):RecV (l.take i):=by
 refine ⟨fun j hj p hp=>?_,by have:=h.2;rw [List.length_take];omega⟩
 have hj':j<l.length:=by rw [List.length_take] at hj;omega
 rw [List.getElem_take] at hp
 exact h.1 j hj' p hp
theorem jO {l:List Bk} (h:RecV l):J3 (qu l):=by
 have key:∀ i,i≤l.length→J3 (qu (l.take i)):=by
  intro i
  induction i with
  | zero=>intro _;exact ⟨by simp [qu],by simp [qu]⟩
  | succ i ih =>
    intro hi
    have hi':i<l.length:=hi
    have h1:=ih (by omega)
    rw [QL hi']
    have hl:(qu (l.take i)).length=i:=by rw [zy,List.length_take];omega
    have h2:=Vo h1 (l:=l[i].2) (by rw [hl];exact h.1 i hi')
    refine ⟨fun x hx=>?_,by have:=h.2;rw [List.length_append,hl];simp;omega⟩
    rw [List.mem_append] at hx
    rcases hx with hx | hx
    · exact h1.1 x hx
    · simp at hx;subst hx;exact h2
 have:=key l.length (Nat.le_refl _)
 rwa [List.take_length] at this
def Yx (long:List Int) (l:List Pt):Bool:=decide (l.length≤64)&&l.all (qI long.length)&&decide (QZ long l≤QM)
def jv (pre:List Bk) (b:Bk):Bool:=QW b.1&&(decide (1≤b.2.length)&&decide (b.2.length≤8)) && !(pre.any fun x=>decide (x.1=b.1))&&b.2.all (qI pre.length)
def VC (l:List Bk):Bool:=(List.range l.length).all fun i=>jv (l.take i) (l.getD i ([],[]))
def jA (l:List Bk):Bool:=decide (l.length≤32)&&VC l&&(qu l).all fun x=>decide (x≤QM)
def j6 (l:List Sht) (b:Int):Int:=((l.filter fun s=>decide (s.bath=b)).length:Int)
def QH (l:List Sht):Int:=match l.getLast? with
 | some s=>s.bath
 | none=>1
def zf (long:List Int) (bath:Int) (pre:List Sht) (s:Sht):Bool :=
 (decide (1≤s.num)&&decide (s.num≤QM))&&(decide (QH pre≤s.bath)&&decide (s.bath≤bath))&&Yx long s.pat&&(decide (s.age=j6 pre s.bath)&&decide (s.age<8)) && !(pre.any fun x=>decide (x.num=s.num))
def jm (long:List Int) (bath:Int) (l:List Sht):Bool:=(List.range l.length).all fun i=>zf long bath (l.take i) (l.getD i ⟨0,0,0,[]⟩)
def Wg (d:Dy):Bool :=
 ((decide (0 ≤ d.bath) && decide (d.bath ≤ 1000)) && (decide (0 ≤ d.laid) && decide (d.laid ≤ 8)) && (!decide (d.bath = 0) || decide (d.pat.length = 0)) && decide (d.sh.length ≤ 400)) &&
   jA d.rc&&Yx (qu d.rc) d.pat&&jm (qu d.rc) d.bath d.sh&&decide (d.laid=j6 d.sh d.bath)
def Wh (d:Dy):Int:=if Wg d then 0 else 2
theorem qhN {n:Nat} {p:Nat→Bool}:(List.range n).all p=true↔∀ i,i<n→p i=true:=by
 rw [List.all_eq_true];exact ⟨fun h i hi=>h i (List.mem_range.2 hi),fun h i hi=>h i (List.mem_range.1 hi)⟩
theorem Zp {l:List Bk}:VC l=true↔∀ i (h:i<l.length),jv (l.take i) l[i]=true:=by
 unfold VC
 rw [qhN]
 constructor
 · intro h i hi
   have:=h i hi
   rwa [List.getD_eq_getElem?_getD,List.getElem?_eq_getElem hi] at this
 · intro h i hi
   rw [List.getD_eq_getElem?_getD,List.getElem?_eq_getElem hi]
   exact h i hi
theorem ZV {long:List Int} {b:Int} {l:List Sht}:jm long b l=true↔∀ i (h:i<l.length),zf long b (l.take i) l[i]=true:=by
 unfold jm
 rw [qhN]
 constructor
 · intro h i hi
   have:=h i hi
   rwa [List.getD_eq_getElem?_getD,List.getElem?_eq_getElem hi] at this
 · intro h i hi
   rw [List.getD_eq_getElem?_getD,List.getElem?_eq_getElem hi]
   exact h i hi
theorem Q6 {pre:List Bk} {b:Bk} (h:jv pre b=true):QW b.1=true∧1≤b.2.length∧b.2.length≤8∧(∀ x∈pre,x.1≠b.1)∧∀ p∈b.2,qI pre.length p=true:=by
 unfold jv at h
 simp only [Bool.and_eq_true,decide_eq_true_eq,Bool.not_eq_true',List.any_eq_false,List.all_eq_true] at h
 exact ⟨h.1.1.1,h.1.1.2.1,h.1.1.2.2,fun x hx=>h.1.2 x hx,h.2⟩
theorem XM {l:List Bk} (h:VC l=true) (hl:l.length≤1000000):RecV l:=by
 refine ⟨fun i hi p hp=>?_,hl⟩
 have:=(Q6 (Zp.1 h i hi)).2.2.2.2 p hp
 rwa [List.length_take,Nat.min_eq_left (by omega)] at this
def qjb (n:Int):List AV:=[I n]
theorem qms (n:Int):(qjb n).length=1:=rfl
def zL (rc:List Bk) (nm:List UInt8):Int:=qiy (fun b:Bk=>decide (b.1=nm)) rc
theorem VK (rc:List Bk) (nm:List UInt8):zL rc nm = -1∧(∀ b∈rc,b.1≠nm)∨∃ (i:Nat) (h:i<rc.length),zL rc nm=(i:Int)∧rc[i].1=nm∧∀ j (hj:j<rc.length),j<i→rc[j].1≠nm:=by
 unfold zL qiy
 cases h:rc.findIdx? (fun b:Bk=>decide (b.1=nm)) with
 | none =>
   left
   refine ⟨rfl,fun b hb e=>?_⟩
   have:=List.findIdx?_eq_none_iff.1 h b hb
   simp [e] at this
 | some i =>
   right
   obtain ⟨h1,h2,h3⟩:=List.findIdx?_eq_some_iff_getElem.1 h
   exact ⟨i,h1,rfl,by simpa using h2,fun j hj hlt e=>by have:=h3 j hlt;simp [e] at this⟩
def Xg (rc:List Bk) (w:Wd):Option Pt:=if w.2.1=[] then some (w.1,-1,w.2.2) else if 0≤zL rc w.2.1 then some (w.1,zL rc w.2.1,w.2.2) else none
def Qf (rc : List Bk) : List Wd → Option (List Pt)
 | []=>some []
 | w::ws=>match Xg rc w,Qf rc ws with
   | some p,some ps=>some (p::ps)
   | _,_=>none
theorem WD {rc : List Bk} : ∀ {a b : List Wd},Qf rc (a ++ b) = (match Qf rc a,Qf rc b with
 | some x,some y=>some (x++y)
 | _,_=>none)
 | [],b=>by
   show Qf rc b=_
   simp only [Qf]
   cases Qf rc b <;> rfl
 | w::a,b=>by
   simp only [List.cons_append,Qf,WD (a:=a) (b:=b)]
   cases Xg rc w <;> cases Qf rc a <;> cases Qf rc b <;> rfl
theorem qgq {rc:List Bk} {l:List Wd} {i:Nat} (h:i<l.length) {ps:List Pt} (hp:Qf rc (l.take i)=some ps):Qf rc (l.take (i+1))=match Xg rc l[i] with
 | some p=>some (ps++[p])
 | none=>none:=by
 rw [List.take_succ_eq_append_getElem h,WD,hp]
 simp only [Qf]
 cases Xg rc l[i] <;> rfl
theorem qgp {rc:List Bk} {l:List Wd} {i:Nat} (h:Qf rc (l.take i)=none):Qf rc l=none:=by
 rw [←List.take_append_drop i l,WD,h]
theorem Yw {rc : List Bk} : ∀ {l : List Wd} {ps : List Pt},Qf rc l = some ps → ps.length = l.length
 | [],ps,h=>by simp [Qf] at h;subst h;rfl
 | w::l, ps, h=>by
   simp only [Qf] at h
   split at h
   · rename_i p ps' _ h2
     cases h
     simp [Yw h2]
   · cases h
def WdV (w:Wd):Prop:=(w.2.1=[]∧VZ w.1=true∨w.1=0∧QW w.2.1=true)∧1≤w.2.2∧w.2.2≤1000
theorem qmT {rc:List Bk} {w:Wd} (hw:WdV w) {p:Pt} (h:Xg rc w=some p):qI rc.length p=true:=by
 obtain ⟨h1,h2,h3⟩:=hw
 unfold Xg at h
 split at h
 · rename_i e
   cases h
   have ha:VZ w.1=true:=by
    rcases h1 with ⟨_,h⟩ | ⟨_,h⟩
    · exact h
    · rw [e] at h;cases h
   simp [qI,h2,h3,ha]
 · rename_i e
   split at h
   · rename_i h0
     cases h
     have ha:w.1=0:=by
      rcases h1 with ⟨h,_⟩ | ⟨h,_⟩
      · exact absurd h e
      · exact h
     have hn:zL rc w.2.1<(rc.length:Int):=by
      rcases VK rc w.2.1 with ⟨h,_⟩ | ⟨i,hi,h,_⟩ <;> rw [h] <;> omega
     have hne:zL rc w.2.1≠-1:=by omega
     simp [qI,h2,h3,ha,hne,h0,hn]
   · cases h
theorem VN {rc : List Bk} : ∀ {l : List Wd} {ps : List Pt},(∀ w ∈ l,WdV w) → Qf rc l = some ps → ∀ p ∈ ps,qI rc.length p = true
 | [],ps,_,h=>by simp [Qf] at h;subst h;simp
 | w::l, ps, hw, h=>by
   simp only [Qf] at h
   split at h
   · rename_i p ps' h1 h2
     cases h
     intro q hq
     rcases List.mem_cons.1 hq with rfl | hq
     · exact qmT (hw w (by simp)) h1
     · exact VN (fun x hx=>hw x (by simp [hx])) h2 q hq
   · cases h
def zi (d:Dy) (l:Ln):Dy × Int :=
 if l.kind = 1 then
  if 0≤zL d.rc l.name then (d,11) else if 32≤d.rc.length then (d,10) else match Qf d.rc l.words with
   | none=>(d,5)
   | some p=>if QM<QZ (qu d.rc) p then (d,4) else ({ d with rc:=d.rc++[(l.name,p)] },0)
 else if l.kind=2 then ({ d with bath:=d.bath+1,laid:=0,pat:=[] },0)
 else if d.bath=0 then (d,9)
 else if l.kind=3 then match Qf d.rc l.words with
  | none=>(d,5)
  | some p=>if 64<(d.pat++p).length then (d,10) else if QM<QZ (qu d.rc) (d.pat++p) then (d,4) else ({ d with pat:=d.pat++p },0)
 else if d.sh.any (fun s => decide (s.num = l.num)) then (d,11) else if 8 ≤ d.laid then (d,10)
  else ({ d with sh:=d.sh++[⟨l.num,d.bath,d.laid,d.pat⟩],laid:=d.laid+1,pat:=[] },0)
structure LnV' (l:Ln):Prop where
 words:∀ w∈l.words,WdV w
 len:l.words.length≤8
 name:l.name.length≤8
 nm:l.kind=1→QW l.name=true∧1≤l.words.length
 num:0≤l.num∧l.num≤1099511627776
 kind:1≤l.kind∧l.kind≤6
 lay:l.kind=4→1≤l.num
structure DyW (d:Dy):Prop where
 i:DyI d
 rc:RecV d.rc
 pat:∀ p∈d.pat,qI d.rc.length p=true
 bath:0≤d.bath∧d.bath≤1000
 laid:0≤d.laid∧d.laid≤8
theorem qk9 {t:Option (List UInt8)} {k:Int} (h:JA t=some k):1≤k∧k≤1000:=by
 unfold JA at h
 split at h
 · cases h;decide
 · split at h
   · rename_i hn
     cases h
     unfold qaB at hn
     simp only [Bool.and_eq_true,decide_eq_true_eq] at hn
     omega
   · cases h
theorem qa2 {s:List UInt8} (h:(jX s).2=true):WdV (jX s).1:=by
 unfold jX at h ⊢
 split at h
 · cases h
 · rename_i k hk
   have hr:=qk9 hk
   split at h
   · rename_i c hc
     refine ⟨.inl ⟨rfl,?_⟩,hr⟩
     unfold qbI at hc
     split at hc
     · split at hc
       · rename_i hl
         cases hc
         rw [qcl];exact hl
       · cases hc
     · cases hc
   · rename_i hc
     exact ⟨.inr ⟨rfl,h⟩,hr⟩
theorem qdK : ∀ {l : List (List UInt8)} {ws : List Wd},zg l = some ws → ∀ w ∈ ws,WdV w
 | [],ws,h=>by simp [zg] at h;subst h;simp
 | s::l, ws, h=>by
   simp only [zg] at h
   split at h
   · rename_i w ws' h1 h2
     cases h
     intro x hx
     rcases List.mem_cons.1 hx with rfl | hx
     · have := qa2 (s := s) (by rw [h1])
       rwa [h1] at this
     · exact qdK h2 x hx
   · cases h
theorem qc9 {s:List UInt8} (h:QW s=true):s.length≤8:=by
 cases s with
 | nil=>simp
 | cons c r =>
   unfold QW at h
   simp only [Bool.and_eq_true,decide_eq_true_eq] at h
   simp only [List.length_cons];omega
theorem qhz {k z:Int} {nm:List UInt8} {ws:List Wd} (h1:∀ w∈ws,WdV w) (h2:ws.length≤8) (h3:nm.length≤8) (h4:k=1→QW nm=true∧1≤ws.length) (h5:0≤z∧z≤1099511627776) (h6:1≤k∧k≤6) (h7:k=4→1≤z):LnV' ⟨k,nm,ws,z⟩:=⟨h1,h2,h3,h4,h5,h6,h7⟩
theorem qmS {l:List (List UInt8)} {x:Ln} (h:qhF l=some x):LnV' x:=by
 unfold qhF at h
 split at h
 · cases h
 · rename_i a l
   split at h
   · split at h
     · cases h
     · rename_i n ws
       split at h
       · rename_i hc
         obtain ⟨c1,c2,c3⟩:=hc
         cases hw:zg ws with
         | none=>rw [hw] at h;cases h
         | some w =>
           rw [hw] at h
           cases h
           have hl:=YJ hw
           exact qhz (qdK hw) (by omega) (qc9 c3) (fun _=>⟨c3,by omega⟩) (by decide) (by decide) (by decide)
       · cases h
   · split at h
     · split at h
       · rename_i w
         cases hw:zg [w] with
         | none=>rw [hw] at h;cases h
         | some ws =>
           rw [hw] at h
           cases h
           have hl:=YJ hw
           exact qhz (qdK hw) (by simp at hl;omega) (by simp) (fun h=>absurd h (by decide)) (by decide) (by decide) (by decide)
       · cases h
     · split at h
       · split at h
         · rename_i n
           split at h
           · rename_i hn
             cases h
             unfold qaB at hn
             simp only [Bool.and_eq_true,decide_eq_true_eq] at hn
             exact qhz (by simp) (by simp) (by simp) (fun h=>absurd h (by decide)) ⟨by omega,hn.2⟩ (by decide) (fun _=>hn.1.2)
           · cases h
         · cases h
       · have triv : ∀ k : Int,1 ≤ k ∧ k ≤ 6 → k ≠ 1 → k ≠ 4 → LnV' ⟨k,[],[],0⟩ := fun k h1 h2 h3 => qhz (by simp) (by simp) (by simp) (fun h => absurd h h2) (by decide) h1 (fun h => absurd h h3)
         split at h
         · split at h
           · cases h;exact triv 2 (by decide) (by decide) (by decide)
           · split at h
             · cases h;exact triv 5 (by decide) (by decide) (by decide)
             · split at h
               · cases h;exact triv 6 (by decide) (by decide) (by decide)
               · cases h
         · cases h
theorem WB {s:List UInt8} (h:jc s=0):LnV' (zd s):=by
 unfold jc at h
 unfold zd
 split at h
 · rename_i hs
   rw [if_pos hs]
   cases hp:WY s with
   | none=>rw [hp] at h;cases h
   | some x=>exact qmS hp
 · cases h
structure DayV (d:Dy):Prop where
 bath:0≤d.bath∧d.bath≤1000
 laid:0≤d.laid∧d.laid≤8
 pat0:d.bath=0→d.pat=[]
 shl:d.sh.length≤400
 rl:d.rc.length≤32
 rb:∀ i (h:i<d.rc.length),jv (d.rc.take i) d.rc[i]=true
 rm:∀ x∈qu d.rc,x≤QM
 pat:Yx (qu d.rc) d.pat=true
 sh:∀ i (h:i<d.sh.length),zf (qu d.rc) d.bath (d.sh.take i) d.sh[i]=true
 cnt:d.laid=j6 d.sh d.bath
theorem jw {d:Dy}:Wg d=true↔DayV d:=by
 constructor
 · intro h
   unfold Wg jA at h
   simp only [Bool.and_eq_true,decide_eq_true_eq,Bool.or_eq_true,Bool.not_eq_true',decide_eq_false_iff_not,List.all_eq_true] at h
   obtain ⟨⟨⟨⟨⟨⟨⟨h1,h2⟩,h3⟩,h4⟩,⟨h5,h6⟩,h7⟩,h8⟩,h9⟩,h10⟩:=h
   exact ⟨h1,h2,fun e=>by rcases h3 with h | h;exact absurd e h;exact List.eq_nil_of_length_eq_zero h,h4,h5,Zp.1 h6,h7,h8,ZV.1 h9,h10⟩
 · intro h
   unfold Wg jA
   simp only [Bool.and_eq_true,decide_eq_true_eq,Bool.or_eq_true,Bool.not_eq_true',decide_eq_false_iff_not,List.all_eq_true]
   refine ⟨⟨⟨⟨⟨⟨⟨h.bath,h.laid⟩,?_⟩,h.shl⟩,⟨h.rl,Zp.2 h.rb⟩,h.rm⟩,h.pat⟩,ZV.2 h.sh⟩,h.cnt⟩
   by_cases e:d.bath=0
   · right;rw [h.pat0 e];rfl
   · left;exact e
theorem Z0 {long:List Int} {l:List Pt}:Yx long l=true↔l.length≤64∧(∀ p∈l,qI long.length p=true)∧QZ long l≤QM:=by
 unfold Yx
 simp only [Bool.and_eq_true,decide_eq_true_eq,List.all_eq_true]
 exact ⟨fun ⟨⟨a,b⟩,c⟩=>⟨a,b,c⟩,fun ⟨a,b,c⟩=>⟨⟨a,b⟩,c⟩⟩
structure ShV (long:List Int) (bath:Int) (pre:List Sht) (s:Sht):Prop where
 num:1≤s.num∧s.num≤QM
 bath:QH pre≤s.bath∧s.bath≤bath
 pat:Yx long s.pat=true
 age:s.age=j6 pre s.bath∧s.age<8
 no:∀ x∈pre,x.num≠s.num
theorem ZU {long:List Int} {bath:Int} {pre:List Sht} {s:Sht}:zf long bath pre s=true↔ShV long bath pre s:=by
 unfold zf
 simp only [Bool.and_eq_true,decide_eq_true_eq,Bool.not_eq_true',List.any_eq_false]
 exact ⟨fun ⟨⟨⟨⟨a,b⟩,c⟩,d⟩,e⟩=>⟨a,b,c,d,e⟩,fun ⟨a,b,c,d,e⟩=>⟨⟨⟨⟨a,b⟩,c⟩,d⟩,e⟩⟩
theorem qnJ {n:Nat} {p:Pt} (h:qI n p=true) (hn:n≤1000000):PtI p:=by
 have h1:=Qd h
 refine ⟨?_,?_,by unfold i64;omega⟩
 · rcases zk h with ⟨_,h⟩ | ⟨h,_⟩
   · unfold VZ at h;simp only [Bool.and_eq_true,decide_eq_true_eq] at h;omega
   · omega
 · unfold i64
   rcases zk h with ⟨h,_⟩ | ⟨_,h,h2⟩ <;> omega
theorem qwn (l:List Sht) (b:Int):0≤j6 l b∧j6 l b≤l.length:=by
 unfold j6
 have:=List.length_filter_le (fun s:Sht=>decide (s.bath=b)) l
 omega
theorem DayV.recV {d:Dy} (h:DayV d):RecV d.rc:=XM (Zp.2 h.rb) (by have:=h.rl;omega)
theorem DayV.lens {d:Dy} (h:DayV d):(qu d.rc).length≤32:=by rw [zy];exact h.rl
theorem qoW {l:List Sht} {b:Int} (h:∀ s∈l,s.bath≤b) (hb:1≤b):QH l≤b:=by
 unfold QH
 cases hl:l.getLast? with
 | none=>exact hb
 | some s=>exact h s (List.mem_of_getLast? hl)
theorem qsl {long:List Int} {bath:Int} {l:List Sht} (h:∀ i (hi:i<l.length),ShV long bath (l.take i) l[i]):∀ i (hi:i<l.length),1≤l[i].bath:=by
 intro i
 induction i with
 | zero =>
   intro hi
   have:=(h 0 hi).bath.1
   simpa [QH] using this
 | succ i ih =>
   intro hi
   have h1:=(h (i+1) hi).bath.1
   have h2:=ih (by omega)
   have e:QH (l.take (i+1))=l[i].bath:=by
    unfold QH
    rw [List.take_succ_eq_append_getElem (by omega),List.getLast?_concat]
   omega
theorem DayV.shv {d:Dy} (h:DayV d):∀ i (hi:i<d.sh.length),ShV (qu d.rc) d.bath (d.sh.take i) d.sh[i]:=fun i hi=>ZU.1 (h.sh i hi)
theorem DayV.shm {d:Dy} (h:DayV d):∀ s∈d.sh,(1≤s.num∧s.num≤QM)∧(1≤s.bath∧s.bath≤d.bath)∧Yx (qu d.rc) s.pat=true∧0≤s.age∧s.age<8:=by
 intro s hs
 obtain ⟨i,hi,rfl⟩:=List.mem_iff_getElem.1 hs
 have v:=h.shv i hi
 have:=(qwn (d.sh.take i) d.sh[i].bath).1
 exact ⟨v.num,⟨qsl h.shv i hi,v.bath.2⟩,v.pat,by rw [v.age.1];exact this,v.age.2⟩
theorem DayV.w {d:Dy} (h:DayV d):DyW d:=by
 have hL:=h.lens
 have hb:=h.bath
 have hl:=h.laid
 have hsl:=h.shl
 have hrl:=h.rl
 have hp:=Z0.1 h.pat
 have pi : ∀ {l : List Pt},Yx (qu d.rc) l = true → qnp l := fun {l} hl => by
  have q:=Z0.1 hl
  exact ⟨fun p hp=>qnJ (q.2.1 p hp) (by omega),by omega⟩
 refine ⟨⟨fun b hb=>?_,by omega,by unfold i64;omega,by unfold i64;omega,pi h.pat,fun s hs=>?_,by omega⟩,h.recV,?_,hb,hl⟩
 · obtain ⟨i,hi,rfl⟩ := List.mem_iff_getElem.1 hb
   have bp:=Q6 (h.rb i hi)
   have hn:=qc9 bp.1
   have ht:(d.rc.take i).length≤1000000:=by rw [List.length_take];omega
   exact ⟨⟨fun p hp=>qnJ (bp.2.2.2.2 p hp) ht,by omega⟩,by omega⟩
 · have v := h.shm s hs
   have hm:QM=1099511627776:=rfl
   exact ⟨by unfold i64;omega,by unfold i64;omega,by unfold i64;omega,pi v.2.2.1⟩
 · rw [←zy];exact hp.2.1
theorem qpj {L M:List Int} {p:Pt} (h:qI L.length p=true):ja (L++M) p=ja L p:=by
 unfold ja
 split
 · rename_i h0
   rcases zk h with ⟨h,_⟩ | ⟨_,_,h⟩
   · omega
   · rw [List.getD_eq_getElem?_getD,List.getD_eq_getElem?_getD,List.getElem?_append_left (by omega)]
 · rfl
theorem qla {L M:List Int}:∀ {l:List Pt},(∀ p∈l,qI L.length p=true)→QZ (L++M) l=QZ L l:=by
 have key:∀ (l:List Pt) (n:Int),(∀ p∈l,qI L.length p=true)→l.foldl (jU (L++M)) n=l.foldl (jU L) n:=by
  intro l
  induction l with
  | nil=>intro n _;rfl
  | cons p l ih =>
    intro n h
    rw [List.foldl_cons,List.foldl_cons,ih _ (fun q hq=>h q (by simp [hq]))]
    have:jU (L++M) n p=jU L n p:=by unfold jU;rw [qpj (h p (by simp))]
    rw [this]
 exact fun {l} h=>key l 0 h
theorem qhG {L M:List Int} {l:List Pt} (h:Yx L l=true):Yx (L++M) l=true:=by
 have q:=Z0.1 h
 refine Z0.2 ⟨q.1,fun p hp=>WC (q.2.1 p hp) (by simp),?_⟩
 rw [qla q.2.1];exact q.2.2
theorem qaV {L M:List Int} {b c:Int} {pre:List Sht} {s:Sht} (h:zf L b pre s=true) (hbc:b≤c):zf (L++M) c pre s=true:=by
 have v:=ZU.1 h
 exact ZU.2 ⟨v.num,⟨v.bath.1,by have:=v.bath.2;omega⟩,qhG v.pat,v.age,v.no⟩
theorem Xs {l:List Bk} {b:Bk}:qu (l++[b])=qu l++[QZ (qu l) b.2]:=by
 unfold qu
 rw [List.foldl_append];rfl
theorem qwm {l:List Sht} {s:Sht} {b:Int}:j6 (l++[s]) b=j6 l b+(if s.bath=b then 1 else 0):=by
 unfold j6
 rw [List.filter_append,List.length_append]
 by_cases h:s.bath=b
 · rw [if_pos h];simp [h]
 · rw [if_neg h];simp [h]
theorem Xo {l:List Sht} {b:Int} (h:∀ s∈l,s.bath≠b):j6 l b=0:=by
 unfold j6
 rw [List.filter_eq_nil_iff.2 (fun s hs=>by simpa using h s hs)]
 rfl
theorem day0_V:DayV dy0:=by
 refine ⟨by decide,by decide,fun _=>rfl,by decide,by decide,fun i h=>by simp [dy0] at h,fun x h=>by simp [dy0,qu] at h,rfl,fun i h=>by simp [dy0] at h,rfl⟩
theorem qjP {α:Type} {l:List α} {a:α} {i:Nat} (h:i<(l++[a]).length):(∃ h':i<l.length,(l++[a])[i]=l[i]∧(l++[a]).take i=l.take i)∨i=l.length∧(l++[a])[i]=a∧(l++[a]).take i=l:=by
 by_cases hi:i<l.length
 · exact .inl ⟨hi,List.getElem_append_left hi,List.take_append_of_le_length (by omega)⟩
 · have e : i = l.length := by simp at h; omega
   subst e
   exact .inr ⟨rfl,by simp,by simp⟩
theorem qlS {d : Dy} {l : Ln} {k : Nat} (h : DayV d) (hl : LnV' l) (hk4 : l.kind ≤ 4) (hk : k < 400) (hb : d.bath ≤ k) (hs : d.sh.length ≤ k) (he : (zi d l).2 = 0) :
 DayV (zi d l).1∧(zi d l).1.bath≤(k+1:Nat)∧(zi d l).1.sh.length≤k+1:=by
 have hP:=fun {ps} (e:Qf d.rc l.words=some ps)=>VN hl.words e
 have hPl:=fun {ps} (e:Qf d.rc l.words=some ps)=>Yw e
 have hkd:=hl.kind
 have hsb:=h.shm
 unfold zi at he ⊢
 by_cases k1:l.kind=1
 case pos =>
  rw [if_pos k1] at he ⊢
  by_cases b1:0≤zL d.rc l.name
  case pos=>rw [if_pos b1] at he;cases he
  rw [if_neg b1] at he ⊢
  by_cases b2:32≤d.rc.length
  case pos=>rw [if_pos b2] at he;cases he
  rw [if_neg b2] at he ⊢
  cases hp:Qf d.rc l.words with
  | none=>rw [hp] at he;cases he
  | some p =>
  rw [hp] at he
  simp only at he ⊢
  by_cases b3:QM<QZ (qu d.rc) p
  case pos=>rw [if_pos b3] at he;cases he
  rw [if_neg b3]
  have hlen:=hPl hp
  have hw:=hl.len
  have hnm:=hl.nm k1
  refine ⟨⟨h.bath,h.laid,h.pat0,h.shl,by simp;omega,fun i hi=>?_,fun x hx=>?_,?_,fun i hi=>?_,h.cnt⟩,by show d.bath≤_;omega,by show d.sh.length≤_;omega⟩
  · rcases qjP hi with ⟨h',e1,e2⟩ | ⟨e0,e1,e2⟩
    · rw [e1,e2];exact h.rb i h'
    · rw [e1,e2]
      unfold jv
      have hno : (d.rc.any fun x => decide (x.1 = l.name)) = false := by
       rw [List.any_eq_false]
       intro b hbm
       rcases VK d.rc l.name with ⟨_,hn⟩ | ⟨j,hj,hj2,_⟩
       · simpa using hn b hbm
       · omega
      simp only [Bool.and_eq_true,decide_eq_true_eq,Bool.not_eq_true',List.all_eq_true]
      exact ⟨⟨⟨hnm.1,by omega,by omega⟩,hno⟩,hP hp⟩
  · simp only at hx
    rw [Xs] at hx
    rcases List.mem_append.1 hx with hx | hx
    · exact h.rm x hx
    · simp at hx;subst hx;omega
  · simp only
    rw [Xs];exact qhG h.pat
  · simp only
    rw [Xs];exact qaV (h.sh i hi) (Int.le_refl _)
 rw [if_neg k1] at he ⊢
 by_cases k2:l.kind=2
 case pos =>
  rw [if_pos k2]
  have hbb:=h.bath
  refine ⟨⟨⟨by show 0≤d.bath+1;omega,by show d.bath+1≤1000;omega⟩,⟨by show (0:Int)≤0;decide,by show (0:Int)≤8;decide⟩,fun _=>rfl,h.shl,h.rl,h.rb,h.rm,rfl,fun i hi=>?_,?_⟩,by show d.bath+1≤_;omega,by show d.sh.length≤_;omega⟩
  · have := qaV (M := []) (c := d.bath + 1) (h.sh i hi) (by omega)
    rwa [List.append_nil] at this
  · show 0 = j6 d.sh (d.bath + 1)
    rw [Xo fun s hs'=>by have:=(hsb s hs').2.1.2;omega]
 rw [if_neg k2] at he ⊢
 by_cases b0:d.bath=0
 case pos=>rw [if_pos b0] at he;cases he
 rw [if_neg b0] at he ⊢
 by_cases k3:l.kind=3
 case pos =>
  rw [if_pos k3] at he ⊢
  cases hp:Qf d.rc l.words with
  | none=>rw [hp] at he;cases he
  | some p =>
  rw [hp] at he
  simp only at he ⊢
  by_cases b4:64<(d.pat++p).length
  case pos=>rw [if_pos b4] at he;cases he
  rw [if_neg b4] at he ⊢
  by_cases b3:QM<QZ (qu d.rc) (d.pat++p)
  case pos=>rw [if_pos b3] at he;cases he
  rw [if_neg b3]
  have q:=Z0.1 h.pat
  refine ⟨⟨h.bath,h.laid,fun e=>absurd e b0,h.shl,h.rl,h.rb,h.rm,Z0.2 ⟨Nat.le_of_not_lt b4,fun x hx=>?_,Int.not_lt.1 b3⟩,h.sh,h.cnt⟩,by show d.bath≤_;omega,by show d.sh.length≤_;omega⟩
  rcases List.mem_append.1 hx with hx | hx
  · exact q.2.1 x hx
  · rw [zy];exact hP hp x hx
 rw [if_neg k3] at he ⊢
 by_cases b5:d.sh.any (fun s=>decide (s.num=l.num))=true
 case pos=>rw [if_pos b5] at he;cases he
 rw [if_neg b5] at he ⊢
 by_cases b6:8≤d.laid
 case pos=>rw [if_pos b6] at he;cases he
 rw [if_neg b6]
 have hbb:=h.bath
 have hla:=h.laid
 have hno:∀ x∈d.sh,x.num≠l.num:=fun x hx e=>b5 (List.any_eq_true.2 ⟨x,hx,by simpa using e⟩)
 refine ⟨⟨h.bath,⟨by show 0≤d.laid+1;omega,by show d.laid+1≤8;omega⟩,fun _=>rfl,by simp;omega,h.rl,h.rb,h.rm,rfl,fun i hi=>?_,?_⟩,by show d.bath≤_;omega,by simp;omega⟩
 · rcases qjP hi with ⟨h',e1,e2⟩ | ⟨e0,e1,e2⟩
   · rw [e1,e2];exact h.sh i h'
   · rw [e1,e2]
     exact ZU.2 ⟨⟨hl.lay (by omega),hl.num.2⟩,⟨qoW (fun s hs'=>(hsb s hs').2.1.2) (by show 1≤d.bath;omega),Int.le_refl _⟩,h.pat,⟨h.cnt,by show d.laid<8;omega⟩,hno⟩
 · show d.laid + 1 = j6 (d.sh ++ [_]) d.bath
   rw [qwm,←h.cnt]
   simp
structure Pl where
 ds:List Dy
 kept:List (List UInt8)
 at':Nat
 errs:List Int
def pl0:Pl:=⟨[],[],0,[]⟩
def qX (q:Pl):Dy:=(dy0::q.ds).getD q.at' dy0
def Ql (q:Pl) (s:List UInt8):Pl :=
 if jc s≠0 then { q with errs:=q.errs++[jc s] }
 else if (zd s).kind=5∧q.at'=0∨(zd s).kind=6∧q.at'=q.kept.length then { q with errs:=q.errs++[5] }
 else if (zd s).kind=5 then { q with at':=q.at' - 1,errs:=q.errs++[0] }
 else if (zd s).kind=6 then { q with at':=q.at'+1,errs:=q.errs++[0] }
 else if (zi (qX q) (zd s)).2=0 then ⟨q.ds.take q.at'++[(zi (qX q) (zd s)).1],q.kept.take q.at'++[s],q.at'+1,q.errs++[0]⟩
 else { q with errs:=q.errs++[(zi (qX q) (zd s)).2] }
structure PlV (n:Nat) (q:Pl):Prop where
 at':q.at'≤q.ds.length
 kept:q.kept.length=q.ds.length
 len:q.ds.length≤n
 errs:q.errs.length=n
 days:∀ i (h:i<q.ds.length),DayV q.ds[i]∧q.ds[i].bath≤(i+1:Nat)∧q.ds[i].sh.length≤i+1
theorem quv:PlV 0 pl0:=⟨by decide,rfl,by decide,rfl,fun i h=>by simp [pl0] at h⟩
theorem PlV.day {n q} (h:PlV n q):DayV (qX q)∧(qX q).bath≤(q.at':Int)∧(qX q).sh.length≤q.at':=by
 unfold qX
 have h1:=h.at'
 cases ha:q.at' with
 | zero=>exact ⟨day0_V,by show (0:Int)≤0;decide,by show 0≤0;decide⟩
 | succ j =>
   rw [ha] at h1
   have hj:j<q.ds.length:=by omega
   have e:(dy0::q.ds).getD (j+1) dy0=q.ds[j]:=by
    rw [List.getD_eq_getElem?_getD,List.getElem?_cons_succ,List.getElem?_eq_getElem hj];rfl
   rw [e];exact h.days j hj
theorem PlV.app {n q} (h:PlV n q) (e:Int) {a:Nat} (ha:a≤q.ds.length):PlV (n+1) { q with at':=a,errs:=q.errs++[e] } :=
 ⟨ha,h.kept,by have:=h.len;show q.ds.length≤n+1;omega,by have:=h.errs;simp;exact this,h.days⟩
theorem PlV.step {n q} {s:List UInt8} (h:PlV n q) (hn:n<400):PlV (n+1) (Ql q s):=by
 have h1:=h.at'
 have h2:=h.len
 have h3:=h.kept
 unfold Ql
 by_cases c1:jc s=0
 case neg=>rw [if_pos c1];exact h.app _ h1
 rw [if_neg (by simpa using c1)]
 have hl:=WB c1
 by_cases c2:(zd s).kind=5∧q.at'=0∨(zd s).kind=6∧q.at'=q.kept.length
 case pos=>rw [if_pos c2];exact h.app _ h1
 rw [if_neg c2]
 by_cases c3:(zd s).kind=5
 case pos=>rw [if_pos c3];exact h.app 0 (a:=q.at' - 1) (by omega)
 rw [if_neg c3]
 by_cases c4:(zd s).kind=6
 case pos=>rw [if_pos c4];exact h.app 0 (a:=q.at'+1) (by omega)
 rw [if_neg c4]
 by_cases c5:(zi (qX q) (zd s)).2=0
 case neg=>rw [if_neg c5];exact h.app _ h1
 rw [if_pos c5]
 have hk:=hl.kind
 have hd:=h.day
 have hN:=qlS (k:=q.at') hd.1 hl (by omega) (by omega) hd.2.1 hd.2.2 c5
 have tl:(q.ds.take q.at').length=q.at':=by rw [List.length_take];omega
 refine ⟨by simp;omega,by simp;omega,by simp;omega,by have:=h.errs;simp;exact this,fun i hi=>?_⟩
 simp only at hi ⊢
 rcases qjP hi with ⟨h',e1,_⟩ | ⟨e0,e1,_⟩
 · rw [e1,List.getElem_take];exact h.days i (by omega)
 · rw [e1,e0,tl];exact hN
def jQ (l:List (List UInt8)):Pl:=l.foldl Ql pl0
theorem Yy {l:List (List UInt8)} {i:Nat} (h:i<l.length):jQ (l.take (i+1))=Ql (jQ (l.take i)) l[i]:=zI h
theorem qdg {l:List (List UInt8)} (hl:l.length≤400):∀ i,i≤l.length→PlV i (jQ (l.take i)):=by
 intro i
 induction i with
 | zero=>intro _;exact quv
 | succ i ih=>intro h;rw [Yy (by omega)];exact (ih (by omega)).step (by omega)
def qpi (s:List UInt8):Bool:=match s.getLast? with
 | some b=>decide (b≠10)
 | none=>false
def V0 (s:List UInt8):Int:=if 65536<s.length then 7 else if qpi s then 8 else if 400<(qM 10 s).dropLast.length then 6 else 0
def qaw (s:List UInt8):List (List UInt8):=if V0 s=0 then (qM 10 s).dropLast else []
theorem YC {c : UInt8} : ∀ {s : List UInt8},(qM c s).length ≤ s.length + 1 ∧ ∀ w ∈ qM c s,w.length ≤ s.length
 | []=>⟨by simp [qM],by simp [qM]⟩
 | b::r=>by
   obtain ⟨h1,h2⟩:=YC (c:=c) (s:=r)
   unfold qM
   split
   · refine ⟨by simp; omega,fun w hw => ?_⟩
     rcases List.mem_cons.1 hw with rfl | hw
     · simp
     · have:=h2 w hw;simp;omega
   · split
     · rename_i x xs e
       rw [e] at h1 h2
       refine ⟨by simp at h1 ⊢;omega,fun w hw=>?_⟩
       rcases List.mem_cons.1 hw with rfl | hw
       · have:=h2 x (by simp);simp;omega
       · have:=h2 w (by simp [hw]);simp;omega
     · exact ⟨by simp,fun w hw=>by simp at hw;subst hw;simp⟩
def qku (s:List UInt8):Dy:=if V0 s=0 then qX (jQ (qaw s)) else dy0
def qmV (s:List UInt8):List Int:=if V0 s=0 then (jQ (qaw s)).errs else []
def qaH (s:List UInt8):List (List UInt8):=if V0 s=0 then (jQ (qaw s)).kept.take (jQ (qaw s)).at' else []
theorem qgh {s:List UInt8}:(qaw s).length≤400∧∀ w∈qaw s,w.length≤s.length:=by
 unfold qaw
 split
 · rename_i h
   unfold V0 at h
   split at h
   · cases h
   · split at h
     · cases h
     · split at h
       · cases h
       · rename_i h3
         refine ⟨by omega,fun w hw=>?_⟩
         exact (YC (c:=10) (s:=s)).2 w (List.dropLast_subset _ hw)
 · exact ⟨by simp,by simp⟩
def Zb (d:Dy) (p:Pt):Int:=if Wg d then (if qI d.rc.length p then 0 else 3) else 2
theorem VL {d:Dy} {p:Pt}:Zb d p=0↔Wg d=true∧qI d.rc.length p=true:=by
 unfold Zb
 cases Wg d <;> cases qI d.rc.length p <;> simp
def qc6 (d:Dy) (p:Pt):Int:=if Zb d p=0 then QZ (qu d.rc) [p] else 0
def qnI (has:List Int) (act:Int) (p:Pt):Int:=if p.1=act then 1 else if 0≤p.2.1 then has.getD p.2.1.toNat 0 else 0
def qfD (has:List Int) (act:Int) (n:Int) (p:Pt):Int:=n+qnI has act p*p.2.2
def qa8 (has:List Int) (act:Int) (l:List Pt):Int:=l.foldl (qfD has act) 0
def qiw (act:Int) (l:List Bk):List Int:=l.foldl (fun out b=>out++[qa8 out act b.2]) []
theorem qhu {act:Int} {l:List Bk} {i:Nat} (h:i<l.length):qiw act (l.take (i+1))=qiw act (l.take i)++[qa8 (qiw act (l.take i)) act l[i].2]:=zI h
theorem qj2 {act:Int}:∀ (l:List Bk),(qiw act l).length=l.length:=by
 have key : ∀ (l : List Bk) (out : List Int),(l.foldl (fun out b => out ++ [qa8 out act b.2]) out).length = out.length + l.length := by
  intro l
  induction l with
  | nil=>intro out;rfl
  | cons b l ih=>intro out;rw [List.foldl_cons,ih];simp;omega
 intro l
 unfold qiw;rw [key];simp
def qln (has long:List Int):Prop:=has.length=long.length∧∀ i,0≤has.getD i 0∧has.getD i 0≤long.getD i 0
theorem qmN {has long:List Int} (h:qln has long) {act:Int} (ha:VZ act=true) {p:Pt} (hp:qI long.length p=true):0≤qnI has act p∧qnI has act p≤ja long p:=by
 have h97:97≤act:=by unfold VZ at ha;simp only [Bool.and_eq_true,decide_eq_true_eq] at ha;omega
 have hq:=h.2 p.2.1.toNat
 unfold qnI ja
 by_cases e:p.1=act
 · rw [if_pos e]
   rcases zk hp with ⟨h1,_⟩ | ⟨h1,_⟩
   · rw [if_neg (by omega)];decide
   · omega
 · rw [if_neg e]
   by_cases e2:0≤p.2.1
   · rw [if_pos e2,if_pos e2];exact hq
   · rw [if_neg e2,if_neg e2];decide
theorem qn1 {has long:List Int} (h:qln has long) {act:Int} (ha:VZ act=true):∀ {l:List Pt},(∀ p∈l,qI long.length p=true)→0≤qa8 has act l∧min JS (qa8 has act l)≤QZ long l:=by
 have hfar:JS=1125899906842624:=rfl
 have key:∀ (l:List Pt) (m n:Int),(∀ p∈l,qI long.length p=true)→0≤m→min JS m≤n→0≤l.foldl (qfD has act) m∧min JS (l.foldl (qfD has act) m)≤l.foldl (jU long) n:=by
  intro l
  induction l with
  | nil=>intro m n _ h1 h2;exact ⟨h1,h2⟩
  | cons p l ih =>
    intro m n hp h1 h2
    rw [List.foldl_cons,List.foldl_cons]
    have ho:=qmN h ha (hp p (by simp))
    have ht:=Qd (hp p (by simp))
    have h3:0≤qnI has act p*p.2.2:=Int.mul_nonneg ho.1 (by omega)
    have h4:qnI has act p*p.2.2≤ja long p*p.2.2:=Int.mul_le_mul_of_nonneg_right ho.2 (by omega)
    refine ih _ _ (fun q hq=>hp q (by simp [hq])) (by unfold qfD;omega) ?_
    unfold qfD jU
    omega
 exact fun {l} hl=>key l 0 0 hl (Int.le_refl _) (by decide)
theorem qlw {has long:List Int} (h:qln has long) {act:Int} (ha:VZ act=true) {l:List Pt} (hl:∀ p∈l,qI long.length p=true) (ht:QZ long l≤QM):0≤qa8 has act l∧qa8 has act l≤QZ long l:=by
 have:=qn1 h ha hl
 have hfar:JS=1125899906842624:=rfl
 have hmax:QM=1099511627776:=rfl
 omega
theorem VF {l m:List Int} {i:Nat}:(l++m).getD i 0=if i<l.length then l.getD i 0 else m.getD (i - l.length) 0:=by
 rw [List.getD_eq_getElem?_getD]
 by_cases h:i<l.length
 · rw [if_pos h,List.getElem?_append_left h,List.getD_eq_getElem?_getD]
 · rw [if_neg h,List.getElem?_append_right (by omega),List.getD_eq_getElem?_getD]
theorem jz {l:List Bk} (i:Nat):∃ r,qu l=qu (l.take i)++r:=by
 have e:∀ (m k:List Bk),∃ r,qu (k++m)=qu k++r:=by
  intro m
  induction m with
  | nil=>intro k;exact ⟨[],by simp⟩
  | cons b m ih=>intro k;obtain ⟨r,hr⟩:=ih (k++[b]);exact ⟨QZ (qu k) b.2::r,by rw [←List.append_cons] at hr;rw [hr,Xs];simp⟩
 obtain ⟨r,hr⟩:=e (l.drop i) (l.take i)
 exact ⟨r,by rw [←hr,List.take_append_drop]⟩
theorem qrQ {act:Int} (ha:VZ act=true) {l:List Bk} (hR:RecV l) (hm:∀ x∈qu l,x≤QM):∀ i,i≤l.length→qln (qiw act (l.take i)) (qu (l.take i)):=by
 intro i
 induction i with
 | zero=>intro _;exact ⟨rfl,fun i=>by simp [qiw,qu]⟩
 | succ i ih =>
   intro hi
   have ih:=ih (by omega)
   have hlt:i<l.length:=by omega
   have hll:(qu (l.take i)).length=i:=by rw [zy,List.length_take];omega
   have hhl:(qiw act (l.take i)).length=i:=by rw [qj2,List.length_take];omega
   have hpv:∀ p∈l[i].2,qI (qu (l.take i)).length p=true:=by rw [hll];exact hR.1 i hlt
   have htm:QZ (qu (l.take i)) l[i].2≤QM:=by
    obtain ⟨r,hr⟩:=jz (l:=l) (i+1)
    rw [QL hlt] at hr
    exact hm _ (by rw [hr];simp)
   have fit:=qlw ih ha hpv htm
   rw [qhu hlt,QL hlt]
   refine ⟨by simp [hll,hhl],fun j=>?_⟩
   rw [VF,VF,hll,hhl]
   by_cases hj:j<i
   · rw [if_pos hj,if_pos hj];exact ih.2 j
   · rw [if_neg hj,if_neg hj]
     cases hk:j - i with
     | zero=>exact fit
     | succ k=>simp
def qe3 (d:Dy) (p:Pt) (act:Int):Int:=if Zb d p=0 then (if VZ act then 0 else 8) else Zb d p
def qiC (d:Dy) (p:Pt) (act:Int):Int:=if qe3 d p act=0 then qa8 (qiw act d.rc) act [p] else 0
def Jh (d:Dy) (n:Int):Option Sht:=if Wg d then d.sh.find? (fun s=>decide (s.num=n)) else none
def Zx (d:Dy) (n:Int):Int:=if Wg d then (if (Jh d n).isSome then 0 else 5) else 2
def sh0:Sht:=⟨0,0,0,[]⟩
def qaD (T:List (List UInt8)) (p:Pt):List UInt8:=if 0≤p.2.1 then T.getD p.2.1.toNat [] else [UInt8.ofNat p.1.toNat]
def ZG (T:List (List UInt8)) (p:Pt) (k:Nat):List UInt8:=(List.replicate k (qaD T p)).flatten
def spell (T:List (List UInt8)) (l:List Pt):List UInt8:=l.flatMap fun p=>ZG T p p.2.2.toNat
def spR (l:List Bk):List (List UInt8):=l.foldl (fun out b=>out++[spell out b.2]) []
theorem qhT {l:List Bk} {i:Nat} (h:i<l.length):spR (l.take (i+1))=spR (l.take i)++[spell (spR (l.take i)) l[i].2]:=zI h
theorem qkT:∀ (l:List Bk),(spR l).length=l.length:=by
 have key : ∀ (l : List Bk) (out : List (List UInt8)),(l.foldl (fun out b => out ++ [spell out b.2]) out).length = out.length + l.length := by
  intro l
  induction l with
  | nil=>intro out;rfl
  | cons b l ih=>intro out;rw [List.foldl_cons,ih];simp;omega
 intro l
 unfold spR;rw [key];simp
theorem qi2 {T:List (List UInt8)} {p:Pt} {k:Nat}:(ZG T p k).length=k*(qaD T p).length:=by
 unfold ZG;simp
theorem qgI {T:List (List UInt8)} {p:Pt} {k:Nat}:ZG T p (k+1)=ZG T p k++qaD T p:=by
 unfold ZG;rw [List.replicate_succ',List.flatten_append];simp
theorem qcf {T:List (List UInt8)} {l:List Pt} {i:Nat} (h:i<l.length):spell T (l.take (i+1))=spell T (l.take i)++ZG T l[i] l[i].2.2.toNat:=by
 unfold spell
 rw [List.take_succ_eq_append_getElem h,List.flatMap_append];simp
def qtx (T:List (List UInt8)) (long:List Int):Prop:=T.length=long.length∧∀ i,((T.getD i []).length:Int)=long.getD i 0
theorem qmQ {T:List (List UInt8)} {long:List Int} (h:qtx T long) (p:Pt):((qaD T p).length:Int)=ja long p:=by
 unfold qaD ja
 by_cases e:0≤p.2.1
 · rw [if_pos e,if_pos e];exact h.2 _
 · rw [if_neg e,if_neg e];rfl
theorem qaW {T:List (List UInt8)} {long:List Int} (h:qtx T long) {l:List Pt} (hp:∀ p∈l,0≤p.2.2):min JS ((spell T l).length:Int)=QZ long l:=by
 have hfar:JS=1125899906842624:=rfl
 have key:∀ (l:List Pt) (m:Nat) (n:Int),(∀ p∈l,0≤p.2.2)→min JS (m:Int)=n→min JS ((m+(spell T l).length:Nat):Int)=l.foldl (jU long) n:=by
  intro l
  induction l with
  | nil=>intro m n _ h;simpa [spell] using h
  | cons p l ih =>
    intro m n hp h1
    have h0:=hp p (by simp)
    have ho:=qmQ h p
    rw [List.foldl_cons]
    have e:(spell T (p::l)).length=p.2.2.toNat*(qaD T p).length+(spell T l).length:=by
     unfold spell;rw [List.flatMap_cons,List.length_append,qi2]
    have e2:((p.2.2.toNat*(qaD T p).length:Nat):Int)=ja long p*p.2.2:=by
     rw [Int.natCast_mul,ho,Int.mul_comm,Int.toNat_of_nonneg h0]
    have := ih (m + p.2.2.toNat * (qaD T p).length) (jU long n p) (fun q hq => hp q (by simp [hq])) (by
     unfold jU
     generalize p.2.2.toNat*(qaD T p).length=X at *
     omega)
    rw [←this,e]
    congr 2;omega
 have:=key l 0 0 hp (by decide)
 rw [Nat.zero_add] at this
 exact this
theorem VG {l m:List (List UInt8)} {i:Nat}:(l++m).getD i []=if i<l.length then l.getD i [] else m.getD (i - l.length) []:=by
 rw [List.getD_eq_getElem?_getD]
 by_cases h:i<l.length
 · rw [if_pos h,List.getElem?_append_left h,List.getD_eq_getElem?_getD]
 · rw [if_neg h,List.getElem?_append_right (by omega),List.getD_eq_getElem?_getD]
theorem quD {l:List Bk} (hR:RecV l) (hm:∀ x∈qu l,x≤QM):∀ i,i≤l.length→qtx (spR (l.take i)) (qu (l.take i)):=by
 have hfar:JS=1125899906842624:=rfl
 have hmx:QM=1099511627776:=rfl
 intro i
 induction i with
 | zero=>intro _;exact ⟨rfl,fun i=>by simp [spR,qu]⟩
 | succ i ih =>
   intro hi
   have ih:=ih (by omega)
   have hlt:i<l.length:=by omega
   have hll:(qu (l.take i)).length=i:=by rw [zy,List.length_take];omega
   have hsl:(spR (l.take i)).length=i:=by rw [qkT,List.length_take];omega
   have hpv:∀ p∈l[i].2,0≤p.2.2:=fun p hp=>by have:=Qd (hR.1 i hlt p hp);omega
   have htm:QZ (qu (l.take i)) l[i].2≤QM:=by
    obtain ⟨r,hr⟩:=jz (l:=l) (i+1)
    rw [QL hlt] at hr
    exact hm _ (by rw [hr];simp)
   have sl:=qaW ih hpv
   rw [qhT hlt,QL hlt]
   refine ⟨by simp [hll,hsl],fun j=>?_⟩
   rw [VG,VF,hll,hsl]
   by_cases hj:j<i
   · rw [if_pos hj,if_pos hj];exact ih.2 j
   · rw [if_neg hj,if_neg hj]
     cases hk:j - i with
     | zero=>simp only [List.getD_cons_zero];omega
     | succ k=>simp
theorem qmP {T U:List (List UInt8)} {p:Pt} (h:qI T.length p=true):qaD (T++U) p=qaD T p:=by
 unfold qaD
 split
 · rename_i h0
   rcases zk h with ⟨h,_⟩ | ⟨_,_,h⟩
   · omega
   · rw [VG,if_pos (by omega)]
 · rfl
theorem qkV {T U:List (List UInt8)} {l:List Pt} (h:∀ p∈l,qI T.length p=true):spell (T++U) l=spell T l:=by
 unfold spell
 induction l with
 | nil=>rfl
 | cons p l ih =>
   rw [List.flatMap_cons,List.flatMap_cons,ih fun q hq=>h q (by simp [hq])]
   unfold ZG
   rw [qmP (h p (by simp))]
theorem qkU {l:List Bk} (i:Nat):∃ r,spR l=spR (l.take i)++r:=by
 have e:∀ (m k:List Bk),∃ r,spR (k++m)=spR k++r:=by
  intro m
  induction m with
  | nil=>intro k;exact ⟨[],by simp⟩
  | cons b m ih => intro k; obtain ⟨r,hr⟩ := ih (k ++ [b]); exact ⟨spell (spR k) b.2 :: r,by
   rw [←List.append_cons] at hr
   rw [hr,show spR (k++[b])=spR k++[spell (spR k) b.2] by unfold spR;rw [List.foldl_append];rfl]
   simp⟩
 obtain ⟨r,hr⟩:=e (l.drop i) (l.take i)
 exact ⟨r,by rw [←hr,List.take_append_drop]⟩
theorem qp0 {l:List Bk} (hR:RecV l) {i:Nat} (h:i<l.length):(spR l).getD i []=spell (spR l) l[i].2:=by
 obtain ⟨r,hr⟩:=qkU (l:=l) (i+1)
 obtain ⟨r2,hr2⟩:=qkU (l:=l) i
 have hsl:(spR (l.take i)).length=i:=by rw [qkT,List.length_take];omega
 have hp:∀ p∈l[i].2,qI (spR (l.take i)).length p=true:=by rw [hsl];exact hR.1 i h
 have e2:spell (spR l) l[i].2=spell (spR (l.take i)) l[i].2:=by rw [hr2,qkV hp]
 rw [e2,hr,qhT h,VG,if_pos (by simp;omega),VG,if_neg (by omega),hsl]
 simp
def qfd (long : List Int) : List Pt → Int
 | []=>0
 | p::l=>ja long p*p.2.2+qfd long l
theorem qdH {long:List Int} (hn:∀ x∈long,0≤x):∀ {l:List Pt},(∀ p∈l,qI long.length p=true)→0≤qfd long l∧QZ long l=min JS (qfd long l):=by
 have hfar:JS=1125899906842624:=rfl
 have key:∀ (l:List Pt) (m n:Int),(∀ p∈l,qI long.length p=true)→0≤m→n=min JS m→0≤qfd long l∧l.foldl (jU long) n=min JS (m+qfd long l):=by
  intro l
  induction l with
  | nil=>intro m n _ h0 h;exact ⟨Int.le_refl _,by simp [qfd,h]⟩
  | cons p l ih =>
    intro m n hp h0 h
    have hpi:=hp p (by simp)
    have tm:=Qd hpi
    have ho:0≤ja long p:=by
     unfold ja
     split
     · rename_i e
       rcases zk hpi with ⟨h,_⟩ | ⟨_,_,h⟩
       · omega
       · rw [List.getD_eq_getElem?_getD,List.getElem?_eq_getElem (show p.2.1.toNat < long.length by omega)]
         exact hn _ (List.getElem_mem _)
     · decide
    have m0:0≤ja long p*p.2.2:=Int.mul_nonneg ho (by omega)
    have:=ih (m+ja long p*p.2.2) (jU long n p) (fun q hq=>hp q (by simp [hq])) (by omega) (by unfold jU;omega)
    have e:qfd long (p::l)=ja long p*p.2.2+qfd long l:=rfl
    rw [List.foldl_cons,this.2,e]
    refine ⟨by omega,?_⟩
    congr 1;omega
 intro l hp
 have:=key l 0 0 hp (Int.le_refl _) (by decide)
 rw [Int.zero_add] at this
 exact this
theorem qpk {long:List Int} (hn:∀ x∈long,1≤x) {p:Pt} (hp:qI long.length p=true):1≤ja long p:=by
 unfold ja
 split
 · rename_i e
   rcases zk hp with ⟨h,_⟩ | ⟨_,_,h⟩
   · omega
   · rw [List.getD_eq_getElem?_getD,List.getElem?_eq_getElem (show p.2.1.toNat < long.length by omega)]
     exact hn _ (List.getElem_mem _)
 · decide
theorem qqb {long:List Int} (hn:∀ x∈long,1≤x) {l:List Pt} (hl:l≠[]) (hp:∀ p∈l,qI long.length p=true):1≤QZ long l:=by
 have hfar:JS=1125899906842624:=rfl
 have h:=qdH (fun x hx=>by have:=hn x hx;omega) hp
 cases l with
 | nil=>exact absurd rfl hl
 | cons p l =>
   have hpi:=hp p (by simp)
   have tm:=Qd hpi
   have ho:=qpk hn hpi
   have m0:1*1≤ja long p*p.2.2:=Int.mul_le_mul ho tm.1 (by decide) (by omega)
   have r:=(qdH (fun x hx=>by have:=hn x hx;omega) (l:=l) (fun q hq=>hp q (by simp [hq]))).1
   have e:qfd long (p::l)=ja long p*p.2.2+qfd long l:=rfl
   rw [h.2,e]
   omega
theorem qmB {l:List Bk} (hR:RecV l) (hne:∀ b∈l,b.2≠[]):∀ i,i≤l.length→∀ x∈qu (l.take i),1≤x:=by
 intro i
 induction i with
 | zero=>intro _ x hx;simp [qu] at hx
 | succ i ih =>
   intro hi x hx
   have hlt:i<l.length:=by omega
   have hll:(qu (l.take i)).length=i:=by rw [zy,List.length_take];omega
   rw [QL hlt] at hx
   rcases List.mem_append.1 hx with hx | hx
   · exact ih (by omega) x hx
   · rw [List.mem_singleton] at hx
     rw [hx]
     exact qqb (ih (by omega)) (hne _ (List.getElem_mem hlt)) (by rw [hll];exact hR.1 i hlt)
def qdf (long : List Int) : List Pt → Int → Pt × Int
 | [],i=>((0,-1,1),i)
 | p::l,i=>if i<QZ long [p] then (p,i) else qdf long l (i - QZ long [p])
theorem qqa {long:List Int} {p:Pt}:QZ long [p]=min JS (ja long p*p.2.2):=by
 show min JS (0+ja long p*p.2.2)=_
 rw [Int.zero_add]
def atF (long : List Int) (rc : List Bk) : Nat → Pt → Int → Int
 | 0,p,_=>p.1
 | n+1,p,i=>if p.2.1<0 then p.1 else atF long rc n (qdf long (rc.getD p.2.1.toNat ([],[])).2 (i.tmod (long.getD p.2.1.toNat 0))).1 (qdf long (rc.getD p.2.1.toNat ([],[])).2 (i.tmod (long.getD p.2.1.toNat 0))).2
def atE (d:Dy) (p:Pt) (i:Int):Int:=if Zb d p=0 then (if i<0∨qc6 d p≤i then 3 else 0) else Zb d p
def atR (d:Dy) (p:Pt) (i:Int):Int:=if atE d p i=0 then atF (qu d.rc) d.rc (d.rc.length+1) p i else 0
variable {α:Type} [DecidableEq α]
structure KeyOK (enc:α→Value) (ks:KS):Prop where
 eq:∀ a b,eqK ks (enc a) (enc b)=some (decide (a=b))
abbrev K3 (α:Type):=α × Nat × Int
def qdO (enc:α→Value) (q:K3 α):Value × Nat × AV:=(enc q.1,q.2.1,I q.2.2)
def mpK (enc:α→Value) (L:List (K3 α)) (clk:Nat):HObj := .mp (L.map (qdO enc)) clk
def JT : List (K3 α) → α → Option Int
 | [],_=>none
 | q::L,D=>if q.1=D then some q.2.2 else JT L D
variable {enc:α→Value} {ks:KS}
theorem Ys (h : KeyOK enc ks) {D : α} : ∀ {L : List (K3 α)} {i : Nat},(∀ q ∈ L,q.1 ≠ D) → Zl ks (enc D) (L.map (qdO enc)) i = some none
 | [],_,_=>rfl
 | q::L,i,hn=>by
   have h1:=hn q (by simp)
   simp only [List.map_cons,Zl,qdO,h.eq]
   rw [decide_eq_false (Ne.symm h1)]
   exact Ys h fun r hr=>hn r (by simp [hr])
theorem Yt (h : KeyOK enc ks) {D : α} {q : K3 α} {B : List (K3 α)} (hq : q.1 = D) : ∀ {A : List (K3 α)} {i : Nat},(∀ r ∈ A,r.1 ≠ D) → Zl ks (enc D) ((A ++ q :: B).map (qdO enc)) i = some (some (i + A.length))
 | [],i,_=>by
   simp only [List.nil_append,List.map_cons,Zl,qdO,h.eq]
   rw [decide_eq_true hq.symm];rfl
 | r::A,i,hn=>by
   have h1:=hn r (by simp)
   simp only [List.cons_append,List.map_cons,Zl,qdO,h.eq]
   rw [decide_eq_false (Ne.symm h1)]
   have:=Yt h hq (B:=B) (A:=A) (i:=i+1) (fun r hr=>hn r (by simp [hr]))
   rw [this,List.length_cons]
   show some (some (i+1+A.length))=_
   rw [show i+1+A.length=i+(A.length+1) by omega]
theorem qhw (D : α) : ∀ (L : List (K3 α)), (∀ q ∈ L, q.1 ≠ D) ∨ ∃ A q B, L = A ++ q :: B ∧ q.1 = D ∧ ∀ r ∈ A, r.1 ≠ D
 | [] => .inl (by simp)
 | q::L=>by
   by_cases e:q.1=D
   · exact .inr ⟨[],q,L,rfl,e,by simp⟩
   · rcases qhw D L with h | ⟨A,r,B,h1,h2,h3⟩
     · exact .inl fun r hr => by
        rcases List.mem_cons.1 hr with rfl | hr
        · exact e
        · exact h r hr
     · refine .inr ⟨q :: A,r,B,by rw [h1]; rfl,h2,fun s hs => ?_⟩
       rcases List.mem_cons.1 hs with rfl | hs
       · exact e
       · exact h3 s hs
theorem jM {D : α} : ∀ {L : List (K3 α)},(∀ q ∈ L,q.1 ≠ D) → JT L D = none
 | [],_=>rfl
 | q::L,h=>by
   simp only [JT]
   rw [if_neg (h q (by simp))]
   exact jM (fun r hr=>h r (by simp [hr]))
theorem qjQ {D : α} {q : K3 α} {B : List (K3 α)} (hq : q.1 = D) : ∀ {A : List (K3 α)},(∀ q ∈ A,q.1 ≠ D) → JT (A ++ q :: B) D = some q.2.2
 | [],_=>by simp only [List.nil_append,JT,if_pos hq]
 | r::A,h=>by
   simp only [List.cons_append,JT]
   rw [if_neg (h r (by simp))]
   exact qjQ hq (fun r hr=>h r (by simp [hr]))
theorem QG {D : α} : ∀ {L : List (K3 α)},JT L D = none → ∀ q ∈ L,q.1 ≠ D
 | [],_,q,hq=>by cases hq
 | r::L, h, q, hq=>by
   simp only [JT] at h
   by_cases e:r.1=D
   · rw [if_pos e] at h;cases h
   · rw [if_neg e] at h
     rcases List.mem_cons.1 hq with rfl | hq
     · exact e
     · exact QG h q hq
theorem qag {c : Nat} {v : Int} {E D : α} : ∀ {L : List (K3 α)},(∀ q ∈ L,q.1 ≠ E) → JT (L ++ [(E,c,v)]) D = if D = E then some v else JT L D
 | [],_=>by
   simp only [List.nil_append,JT]
   by_cases e:E=D
   · rw [if_pos e,if_pos e.symm]
   · rw [if_neg e,if_neg (Ne.symm e)]
 | r::A,h=>by
   simp only [List.cons_append,JT]
   have ih:=qag (c:=c) (v:=v) (E:=E) (D:=D) (L:=A) (fun r hr=>h r (by simp [hr]))
   have h1:=h r (by simp)
   by_cases e:r.1=D
   · rw [if_pos e,if_pos e,if_neg (by rw [←e];exact h1)]
   · rw [if_neg e,if_neg e,ih]
theorem qhq {q : K3 α} {B : List (K3 α)} {c : Nat} {v : Int} {D : α} : ∀ {A : List (K3 α)},(∀ r ∈ A,r.1 ≠ q.1) → JT (A ++ (q.1,c,v) :: B) D = if D = q.1 then some v else JT (A ++ q :: B) D
 | [],_=>by
   simp only [List.nil_append,JT]
   by_cases e:q.1=D
   · rw [if_pos e,if_pos e.symm]
   · rw [if_neg e,if_neg (Ne.symm e),if_neg e]
 | r::A,h=>by
   simp only [List.cons_append,JT]
   have ih:=qhq (q:=q) (B:=B) (c:=c) (v:=v) (D:=D) (A:=A) (fun r hr=>h r (by simp [hr]))
   have h1:=h r (by simp)
   by_cases e:r.1=D
   · rw [if_pos e,if_pos e,if_neg (by rw [←e];exact h1)]
   · rw [if_neg e,if_neg e,ih]
theorem qhp {q : K3 α} {B : List (K3 α)} {D : α} : ∀ {A : List (K3 α)},(A ++ q :: B).Pairwise (fun q r => q.1 ≠ r.1) → JT (A ++ B) D = if D = q.1 then none else JT (A ++ q :: B) D
 | [],hp=>by
   rw [List.nil_append,List.pairwise_cons] at hp
   simp only [List.nil_append,JT]
   by_cases e:q.1=D
   · rw [if_pos e.symm];exact jM fun r hr=>by rw [←e];exact (hp.1 r hr).symm
   · rw [if_neg (Ne.symm e),if_neg e]
 | r::A,hp=>by
   rw [List.cons_append,List.pairwise_cons] at hp
   have ih:=qhp (D:=D) hp.2
   have h1:=hp.1 q (by simp)
   simp only [List.cons_append,JT]
   by_cases e:r.1=D
   · rw [if_pos e,if_pos e,if_neg (by rw [←e];exact h1)]
   · rw [if_neg e,if_neg e,ih]
section
variable {P:Program} {E:HE} {fr:List (Nat × AV)} {hp:List HObj} {F:Nat→AV} {os:List AOp} {KS:St→Prop} {K:AV→List (Nat × HObj)→Prop}
theorem qrR {i:Nat} {o:HObj} (h:qr hp i=some o):hpf hp i=some o:=by rw [zh];exact h
theorem qka (h:KeyOK enc ks) (D:α):eqK ks (enc D) (enc D)=some true:=by rw [h.eq];simp
theorem qhx {A B:List (K3 α)} {q:K3 α}:((A++q::B).map (qdO enc))[A.length]?=some (qdO enc q):=by simp
theorem qmv {A B:List (K3 α)} {q:K3 α} {v:Int}:((A++q::B).map (qdO enc)).set A.length ((qdO enc q).1,(qdO enc q).2.1,I v)=(A++(q.1,q.2.1,v)::B).map (qdO enc):=by
 simp [List.set_append,qdO]
theorem qrY (h : KeyOK enc ks) {x : Nat} {D : α} {v : Int} {m ky vv : Opd} {L : List (K3 α)} {clk : Nat} (hm : evF F m = .mp x) (hk : (evF F ky).val = some (enc D)) (hv : evF F vv = I v) (ho : qr hp x = some (mpK enc L clk))
 (k1:∀ A q B,L=A++q::B→q.1=D→(∀ r∈A,r.1≠D)→K .any [(x,mpK enc (A++(q.1,q.2.1,v)::B) clk)])
 (k2:(∀ q∈L,q.1≠D)→K .any [(x,mpK enc (L++[(D,clk,v)]) (clk+1))]) :
 (AOp.ins ks m ky vv).wp P F hp K:=by
 rcases qhw D L with hn | ⟨A,q,B,rfl,h2,h3⟩
 · refine ⟨.any,_,?_,k2 hn⟩
   simp only [AOp.sem,hm,qrR ho,mpK]
   exact ⟨enc D,hk,qka h D,(by first | rfl | trivial),.inr ⟨Ys h hn,by rw [hv];simp [qdO]⟩⟩
 · refine ⟨.any,_,?_,k1 A q B rfl h2 h3⟩
   simp only [AOp.sem,hm,qrR ho,mpK]
   refine ⟨enc D,hk,qka h D,(by first | rfl | trivial),.inl ⟨A.length,qdO enc q,?_,qhx,?_⟩⟩
   · have := Yt h h2 (B := B) (i := 0) h3
     rw [Nat.zero_add] at this;exact this
   · rw [hv,qmv]
theorem qr7 (h : KeyOK enc ks) {d x : Nat} {D : α} {z : AV} {ok : Bool} {m ky : Opd} {L : List (K3 α)} {clk : Nat} (hm : evF F m = .mp x) (hk : (evF F ky).val = some (enc D)) (ho : qr hp x = some (mpK enc L clk))
 (k:K (match JT L D with | some v=>bif ok then .tup [I v,B true] else I v | none=>bif ok then .tup [z,B false] else z) []) :
 (AOp.lku d ks z ok m ky).wp P F hp K:=by
 refine ⟨_,[],?_,k⟩
 simp only [AOp.sem,hm,qrR ho,mpK]
 refine ⟨enc D,hk,qka h D,(by first | rfl | trivial),?_⟩
 rcases qhw D L with hn | ⟨A,q,B,rfl,h2,h3⟩
 · exact .inr ⟨Ys h hn,by rw [jM hn]⟩
 · refine .inl ⟨A.length,qdO enc q,?_,qhx,?_⟩
   · have := Yt h h2 (B := B) (i := 0) h3
     rw [Nat.zero_add] at this;exact this
   · rw [qjQ h2 h3];rfl
theorem qvJ (h : KeyOK enc ks) {x : Nat} {D : α} {m ky : Opd} {L : List (K3 α)} {clk : Nat} (hm : evF F m = .mp x) (hk : (evF F ky).val = some (enc D)) (ho : qr hp x = some (mpK enc L clk))
 (k1:∀ A q B,L=A++q::B→q.1=D→(∀ r∈A,r.1≠D)→K .any [(x,mpK enc (A++B) clk)])
 (k2:(∀ q∈L,q.1≠D)→K .any []) :
 (AOp.del ks m ky).wp P F hp K:=by
 rcases qhw D L with hn | ⟨A,q,B,rfl,h2,h3⟩
 · refine ⟨.any,[],?_,k2 hn⟩
   simp only [AOp.sem,hm,qrR ho,mpK]
   exact ⟨enc D,hk,qka h D,(by first | rfl | trivial),.inr ⟨Ys h hn,(by first | rfl | trivial)⟩⟩
 · refine ⟨.any,_,?_,k1 A q B rfl h2 h3⟩
   simp only [AOp.sem,hm,qrR ho,mpK]
   refine ⟨enc D,hk,qka h D,(by first | rfl | trivial),.inl ⟨A.length,?_,?_⟩⟩
   · have := Yt h h2 (B := B) (i := 0) h3
     rw [Nat.zero_add] at this;exact this
   · have:((A++q::B).map (qdO enc)).eraseIdx A.length=(A++B).map (qdO enc):=by
      rw [List.map_append,List.map_cons,List.eraseIdx_append_of_length_le (by simp)]
      simp
     rw [this]
end
def Qb (s:List UInt8):Value := .string ⟨s.toArray⟩
theorem qoV:KeyOK Qb (false,[.str]):=⟨fun a b=>by
 have e:((⟨a.toArray⟩:ByteArray)==⟨b.toArray⟩)=decide (a=b):=by
  have e1:((⟨a.toArray⟩:ByteArray)==⟨b.toArray⟩)=(a.toArray==b.toArray):=rfl
  rw [e1]
  by_cases h:a=b
  · subst h;simp
  · rw [decide_eq_false h,beq_eq_false_iff_ne]
    intro e;exact h (by simpa using congrArg Array.toList e)
 simp [eqK,Qb,Zs,e]⟩
def qii (n:Int):Value := .int .i64 n
theorem qto:KeyOK qii (false,[.int]):=⟨fun a b=>by
 simp only [eqK,qii,Zs]
 by_cases h:a=b
 · subst h;simp
 · simp [h]⟩
end Go.AM

namespace Go.AM
open Go.RowKit
def qlk (s:List UInt8) (lo hi:Int):Bool:=match Lib.parseIntB 64 s with
 | .ok v=>decide (lo≤v)&&(decide (v≤hi)&&decide (Lib.itoa v=s))
 | _=>false
theorem qb2 : ∀ (s : List UInt8) (acc : Nat),(s.all qfQ) = true → qif acc s < 10000000000000 → Lib.parseUintM (2 ^ 64 - 1) acc s = .ok (qif acc s)
 | [],acc,_,_=>rfl
 | c::r,acc,hd,hl=>by
   rw [List.all_cons,Bool.and_eq_true] at hd
   have hc:=hd.1
   unfold qfQ at hc
   simp only [Bool.and_eq_true,decide_eq_true_eq] at hc
   have hge:∀ (r:List UInt8) (a:Nat),a≤qif a r:=by
    intro r
    induction r with
    | nil=>intro a;exact Nat.le_refl _
    | cons x r ih=>intro a;rw [ZC];exact Nat.le_trans (by omega) (ih _)
   rw [ZC] at hl
   have:=hge r (acc*10+(c.toNat - 48))
   show (if 48≤c.toNat∧c.toNat≤57 then _ else _)=_
   rw [if_pos hc,if_neg (by omega),if_neg (by omega),ZC]
   exact qb2 r _ hd.2 hl
theorem qaE {s:List UInt8} (h:qnx s=true):Lib.parseIntB 64 s = .ok (Vq s:Int):=by
 obtain ⟨h1,h2,h3,h4⟩:=qfI h
 have hl:=qoj h
 cases s with
 | nil=>exact absurd rfl h1
 | cons c r =>
   have hc:=(by rw [List.all_cons,Bool.and_eq_true] at h2;exact h2.1:qfQ c=true)
   unfold qfQ at hc
   simp only [Bool.and_eq_true,decide_eq_true_eq] at hc
   have n1:¬ (c.toNat=43∨c.toNat=45):=by omega
   have n2:¬ c.toNat=45:=by omega
   have e:Lib.parseUintB 64 (c::r) = .ok (Vq (c::r)):=by
    unfold Lib.parseUintB
    rw [if_neg (by simp)]
    exact qb2 (c::r) 0 h2 hl
   unfold Lib.parseIntB
   have n3:¬ c.toNat=43:=by omega
   simp only [n2,n3,false_or,not_false_eq_true,true_and,false_and,if_false]
   rw [e]
   have e2:(2:Nat) ^ (64 - 1)=9223372036854775808:=by decide
   exact if_neg (by omega)
theorem qpf {s:List UInt8} {lo hi:Int} (h1:1≤lo) (h2:hi≤9999999999999):qlk s lo hi=qaB s lo hi:=by
 rw [Bool.eq_iff_iff]
 constructor
 · intro h
   unfold qlk at h
   cases hp:Lib.parseIntB 64 s with
   | ok v =>
     rw [hp] at h
     simp only [Bool.and_eq_true,decide_eq_true_eq] at h
     obtain ⟨a,b,c⟩:=h
     obtain ⟨n,rfl⟩:∃ n:Nat,v=n:=⟨v.toNat,by omega⟩
     have e:X0 n=s:=by
      rw [←c]
      unfold Lib.itoa
      rw [if_neg (by omega),Int.toNat_natCast]
     rw [←e]
     exact qe4 h1 a b h2
   | range=>rw [hp] at h;cases h
   | _=>rw [hp] at h;cases h
 · intro h
   unfold qaB at h
   simp only [Bool.and_eq_true,decide_eq_true_eq] at h
   unfold qlk
   rw [qaE h.1.1]
   simp only [Bool.and_eq_true,decide_eq_true_eq]
   refine ⟨h.1.2,h.2,?_⟩
   unfold Lib.itoa
   rw [if_neg (by omega),Int.toNat_natCast]
   exact qeq h.1.1
theorem qqd (c:UInt8):UInt8.ofNat ((c.toNat:Int)).toNat=c:=by
 rw [Int.toNat_natCast];exact UInt8.ofNat_toNat
theorem qg7 {a:List UInt8} {c:Int} (h:qbI a=some c):[UInt8.ofNat c.toNat]=a:=by
 unfold qbI at h
 split at h
 · split at h
   · cases h;rw [qqd]
   · cases h
 · cases h
theorem qgk {a:List UInt8} (h:QW a=true):a≠[]:=by
 rintro rfl;cases h
theorem qmK {r:List UInt8} {lo hi:Int} (h:qaB r lo hi=true):X0 (max 0 (Vq r:Int)).toNat=r:=by
 unfold qaB at h
 simp only [Bool.and_eq_true,decide_eq_true_eq] at h
 rw [show (max 0 (Vq r:Int)).toNat=Vq r by omega]
 exact qeq h.1.1
theorem qle {s:List UInt8} {w:Wd} (h:jX s=(w,true)):qjf w=s:=by
 rcases qbM 42 s with ⟨a,h1,rfl,h3⟩ | ⟨a,r,h1,rfl,h3⟩
 · unfold jX at h
   rw [h3] at h
   simp only [JA] at h
   cases ha:qbI s with
   | some c =>
     rw [ha] at h
     simp only [Prod.mk.injEq,and_true] at h
     subst h
     unfold qjf
     simp only [if_true,List.append_nil]
     exact qg7 ha
   | none =>
     rw [ha] at h
     simp only [Prod.mk.injEq] at h
     obtain ⟨rfl,h⟩:=h
     unfold qjf
     simp only [if_true,List.append_nil,if_neg (qgk h)]
 · unfold jX at h
   rw [h3] at h
   by_cases hn:qaB r 2 1000=true
   · simp only [JA,hn,if_true] at h
     have hb:=qmK hn
     have h2:¬ (Vq r:Int)=1:=by
      unfold qaB at hn
      simp only [Bool.and_eq_true,decide_eq_true_eq] at hn
      omega
     cases ha:qbI a with
     | some c =>
       rw [ha] at h
       simp only [Prod.mk.injEq,and_true] at h
       subst h
       unfold qjf
       simp only [if_true,if_neg h2,hb]
       rw [qg7 ha]
     | none =>
       rw [ha] at h
       simp only [Prod.mk.injEq] at h
       obtain ⟨rfl,h⟩:=h
       unfold qjf
       simp only [if_neg (qgk h),if_neg h2,hb]
   · have hn' : qaB r 2 1000 = false := by simpa using hn
     simp only [JA,hn'] at h
     simp at h
theorem qi4 {w:Wd} (h:WdV w):jX (qjf w)=(w,true):=by
 obtain ⟨a,nm,t⟩:=w
 obtain ⟨h1,h2⟩:=h
 simp only at h1 h2
 obtain ⟨base, hb, hne, hc⟩ : ∃ base : List UInt8, (if nm = [] then [UInt8.ofNat a.toNat] else nm) = base ∧ (∀ b ∈ base, b ≠ 42) ∧
  ∀ k,(match qbI base with | some c=>((c,[],k),true) | none=>((0,base,k),QW base):Wd × Bool)=((a,nm,k),true):=by
  refine ⟨_,rfl,?_⟩
  rcases h1 with ⟨rfl,h⟩ | ⟨rfl,h⟩
  · rw [if_pos rfl]
    unfold VZ at h
    simp only [Bool.and_eq_true,decide_eq_true_eq] at h
    have e:(UInt8.ofNat a.toNat).toNat=a.toNat:=by rw [UInt8.toNat_ofNat'];omega
    have hl:YN (UInt8.ofNat a.toNat)=true:=by
     unfold YN;rw [e];simp only [Bool.and_eq_true,decide_eq_true_eq];omega
    refine ⟨fun b hb=>?_,fun k=>?_⟩
    · simp at hb; subst hb
      intro e2
      rw [e2] at e
      have:(42:UInt8).toNat=42:=rfl
      omega
    · have:qbI [UInt8.ofNat a.toNat]=some a:=by
       unfold qbI
       simp only [hl,if_true,e]
       congr 1;omega
      rw [this]
  · rw [if_neg (qgk h)]
    have hall:∀ b∈nm, 65≤b.toNat:=by
     cases nm with
     | nil=>cases h
     | cons c r =>
       unfold QW at h
       simp only [Bool.and_eq_true,decide_eq_true_eq,List.all_eq_true] at h
       intro b hb
       rcases List.mem_cons.1 hb with rfl | hb
       · exact h.1.2.1
       · have := h.2 b hb
         unfold YN at this
         simp only [Bool.and_eq_true,decide_eq_true_eq] at this
         omega
    refine ⟨fun b hb e=>?_,fun k=>?_⟩
    · have := hall b hb
      rw [e] at this
      exact absurd this (by decide)
    · have:qbI nm=none:=by
       cases nm with
       | nil=>cases h
       | cons c r =>
         cases r with
         | nil =>
           unfold QW at h
           simp only [Bool.and_eq_true,decide_eq_true_eq] at h
           unfold qbI YN
           simp only
           rw [if_neg (by simp only [Bool.and_eq_true,decide_eq_true_eq];omega)]
         | cons d r=>rfl
      rw [this,h]
 unfold qjf jX
 simp only [hb]
 by_cases ht:t=1
 · subst ht
   simp only [if_true,List.append_nil]
   rw [qcy hne]
   exact hc 1
 · rw [if_neg ht,qcx hne]
   have hn:qaB (X0 (max 0 t).toNat) 2 1000=true:=by
    refine qe4 (by decide) ?_ ?_ (by decide) <;> omega
   simp only [JA,hn,if_true,qer]
   have e:((max 0 t).toNat:Int)=t:=by omega
   rw [e]
   exact hc t
def V7 (w:Wd):List UInt8:=(if w.2.1=[] then [UInt8.ofNat w.1.toNat] else w.2.1)++(if w.2.2=1 then [] else 42::Lib.itoa w.2.2)
def XN (w:Wd):Bool:=decide (jX (V7 w)=(w,true))
def XO (l:List Wd):List UInt8 × Bool:=if l.all XN then (l.flatMap fun w=>32::V7 w,true) else ([],false)
def qhe (l:Ln):List UInt8 :=
 if l.kind=1 then Zd++32::l.name++(XO l.words).1 else if l.kind=2 then tBath else if l.kind=3 then tDo++(XO l.words).1 else if l.kind=4 then qje++32::Lib.itoa l.num
 else if l.kind=5 then qdE else if l.kind=6 then VX else []
def qef (l:Ln):Bool:=(XO l.words).2&&decide (jc (qhe l)=0)&&decide (zd (qhe l)=l)
theorem qhv {n:Int} (h:0≤n):Lib.itoa n=X0 (max 0 n).toNat:=by
 unfold Lib.itoa
 rw [if_neg (by omega),show (max 0 n).toNat=n.toNat by omega]
theorem qn8 {w:Wd} (h:WdV w):V7 w=qjf w:=by
 unfold V7 qjf
 have:=h.2
 rw [qhv (n:=w.2.2) (by omega)]
theorem qqS {w:Wd} (h:XN w=true):V7 w=qjf w:=by
 unfold XN at h
 rw [decide_eq_true_eq] at h
 exact (qle h).symm
theorem qoa {l:List Wd} (h:(XO l).2=true):(XO l).1=l.flatMap fun w=>32::qjf w:=by
 unfold XO at h ⊢
 by_cases ha:l.all XN=true
 · rw [if_pos ha]
   rw [List.all_eq_true] at ha
   simp only
   rw [List.flatMap_def,List.flatMap_def]
   congr 1
   exact List.map_congr_left fun w hw=>by rw [qqS (ha w hw)]
 · rw [if_neg ha] at h;cases h
theorem qjq {l:Ln} (h:(XO l.words).2=true) (hk:1≤l.kind∧l.kind≤6) (hn:l.kind=4→0≤l.num):qhe l=qp2 l:=by
 have e:=qoa h
 unfold qhe qp2
 by_cases k1:l.kind=1
 · rw [if_pos k1,if_neg (by omega),if_neg (by omega),if_neg (by omega),if_neg (by omega),if_pos k1,e]
 · rw [if_neg k1]
   by_cases k2:l.kind=2
   · rw [if_pos k2,if_pos k2]
   · rw [if_neg k2, if_neg k2]
     by_cases k3:l.kind=3
     · rw [if_pos k3,if_neg (by omega),if_neg (by omega),if_neg (by omega),if_neg (by omega),e]
     · rw [if_neg k3]
       by_cases k4:l.kind=4
       · rw [if_pos k4,if_neg (by omega),if_neg (by omega),if_pos k4,qhv (hn k4)]
       · rw [if_neg k4]
         by_cases k5:l.kind=5
         · rw [if_pos k5,if_pos k5]
         · rw [if_neg k5,if_neg k5,if_pos (by omega),if_pos (by omega)]
theorem qlH (l:Ln):qef l=Xi l∧(qef l=true→qhe l=qp2 l):=by
 have key:qef l=true→Xi l=true∧qhe l=qp2 l:=by
  intro h
  unfold qef at h
  simp only [Bool.and_eq_true,decide_eq_true_eq] at h
  obtain ⟨⟨h1,h2⟩,h3⟩:=h
  have V:=WB h2
  rw [h3] at V
  have e:=qjq h1 V.kind (fun k=>by have:=V.lay k;omega)
  refine ⟨?_,e⟩
  unfold Xi
  rw [←e,h2,h3]
  simp only [Bool.and_eq_true,decide_eq_true_eq,and_true]
  exact V.len
 refine ⟨?_,fun h=>(key h).2⟩
 rw [Bool.eq_iff_iff]
 refine ⟨fun h=>(key h).1,fun h=>?_⟩
 unfold Xi at h
 simp only [Bool.and_eq_true,decide_eq_true_eq] at h
 obtain ⟨⟨_,h2⟩,h3⟩:=h
 have V:=WB h2
 rw [h3] at V
 have h1:(XO l.words).2=true:=by
  unfold XO
  rw [if_pos]
  rw [List.all_eq_true]
  intro w hw
  have v:=V.words w hw
  unfold XN
  rw [decide_eq_true_eq,qn8 v]
  exact qi4 v
 have e:=qjq h1 V.kind (fun k=>by have:=V.lay k;omega)
 unfold qef
 rw [e,h1,h2,h3]
 simp
def PlR (q:Pl):Prop:=∀ i (h:i<q.ds.length) (h':i<q.kept.length),(jc q.kept[i]=0∧(zd q.kept[i]).kind≤4)∧zi ((dy0::q.ds).getD i dy0) (zd q.kept[i])=(q.ds[i],0)
theorem PlR.zero:PlR pl0:=fun i h=>by simp [pl0] at h
theorem qeW {l:List Dy} {n i:Nat} (h:i≤n) (hn:n≤l.length):(dy0::l.take n).getD i dy0=(dy0::l).getD i dy0:=by
 cases i with
 | zero=>rfl
 | succ j =>
   rw [List.getD_eq_getElem?_getD,List.getD_eq_getElem?_getD,List.getElem?_cons_succ,List.getElem?_cons_succ,List.getElem?_take,if_pos (by omega)]
theorem qeX {l:List Dy} {d:Dy} {i:Nat} (h:i≤l.length):(dy0::(l++[d])).getD i dy0=(dy0::l).getD i dy0:=by
 cases i with
 | zero=>rfl
 | succ j=>rw [List.getD_eq_getElem?_getD,List.getD_eq_getElem?_getD,List.getElem?_cons_succ,List.getElem?_cons_succ,List.getElem?_append_left (by omega)]
theorem PlR.push {n:Nat} {q:Pl} {s:List UInt8} {d:Dy} {e:List Int} (h:PlR q) (hv:PlV n q) (h1:jc s=0) (h2:(zd s).kind≤4) (h3:zi (qX q) (zd s)=(d,0)):PlR ⟨q.ds.take q.at'++[d],q.kept.take q.at'++[s],q.at'+1,e⟩:=by
 have ha:=hv.at'
 have hk:=hv.kept
 have l1:(q.ds.take q.at').length=q.at':=by rw [List.length_take];omega
 have l2:(q.kept.take q.at').length=q.at':=by rw [List.length_take];omega
 intro i hi hi'
 simp only at hi hi' ⊢
 rw [qeX (by simp at hi;omega),qeW (by simp at hi;omega) ha]
 by_cases hc:i<q.at'
 · rw [List.getElem_append_left (by omega),List.getElem_append_left (by omega),List.getElem_take,List.getElem_take]
   exact h i (by omega) (by omega)
 · have e1 : i = q.at' := by simp at hi; omega
   subst e1
   rw [List.getElem_append_right (by omega),List.getElem_append_right (by omega)]
   simp only [l1,l2,Nat.sub_self,List.getElem_cons_zero]
   exact ⟨⟨h1,h2⟩,h3⟩
theorem PlR.step {n:Nat} {q:Pl} {s:List UInt8} (h:PlR q) (hv:PlV n q):PlR (Ql q s):=by
 unfold Ql
 by_cases c1:jc s=0
 case neg=>rw [if_pos c1];exact h
 rw [if_neg (by simpa using c1)]
 split
 · exact h
 · split
   · exact h
   · split
     · exact h
     · rename_i c3 c4
       split
       · rename_i c5
         have V:=(WB c1).kind
         exact h.push hv c1 (by omega) (Prod.ext rfl c5)
       · exact h
theorem qpp {l:List (List UInt8)} (hl:l.length≤400):∀ i,i≤l.length→PlR (jQ (l.take i)):=by
 intro i
 induction i with
 | zero=>intro _;exact .zero
 | succ i ih=>intro h;rw [Yy (by omega)];exact (ih (by omega)).step (qdg hl i (by omega))
section
variable {P:Program} {E:HE} {w1:World} {g1:G}
def qa5 (P:Program) (w1:World) (g1:G) (ac:AC) (st:St) (Q:Exit→St→Prop):Prop :=
 ∀ (N : Nat) (c : Go.Code) (a : Act) (w : World) (g : G) (R : Exit → Act → World → Prop) (ro : Option Nat) (n : Nat),
   qdN P N c ac→(ro=none∨ac.noRf=true)→Trans w1 g1 w g→Sim N st a w g→qjk N st a w g Q R→c.wpIn (W ro) n P R a w
theorem ZB (hY:YS P E w1 g1) (hR:RS P E) {ac:AC} {st:St} {Q:Exit→St→Prop} (h:AWP P E ac st Q):qa5 P w1 g1 ac st Q:=fun N c a w g R ro n hf hr ht hs hl=>Qr hY hR hf hr h ht hs hl
theorem ZX {x y:AC} {st:St} {Q:Exit→St→Prop} (h:qa5 P w1 g1 x st (Exit.th (fun st=>qa5 P w1 g1 y st Q) Q)):qa5 P w1 g1 (.seq x y) st Q:=fun N c a w g R ro n hf hr ht hs hl=>by
 cases c <;> first | exact hf.elim | skip
 rename_i c1 c2
 have hr1:ro=none∨x.noRf=true:=hr.imp (fun h=>h) (fun h=>by simp [AC.noRf] at h;exact h.1)
 have hr2:ro=none∨y.noRf=true:=hr.imp (fun h=>h) (fun h=>by simp [AC.noRf] at h;exact h.2)
 refine wpIn_seq (h _ _ _ _ _ _ _ _ hf.1 hr1 ht hs fun e st' a' w' g' hq hs' hu hd=>?_)
 cases e with
 | normal=>exact hq _ _ _ _ _ _ _ _ hf.2 hr2 (ht.trans hu.tr) hs' (fun e st2 a2 w2 g2 q2 s2 u2 d2=>hl e st2 a2 w2 g2 q2 s2 (hu.trans u2) (hd.trans hu.tr.size u2 d2))
 | _=>exact hl _ _ _ _ _ hq hs' hu hd
theorem jD {id:Nat} {x:AC} {st:St} {Q:Exit→St→Prop} (h:qa5 P w1 g1 x st (Exit.blk id Q)):qa5 P w1 g1 (.block id x) st Q:=fun N c a w g R ro n hf hr ht hs hl=>by
 cases c <;> first | exact hf.elim | skip
 obtain ⟨rfl,hf⟩:=hf
 refine wpIn_block (h _ _ _ _ _ _ _ _ hf hr ht hs fun e st' a' w' g' hq hs' hu hd=>?_)
 cases e with
 | exit id' =>
   simp only [Exit.blk] at hq
   simp only [Exit.inBlock]
   split
   · rename_i e;rw [if_pos e] at hq;exact hl _ _ _ _ _ hq hs' hu hd
   · rename_i e;rw [if_neg e] at hq;exact hl _ _ _ _ _ hq hs' hu hd
 | _=>exact hl _ _ _ _ _ hq hs' hu hd
theorem XJ {d:Opd} {x y:AC} {st:St} {Q:Exit→St→Prop} {t:Bool} (ht:evF (get st.fr) d = .v (.bool t)) (h1:t=true→qa5 P w1 g1 x st Q) (h2:t=false→qa5 P w1 g1 y st Q):qa5 P w1 g1 (.cond d x y) st Q:=fun N c a w g R ro n hf hr htr hs hl=>by
 cases c <;> first | exact hf.elim | skip
 rename_i d' c1 c2
 have hr1:ro=none∨x.noRf=true:=hr.imp (fun h=>h) (fun h=>by simp [AC.noRf] at h;exact h.1)
 have hr2:ro=none∨y.noRf=true:=hr.imp (fun h=>h) (fun h=>by simp [AC.noRf] at h;exact h.2)
 obtain ⟨hd,e1,e2⟩:=hf
 have:=qF hs.2.1 hd
 rw [ht] at this
 have hv:a.eval d' = .bool t:=QS this
 exact wpIn_cond_split hv (fun e=>h1 e _ _ _ _ _ _ _ _ e1 hr1 htr hs hl) (fun e=>h2 e _ _ _ _ _ _ _ _ e2 hr2 htr hs hl)
theorem XK {α:Type} {x:AC} {st:St} {Q:Exit→St→Prop} (I:α→St) (C:α→Prop) (μ:α→Nat) (a0:α) (h0:C a0) (hle:St.le st (I a0)) (hround:∀ b,C b→qa5 P w1 g1 x (I b) (Exit.th (Next I C μ b) Q)):qa5 P w1 g1 (.loop x) st Q:=fun N c a w g R ro n hf hr ht hs hl=>by
 cases c <;> first | exact hf.elim | skip
 rename_i c
 have hf:qdN P N c x:=hf
 obtain ⟨g2,hs1,hu1⟩:=hle N a w g hs
 let Inv:Nat→Act→World→Prop:=fun m a' w'=>∃ b g',C b∧μ b=m∧Sim N (I b) a' w' g'∧Upd (hpf st.hp) g w (hpf (I b).hp) g' w'∧DStep w a (hpf (I b).hp) g' w' a'
 have loop : ∀ (m : Nat) (a' : Act) (w' : World),Inv m a' w' → (Code.loop c).wpIn (W ro) n P R a' w' := fun m => by
  intro a' w' hI
  refine wpIn_loop_ghost Inv m hI ?_
  intro m a' w' ⟨b,g',hb,hm,hs',hu',hd'⟩
  refine hround b hb _ _ _ _ _ _ _ _ hf hr (ht.trans hu'.tr) hs' fun e st2 a2 w2 g2 q2 s2 u2 d2=>?_
  cases e with
  | normal =>
    obtain ⟨b',hb',hlt,hle'⟩:=q2
    obtain ⟨g3,hs3,hu3⟩:=hle' N a2 w2 g2 s2
    exact ⟨μ b',by omega,b',g3,hb',rfl,hs3,(hu'.trans u2).trans hu3,(hd'.trans hu'.tr.size u2 d2).keep hu3⟩
  | _=>exact hl _ _ _ _ _ q2 s2 (hu'.trans u2) (hd'.trans hu'.tr.size u2 d2)
 exact loop (μ a0) a w ⟨a0,g2,h0,rfl,hs1,hu1,.nil rfl⟩
theorem Qh (hY:YS P E w1 g1) (hR:RS P E) {x y:AC} {st:St} {Q:Exit→St→Prop} (h:AWP P E x st (Exit.th (fun st=>qa5 P w1 g1 y st Q) Q)):qa5 P w1 g1 (.seq x y) st Q:=ZX (ZB hY hR h)
theorem Yl {f : FuncId} {fn : Func} {ac : AC} {ts : List Nat} {xs : List AV} {hp : List HObj} {K : AV → List HObj → Prop} (hf : P.funcs[f]? = some fn) (hc : qo P fn ts = some ac) (hr : JO fn.results.toList = some ts)
 (hl:xs.length≤fn.ntmps) (h:qa5 P w1 g1 ac { fr:=YK 0 xs,hp:=hp } (qfB ts K)):Vr P w1 g1 f xs hp K:=by
 simp only [qo,Option.map_eq_some_iff] at hc
 obtain ⟨c,hb,rfl⟩:=hc
 have hfit:=Q4 (P:=P) (N:=fn.ntmps) (rt:=ts) (ex:=[]) (l:=ts) (QA c)
 have hr:=QB (P:=P) hr
 rw [←qaR] at h
 intro ro n w g vs hok htr hvs hrep
 have go : CallsIn (W none) n P f vs w fun e w' => ∃ v r hp' g', e = .returned v ∧ K r hp' ∧ Rep w' g' false r v ∧ HeapOK (hpf hp') g' w' ∧ Upd (hpf hp) g w (hpf hp') g' w' := by
  refine callsIn_of_wp_marks hf hb trivial (h _ _ _ _ g _ _ _ hfit (.inl rfl) htr ?_ ?_) rfl
  · refine ⟨by simp [hvs]; omega,fun t => ?_,hok⟩
    show Rep w g false (get (YK 0 xs) t) _
    rw [VB]
    simp only [Nat.zero_le,if_true,Nat.sub_zero]
    by_cases ht:t<xs.length
    · have e1 : xs.getD t .any = xs[t] := by simp [ht]
      rw [e1]
      have:=hrep t ht
      simp only [Array.getD_eq_getD_getElem?] at this ⊢
      rw [Array.getElem?_append_left (by omega)]
      exact this
    · have e1 : xs.getD t .any = .any := by simp [Nat.le_of_not_lt ht]
      rw [e1];exact .any _ _
  · intro e st' a' w' g' hq hs hu hd
    obtain ⟨ms,d1,d2,d3⟩:=hd
    simp only [List.append_nil] at d1
    have fin : (∃ xs,qhP (hpf st'.hp) st'.fr (ts.map (·,none)) xs ∧ K (qft xs) st'.hp) → LeavesInM (W none) n P fn a'.tmps (fun e w' => ∃ v r hp' g',e = .returned v ∧ K r hp' ∧ Rep w' g' false r v ∧ HeapOK (hpf hp') g' w' ∧ Upd (hpf hp) g w (hpf hp') g' w') a'.defers .returning w' := fun ⟨ys,hy,hK⟩ => by
     rw [d1]
     obtain ⟨k1,k2,k3⟩:=YF ms w' d2 d3 hs.2.2 hu
     refine Jb ms w' d2 (fun D hD=>(d3 D hD).2.1) ?_
     obtain ⟨v,j1,j2⟩:=Yi (P:=P) k1 (fun i=>(hs.2.1 i).mono k3) hr hy
     exact ⟨v,j1,v,_,_,g',rfl,hK,j2,k1,k2⟩
    cases e with
    | normal=>exact fin hq
    | ret=>exact fin hq
    | _=>exact hq.elim
 exact go
theorem qjs {f:FuncId} {xs:List AV} {hp:List HObj} {K:AV→List HObj→Prop} (h:∀ w1 g1,Vr P w1 g1 f xs hp K):zG P f xs hp K:=fun ro n w g vs a b c=>h w g ro n w g vs a (.refl _ _) b c
theorem V8 {f:FuncId} {xs:List AV} {hp:List HObj} {K K':AV→List HObj→Prop} (hk:∀ r H,K r H→K' r H) (h:Vr P w1 g1 f xs hp K):Vr P w1 g1 f xs hp K':=fun ro n w g vs a t b c =>
 (h ro n w g vs a t b c).mono fun e w' ⟨v,r,hp',g',e1,e2,e3⟩=>⟨v,r,hp',g',e1,hk _ _ e2,e3⟩
theorem jI {f:FuncId} {xs:List AV} {hp:List HObj} {K K':AV→List HObj→Prop} (hk:∀ r H,K r H→K' r H) (h:zG P f xs hp K):zG P f xs hp K':=fun ro n w g vs a b c =>
 (h ro n w g vs a b c).mono fun e w' ⟨v,r,hp',g',e1,e2,e3⟩=>⟨v,r,hp',g',e1,hk _ _ e2,e3⟩
def qa6 (P:Program) (E:HE) (w1:World) (g1:G) (o:AOp) (st:St) (K:St→Prop):Prop:=match o with
 | .call d f args=>Vr P w1 g1 f (args.map (evF (get st.fr))) st.hp fun r hp'=>K { fr:=(d,r)::st.fr,hp:=hp' }
 | o=>aop P E o st K
theorem XQ {N n : Nat} {ro : Option Nat} {o : Oper} {ao : AOp} (hc : jo P N o = some ao) {st : St} {K : St → Prop} (h : qa6 P E w1 g1 ao st K) {a : Act} {w : World} {g : G} (hY : YS P E w1 g1) (hg1 : Trans w1 g1 w g) (hs : Sim N st a w g)
 {next:Act→World→Prop} {Q:Exit→Act→World→Prop} (hn:qqG N st a w g K next):o.wpIn (W ro) n P a w next Q:=by
 cases ao with
 | call d f qs =>
   obtain ⟨args,ats,ho,hd,hlt,hf,hq⟩:=qep hc
   obtain ⟨l1,l2⟩:=Jc hq
   refine ⟨fun _ _=>trivial,?_⟩
   rw [Oper.semAt_eq _ _ _ (by rw [ho];simp)]
   have hrun:(execOp a.eval o).run P w = .ok (.enter f (args.map a.eval)) w:=by
    simp [execOp,ho,resolve,Act.eval,Deferred.ofValue,invoke,jh hf]
   rw [hrun]
   refine ⟨fun h=>by simp [Fence.wide] at h,?_⟩
   refine (h ro (n - 1) w g (args.map a.eval) hs.2.2 hg1 (by simp [l1]) (fun i hi=>?_)).mono ?_
   · simp at hi
     have:=qF hs.2.1 (l2 i (by omega) hi)
     simpa [show i<args.size by simp at l1;omega] using this
   · rintro e w' ⟨v,r,hp',g',rfl,hK,hr,hok,hu⟩
     refine hn _ _ w' g' hK ?_ hu (Qt _ _ _)
     have:=hs.step (d:=some d) (fun k e=>by cases e;exact hlt) hu hr hok
     rw [hd];exact this
 | _=>exact Vz hc h hY hg1 hs hn
theorem qlC (hY : YS P E w1 g1) {os : List AOp} {d : Nat} {f : FuncId} {args : List Opd} {ks : List Nat} {st : St} {Q : Exit → St → Prop}
 (h:Zf P E os st fun st1=>Vr P w1 g1 f (args.map (evF (get st1.fr))) st1.hp fun r hp'=>Q .normal (St.keep { fr:=(d,r)::st1.fr,hp:=hp' } ks)):qa5 P w1 g1 (.rgn [⟨none,os++[.call d f args]⟩] ks) st Q:=by
 intro N c a w g R ro n hf hr ht hs hl
 cases c <;> first | exact hf.elim | skip
 rename_i id ops dd
 obtain ⟨rfl,cl,hc,hg⟩:=hf
 have hcl : cl = (os ++ [AOp.call d f args]).map fun o => ((none : Option (Nat × Bool)),o) := by
  have fg : ∀ l : List (Option (Nat × Bool) × AOp), ((grp l).flatMap fun g => g.ops.map fun o => (g.guard, o)) = l := fun l => by
   induction l with
   | nil=>rfl
   | cons x l ih =>
     obtain ⟨g,o⟩:=x
     simp only [grp]
     split
     · rename_i g' os' gs hg'
       rw [hg'] at ih
       split
       · rename_i hcc
         obtain ⟨rfl,_⟩:=hcc
         simp only [List.flatMap_cons,List.map_cons,List.cons_append] at ih ⊢
         rw [ih]
       · simp only [List.flatMap_cons,List.map_cons,List.map_nil,List.cons_append,List.nil_append] at ih ⊢
         rw [ih]
     · rename_i hg'
       rw [hg'] at ih
       simp only [List.flatMap_cons,List.flatMap_nil,List.map_cons,List.map_nil,List.cons_append,List.nil_append] at ih ⊢
       rw [←ih]
  rw [←fg cl,←hg]
  simp
 refine wpIn_region ?_
 rw [List.range_eq_range']
 have key : ∀ (os : List AOp) (k : Nat) (l : List Oper) (st : St) (a : Act) (w : World) (g : G) (Q' : Exit → Act → World → Prop), (∀ j, l[j]? = ops[k + j]?) → QQ P N ops l = some ((os ++ [AOp.call d f args]).map fun o => ((none : Option (Nat × Bool)), o)) →
  (Zf P E os st fun st1=>Vr P w1 g1 f (args.map (evF (get st1.fr))) st1.hp fun r hp'=>Q .normal (St.keep { fr:=(d,r)::st1.fr,hp:=hp' } ks))→Trans w1 g1 w g→Sim N st a w g →
  qqG N st a w g (fun st'=>Q .normal (st'.keep ks)) (Q' .normal)→wpOpsIn (W ro) n P ops Q' (List.range' k l.length) a w:=by
  intro os
  induction os with
  | nil =>
    intro k l st a w g Q' hl' hc h ht hs hn
    cases l with
    | nil=>simp [QQ] at hc
    | cons o l =>
      simp only [QQ] at hc
      split at hc
      · rename_i ao gd cl' h1 h2 h3
        simp only [List.nil_append,List.map_cons,List.map_nil,Option.some.injEq,List.cons.injEq,Prod.mk.injEq] at hc
        obtain ⟨⟨rfl,rfl⟩,rfl⟩:=hc
        have hln:l=[]:=by
         cases l with
         | nil=>rfl
         | cons o2 l2=>simp only [QQ] at h3;split at h3 <;> cases h3
        subst hln
        have ho:ops[k]?=some o:=by have:=hl' 0;simpa using this.symm
        simp only [List.length_cons,List.length_nil,List.range'_succ,wpOpsIn,ho,List.range'_zero]
        rw [Zy h2]
        simp only [Zh,if_true]
        exact XQ (E:=E) (K:=fun st'=>Q .normal (st'.keep ks)) h1 h hY ht hs hn
      · cases hc
  | cons o1 os ih =>
    intro k l st a w g Q' hl' hc h ht hs hn
    cases l with
    | nil=>simp [QQ] at hc
    | cons o l =>
      simp only [QQ] at hc
      split at hc
      · rename_i ao gd cl' h1 h2 h3
        simp only [List.cons_append,List.map_cons,Option.some.injEq,List.cons.injEq,Prod.mk.injEq] at hc
        obtain ⟨⟨rfl,rfl⟩,rfl⟩:=hc
        have ho:ops[k]?=some o:=by have:=hl' 0;simpa using this.symm
        have hl2:∀ j,l[j]?=ops[k+1+j]?:=fun j=>by have:=hl' (j+1);simpa [Nat.add_assoc,Nat.add_comm 1 j] using this
        simp only [List.length_cons,List.range'_succ,wpOpsIn,ho]
        rw [Zy h2]
        simp only [Zh,if_true]
        refine Vz h1 h hY ht hs fun st' a' w' g' hK hs' hu hd=>?_
        exact ih (k+1) l st' a' w' g' Q' hl2 h3 hK (ht.trans hu.tr) hs' fun st2 a2 w2 g2 k2 s2 u2 e2=>hn st2 a2 w2 g2 k2 s2 (hu.trans u2) (e2.trans hd)
      · cases hc
 have:=key os 0 ops.toList st a w g R (by simp) (by rw [hc,hcl]) h ht hs (fun st' a' w' g' hK hs' hu hd=>hl _ _ a' w' g' hK (hs'.keep ks) hu (.nil hd))
 simpa using this
end
def Xh (X:Nat→Bool) (i:Nat):Nat→Bool:=fun j=>if j=i then true else X j
section
variable {P:Program} {n:Nat} {ro:Option Nat} {ops:Array Oper} {pre:List (List Nat)}
theorem qn5 {Q : Exit → Act → World → Prop}
 (ed:∀ k (hk:k<ops.size),∀ e∈ops[k].after,Region.binds .any e=true→e.on<k)
 (ed2:∀ k (hk:k<ops.size),∀ j∈pre.getD k [],∃ e∈ops[k].after,Region.binds .any e=true∧(e.on=j∨j∈pre.getD e.on []))
 {Inv:(Nat→Bool)→Act→World→Prop}
 (hI:∀ X i a w (next:Act→World→Prop),Clo pre ops X→i<ops.size→X i=false→(∀ j∈pre.getD i [],X j=true)→Inv X a w→(∀ a' w',Inv (Xh X i) a' w'→next a' w')→wpOpIn (W ro) n P ops Q i next a w)
 (hQ:∀ X a w,(∀ i,i<ops.size→X i=true)→Inv X a w→Q .normal a w) :
 ∀ (fuel:Nat) (listed:Array Bool) (a:Act) (w:World),listed.size=ops.size→Clo pre ops (lst listed)→unl (lst listed) ops.size≤fuel→Inv (lst listed) a w→wpAnyIn (W ro) n P .any ops Q fuel listed a w:=by
 intro fuel
 induction fuel with
 | zero =>
   intro listed a w hl hX hfu hi
   have h:=qdJ (X:=lst listed) (n:=ops.size) (by omega)
   exact ⟨qb9 h,hQ _ a w h hi⟩
 | succ fuel ih =>
   intro listed a w hl hX hfu hinv
   refine ⟨fun h=>hQ _ a w (qfe hl ed h) hinv,fun i hi=>?_⟩
   obtain ⟨hlt,hx,he⟩:=qca hi
   have hget : ∀ j,j < ops.size → (listed.getD j false = true) → lst listed j = true := fun j hj h => by
    have:j<listed.size:=by omega
    simpa [lst,this] using h
   have hr : ∀ j ∈ pre.getD i [],lst listed j = true := fun j hj => by
    obtain ⟨e,hm,hb,h⟩:=ed2 i hlt j hj
    have hon:=ed i hlt e hm hb
    have hL:=hget e.on (by omega) (he e hm hb)
    rcases h with h | h
    · rw [←h];exact hL
    · exact hX e.on (by omega) hL j h
   have hi':i<listed.size:=by omega
   have hy:lst (listed.setIfInBounds i true) i=true:=by simp [lst,hi']
   have hj : ∀ j,j ≠ i → lst (listed.setIfInBounds i true) j = lst listed j := fun j hne => by
    simp only [lst,Array.getD_eq_getD_getElem?]
    rw [Array.getElem?_setIfInBounds_ne (Ne.symm hne)]
   have hup:Xh (lst listed) i=lst (listed.setIfInBounds i true):=by
    funext j
    simp only [Xh]
    by_cases e:j=i
    · subst e;rw [if_pos rfl,hy]
    · rw [if_neg e,hj j e]
   refine hI (lst listed) i a w _ hX hlt hx hr hinv fun a' w' hv=>?_
   rw [hup] at hv
   refine ih _ a' w' (by simpa using hl) (fun k hk hk1 j hjm=>?_) ?_ hv
   · by_cases e : j = i
     · subst e;exact hy
     · rw [hj j e]
       by_cases e':k=i
       · subst e';exact hr j hjm
       · rw [hj k e'] at hk1;exact hX k hk hk1 j hjm
   · have := qgL hx hy hj ops.size hlt
     omega
end
end Go.AM
