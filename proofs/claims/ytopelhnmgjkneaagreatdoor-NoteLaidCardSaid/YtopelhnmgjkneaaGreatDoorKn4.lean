/-
  Kn4: texts joined: Px2 Px3 Nt19 RdN. Own work.
-/
import Derived.Test.YtopelhnmgjkneaaGreatDoorKn3
import Derived.WalkKit
import Derived.ProofKit
import Derived.OpenShut
import Derived.ChangeOld
import Derived.Below
import Derived.Deep.Slices
set_option linter.all false
set_option linter.unusedSimpArgs false
set_option linter.unusedVariables false
set_option linter.unusedSectionVars false

namespace Go.AM
open Go.RowKit
theorem QD {κ β : Type} : ∀ {l1 l2 : List (Wr κ β)} {X : Nat → Bool} {F : κ → β},qS (l1 ++ l2) X F = qS l2 (fun j => X (l1.length + j)) (qS l1 X F)
 | [],l2,X,F=>by simp [qS]
 | a::l1,l2,X,F=>by
   simp only [List.cons_append,qS,List.length_cons]
   rw [QD]
   congr 1
   funext j
   congr 1
   omega
abbrev COp:=Option (Nat × Bool) × AOp
def flat (gs:List Grp):List COp:=gs.flatMap fun g=>g.ops.map fun o=>(g.guard,o)
theorem qcD : ∀ l : List COp,flat (grp l) = l
 | []=>rfl
 | (g, o)::l=>by
   have ih:=qcD l
   simp only [grp]
   split
   · rename_i g' os gs hg
     rw [hg] at ih
     split
     · rename_i hc
       obtain ⟨rfl,_⟩:=hc
       simp only [flat,List.flatMap_cons,List.map_cons,List.cons_append] at ih ⊢
       rw [ih]
     · simp only [flat,List.flatMap_cons,List.map_cons,List.map_nil,List.cons_append,List.nil_append] at ih ⊢
       rw [ih]
   · rename_i hg
     rw [hg] at ih
     simp only [flat,List.flatMap_cons,List.flatMap_nil,List.map_cons,List.map_nil,List.cons_append,List.nil_append] at ih ⊢
     rw [←ih]
def qo0 (cl:List COp):Bool:=cl.all fun c=>match c.2 with
 | .lku .. => false
 | _=>true
theorem qki {cl:List COp} (h:qo0 cl=true) {i k:Nat}:Zt cl i k=false:=by
 cases e:Zt cl i k with
 | false=>rfl
 | true =>
   obtain ⟨gi,gk,d,ks,z,m,q,d',h1,_⟩:=Yn e
   have:=List.all_eq_true.1 h _ (List.mem_of_getElem? h1)
   simp at this
def qmU (cl:List COp) (un:List (Nat × Nat)) (p:Nat):Bool :=
 qo0 cl&&(List.range p).all (fun i => !un.contains (i,p))&&(match cl[p]? with | some c=>c.2.touch | none=>false) &&
 (List.range cl.length).all fun k => decide (k ≤ p) || (List.range k).any fun j => decide (p ≤ j) && (match cl[j]?,cl[k]? with
  | some cj,some ck => !VA cj ck || (cj.2.touch&&ck.2.touch && !un.contains (j,k))
  | _,_=>false)
structure Piv (cl:List COp) (un:List (Nat × Nat)) (p:Nat):Prop where
 no:qo0 cl=true
 before:∀ i,i<p→(i,p)∉un
 lt:p<cl.length
 touch:∀ (h:p<cl.length),cl[p].2.touch=true
 after:∀ k (hk:k<cl.length),p<k→∃ j,∃ hj:j<cl.length,p≤j∧j<k∧(VA cl[j] cl[k]=false∨(cl[j].2.touch=true∧cl[k].2.touch=true∧(j,k)∉un))
theorem qsg {cl:List COp} {un:List (Nat × Nat)} {p:Nat} (h:qmU cl un p=true):Piv cl un p:=by
 simp only [qmU,Bool.and_eq_true] at h
 obtain ⟨⟨⟨h1,h2⟩,h3⟩,h4⟩:=h
 have hp:∃ c,cl[p]?=some c∧c.2.touch=true:=by
  cases e:cl[p]? with
  | none=>rw [e] at h3;cases h3
  | some c=>rw [e] at h3;exact ⟨c,rfl,h3⟩
 obtain ⟨c,hc,ht⟩:=hp
 obtain ⟨hlt,hcc⟩:=List.getElem?_eq_some_iff.1 hc
 refine ⟨h1,fun i hi=>?_,hlt,fun h=>by rw [hcc];exact ht,fun k hk hpk=>?_⟩
 · have := List.all_eq_true.1 h2 i (List.mem_range.2 hi)
   simpa using this
 · have := List.all_eq_true.1 h4 k (List.mem_range.2 hk)
   rw [Bool.or_eq_true] at this
   rcases this with h | h
   · have:=of_decide_eq_true h;omega
   · obtain ⟨j,hj,h⟩ := List.any_eq_true.1 h
     have hjk:=List.mem_range.1 hj
     rw [Bool.and_eq_true] at h
     obtain ⟨h5,h6⟩:=h
     refine ⟨j,by omega,of_decide_eq_true h5,hjk,?_⟩
     rw [List.getElem?_eq_getElem (by omega:j<cl.length),List.getElem?_eq_getElem hk] at h6
     simp only [Bool.or_eq_true,Bool.and_eq_true,Bool.not_eq_true'] at h6
     rcases h6 with h6 | ⟨⟨h6,h7⟩,h8⟩
     · exact .inl h6
     · exact .inr ⟨h6,h7,by simpa using h8⟩
section
variable {P:Program} {N:Nat} {ro:Option Nat} {n:Nat} {ops:Array Oper} {pre:List (List Nat)} {un:List (Nat × Nat)}
theorem qcm {ci ck:COp} {Ri Rk:Rec} (h:VA ci ck=true) (di:Ri.dst=ci.2.dst) (dk:Rk.dst=ck.2.dst) (h1:∀ x∈Ri.ws.map (·.1),x∉Rk.foot) (h2:∀ x∈Ri.ws.map (·.1),x∉Rk.ws.map (·.1)) (h3:∀ x∈Rk.ws.map (·.1),x∉Ri.foot):Apart false ci ck Ri Rk:=by
 simp only [VA,Bool.and_eq_true] at h
 obtain ⟨⟨a1,a2⟩,a3⟩:=h
 refine ⟨fun d hd=>?_,fun d hd=>?_,fun d hd hd'=>?_,h1,h2,.inr h3⟩
 · rw [←di,hd] at a1;simpa [Jk] using a1
 · rw [←dk,hd] at a2;simpa [Jk] using a2
 · rw [←di,←dk,hd,hd'] at a3;simp at a3
structure Fx (P:Program) (pre:List (List Nat)) (cl:List COp) (act:Nat→Prop) (st:St) (Rs:List Rec):Prop where
 len:Rs.length=cl.length
 dst:∀ i (h:i<cl.length) (h':i<Rs.length),Rs[i].dst=cl[i].2.dst
 rcd:∀ i (h:i<cl.length) (h':i<Rs.length),act i→∃ new,qfA P cl[i].1 cl[i].2 Rs[i] (qS (Rs.map Rec.F) (fun k=>decide (k<i)) (get st.fr)) (qS (Rs.map Rec.H) (fun k=>decide (k<i)) (hpf st.hp)) new∧qS (Rs.map Rec.H) (fun k=>decide (k<i)) (hpf st.hp) new=none
 big:∃ L,st.hp.length≤L∧∀ R∈Rs,∀ q∈R.ws,q.1<L
 ap:∀ i k (hik:i<k) (hk:k<cl.length) (h1:i<Rs.length) (h2:k<Rs.length),i∉pre.getD k []→Apart false (cl[i]'(by omega)) cl[k] Rs[i] Rs[k]
variable {cl:List COp} {act:Nat→Prop} {st:St} {Rs:List Rec}
theorem Fx.serves (f : Fx P pre cl act st Rs) (hl : cl.length ≤ ops.size) {X : Nat → Bool} (hX : Clo pre ops X) {i : Nat} (hi : i < cl.length) (hi' : i < Rs.length) (ha : act i) (hx : X i = false) (hr : ∀ j ∈ pre.getD i [], X j = true) :
 ∃ new,hpX Rs X st new=none∧qfA P cl[i].1 cl[i].2 Rs[i] (frX Rs X st) (hpX Rs X st) new:=by
 have l2:=f.len
 obtain ⟨new,ok,hnew⟩:=f.rcd i hi hi' ha
 have ap : ∀ k (hk : k < Rs.length) (hk' : k < cl.length),X k ≠ decide (k < i) → Apart false cl[k] cl[i] Rs[k] Rs[i] ∨ Apart false cl[i] cl[k] Rs[i] Rs[k] := fun k hk hk' hne => by
  rcases Nat.lt_trichotomy k i with h | h | h
  · refine .inl (f.ap k i h hi hk hi' (fun hp => hne ?_))
    rw [hr k hp];simp [h]
  · subst h;rw [hx] at hne;simp at hne
  · refine .inr (f.ap i k h hk' hi' hk (fun hp => hne ?_))
    have:X k=true:=by
     cases e:X k with
     | true=>rfl
     | false=>rw [e] at hne;exact absurd (by symm;simp;omega) hne
    have:=hX k (by omega) this i hp
    rw [hx] at this;cases this
 have sameF : ∀ d ∈ QR cl[i],frX Rs X st d = qS (Rs.map Rec.F) (fun k => decide (k < i)) (get st.fr) d := fun d hd => by
  refine qD rfl fun k hk hon=>?_
  simp only [List.length_map] at hk
  simp only [List.getElem_map] at hon
  by_cases e:X k=decide (k<i)
  · exact e
  · rcases ap k hk (by omega) e with a | a
    · exact absurd hd (a.look d (Yf hon))
    · exact absurd hd (a.look' d (Yf hon))
 have sameH : ∀ x, (x ∈ Rs[i].ws.map (·.1) ∨ x ∈ Rs[i].foot) → hpX Rs X st x = qS (Rs.map Rec.H) (fun k => decide (k < i)) (hpf st.hp) x := fun x hxx => by
  refine qD rfl fun k hk hon=>?_
  simp only [List.length_map] at hk
  simp only [List.getElem_map] at hon
  by_cases e:X k=decide (k<i)
  · exact e
  · have hon := ZQ hon
    rcases ap k hk (by omega) e with a | a
    · rcases hxx with h | h
      · exact absurd h (a.ww x hon)
      · exact absurd h (a.wr x hon)
    · rcases hxx with h | h
      · exact absurd hon (a.ww x h)
      · rcases a.rw with a | a
        · cases a
        · exact absurd h (a x hon)
 obtain ⟨L,b1,b2⟩:=f.big
 have hfresh:hpX Rs X st L=none:=by
  have : hpX Rs X st L = qS (Rs.map Rec.H) (fun _ => false) (hpf st.hp) L := qD rfl fun k hk hon => by
   simp only [List.length_map] at hk
   simp only [List.getElem_map] at hon
   have:=ZQ hon
   obtain ⟨p,hp,e⟩:=List.mem_map.1 this
   have:=b2 Rs[k] (List.getElem_mem _) p hp
   omega
  rw [this,zF (fun _=>rfl)]
  simp [hpf,b1]
 have hg:=Wx (gd:=cl[i].1) (F:=qS (Rs.map Rec.F) (fun k=>decide (k<i)) (get st.fr)) (F':=frX Rs X st) (fun j b e=>sameF j (by simp [QR,e]))
 refine ⟨if new∈Rs[i].ws.map (·.1) then new else L,?_,ok.1,?_⟩
 · split
   · rename_i h;rw [sameH new (.inl h)];exact hnew
   · exact hfresh
 · rcases ok.2 with ⟨h1, h2, h3⟩ | ⟨h1, h2, h3, h4⟩
   · refine .inl ⟨hg.1 h1, ?_, ?_⟩
     · refine qaU h2 (fun x hx => VE fun d hd => sameF d ?_) (fun id hid => sameH id (.inr (by rw [h3]; exact hid))) (fun h => by rw [if_pos h])
       simp only [QR,List.mem_append,List.mem_flatMap]
       exact .inl ⟨x,hx,hd⟩
     · rw [h3]
       simp only [AOp.foot]
       cases cl[i].2.heapy with
       | false=>rfl
       | true =>
         simp only [cond_true]
         have : ∀ (l : List Opd),(∀ x ∈ l,x ∈ cl[i].2.opds) → l.flatMap (fun x => (evF (qS (Rs.map Rec.F) (fun k => decide (k < i)) (get st.fr)) x).ids) = l.flatMap fun x => (evF (frX Rs X st) x).ids := fun l hl => by
          induction l with
          | nil=>rfl
          | cons x l ih =>
            simp only [List.flatMap_cons]
            rw [ih (fun y hy => hl y (by simp [hy])),VE (F' := frX Rs X st) (F := qS (Rs.map Rec.F) (fun k => decide (k < i)) (get st.fr)) (x := x) fun d hd => sameF d (by
             simp only [QR,List.mem_append,List.mem_flatMap]
             exact .inl ⟨x,hl x (by simp),hd⟩)]
         exact this _ (fun x hx=>hx)
   · exact .inr ⟨hg.2 h1,h2,h3,h4⟩
theorem Fx.next (f : Fx P pre cl act st Rs) (hl : cl.length ≤ ops.size) {X : Nat → Bool} (hX : Clo pre ops X) {i : Nat} (hi : i < cl.length) (hi' : i < Rs.length) (hx : X i = false) :
 frX Rs (Xh X i) st=Rs[i].F.app (frX Rs X st)∧hpX Rs (Xh X i) st=Hp.write (hpX Rs X st) Rs[i].ws:=by
 have l2:=f.len
 have hy:Xh X i i=true:=by simp [Xh]
 have hj:∀ j,j≠i→Xh X i j=X j:=fun j h=>by simp [Xh,h]
 have ap : ∀ k (hk : k < Rs.length) (hk' : k < cl.length),i < k → X k = true → Apart false cl[i] cl[k] Rs[i] Rs[k] := fun k hk hk' hlt hxk => f.ap i k hlt hk' hi' hk (fun hp => by
  have:=hX k (by omega) hxk i hp
  rw [hx] at this;cases this)
 constructor
 · have := Zu (l := Rs.map Rec.F) (F := get st.fr) (by simpa using hi') hx hy hj (fun k hk hlt hxk key hon => by
    simp only [List.length_map] at hk
    simp only [List.getElem_map] at hon ⊢
    have a:=ap k hk (by omega) hlt hxk
    have:=a.dst key (Yf hon)
    simpa [Rec.F] using this)
   simpa [frX] using this
 · have := Zu (l := Rs.map Rec.H) (F := hpf st.hp) (by simpa using hi') hx hy hj (fun k hk hlt hxk key hon => by
    simp only [List.length_map] at hk
    simp only [List.getElem_map] at hon ⊢
    have a:=ap k hk (by omega) hlt hxk
    have:=a.ww key (ZQ hon)
    simpa [Rec.H] using this)
   rw [List.getElem_map,JN] at this
   exact this
theorem Fx.step (f : Fx P pre cl act st Rs) (hl : cl.length ≤ ops.size) {X : Nat → Bool} (hX : Clo pre ops X) {i : Nat} (hi : i < ops.size) (hic : i < cl.length) (ha : act i) (hx : X i = false) (hr : ∀ j ∈ pre.getD i [],X j = true)
 (c1:jo P N ops[i]=some cl[i].2) (c2:Ww ops ops[i].guard=some cl[i].1)
 {a:Act} {w:World} {g:G} (hN:a.tmps.size=N) (hF:FrOK w g (frX Rs X st) a) (hok:HeapOK (hpX Rs X st) g w) {K:Act→World→Prop} {Q:Exit→Act→World→Prop}
 (hK:∀ a' w' g',a'.tmps.size=N→a'.defers=a.defers→FrOK w' g' (frX Rs (Xh X i) st) a'→HeapOK (hpX Rs (Xh X i) st) g' w'→Upd (hpX Rs X st) g w (hpX Rs (Xh X i) st) g' w'→K a' w') :
 wpOpIn (W ro) n P ops Q i K a w:=by
 have hi':i<Rs.length:=by rw [f.len];exact hic
 obtain ⟨new,hnew,hrec⟩:=f.serves hl hX hic hi' ha hx hr
 obtain ⟨e1,e2⟩:=f.next hl hX hic hi' hx
 obtain ⟨d1,d2⟩:=qcw c1
 unfold wpOpIn
 simp only [Array.getElem?_eq_getElem hi]
 rw [Zy c2]
 have hdst:Rs[i].dst=ops[i].dst:=hrec.1.trans d1
 rcases hrec.2 with ⟨h1,h2,h3⟩ | ⟨h1,h2,h3,h4⟩
 · rw [(Z8 hF).1 h1]
   simp only [if_true]
   obtain ⟨p1,p2,p3⟩:=qkR (ro:=ro) (n:=n) c1 hF hok hnew h2
   refine p1 K Q fun v w' hp=>?_
   obtain ⟨g',q1,q2,q3⟩:=hp
   rw [←e2] at q2 q3
   rw [←hdst]
   refine hK _ w' g' (by rw [VS];exact hN) (Qt _ _ _) ?_ q2 q3
   rw [e1]
   exact FrOK.app (hF.mono q3.tr) (fun k e=>by rw [hN];exact d2 k (by rw [←hdst];exact e)) q1
 · rw [(Z8 hF).2 h1]
   simp only [Bool.false_eq_true,if_false]
   refine ⟨fun _ _=>trivial,?_⟩
   rw [←hdst]
   have e3:hpX Rs (Xh X i) st=hpX Rs X st:=by rw [e2,h3];rfl
   refine hK _ w g (by rw [VS];exact hN) (Qt _ _ _) ?_ (by rw [e3];exact hok) (by rw [e3];exact .refl _ _ _)
   rw [e1]
   exact FrOK.app hF (fun k e=>by rw [hN];exact d2 k (by rw [←hdst];exact e)) (by rw [h2];exact .v _ _)
theorem qcU : ∀ (Rs : List Rec) (X : Nat → Bool) (fr : List (Nat × AV)),∃ fr',get fr' = qS (Rs.map Rec.F) X (get fr)
 | [],X,fr=>⟨fr,rfl⟩
 | R::Rs,X,fr=>by
   simp only [List.map_cons,qS]
   split
   · rw [YB];exact qcU Rs _ _
   · exact qcU Rs _ _
end
section
variable {P:Program} {E:HE} {w1:World} {g1:G}
theorem qlJ {oc : AOp} {st : St} {fr' : List (Nat × AV)} {K : St → Prop} (hoc : (∃ d f as,oc = .call d f as) ∨ ∃ d x as,oc = .callv d x as) (hf : ∀ x ∈ oc.opds,evF (get fr') x = evF (get st.fr) x) (h : qa6 P E w1 g1 oc st K) :
 qa6 P E w1 g1 oc ⟨fr',st.hp⟩ fun st3=>∃ d r hp',oc.dst=some d∧st3=⟨(d,r)::fr',hp'⟩∧K ⟨(d,r)::st.fr,hp'⟩:=by
 have cw:∀ {d:Nat} {f:FuncId} {xs:List AV},oc.dst=some d→zG P f xs st.hp (fun r hp'=>K ⟨(d,r)::st.fr,hp'⟩)→zG P f xs st.hp fun r hp'=>∃ d' r' hp'',oc.dst=some d'∧(⟨(d,r)::fr',hp'⟩:St)=⟨(d',r')::fr',hp''⟩∧K ⟨(d',r')::st.fr,hp''⟩:=fun {d f xs} hd h =>
  jI (fun r hp' hk=>⟨d,r,hp',hd,rfl,hk⟩) h
 rcases hoc with ⟨d,f,as,rfl⟩ | ⟨d,x,as,rfl⟩
 · have e : as.map (evF (get fr')) = as.map (evF (get st.fr)) := List.map_congr_left fun x hx => hf x hx
   simp only [qa6] at h ⊢
   rw [e]
   exact V8 (fun r hp' hk=>⟨d,r,hp',rfl,rfl,hk⟩) h
 · have e : as.map (evF (get fr')) = as.map (evF (get st.fr)) := List.map_congr_left fun y hy => hf y (List.mem_cons_of_mem _ hy)
   have ex:evF (get fr') x=evF (get st.fr) x:=hf x (by simp [AOp.opds])
   simp only [qa6,aop] at h ⊢
   rw [e,ex]
   generalize evF (get st.fr) x=u at h ⊢
   cases u with
   | fn f first caps =>
     cases f with
     | func f=>exact ⟨h.1,cw rfl h.2⟩
     | _=>exact h.elim
   | yl id =>
     obtain ⟨K0,k1,k2⟩:=h
     exact ⟨K0,k1,fun r hp' hk=>⟨d,r,hp',rfl,rfl,k2 r hp' hk⟩⟩
   | _=>exact h.elim
def Qa (R:Rec):Rec:=⟨R.dst,R.r,[],[]⟩
theorem Xw (Rs:List Rec):(Rs.map Qa).map Rec.F=Rs.map Rec.F:=by
 rw [List.map_map];rfl
theorem qaX {o:AOp} (h:o.touch=false):o.heapy=false:=by simp [AOp.touch] at h;exact h.1
set_option maxHeartbeats 1000000 in
theorem qh7 (hY : YS P E w1 g1) {gs gsA gsB : List Grp} {un unA : List (Nat × Nat)} {ks : List Nat} {st : St} {Q : Exit → St → Prop} (A B : List COp) (gd : Option (Nat × Bool)) (oc : AOp)
 (hfl:flat gs=A++(gd,oc)::B) (hpv:qmU (flat gs) un A.length=true) (hA:grp A=gsA) (hB:grp B=gsB) (hun:∀ q∈un,q.2<A.length→q∈unA) (hoc:(∃ d f as,oc = .call d f as)∨∃ d x as,oc = .callv d x as)
 (h:Zg P gsA st [] fun stA tr=>jq tr unA=true∧qjU gd (get stA.fr)∧qa6 P E w1 g1 oc stA fun st2=>Zg P gsB st2 (List.replicate (A.length+1) ([],[])) fun st' tr=>jq tr un=true∧Q .normal (st'.keep ks)) :
 qa5 P w1 g1 (.drw gs un ks) st Q:=by
 subst hA hB
 intro N c a w g R ro n hf hr ht hs hl
 cases c <;> first | exact hf.elim | skip
 rename_i id ops dd
 obtain ⟨rfl,hm,cl,pre,hc,hd,hg⟩:=hf
 have hcl:cl=A++(gd,oc)::B:=by rw [←qcD cl,←hg];exact hfl
 have pv:=qsg hpv
 rw [hg,qcD] at pv
 clear hfl hpv
 obtain ⟨Rs1,stA,run1,hcm1,hgs,hcall⟩:=Z7 (Zr h)
 simp only [List.nil_append] at hcm1
 obtain ⟨p,hpdef⟩:∃ p,p=A.length:=⟨_,rfl⟩
 rw [←hpdef] at pv hun hcall
 have lsz:cl.length=ops.size:=by simpa using (ZN hc).1
 have lR1:Rs1.length=p:=by rw [qaT run1,hpdef]
 have lcl:cl.length=p+1+B.length:=by rw [hcl,hpdef];simp;omega
 have plt:=pv.lt
 have gA:∀ i (hi:i<p) (h1:i<cl.length) (h2:i<A.length),cl[i]=A[i]:=fun i hi h1 h2=>by subst hcl;rw [List.getElem_append_left h2]
 have gP:∀ (h1:p<cl.length),cl[p]=(gd,oc):=fun h1=>by subst hcl;subst hpdef;simp
 have gB : ∀ j (h1 : p + 1 + j < cl.length) (h2 : j < B.length),cl[p + 1 + j] = B[j] := fun j h1 h2 => by
  subst hcl;subst hpdef
  rw [List.getElem_append_right (by omega)]
  simp [show A.length+1+j - A.length=j+1 by omega]
 obtain ⟨dP,hdP⟩:∃ d,oc.dst=some d:=by
  rcases hoc with ⟨d,f,as,rfl⟩ | ⟨d,x,as,rfl⟩ <;> exact ⟨d,rfl⟩
 have noex:∀ i k,Zt cl i k=false:=fun i k=>qki pv.no
 have ord : ∀ i k (hik : i < k) (hk : k < cl.length),i ∉ pre.getD k [] → VA (cl[i]'(by omega)) cl[k] = true ∧ ((cl[i]'(by omega)).2.touch = true → cl[k].2.touch = true → (i,k) ∈ un) := fun i k hik hk hp => by
  rcases qbP hd hik (by omega) hk with h | ⟨h1,h2⟩
  · exact absurd h hp
  · refine ⟨h1,?_⟩
    rcases h2 with h2 | h2
    · rw [noex] at h2;cases h2
    · exact h2
 have edp:=fun k (hk:k<ops.size)=>Wj hd hk (by omega)
 have before : ∀ i (hi : i < p),(cl[i]'(by omega)).2.touch = true → i ∈ pre.getD p [] := fun i hi ht => by
  refine Classical.byContradiction fun hn=>?_
  exact pv.before i hi ((ord i p hi plt hn).2 ht (pv.touch plt))
 have after : ∀ (X : Nat → Bool), Clo pre ops X → ∀ k, p ≤ k → k < cl.length → X k = true → X p = true := fun X hX k => by
  induction k using Nat.strongRecOn with
  | _ k ih =>
    intro hpk hk hx
    rcases Nat.eq_or_lt_of_le hpk with e | e
    · rw [e];exact hx
    · obtain ⟨j,hj,j1,j2,j3⟩ := pv.after k hk e
      refine ih j j2 j1 hj (hX k (by omega) hx j ?_)
      refine Classical.byContradiction fun hn=>?_
      obtain ⟨o1,o2⟩:=ord j k j2 hk hn
      rcases j3 with j3 | ⟨j3,j4,j5⟩
      · rw [o1] at j3;cases j3
      · exact j5 (o2 j3 j4)
 have after' : ∀ (X : Nat → Bool),Clo pre ops X → ∀ k,p < k → k < cl.length → (∀ j ∈ pre.getD k [],X j = true) → X p = true := fun X hX k hpk hk hr => by
  obtain ⟨j,hj,j1,j2,j3⟩:=pv.after k hk hpk
  refine after X hX j j1 hj (hr j ?_)
  refine Classical.byContradiction fun hn=>?_
  obtain ⟨o1,o2⟩:=ord j k j2 hk hn
  rcases j3 with j3 | ⟨j3,j4,j5⟩
  · rw [o1] at j3;cases j3
  · exact j5 (o2 j3 j4)
 have fx1 : Fx P pre A (fun _ => True) st Rs1 := by
  refine ⟨by omega,fun i h h'=>(jg run1 i h h').choose_spec.1.1,fun i h h' _=>jg run1 i h h',⟨stA.hp.length,(jS run1).1,(jS run1).2⟩,fun i k hik hk h1 h2 hp=>?_⟩
  have ek:=gA k (by omega) (by omega) hk
  have ei:=gA i (by omega) (by omega) (by omega)
  obtain ⟨o1,o2⟩:=ord i k hik (by omega) hp
  rw [ek,ei] at o1 o2
  obtain ⟨ni,oi,_⟩:=jg run1 i (by omega) h1
  obtain ⟨nk,ok,_⟩:=jg run1 k hk h2
  have main:(∀ x∈Rs1[i].ws.map (·.1), x∉Rs1[k].foot)∧(∀ x∈Rs1[i].ws.map (·.1), x∉Rs1[k].ws.map (·.1))∧(∀ x∈Rs1[k].ws.map (·.1), x∉Rs1[i].foot):=by
   cases t1:A[i].2.touch with
   | false=>obtain ⟨e1,e2⟩:=je t1 oi;simp [e1,e2]
   | true =>
     cases t2:A[k].2.touch with
     | false=>obtain ⟨e1,e2⟩:=je t2 ok;simp [e1,e2]
     | true =>
       obtain ⟨x,y,b1,b2,b3,b4,b5⟩:=Ym hcm1 (hun _ (o2 t1 t2) (by simp only;omega))
       have e1:(Rs1.map qdI)[i]?=some (qdI Rs1[i]):=by rw [List.getElem?_map,List.getElem?_eq_getElem (by omega)];rfl
       have e2:(Rs1.map qdI)[k]?=some (qdI Rs1[k]):=by rw [List.getElem?_map,List.getElem?_eq_getElem (by omega)];rfl
       rw [e1] at b1;rw [e2] at b2
       cases b1;cases b2
       exact ⟨fun x hx=>jy b3 hx,fun x hx=>jy b4 hx,fun x hx=>jy b5 hx⟩
  exact qcm o1 oi.1 ok.1 main.1 main.2.1 main.2.2
 obtain ⟨endF1,endH1⟩:=qds run1
 let Ph1:(Nat→Bool)→Act→World→Prop:=fun X a' w'=>X p=false∧∃ g',a'.tmps.size=N∧a'.defers=a.defers∧FrOK w' g' (frX Rs1 X st) a'∧HeapOK (hpX Rs1 X st) g' w'∧Upd (hpf st.hp) g w (hpX Rs1 X st) g' w'
 let Ph2 : (Nat → Bool) → Act → World → Prop := fun X a' w' => X p = true ∧ (∀ i (h : i < p),(cl[i]'(by omega)).2.touch = true → X i = true) ∧ ∃ r hp2 RsB st' g',DRun P B ⟨(dP,r) :: stA.fr,hp2⟩ RsB st' ∧ jq (List.replicate (p + 1) ([],[]) ++ RsB.map qdI) un = true ∧ Q .normal (st'.keep ks) ∧
  a'.tmps.size=N∧a'.defers=a.defers∧FrOK w' g' (frX (Rs1.map Qa++⟨some dP,r,[],[]⟩::RsB) X ⟨st.fr,hp2⟩) a'∧HeapOK (hpX (Rs1.map Qa++⟨some dP,r,[],[]⟩::RsB) X ⟨st.fr,hp2⟩) g' w'∧Upd (hpf st.hp) g w (hpX (Rs1.map Qa++⟨some dP,r,[],[]⟩::RsB) X ⟨st.fr,hp2⟩) g' w'
 obtain ⟨hokd,hud⟩:=hs.2.2.drew
 have e1:frX Rs1 (lst (Array.replicate ops.size false)) st=get st.fr:=by
  have : frX Rs1 (lst (Array.replicate ops.size false)) st = qS (Rs1.map Rec.F) (fun _ => false) (get st.fr) := by
   funext t;exact qD rfl fun k hk _=>jP _ k (by simp at hk;omega)
  rw [this,zF (fun _=>rfl)]
 have e2:hpX Rs1 (lst (Array.replicate ops.size false)) st=hpf st.hp:=by
  have : hpX Rs1 (lst (Array.replicate ops.size false)) st = qS (Rs1.map Rec.H) (fun _ => false) (hpf st.hp) := by
   funext t;exact qD rfl fun k hk _=>jP _ k (by simp at hk;omega)
  rw [this,zF (fun _=>rfl)]
 have cmp:=fun i (hi:i<ops.size)=>(ZN hc).2 i (by simpa using hi) (by omega)
 simp only [Array.getElem_toList] at cmp
 refine wpIn_region_any hm (qn5 (pre:=pre) (fun k hk=>(edp k hk).1) (fun k hk=>(edp k hk).2) (Inv:=fun X a' w'=>Ph1 X a' w'∨Ph2 X a' w') ?_ ?_ ops.size _ a w.drew (by simp) (fun k hk hk1=>?_) ?_ ?_)
 · -- one operation
   intro X i a1 w2 next hX hi hx hr hinv hnext
   have hic:i<cl.length:=by omega
   rcases hinv with ⟨hxp,g2,k1,k2,k3,k4,k5⟩ | ⟨hxp,hth,r,hp2,RsB,st',g2,hrunB,hcmB,hQB,k1,k2,k3,k4,k5⟩
   · rcases Nat.lt_trichotomy i p with hip | hip | hip
     · -- in the first part
       obtain ⟨c1,c2⟩:=cmp i hi
       have ei:=gA i hip hic (by omega)
       rw [ei] at c1 c2
       refine fx1.step (by omega) hX hi (by omega) trivial hx hr c1 c2 k1 k3 k4 fun a' w' g' q1 q2 q3 q4 q5=>hnext _ _ (.inl ⟨?_,g',q1,q2.trans k2,q3,q4,k5.trans q5⟩)
       simp only [Xh];rw [if_neg (by omega)];exact hxp
     · -- the call
       subst hip
       have hAllH:hpX Rs1 X st=hpf stA.hp:=by
        rw [endH1];funext x
        refine qD rfl fun k hk hon=>?_
        simp only [List.length_map] at hk
        simp only [List.getElem_map] at hon
        cases hxk:X k with
        | true=>rfl
        | false =>
          exfalso
          obtain ⟨nk,ok,_⟩:=jg run1 k (by omega) hk
          have tk:A[k].2.touch=false:=by
           cases t:A[k].2.touch with
           | false=>rfl
           | true =>
             have:=hr k (before k (by omega) (by rw [gA k (by omega) (by omega) (by omega)];exact t))
             rw [hxk] at this;cases this
          have hon:=ZQ hon
          rw [(je tk ok).1] at hon
          simp at hon
       have look : ∀ d ∈ QR (gd,oc),frX Rs1 X st d = get stA.fr d := fun d hd' => by
        rw [endF1]
        refine qD rfl fun k hk hon=>?_
        simp only [List.length_map] at hk
        simp only [List.getElem_map] at hon
        cases hxk:X k with
        | true=>rfl
        | false =>
          exfalso
          have hn:k∉pre.getD i []:=fun hp=>by have:=hr k hp;rw [hxk] at this;cases this
          obtain ⟨o1,_⟩:=ord k i (by omega) hic hn
          rw [gP hic] at o1
          simp only [VA,Bool.and_eq_true] at o1
          have hdk:=fx1.dst k (by omega) hk
          rw [Yf hon] at hdk
          have:=o1.1.1
          rw [gA k (by omega) (by omega) (by omega),←hdk] at this
          simp [Jk] at this
          exact this hd'
       obtain ⟨fr',hfr'⟩:=qcU Rs1 X st.fr
       have hfr2:get fr'=frX Rs1 X st:=hfr'
       obtain ⟨c1,c2⟩:=cmp i hi
       rw [gP hic] at c1 c2
       have hcx:=qlJ (fr':=fr') hoc (fun x hx=>VE fun d hd=>by rw [hfr2];exact look d (by simp only [QR,List.mem_append,List.mem_flatMap];exact .inl ⟨x,hx,hd⟩)) hcall
       unfold wpOpIn
       simp only [Array.getElem?_eq_getElem hi]
       rw [Zy c2]
       have hgv:Zh a1 gd=true:=(Z8 k3).1 ((Wx (gd:=gd) (F:=get stA.fr) (F':=frX Rs1 X st) (fun j b e=>look j (by simp [QR,e]))).1 hgs)
       rw [hgv]
       simp only [if_true]
       rw [hAllH] at k4 k5
       refine XQ (E:=E) c1 hcx hY (ht.trans k5.tr) (a:=a1) (g:=g2) ⟨k1,by show FrOK _ _ (get fr') _;rw [hfr2];exact k3,k4⟩ ?_
       rintro st3 a3 w3 g3 ⟨d,r,hp2,hdd,rfl,hK⟩ hs3 hu3 hd3
       have hdd':d=dP:=by rw [hdP] at hdd;exact (Option.some.inj hdd).symm
       subst hdd'
       obtain ⟨RsB,st',hrunB,hcmB,hQB⟩:=Z7 (Zr hK)
       have lB:RsB.length=B.length:=qaT hrunB
       have xB : ∀ j,j < B.length → X (i + 1 + j) = false := fun j hj => by
        cases e:X (i+1+j) with
        | false=>rfl
        | true=>have:=after X hX (i+1+j) (by omega) (by omega) e;rw [hx] at this;cases this
       have eF:frX (Rs1.map Qa++⟨some d,r,[],[]⟩::RsB) (Xh X i) ⟨st.fr,hp2⟩=get ((d,r)::fr'):=by
        simp only [frX]
        rw [List.map_append,Xw,QD,List.map_cons,List.length_map,lR1]
        simp only [qS,Nat.add_zero]
        rw [if_pos (by simp [Xh])]
        have a0:qS (Rs1.map Rec.F) (Xh X i) (get st.fr)=get fr':=by
         rw [hfr'];funext t
         refine qD rfl fun k hk _=>?_
         simp only [List.length_map] at hk
         simp only [Xh];rw [if_neg (by omega)]
        rw [a0,YB]
        funext t
        rw [qD (Y:=fun _=>false) (F':=get (jL fr' (some d) r)) rfl fun k hk _=>?_,zF (fun _=>rfl)]
        · rfl
        · simp only [List.length_map] at hk
          simp only [Xh];rw [if_neg (by omega),←xB k (by omega)];congr 1;omega
       have eH:hpX (Rs1.map Qa++⟨some d, r, [], []⟩::RsB) (Xh X i) ⟨st.fr, hp2⟩=hpf hp2:=by
        funext x
        simp only [hpX]
        rw [qD (Y:=fun _=>false) (F':=hpf hp2) rfl fun k hk hon=>?_,zF (fun _=>rfl)]
        simp only [List.length_map] at hk
        simp only [List.getElem_map] at hon
        have hon:=ZQ hon
        have hk2:i<k:=by
         rcases Nat.lt_or_ge i k with h | h
         · exact h
         · exfalso
           have:((Rs1.map Qa++⟨some d,r,[],[]⟩::RsB)[k]).ws=[]:=by
            rcases Nat.eq_or_lt_of_le h with e | e
            · rw [List.getElem_append_right (by simp; omega)]
              simp [show k - Rs1.length=0 by omega]
            · rw [List.getElem_append_left (by simp; omega)]
              simp [Qa]
           rw [this] at hon;simp at hon
        simp only [Xh]
        rw [if_neg (by omega)]
        simp only [List.length_append,List.length_map,List.length_cons] at hk
        have:=xB (k - i - 1) (by omega)
        rw [show i+1+(k - i - 1)=k by omega] at this
        exact this
       refine hnext _ _ (.inr ⟨by simp [Xh],fun j hj htj=>?_,r,hp2,RsB,st',g3,hrunB,hcmB,hQB,hs3.1,hd3.trans k2,?_,?_,?_⟩)
       · simp only [Xh]; rw [if_neg (by omega)]
         exact hr j (before j hj htj)
       · rw [eF];exact hs3.2.1
       · rw [eH];exact hs3.2.2
       · rw [eH];exact k5.trans hu3
     · have := after' X hX i hip hic hr
       rw [hxp] at this;cases this
   · -- behind the call
     have lB:RsB.length=B.length:=qaT hrunB
     obtain ⟨endFB,endHB⟩:=qds hrunB
     have fx2 : Fx P pre cl (fun k => p < k ∨ ∃ h : k < cl.length, k < p ∧ cl[k].2.touch = false) ⟨st.fr, hp2⟩ (Rs1.map Qa ++ ⟨some dP, r, [], []⟩ :: RsB) := by
      have lR:(Rs1.map Qa++⟨some dP,r,[],[]⟩::RsB).length=cl.length:=by simp;omega
      have r1 : ∀ k (hk : k < p) (h' : k < (Rs1.map Qa ++ ⟨some dP,r,[],[]⟩ :: RsB).length),(Rs1.map Qa ++ ⟨some dP,r,[],[]⟩ :: RsB)[k] = Qa (Rs1[k]'(by omega)) := fun k hk h' => by
       rw [List.getElem_append_left (by simp;omega)];simp
      have r2 : ∀ (h' : p < (Rs1.map Qa ++ ⟨some dP,r,[],[]⟩ :: RsB).length),(Rs1.map Qa ++ ⟨some dP,r,[],[]⟩ :: RsB)[p] = ⟨some dP,r,[],[]⟩ := fun h' => by
       rw [List.getElem_append_right (by simp;omega)]
       simp [show p - Rs1.length=0 by omega]
      have r3 : ∀ j (hj : j < RsB.length) (h' : p + 1 + j < (Rs1.map Qa ++ ⟨some dP,r,[],[]⟩ :: RsB).length),(Rs1.map Qa ++ ⟨some dP,r,[],[]⟩ :: RsB)[p + 1 + j] = RsB[j] := fun j hj h' => by
       rw [List.getElem_append_right (by simp;omega)]
       simp [show p+1+j - Rs1.length=j+1 by omega]
      have wq : ∀ k (hk : k ≤ p) (h' : k < (Rs1.map Qa ++ ⟨some dP,r,[],[]⟩ :: RsB).length),((Rs1.map Qa ++ ⟨some dP,r,[],[]⟩ :: RsB)[k]).ws = [] ∧ ((Rs1.map Qa ++ ⟨some dP,r,[],[]⟩ :: RsB)[k]).foot = [] := fun k hk h' => by
       rcases Nat.eq_or_lt_of_le hk with e | e
       · subst e;rw [r2 h'];exact ⟨rfl,rfl⟩
       · rw [r1 k e h'];exact ⟨rfl,rfl⟩
      have hH0 : ∀ (Y : Nat → Bool),qS ((Rs1.map Qa).map Rec.H) Y (hpf hp2) = hpf hp2 := fun Y => by
       funext x
       rw [qD (Y:=fun _=>false) (F':=hpf hp2) rfl fun k hk hon=>?_,zF (fun _=>rfl)]
       simp only [List.getElem_map] at hon
       have:=ZQ hon
       simp [Qa] at this
      refine ⟨lR,fun k h h'=>?_,fun k h h' hact=>?_,⟨st'.hp.length,(jS hrunB).1,fun R hR q hq=>?_⟩,fun x k hxk hk h1 h2 hp=>?_⟩
      · rcases Nat.lt_trichotomy k p with e | e | e
        · rw [r1 k e h',gA k e h (by omega)]
          exact fx1.dst k (by omega) (by omega)
        · subst e;rw [r2 h',gP h];exact hdP.symm
        · obtain ⟨j,rfl⟩ : ∃ j,k = p + 1 + j := ⟨k - p - 1,by omega⟩
          rw [r3 j (by omega) h',gB j h (by omega)]
          exact (jg hrunB j (by omega) (by omega)).choose_spec.1.1
      · rcases hact with e | ⟨_,e,tq⟩
        · obtain ⟨j,rfl⟩ : ∃ j,k = p + 1 + j := ⟨k - p - 1,by omega⟩
          obtain ⟨new,ok,hnew⟩:=jg hrunB j (by omega) (by omega)
          have eF : qS ((Rs1.map Qa ++ ⟨some dP,r,[],[]⟩ :: RsB).map Rec.F) (fun k => decide (k < p + 1 + j)) (get st.fr) = qS (RsB.map Rec.F) (fun k => decide (k < j)) (get ((dP,r) :: stA.fr)) := by
           rw [List.map_append,Xw,QD,List.map_cons,List.length_map,lR1]
           simp only [qS,Nat.add_zero]
           rw [if_pos (by simp;omega)]
           have a0 : qS (Rs1.map Rec.F) (fun k => decide (k < p + 1 + j)) (get st.fr) = get stA.fr := by
            rw [endF1];funext t
            refine qD rfl fun k hk _=>?_
            simp only [List.length_map] at hk
            simp;omega
           rw [a0,YB]
           have a1:(fun k=>decide (p+(k+1)<p+1+j))=fun k=>decide (k<j):=by funext k;congr 1;apply propext;omega
           rw [a1];rfl
          have eH : qS ((Rs1.map Qa ++ ⟨some dP,r,[],[]⟩ :: RsB).map Rec.H) (fun k => decide (k < p + 1 + j)) (hpf hp2) = qS (RsB.map Rec.H) (fun k => decide (k < j)) (hpf hp2) := by
           rw [List.map_append,QD,hH0,List.map_cons,List.length_map,List.length_map,lR1]
           simp only [qS,Nat.add_zero]
           rw [if_pos (by simp;omega),JN]
           have a1:(fun k=>decide (p+(k+1)<p+1+j))=fun k=>decide (k<j):=by funext k;congr 1;apply propext;omega
           rw [a1];rfl
          refine ⟨new,?_,?_⟩
          · rw [eF,eH,r3 j (by omega) h',gB j h (by omega)];exact ok
          · rw [eH];exact hnew
        · obtain ⟨new,ok,hnew⟩ := jg run1 k (by omega) (by omega)
          have ek:=gA k e h (by omega)
          rw [ek] at tq
          have eF : qS ((Rs1.map Qa ++ ⟨some dP,r,[],[]⟩ :: RsB).map Rec.F) (fun j => decide (j < k)) (get st.fr) = qS (Rs1.map Rec.F) (fun j => decide (j < k)) (get st.fr) := by
           rw [List.map_append,Xw,QD]
           funext t
           rw [qD (Y:=fun _=>false) (F':=qS (Rs1.map Rec.F) (fun j=>decide (j<k)) (get st.fr)) rfl fun j hj _=>?_,zF (fun _=>rfl)]
           simp;omega
          have eH : qS ((Rs1.map Qa ++ ⟨some dP,r,[],[]⟩ :: RsB).map Rec.H) (fun j => decide (j < k)) (hpf hp2) = hpf hp2 := by
           rw [List.map_append,QD,hH0]
           funext t
           rw [qD (Y:=fun _=>false) (F':=hpf hp2) rfl fun j hj _=>?_,zF (fun _=>rfl)]
           simp;omega
          obtain ⟨q1,q2⟩:=je tq ok
          refine ⟨hp2.length,?_,by rw [eH];simp [hpf]⟩
          rw [eF,eH,r1 k e h',ek]
          refine ⟨ok.1,?_⟩
          rcases ok.2 with ⟨h1,h2,h3⟩ | ⟨h1,h2,h3,h4⟩
          · refine .inl ⟨h1,?_,?_⟩
            · have hfoot : ∀ F,A[k].2.foot F = [] := fun F => by simp [AOp.foot,qaX tq]
              rw [q1] at h2
              exact qaU (ws:=[]) h2 (fun _ _=>rfl) (fun id hid=>by rw [hfoot] at hid;cases hid) (fun h=>by simp at h)
            · show [] = _
              simp [AOp.foot,qaX tq]
          · exact .inr ⟨h1,h2,rfl,rfl⟩
      · rw [List.mem_append] at hR
        rcases hR with hR | hR
        · obtain ⟨R0,_,rfl⟩ := List.mem_map.1 hR
          simp [Qa] at hq
        · rcases List.mem_cons.1 hR with rfl | hR
          · simp at hq
          · exact (jS hrunB).2 R hR q hq
      · obtain ⟨o1, o2⟩ := ord x k hxk hk hp
        have dk:((Rs1.map Qa++⟨some dP,r,[],[]⟩::RsB)[k]).dst=cl[k].2.dst:=by
         rcases Nat.lt_trichotomy k p with e | e | e
         · rw [r1 k e h2,gA k e hk (by omega)]
           exact fx1.dst k (by omega) (by omega)
         · subst e;rw [r2 h2,gP hk];exact hdP.symm
         · obtain ⟨j,rfl⟩ : ∃ j,k = p + 1 + j := ⟨k - p - 1,by omega⟩
           rw [r3 j (by omega) h2,gB j hk (by omega)]
           exact (jg hrunB j (by omega) (by omega)).choose_spec.1.1
        have dx : ((Rs1.map Qa ++ ⟨some dP,r,[],[]⟩ :: RsB)[x]).dst = (cl[x]'(by omega)).2.dst := by
         rcases Nat.lt_trichotomy x p with e | e | e
         · rw [r1 x e h1,gA x e (by omega) (by omega)]
           exact fx1.dst x (by omega) (by omega)
         · subst e;rw [r2 h1,gP (by omega)];exact hdP.symm
         · obtain ⟨j,rfl⟩ : ∃ j,x = p + 1 + j := ⟨x - p - 1,by omega⟩
           rw [r3 j (by omega) h1,gB j (by omega) (by omega)]
           exact (jg hrunB j (by omega) (by omega)).choose_spec.1.1
        by_cases e:x≤p
        · obtain ⟨v1,v2⟩ := wq x e h1
          refine qcm o1 dx dk ?_ ?_ ?_
          · rw [v1];simp
          · rw [v1];simp
          · rw [v2];simp
        · obtain ⟨j,rfl⟩ : ∃ j,x = p + 1 + j := ⟨x - p - 1,by omega⟩
          obtain ⟨m,rfl⟩:∃ m,k=p+1+m:=⟨k - p - 1,by omega⟩
          have ex:=r3 j (by omega) h1
          have ekk:=r3 m (by omega) h2
          obtain ⟨nx,ox,_⟩:=jg hrunB j (by omega) (by omega)
          obtain ⟨nk,ok,_⟩:=jg hrunB m (by omega) (by omega)
          have gx:=gB j (by omega) (by omega)
          have gk:=gB m hk (by omega)
          rw [gx,gk] at o2
          have main:(∀ x∈RsB[j].ws.map (·.1), x∉RsB[m].foot)∧(∀ x∈RsB[j].ws.map (·.1), x∉RsB[m].ws.map (·.1))∧(∀ x∈RsB[m].ws.map (·.1), x∉RsB[j].foot):=by
           cases t1:B[j].2.touch with
           | false=>obtain ⟨e1,e2⟩:=je t1 ox;simp [e1,e2]
           | true =>
             cases t2:B[m].2.touch with
             | false=>obtain ⟨e1,e2⟩:=je t2 ok;simp [e1,e2]
             | true =>
               obtain ⟨y,z,b1,b2,b3,b4,b5⟩:=Ym hcmB (o2 t1 t2)
               have e1:(List.replicate (p+1) (([],[]):List Nat × List Nat)++RsB.map qdI)[p+1+j]?=some (qdI RsB[j]):=by
                rw [List.getElem?_append_right (by simp)]
                simp [show j<RsB.length by omega]
               have e2:(List.replicate (p+1) (([],[]):List Nat × List Nat)++RsB.map qdI)[p+1+m]?=some (qdI RsB[m]):=by
                rw [List.getElem?_append_right (by simp)]
                simp [show m<RsB.length by omega]
               rw [e1] at b1;rw [e2] at b2
               cases b1;cases b2
               exact ⟨fun x hx=>jy b3 hx,fun x hx=>jy b4 hx,fun x hx=>jy b5 hx⟩
          refine qcm o1 dx dk ?_ ?_ ?_
          · rw [ex,ekk];exact main.1
          · rw [ex,ekk];exact main.2.1
          · rw [ex,ekk];exact main.2.2
     obtain ⟨c1,c2⟩:=cmp i hi
     have hne:i≠p:=fun e=>by rw [e] at hx;rw [hxp] at hx;cases hx
     refine fx2.step (by omega) hX hi hic ?_ hx hr c1 c2 k1 k3 k4 fun a' w' g' q1 q2 q3 q4 q5=>hnext _ _ (.inr ⟨?_,?_,r,hp2,RsB,st',g',hrunB,hcmB,hQB,q1,q2.trans k2,q3,q4,k5.trans q5⟩)
     · rcases Nat.lt_or_ge i p with e | e
       · refine .inr ⟨hic,e,?_⟩
         cases t:cl[i].2.touch with
         | false=>rfl
         | true=>have:=hth i e t;rw [hx] at this;cases this
       · exact .inl (by omega)
     · simp only [Xh]; split
       · rfl
       · exact hxp
     · intro j hj htj
       simp only [Xh];split
       · rfl
       · exact hth j hj htj
 · -- the end
   intro X a1 w2 hall hinv
   rcases hinv with ⟨hxp,_⟩ | ⟨hxp,hth,r,hp2,RsB,st',g2,hrunB,hcmB,hQB,k1,k2,k3,k4,k5⟩
   · rw [hall p (by omega)] at hxp;cases hxp
   · have lB : RsB.length = B.length := qaT hrunB
     obtain ⟨endFB,endHB⟩:=qds hrunB
     have allF:frX (Rs1.map Qa++⟨some dP,r,[],[]⟩::RsB) X ⟨st.fr,hp2⟩=get st'.fr:=by
      simp only [frX]
      rw [List.map_append,Xw,QD,List.map_cons,List.length_map,lR1]
      simp only [qS,Nat.add_zero]
      rw [if_pos hxp]
      have a0:qS (Rs1.map Rec.F) X (get st.fr)=get stA.fr:=by
       rw [endF1];funext t
       refine qD rfl fun k hk _=>?_
       simp only [List.length_map] at hk
       exact hall k (by omega)
      rw [a0,YB,endFB]
      funext t
      refine qD rfl fun k hk _=>?_
      simp only [List.length_map] at hk
      exact hall _ (by omega)
     have allH:hpX (Rs1.map Qa++⟨some dP,r,[],[]⟩::RsB) X ⟨st.fr,hp2⟩=hpf st'.hp:=by
      simp only [hpX]
      rw [List.map_append,QD,List.map_cons,List.length_map,List.length_map,lR1]
      simp only [qS,Nat.add_zero]
      rw [if_pos hxp,JN]
      have a0:qS ((Rs1.map Qa).map Rec.H) X (hpf hp2)=hpf hp2:=by
       funext x
       rw [qD (Y:=fun _=>false) (F':=hpf hp2) rfl fun k hk hon=>?_,zF (fun _=>rfl)]
       simp only [List.getElem_map] at hon
       have:=ZQ hon
       simp [Qa] at this
      rw [a0,endHB]
      funext t
      refine qD rfl fun k hk _=>?_
      simp only [List.length_map] at hk
      exact hall _ (by omega)
     rw [allF] at k3
     rw [allH] at k4 k5
     exact hl _ _ a1 w2 g2 hQB (Sim.keep (st:=st') ⟨k1,k3,k4⟩ ks) k5 (.nil k2)
 · rw [jP _ k hk] at hk1;cases hk1
 · have : ∀ m,unl (lst (Array.replicate ops.size false)) m ≤ m := fun m => by
    induction m with
    | zero=>exact Nat.le_refl _
    | succ m ih=>simp only [unl];split <;> omega
   exact this _
 · refine .inl ⟨jP _ p (by omega),g,hs.1,rfl,?_,?_,?_⟩
   · rw [e1];exact hs.2.1.mono hud.tr
   · rw [e2];exact hokd
   · rw [e2];exact hud
theorem Y5 (hY : YS P E w1 g1) {gs : List Grp} (gsA gsB : List Grp) {un : List (Nat × Nat)} (unA : List (Nat × Nat)) {ks : List Nat} {st : St} {Q : Exit → St → Prop} (p : Nat) (tr0 : Tr) (gd : Option (Nat × Bool)) (oc : AOp)
 (hlt:p=((flat gs).take p).length) (hfl:flat gs=(flat gs).take p++(gd,oc)::(flat gs).drop (p+1)) (hpv:qmU (flat gs) un p=true) (hA:grp ((flat gs).take p)=gsA) (hB:grp ((flat gs).drop (p+1))=gsB) (hun:(un.all fun q=>decide (p≤q.2) || unA.contains q)=true) (htr:List.replicate (p+1) ([],[])=tr0) (hoc:(∃ d f as,oc = .call d f as)∨∃ d x as,oc = .callv d x as)
 (h:Zg P gsA st [] fun stA tr=>jq tr unA=true∧qjU gd (get stA.fr)∧qa6 P E w1 g1 oc stA fun st2=>Zg P gsB st2 tr0 fun st' tr=>jq tr un=true∧Q .normal (st'.keep ks)) :
 qa5 P w1 g1 (.drw gs un ks) st Q:=by
 subst htr
 refine qh7 hY (gsA:=gsA) (gsB:=gsB) (unA:=unA) ((flat gs).take p) ((flat gs).drop (p+1)) gd oc hfl (by rw [←hlt];exact hpv) hA hB (fun q hq hlt2=>?_) hoc (by rw [←hlt];exact h)
 rw [←hlt] at hlt2
 have:=List.all_eq_true.1 hun q hq
 simp only [Bool.or_eq_true,decide_eq_true_eq,List.contains_iff_mem] at this
 rcases this with h | h
 · omega
 · exact h
end
theorem qme {hp : Hp} {g : G} {w : World} (h : HeapOK hp g w) {id : Nat} {cs cs' : List AV} {is : List Nat} (h1 : hp id = some (.cells cs)) (hid : id ∉ is)
 (hids:∀ i∈is,∃ cs,hp i=some (.cells cs)) (hrep:cs'.length=cs.length∧∀ j (hj:j<cs.length) (hj':j<cs'.length) v,Rep w g false cs[j] v→Rep w (g.pub (QJ hp g is)) false cs'[j] v) :
 HeapOK (Hp.set (Hp.write hp (zB is)) id (.cells cs')) (g.pub (QJ hp g is)) w∧Upd hp g w (Hp.set (Hp.write hp (zB is)) id (.cells cs')) (g.pub (QJ hp g is)) w:=by
 obtain ⟨hokA,updA⟩:=h.giveAll is hids
 have hA:Hp.write hp (zB is) id=some (.cells cs):=by rw [Qk,if_neg hid];exact h1
 obtain ⟨l0,r1,r2⟩:=hokA.rep id _ hA
 have T:=updA.tr
 have hl0:g.ρ id=some l0:=r1
 obtain ⟨l1,s1,s2⟩:=h.rep id _ h1
 rw [hl0] at s1;cases s1
 have new:HRep w (g.pub (QJ hp g is)) (.cells cs') l0:=by
  cases l0 with
  | virg =>
    have e:cs=[]:=s2
    have:cs'=[]:=List.eq_nil_of_length_eq_zero (by rw [hrep.1,e];rfl)
    exact this
  | base L=>exact r2.elim
  | blk c d =>
    obtain ⟨arr,ty,fz,a1,a2,a3,a4,a5⟩:=r2
    obtain ⟨arr',ty',fz',b1,b2,b3,b4,b5⟩:=s2
    rw [a1] at b1;cases b1
    refine ⟨arr,ty,fz,a1,by rw [hrep.1];exact a2,a3,a4,fun i hi=>?_⟩
    have hi':i<cs.length:=by rw [←hrep.1];exact hi
    obtain ⟨x,x1,x2⟩:=b5 i hi'
    exact ⟨x,x1,hrep.2 i hi' hi x x2⟩
 have tr:Trans w (g.pub (QJ hp g is)) w (g.pub (QJ hp g is)) := .refl _ _
 have live:(HObj.cells cs').live=(HObj.cells cs).live:=rfl
 refine ⟨hokA.change (fun i=>i=id) tr (fun i hi=>Hp.set_other _ _ hi) (fun _ _=>rfl) (fun _ _ _ _ _ _ _ _=>rfl) (fun _ _ _ _ _ _ _ _ _ hq=>hq) ?_ ?_ hokA.ex,updA.trans ⟨tr,?_,fun b q hs => .inl hs,fun b hb _=>rfl⟩⟩
 · rintro i rfl
   exact ⟨_,l0,Hp.set_same _ _ _,r1,new⟩
 · intro i i' o o' c d d' hi ho ho' hl hl' hr hr'
   subst hi
   by_cases e:i'=i
   · exact e.symm
   · rw [Hp.set_other _ _ e] at ho'
     exact hokA.inj i i' _ o' c d d' hA ho' rfl hl' hr hr'
 · rintro c ⟨i,o,d,ho,hl,hr⟩
   by_cases e:i=id
   · subst e
     exact .inl ⟨i,_,d,hA,rfl,hr⟩
   · rw [Hp.set_other _ _ e] at ho
     exact .inl ⟨i,o,d,ho,hl,hr⟩
inductive FzL (hp : List HObj) (is : List Nat) : List AV → List AV → Prop
 | nil:FzL hp is [] []
 | same {x y cs cs'}:Wk x y→FzL hp is cs cs'→FzL hp is (x::cs) (y::cs')
 | fz {x y z js cs cs'}:qU (hpf hp) x=some (y,js)→(∀ j∈js,j∈is)→Wk y z→FzL hp is cs cs'→FzL hp is (x::cs) (z::cs')
theorem FzL.len {hp is cs cs'} (h:FzL hp is cs cs'):cs'.length=cs.length:=by
 induction h with
 | nil=>rfl
 | same _ _ ih=>simp [ih]
 | fz _ _ _ _ ih=>simp [ih]
theorem FzL.refl {hp is} : ∀ {cs : List AV},FzL hp is cs cs
 | [] => .nil
 | _::_ => .same (.refl _) FzL.refl
theorem FzL.wk {hp is} : ∀ {cs ds : List AV},WkL cs ds → FzL hp is cs ds
 | [],[],_ => .nil
 | _::_,_::_,.cons h k => .same h (FzL.wk k)
theorem FzL.app {hp is} {a b c d:List AV} (h:FzL hp is a b) (k:FzL hp is c d):FzL hp is (a++c) (b++d):=by
 induction h with
 | nil=>exact k
 | same e _ ih=>exact .same e ih
 | fz e1 e2 e3 _ ih=>exact .fz e1 e2 e3 ih
theorem FzL.rep {hp : List HObj} {is : List Nat} {g : G} {w : World} (hok : HeapOK (hpf hp) g w) (hids : ∀ i ∈ is,∃ cs,hpf hp i = some (.cells cs)) {cs cs' : List AV} (h : FzL hp is cs cs') :
 ∀ j (hj:j<cs.length) (hj':j<cs'.length) v,Rep w g false cs[j] v→Rep w (g.pub (QJ (hpf hp) g is)) false cs'[j] v:=by
 obtain ⟨hokA,updA⟩:=hok.giveAll is hids
 induction h with
 | nil=>intro j hj;simp at hj
 | same k _ ih =>
   intro j hj hj' v hv
   cases j with
   | zero=>exact k.rep (Rep.mono updA.tr (by simpa using hv))
   | succ j=>exact ih j (by simpa using hj) (by simpa using hj') v (by simpa using hv)
 | fz hp hs k _ ih =>
   intro j hj hj' v hv
   cases j with
   | zero=>exact k.rep (jE hok hp hs (by simpa using hv)).of
   | succ j=>exact ih j (by simpa using hj) (by simpa using hj') v (by simpa using hv)
theorem Y7 {P:Program} {f:FuncId} {xs:List AV} {hp:List HObj} {K:AV→List HObj→Prop} (h:zG P f xs hp fun x H=>∃ id cs cs' is,qr H id=some (.cells cs)∧FzL H is cs cs'∧(∀ i∈is,∃ c,qr H i=some (.cells c))∧id∉is∧K x (qH H (zB is++[(id,.cells cs')]))):zG P f xs hp K:=by
 intro ro n w g vs hok hvs hrep
 refine (h ro n w g vs hok hvs hrep).mono ?_
 rintro e w' ⟨v,x,H,g',rfl,⟨id,cs,cs',is,h1,h2,hids,hid,hK⟩,hx,hok',hu⟩
 have hids:∀ i∈is,∃ c,hpf H i=some (.cells c):=fun i hi=>by obtain ⟨c,hc⟩:=hids i hi;exact ⟨c,by rw [zh];exact hc⟩
 obtain ⟨q1,q2⟩:=qme hok' (by rw [zH] at h1;exact h1) hid hids ⟨h2.len,h2.rep hok' hids⟩
 have lt : ∀ p ∈ zB is ++ [(id,HObj.cells cs')],p.1 ≤ H.length := fun p hp' => by
  rw [List.mem_append] at hp'
  rcases hp' with hp' | hp'
  · simp only [zB,List.mem_map] at hp'
    obtain ⟨i,hi,rfl⟩:=hp'
    obtain ⟨cs,hcs⟩:=hids i hi
    exact Nat.le_of_lt (Zv hcs)
  · simp at hp';subst hp';exact Nat.le_of_lt (qj h1)
 have e:hpf (qH H (zB is++[(id,.cells cs')]))=Hp.set (Hp.write (hpf H) (zB is)) id (.cells cs'):=by
  rw [QK lt,ji]
 exact ⟨v,x,_,_,rfl,hK,hx.mono q2.tr,by rw [e];exact q1,by rw [e];exact hu.trans q2⟩
theorem qau {l:List Sht} {s:Sht}:QH (l++[s])=s.bath:=by unfold QH;rw [List.getLast?_concat]
theorem quB {long:List Int} {B:Int} {l:List Sht}:∀ i,i≤l.length→(∀ j (h:j<l.length),j<i→zf long B (l.take j) l[j]=true)→∀ x∈l.take i,x.bath≤QH (l.take i):=by
 intro i
 induction i with
 | zero=>intro _ _ x hx;simp at hx
 | succ i ih =>
   intro hi h x hx
   have hi':i<l.length:=hi
   rw [List.take_succ_eq_append_getElem hi',qau]
   rw [List.take_succ_eq_append_getElem hi',List.mem_append] at hx
   have v:=(ZU.1 (h i hi' (by omega))).bath.1
   rcases hx with hx | hx
   · have := ih (by omega) (fun j hj hji => h j hj (by omega)) x hx
     omega
   · simp at hx;subst hx;exact Int.le_refl _
def XL (pre:List Sht) (b:Int):Int:=if QH pre<b then b else QH pre
def qc4 (pre:List Sht) (b:Int):Int:=if QH pre<b then 0 else j6 pre (QH pre)
theorem qiV {long : List Int} {B : Int} {pre : List Sht} {s : Sht} (h : ∀ x ∈ pre,x.bath ≤ QH pre) :
 zf long B pre s=true↔(∀ x∈pre,x.num≠s.num)∧(1≤s.num∧s.num≤QM)∧s.bath=XL pre s.bath∧XL pre s.bath≤B∧s.age=qc4 pre s.bath∧qc4 pre s.bath<8∧Yx long s.pat=true:=by
 rw [ZU]
 unfold XL qc4
 by_cases hb:QH pre<s.bath
 · rw [if_pos hb,if_pos hb]
   have hc:j6 pre s.bath=0:=Xo fun x hx=>by have:=h x hx;omega
   constructor
   · rintro ⟨a,b,c,d,e⟩
     rw [hc] at d
     exact ⟨e,a,rfl,b.2,d.1,by omega,c⟩
   · rintro ⟨e,a,_,b,d,_,c⟩
     exact ⟨a,⟨by omega,b⟩,c,⟨by rw [hc];exact d,by omega⟩,e⟩
 · rw [if_neg hb,if_neg hb]
   constructor
   · rintro ⟨a,b,c,d,e⟩
     have:s.bath=QH pre:=by omega
     rw [this] at d
     exact ⟨e,a,this,by omega,d.1,by omega,c⟩
   · rintro ⟨e,a,b0,b,d,d2,c⟩
     exact ⟨a,⟨by omega,by omega⟩,c,⟨by rw [b0];exact d,by omega⟩,e⟩
theorem qce {pre:List Sht} {s:Sht} (h:s.bath=XL pre s.bath) (hle:∀ x∈pre,x.bath≤QH pre):QH (pre++[s])=XL pre s.bath∧j6 (pre++[s]) (XL pre s.bath)=qc4 pre s.bath+1:=by
 refine ⟨by rw [qau];exact h,?_⟩
 rw [←h,qwm,if_pos rfl]
 unfold XL at h
 unfold qc4
 by_cases hb:QH pre<s.bath
 · rw [if_pos hb,Xo fun x hx=>by have:=hle x hx;omega]
 · rw [if_neg hb] at h ⊢
   rw [h]
theorem qlR {B:Int} {l:List Sht} (h0:∀ s∈l,s.bath≤QH l) (h1:∀ s∈l,s.bath≤B):(if QH l<B then 0 else j6 l (QH l))=j6 l B:=by
 by_cases hb:QH l<B
 · rw [if_pos hb,Xo fun x hx=>by have:=h0 x hx;omega]
 · rw [if_neg hb]
   rcases List.eq_nil_or_concat l with rfl | ⟨m,s,rfl⟩
   · rfl
   · rw [List.concat_eq_append] at *
     have:=h1 s (by simp)
     rw [qau] at hb ⊢
     have:s.bath=B:=by omega
     rw [this]
def qja (w:World):G:=⟨fun b o=>∃ v,w.cell? ⟨b,o,none⟩=some v,fun _=>none⟩
theorem qix (w:World) (ht:TabOK (qja w) w):HeapOK (fun _=>none) (qja w) w :=
 ⟨fun _ _=>rfl,fun _ _ h=>(by cases h),fun _ _ _ _ _ _ _ h=>(by cases h),fun _ _ h=>h,ht⟩
def RdT (P:Program) (w:World) (t:TypeId) (Q:List AV→Prop):Prop :=
 ∀ (H : Type) (enc : TypeId × Value → H) (fuel : Nat) (cs : List Value) (x : DataW H × List MemPlace),DataW.trod enc P w 0 (fun _ => true) true fuel t cs = some x →
   ∃ as:List AV,as.length=cs.length∧cs.length=P.cellsOf t∧Q as∧∀ i (h:i<as.length),Rep w (qja w) true as[i] (cs.getD i undef)
section
variable {P:Program} {w:World} {t e:TypeId}
theorem ZE {Q Q':List AV→Prop} (h:RdT P w t Q) (hq:∀ as,Q as→Q' as):RdT P w t Q':=fun H enc fuel cs x hx=>by
 obtain ⟨as,h1,h2,h3,h4⟩:=h H enc fuel cs x hx
 exact ⟨as,h1,h2,hq _ h3,h4⟩
theorem qhO {k:IntKind} (ht:P.underlying t=some (.int k)) (hc:P.cellsOf t=1):RdT P w t fun as=>∃ n,as=[.v (.int k n)]∧(Lit.int k n).wf=true:=by
 intro H enc fuel cs x hx
 cases fuel with
 | zero=>simp [DataW.trod] at hx
 | succ m =>
   unfold DataW.trod at hx
   rw [ht] at hx
   split at hx <;> simp_all
   obtain ⟨⟨rfl,hw⟩,_⟩:=hx
   exact ⟨[.v (.int _ _)],rfl,⟨_,rfl,hw⟩,fun i hi => by
    have:i=0:=by simpa using hi
    subst this;exact .v _ _⟩
theorem qsi (ht:P.underlying t=some .string) (hc:P.cellsOf t=1):RdT P w t fun as=>∃ s:ByteArray,as=[.v (.string s)]∧s.size≤maxLen:=by
 intro H enc fuel cs x hx
 cases fuel with
 | zero=>simp [DataW.trod] at hx
 | succ m =>
   unfold DataW.trod at hx
   rw [ht] at hx
   split at hx <;> simp_all
   obtain ⟨hw,_⟩:=hx
   exact ⟨[.v (.string _)],rfl,⟨_,rfl,hw⟩,fun i hi => by
    have:i=0:=by simpa using hi
    subst this;exact .v _ _⟩
theorem X5 {α : Type} {sz : Nat} : ∀ {els : List (List α)}, (∀ x ∈ els, x.length = sz) → ∀ (i : Nat), els.flatten[i]? = (els[i / sz]?).bind fun x => x[i % sz]?
 | [],_,i=>by simp
 | x::els, h, i=>by
   have hx:x.length=sz:=h x (by simp)
   rw [List.flatten_cons]
   by_cases hi:i<sz
   · rw [List.getElem?_append_left (by omega),Nat.div_eq_of_lt hi,Nat.mod_eq_of_lt hi];simp
   · by_cases hz : sz = 0
     · subst hz
       have : ∀ (l : List (List α)),(∀ x ∈ l,x.length = 0) → l.flatten = [] := fun l hl => by
        rw [List.flatten_eq_nil_iff];intro y hy;exact List.eq_nil_of_length_eq_zero (hl y hy)
       have e:=this (x::els) h
       rw [List.flatten_cons] at e
       rw [e];simp;omega
     · rw [List.getElem?_append_right (by omega),hx,X5 (fun y hy => h y (by simp [hy]))]
       have e1:i / sz=(i - sz) / sz+1:=by
        have:=Nat.div_eq_sub_div (b:=sz) (a:=i) (by omega) (by omega)
        exact this
       have e2:i % sz=(i - sz) % sz:=by rw [Nat.mod_eq_sub_mod (by omega)]
       rw [e1,e2];simp
theorem X6 {α : Type} {sz : Nat} : ∀ {els : List (List α)},(∀ x ∈ els,x.length = sz) → els.flatten.length = els.length * sz
 | [],_=>by simp
 | x::els,h=>by
   rw [List.flatten_cons,List.length_append,X6 (fun y hy=>h y (by simp [hy])),h x (by simp),List.length_cons,Nat.succ_mul];omega
theorem Y8 {α : Type} {p : Nat → α → Prop} : ∀ {n : Nat},(∀ i,i < n → ∃ a,p i a) → ∃ l : List α,l.length = n ∧ ∀ i (h : i < l.length),p i l[i]
 | 0,_=>⟨[],rfl,fun i h=>by simp at h⟩
 | n+1, h=>by
   obtain ⟨l,h1,h2⟩:=Y8 (fun i hi=>h i (Nat.lt_succ_of_lt hi))
   obtain ⟨a,ha⟩:=h n (Nat.lt_succ_self n)
   refine ⟨l++[a],by simp [h1],fun i hi=>?_⟩
   by_cases e:i<l.length
   · rw [List.getElem_append_left e];exact h2 i e
   · have : i = n := by simp at hi; omega
     subst this
     rw [List.getElem_append_right (by omega)]
     simpa [h1] using ha
theorem qn2 (a:Addr) (h:a.spot=none) (n:Nat):a.add n=⟨a.block,a.off+n,none⟩:=by
 unfold Addr.add
 split
 · rename_i e;subst e;cases a;simp at h;subst h;rfl
 · rfl
theorem qmZ {sz : Nat} {Q : List AV → Prop} (ht : P.underlying t = some (.slice e)) (hc : P.cellsOf t = 1) (hz : P.cellsOf e = sz) (h0 : 0 < sz) (he : RdT P w e Q) :
 RdT P w t fun as=>∃ els:List (List AV),(∀ x∈els,x.length=sz∧Q x)∧as=[.sl false els.length els.flatten]∧els.length≤maxLen:=by
 intro H enc fuel cs x hx
 rcases Go.Deep.open_slice ht hx with ⟨rfl,rfl⟩ | ⟨a,len,cap,m,n,D,Pl,rfl,hb,hl,hm,hmm,rfl,hel⟩
 · refine ⟨[.sl false 0 []],rfl,by simp [hc],⟨[],fun x h => by simp at h,rfl,Nat.zero_le _⟩,fun i hi => ?_⟩
   have:i=0:=by simpa using hi
   subst this
   exact .sl _ _ _ _ _ _ (fun _=>undef) (Nat.le_refl _) (fun h=>by cases h) (fun i hi=>by simp at hi) (fun i hi=>by simp at hi)
 · simp only [if_true] at hmm
   subst hmm
   rw [hz] at hel
   have hel' : ∀ i,i < len → ∃ q : List AV × List Value,q.1.length = sz ∧ Q q.1 ∧ w.cells? 0 (a.add (i * sz)) sz = some q.2 ∧ q.2.length = sz ∧ ∀ j (h : j < q.1.length),Rep w (qja w) true q.1[j] (q.2.getD j undef) := fun i hi => by
    obtain ⟨cs',h1,h2⟩:=hel i (by omega)
    obtain ⟨as,k1,k2,k3,k4⟩:=he H enc _ _ _ h2
    exact ⟨(as,cs'),by simp only;omega,k3,h1,by simp only;omega,k4⟩
   obtain ⟨qs,q1,q2⟩:=Y8 hel'
   have hlen : ∀ x ∈ qs.map (·.1),x.length = sz := fun x hx => by
    obtain ⟨q,hq,rfl⟩:=List.mem_map.1 hx
    obtain ⟨i,hi,rfl⟩:=List.getElem_of_mem hq
    exact (q2 i hi).1
   refine ⟨[.sl false len (qs.map (·.1)).flatten],rfl,by simp [hc],⟨qs.map (·.1),fun x hx=>?_,by simp [q1],by simp [q1];omega⟩,fun i hi=>?_⟩
   · obtain ⟨q,hq,rfl⟩ := List.mem_map.1 hx
     obtain ⟨i,hi,rfl⟩:=List.getElem_of_mem hq
     exact ⟨(q2 i hi).1,(q2 i hi).2.1⟩
   · have : i = 0 := by simpa using hi
     subst this
     have fl:=X6 hlen
     simp only [List.length_map,q1] at fl
     have cell : ∀ i,i < len * sz → ∃ v,a.spot = none ∧ w.cell? ⟨a.block,a.off + i,none⟩ = some v ∧ ∃ x,(qs.map (·.1)).flatten[i]? = some x ∧ Rep w (qja w) true x v := fun i hi => by
      have hd:i / sz<len:=by rw [Nat.div_lt_iff_lt_mul h0];exact hi
      have hmo:i % sz<sz:=Nat.mod_lt _ h0
      have hlen0:0<len:=Nat.lt_of_le_of_lt (Nat.zero_le _) hd
      obtain ⟨r1,r2,r3,r4,r5⟩:=q2 (i / sz) (by omega)
      obtain ⟨_,c2,c3⟩:=World.cells?_some r3
      have c4:=c3 (i % sz) hmo
      rw [List.getElem?_eq_getElem (by omega)] at c4
      have hsp0:a.spot=none:=by
       have c5:=(q2 0 (by omega)).2.2.1
       obtain ⟨_,d2,d3⟩:=World.cells?_some c5
       have d4:=d3 0 h0
       rw [List.getElem?_eq_getElem (by omega)] at d4
       have:=World.cell?_spot d4
       simpa [Addr.add] using this
      rw [Deep.add_add,qn2 a hsp0] at c4
      have e1:i / sz*sz+i % sz=i:=by rw [Nat.mul_comm];exact Nat.div_add_mod i sz
      rw [e1] at c4
      refine ⟨_,hsp0,c4,(qs[i / sz]'(by omega)).1[i % sz]'(by omega),?_,?_⟩
      · rw [X5 hlen]
        simp [show i / sz<qs.length by omega,show i % sz<(qs[i / sz]'(by omega)).1.length by omega]
      · have := r5 (i % sz) (by omega)
        simpa [show i % sz<(qs[i / sz]'(by omega)).2.length by omega] using this
     refine .sl _ _ _ _ (some a) m (fun i=>(w.cell? ⟨a.block,a.off+i,none⟩).getD undef) hl (fun h=>by cases h) (fun i hi=>?_) (fun i hi=>?_)
     · obtain ⟨v,s1,s2,_⟩ := cell i (by omega)
       exact ⟨a,rfl,s1,⟨v,s2⟩,by rw [s2];rfl⟩
     · obtain ⟨v,s1,s2,x,s3,s4⟩ := cell i (by omega)
       simp only [s2,Option.getD_some]
       rw [List.getElem?_eq_getElem hi] at s3
       cases s3;exact s4
theorem qiO {c0 c1 : Nat} {f0 f1 : Field} {Q0 Q1 : List AV → Prop} (ht : P.underlying t = some (.struct #[f0,f1])) (hc : P.cellsOf t = c0 + c1) (ho0 : f0.offset = 0) (ho1 : f1.offset = c0) (hz0 : P.cellsOf f0.type = c0) (hz1 : P.cellsOf f1.type = c1)
 (h0:RdT P w f0.type Q0) (h1:RdT P w f1.type Q1):RdT P w t fun as=>∃ a0 a1,a0.length=c0∧a1.length=c1∧as=a0++a1∧Q0 a0∧Q1 a1:=by
 intro H enc fuel cs x hx
 obtain ⟨xs,n,_,rfl,hl,hn,hf⟩:=DataW.trod_struct ht hx
 have hn':xs.length=2:=hn
 have k0:=hf 0 f0 rfl
 have k1:=hf 1 f1 rfl
 rw [List.getElem?_eq_getElem (by omega)] at k0 k1
 obtain ⟨a0,p1,p2,p3,p4⟩:=h0 H enc _ _ _ k0
 obtain ⟨a1,q1,q2,q3,q4⟩:=h1 H enc _ _ _ k1
 rw [hz0] at p1 p2 p4
 rw [hz1] at q1 q2 q4
 rw [ho0] at p1 p2 p4
 rw [ho1] at q1 q2 q4
 refine ⟨a0++a1,by rw [List.length_append];omega,hl,⟨a0,a1,by omega,by omega,rfl,p3,q3⟩,fun i hi=>?_⟩
 rw [List.length_append] at hi
 by_cases h:i<a0.length
 · rw [List.getElem_append_left h]
   have:=p4 i h
   simpa [List.getD,List.getElem?_take,List.getElem?_drop,show i<c0 by omega] using this
 · rw [List.getElem_append_right (by omega)]
   have:=q4 (i - a0.length) (by omega)
   have e:c0+(i - a0.length)=i:=by omega
   simpa [List.getD,List.getElem?_take,List.getElem?_drop,show i - a0.length<c1 by omega,e] using this
theorem qb8 {c0 c1 c2 : Nat} {f0 f1 f2 : Field} {Q0 Q1 Q2 : List AV → Prop} (ht : P.underlying t = some (.struct #[f0,f1,f2])) (hc : P.cellsOf t = c0 + c1 + c2) (ho0 : f0.offset = 0) (ho1 : f1.offset = c0) (ho2 : f2.offset = c0 + c1)
 (hz0:P.cellsOf f0.type=c0) (hz1:P.cellsOf f1.type=c1) (hz2:P.cellsOf f2.type=c2)
 (h0:RdT P w f0.type Q0) (h1:RdT P w f1.type Q1) (h2:RdT P w f2.type Q2):RdT P w t fun as=>∃ a0 a1 a2,a0.length=c0∧a1.length=c1∧a2.length=c2∧as=a0++a1++a2∧Q0 a0∧Q1 a1∧Q2 a2:=by
 intro H enc fuel cs x hx
 obtain ⟨xs,n,_,rfl,hl,hn,hf⟩:=DataW.trod_struct ht hx
 have hn':xs.length=3:=hn
 have k0:=hf 0 f0 rfl
 have k1:=hf 1 f1 rfl
 have k2:=hf 2 f2 rfl
 rw [List.getElem?_eq_getElem (by omega)] at k0 k1 k2
 obtain ⟨a0,p1,p2,p3,p4⟩:=h0 H enc _ _ _ k0
 obtain ⟨a1,q1,q2,q3,q4⟩:=h1 H enc _ _ _ k1
 obtain ⟨a2,r1,r2,r3,r4⟩:=h2 H enc _ _ _ k2
 rw [hz0] at p1 p2 p4
 rw [hz1] at q1 q2 q4
 rw [hz2] at r1 r2 r4
 rw [ho0] at p1 p2 p4
 rw [ho1] at q1 q2 q4
 rw [ho2] at r1 r2 r4
 refine ⟨a0++a1++a2,by rw [List.length_append,List.length_append];omega,hl,⟨a0,a1,a2,by omega,by omega,by omega,rfl,p3,q3,r3⟩,fun i hi=>?_⟩
 rw [List.length_append,List.length_append] at hi
 by_cases h:i<a0.length
 · rw [List.getElem_append_left (by rw [List.length_append]; omega),List.getElem_append_left h]
   have:=p4 i h
   simpa [List.getD,List.getElem?_take,List.getElem?_drop,show i<c0 by omega] using this
 · by_cases h' : i < a0.length + a1.length
   · rw [List.getElem_append_left (by rw [List.length_append]; omega),List.getElem_append_right (by omega)]
     have:=q4 (i - a0.length) (by omega)
     have e:c0+(i - a0.length)=i:=by omega
     simpa [List.getD,List.getElem?_take,List.getElem?_drop,show i - a0.length<c1 by omega,e] using this
   · rw [List.getElem_append_right (by rw [List.length_append]; omega)]
     have hh:i - (a0++a1).length<a2.length:=by rw [List.length_append];omega
     have:=r4 (i - (a0++a1).length) hh
     have e:c0+c1+(i - (a0++a1).length)=i:=by rw [List.length_append];omega
     have hh2:i - (a0.length+a1.length)<c2:=by rw [List.length_append] at hh;omega
     have e':c0+c1+(i - (a0.length+a1.length))=i:=by omega
     simpa [List.getD,List.getElem?_take,List.getElem?_drop,hh2,e'] using this
theorem qtz {H:Type} {enc:TypeId × Value→H} {Q:List AV→Prop} {v:Value} {d:DataW H} {p:List MemPlace} (hr:RdT P w t Q) (hv:v.cells=#[v]) (h:DataW.Trod enc P w 0 (fun _=>true) true t v d p):∃ x,Q [x]∧Rep w (qja w) true x v:=by
 obtain ⟨fuel,hf⟩:=h
 obtain ⟨as,h1,_,h2,h3⟩:=hr H enc _ _ _ hf
 rw [hv] at h1 h3
 match as,h1 with
 | [x],_=>exact ⟨x,h2,by simpa using h3 0 (by simp)⟩
theorem qty {H:Type} {enc:TypeId × Value→H} {Q:List AV→Prop} {cs:Array Value} {d:DataW H} {p:List MemPlace} (hr:RdT P w t Q) (h:DataW.Trod enc P w 0 (fun _=>true) true t (.agg cs) d p):∃ as,Q as∧Rep w (qja w) true (.agg as) (.agg cs):=by
 obtain ⟨fuel,hf⟩:=h
 obtain ⟨as,h1,_,h2,h3⟩:=hr H enc _ _ _ hf
 refine ⟨as,h2,?_⟩
 have e:cs=cs.toList.toArray:=by simp
 rw [e]
 exact .agg _ as cs.toList (by simpa [Value.cells] using h1.symm) (fun i hi=>by simpa [Value.cells] using h3 i hi)
theorem qqx {f : FuncId} {xs : List AV} {vs : Array Value} (ht : TabOK (qja w) w) (h : qC P f xs (B true)) (hn : vs.size = xs.length) (hr : ∀ i (h : i < xs.length),Rep w (qja w) true xs[i] (vs.getD i undef)) :
 Calls P f vs w fun e w'=>e = .returned (.bool true)∧Below w.heap.size w w':=by
 have h1:=h none 0 w (qja w) vs (qix w ht) hn hr
 have h2:CallsIn Fence.wide 0 P f vs w _:=h1
 refine (callsIn_wide.1 h2).mono fun e w' ⟨v,g',e1,e2,e3,e4⟩=>?_
 subst e1
 have ev:v = .bool true:=by cases e2;rfl
 subst ev
 refine ⟨rfl,e4.tr.os,e4.tr.tape,e4.tr.output,e4.tr.size,fun k hk=>e4.keep k hk ?_⟩
 rintro ⟨id,o,d,ho,_⟩
 cases ho
end
end Go.AM
