/-
  KxB1: texts joined: Nt4 Nt10 Nt23 Nt24 Nt25. Own work.
-/
import Derived.Test.YtopelhnmgjkneaaGreatDoorKn7
set_option linter.all false
set_option linter.unusedSimpArgs false
set_option linter.unusedVariables false
set_option linter.unusedSectionVars false

namespace Go.AM
open Go.RowKit
section
variable {α:Type} {f:α→List AV} {sz:Nat} {P:Program} {hp:List HObj} {K:AV→List (Nat × HObj)→Prop}
end
section
variable {K:AV→List (Nat × HObj)→Prop}
end
theorem AccG.line {H x n} {ws:List Wd} {k z e:Int} {nm:List UInt8} (h:AccG H x 3 n (fl wdC ws)) (hn:n=ws.length):qi7 (.tup [LnV ⟨k,nm,ws,z⟩,I e]) (.tup [.agg [I k,S nm,x,I z],I e]) H:=by
 subst hn
 obtain ⟨ids,h1,_⟩:=h.pur
 rcases h with ⟨rfl,h0,_⟩ | ⟨id,rfl,_⟩
 · obtain rfl : ws = [] := List.eq_nil_of_length_eq_zero h0
   refine qG (r' := .tup [.agg [I k,S nm,.sl true 0 [],I z],I e]) (is:=[]) rfl ?_
   exact .tupL (.cons (.aggL (.cons (.refl _) (.cons (.refl _) (.cons .slf (.cons (.refl _) .nil))))) (.cons (.refl _) .nil))
 · have h2 : ze (hpf H) (.ms id 0 ws.length 3) = some (.sl (decide (ws.length = 0)) ws.length (fl wdC ws),ids) := h1
   refine qG (r' := .tup [.agg [I k,S nm,.sl (decide (ws.length=0)) ws.length (fl wdC ws),I z],I e]) (is:=ids) ?_ ?_
   · simp only [qU,Qq,zu,QT,h2]
     simp [ze]
   · exact .tupL (.cons (.aggL (.cons (.refl _) (.cons (.refl _) (.cons .slf (.cons (.refl _) .nil))))) (.cons (.refl _) .nil))
theorem qxj {s:List UInt8} (h:s.length - 1<s.length):qpi s=decide (s[s.length - 1]≠10):=by
 unfold qpi
 rw [List.getLast?_eq_getElem?,List.getElem?_eq_getElem h]
def qwW (c : UInt8) : List (List UInt8) → List UInt8
 | []=>[]
 | [x]=>x
 | x::y::l=>x++c::qwW c (y::l)
theorem qwF (c : UInt8) : ∀ s : List UInt8,qwW c (qM c s) = s
 | []=>rfl
 | b::r=>by
   have ih:=qwF c r
   unfold qM
   by_cases hb:b=c
   · rw [if_pos hb]
     cases hs:qM c r with
     | nil=>exact absurd hs (Jz c r)
     | cons x xs =>
       rw [hs] at ih
       show []++c::qwW c (x::xs)=_
       rw [ih,hb];rfl
   · rw [if_neg hb]
     cases hs:qM c r with
     | nil=>exact absurd hs (Jz c r)
     | cons x xs =>
       rw [hs] at ih
       cases xs with
       | nil =>
         have ih:x=r:=ih
         show b::x=b::r
         rw [ih]
       | cons y ys =>
         have ih:x++c::qwW c (y::ys)=r:=ih
         show b::x++c::qwW c (y::ys)=b::r
         rw [←ih];rfl
theorem qwL (c : UInt8) : ∀ {s : List UInt8},∀ w ∈ qM c s,∀ b ∈ w,b ≠ c
 | [],w,hw,b,hb=>by simp [qM] at hw;subst hw;cases hb
 | x::r, w, hw, b, hb=>by
   have ih:=fun w hw=>qwL c (s:=r) w hw
   unfold qM at hw
   by_cases hx:x=c
   · rw [if_pos hx] at hw
     rcases List.mem_cons.1 hw with rfl | hw
     · cases hb
     · exact ih w hw b hb
   · rw [if_neg hx] at hw
     cases hs:qM c r with
     | nil=>exact absurd hs (Jz c r)
     | cons y ys =>
       rw [hs] at hw ih
       rcases List.mem_cons.1 hw with rfl | hw
       · rcases List.mem_cons.1 hb with rfl | hb
         · exact hx
         · exact ih y (by simp) b hb
       · exact ih w (by simp [hw]) b hb
def qwq (l:List (List UInt8)):List UInt8:=l.flatMap fun w=>w++[10]
theorem qww {w:List UInt8} {l:List (List UInt8)}:qwq (w::l)=w++10::qwq l:=by
 unfold qwq;rw [List.flatMap_cons];simp
theorem qwA : ∀ {l : List (List UInt8)},(∀ w ∈ l,∀ b ∈ w,b ≠ 10) → qM 10 (qwq l) = l ++ [[]]
 | [],_=>rfl
 | w::l,h=>by
   rw [qww,qfs (h w (by simp)),qwA fun x hx=>h x (by simp [hx])];rfl
theorem qw5 {a b:List (List UInt8)}:qwq (a++b)=qwq a++qwq b:=by
 unfold qwq;rw [List.flatMap_append]
theorem qwQ : ∀ {l : List (List UInt8)} {x : List UInt8},qwW 10 (l ++ [x]) = qwq l ++ x
 | [],x=>rfl
 | [w],x=>by
   show w++10::x=_
   simp [qwq]
 | w::v::l,x=>by
   show w++10::qwW 10 ((v::l)++[x])=_
   rw [qwQ,qww,qww];simp [qww]
theorem qxl {s:List UInt8} (h:qpi s=false):qM 10 s=(qM 10 s).dropLast++[[]]∧qwq (qM 10 s).dropLast=s:=by
 have hne:=Jz 10 s
 obtain ⟨l,x,hl⟩:∃ l x,qM 10 s=l++[x]:=⟨(qM 10 s).dropLast,(qM 10 s).getLast hne,(List.dropLast_concat_getLast hne).symm⟩
 have hj:=qwF 10 s
 rw [hl,qwQ] at hj
 have hx:x=[]:=by
  rcases List.eq_nil_or_concat x with h0 | ⟨y,b,rfl⟩
  · exact h0
  · exfalso
    rw [List.concat_eq_append] at *
    have hb:=qwL 10 (s:=s) (y++[b]) (by rw [hl];simp) b (by simp)
    rw [←hj,←List.append_assoc] at h
    unfold qpi at h
    rw [List.getLast?_concat] at h
    simp only [decide_eq_false_iff_not,Decidable.not_not] at h
    exact hb h
 subst hx
 rw [hl,List.dropLast_concat]
 rw [List.append_nil] at hj
 exact ⟨rfl,hj⟩
theorem qw2 {s:List UInt8} (h:V0 s=0):qwq (qaw s)=s:=by
 unfold qaw
 rw [if_pos h]
 unfold V0 at h
 split at h
 · cases h
 · split at h
   · cases h
   · rename_i h2
     exact (qxl (by simpa using h2)).2
theorem qxm {s:List UInt8}:∀ w∈qaw s,∀ b∈w,b≠10:=by
 intro w hw
 unfold qaw at hw
 split at hw
 · exact qwL 10 w (List.dropLast_subset _ hw)
 · cases hw
theorem qxb {l:List (List UInt8)}:qpi (qwq l)=false:=by
 rcases List.eq_nil_or_concat l with rfl | ⟨m,w,rfl⟩
 · rfl
 · rw [List.concat_eq_append,qw5]
   have:qwq [w]=w++[10]:=by simp [qwq]
   rw [this,←List.append_assoc]
   unfold qpi
   rw [List.getLast?_concat];rfl
theorem qxq {l:List (List UInt8)} (h:∀ w∈l,∀ b∈w,b≠10) (h1:(qwq l).length≤65536) (h2:l.length≤400):V0 (qwq l)=0∧qaw (qwq l)=l:=by
 have hE:V0 (qwq l)=0:=by
  unfold V0
  rw [if_neg (by omega),qxb,qwA h,List.dropLast_concat]
  simp;omega
 refine ⟨hE,?_⟩
 unfold qaw
 rw [if_pos hE,qwA h,List.dropLast_concat]
theorem qwC {l:List (List UInt8)} {s:List UInt8}:jQ (l++[s])=Ql (jQ l) s:=by
 unfold jQ;rw [List.foldl_append];rfl
theorem qxh {s:List UInt8} {ls:List (List UInt8)} (h:V0 s=0) (hn:∀ w∈ls,∀ b∈w,b≠10) (h1:s.length+(qwq ls).length≤65536) (h2:(qaw s).length+ls.length≤400):V0 (s++qwq ls)=0∧qaw (s++qwq ls)=qaw s++ls:=by
 have e:s++qwq ls=qwq (qaw s++ls):=by rw [qw5,qw2 h]
 rw [e]
 refine qxq (fun w hw=>?_) (by rw [←e,List.length_append];exact h1) (by rw [List.length_append];exact h2)
 rw [List.mem_append] at hw
 rcases hw with hw | hw
 · exact qxm w hw
 · exact hn w hw
theorem qxo {s:List UInt8} (h:V0 (s++[10])=0) (h1:(qaw (s++[10])).length=1):∀ b∈s,b≠10:=by
 obtain ⟨w,hw⟩:=List.length_eq_one_iff.1 h1
 have ht:=qw2 h
 rw [hw] at ht
 have hn:=qxm (s:=s++[10]) w (by rw [hw];simp)
 have e:qwq [w]=w++[10]:=by simp [qwq]
 rw [e] at ht
 have:w=s:=List.append_cancel_right ht
 rw [←this];exact hn
theorem qwH:jc qdE=0∧zd qdE=⟨5,[],[],0⟩:=by decide
theorem qwX:jc VX=0∧zd VX=⟨6,[],[],0⟩:=by decide
theorem qw4 {q:Pl} {s:List UInt8}:∃ e,(Ql q s).errs=q.errs++[e]∧(jc s≠0→e=jc s)∧(e≠0→qX (Ql q s)=qX q):=by
 unfold Ql
 by_cases c1:jc s=0
 case neg=>rw [if_pos c1];exact ⟨_,rfl,fun _=>rfl,fun _=>rfl⟩
 rw [if_neg (by simpa using c1)]
 split
 · exact ⟨5,rfl,fun h=>absurd c1 h,fun _=>rfl⟩
 · split
   · exact ⟨0,rfl,fun h=>absurd c1 h,fun h=>absurd rfl h⟩
   · split
     · exact ⟨0,rfl,fun h=>absurd c1 h,fun h=>absurd rfl h⟩
     · split
       · exact ⟨0,rfl,fun h=>absurd c1 h,fun h=>absurd rfl h⟩
       · exact ⟨_,rfl,fun h=>absurd c1 h,fun _=>rfl⟩
theorem qxe {n:Nat} {q:Pl} {s:List UInt8} (hv:PlV n q) (h:(Ql q s).errs=q.errs++[0]) (h5:(zd s).kind≠5) (h6:(zd s).kind≠6):qX (Ql (Ql q s) qdE)=qX q∧(Ql (Ql q s) qdE).errs=q.errs++[0,0]:=by
 have ha:=hv.at'
 unfold Ql at h
 by_cases c1:jc s=0
 case neg =>
  rw [if_pos c1] at h
  simp only [List.append_cancel_left_eq,List.cons.injEq,and_true] at h
  exact absurd h c1
 rw [if_neg (by simpa using c1),if_neg (by omega),if_neg h5,if_neg h6] at h
 split at h
 case isFalse c5 =>
  simp only [List.append_cancel_left_eq,List.cons.injEq,and_true] at h
  exact absurd h c5
 rename_i c5
 have e:Ql q s=⟨q.ds.take q.at'++[(zi (qX q) (zd s)).1],q.kept.take q.at'++[s],q.at'+1,q.errs++[0]⟩:=by
  conv=>lhs;unfold Ql
  rw [if_neg (by simpa using c1),if_neg (by omega),if_neg h5,if_neg h6,if_pos c5]
 rw [e]
 obtain ⟨b1,b2⟩:=qwH
 unfold Ql
 rw [if_neg (by simpa using b1),b2,if_neg (by simp),if_pos rfl]
 refine ⟨?_,by simp⟩
 show (dy0::(q.ds.take q.at'++[_])).getD (q.at'+1 - 1) dy0=_
 rw [Nat.add_sub_cancel,qeX (by simp;omega),qeW (Nat.le_refl _) ha]
 rfl
theorem qw6 {n:Nat} {q:Pl} (hv:PlV n q):(q.at'=0→(Ql (Ql q qdE) VX).errs=q.errs++[5,(if q.kept.length=0 then 5 else 0)])∧(q.at'≠0→(Ql (Ql q qdE) VX).errs=q.errs++[0,0]∧qX (Ql (Ql q qdE) VX)=qX q):=by
 have ha:=hv.at'
 have hk:=hv.kept
 obtain ⟨b1,b2⟩:=qwH
 obtain ⟨a1,a2⟩:=qwX
 constructor
 · intro h0
   have e:Ql q qdE={ q with errs:=q.errs++[5] }:=by
    unfold Ql
    rw [if_neg (by simpa using b1),b2,if_pos (.inl ⟨rfl,h0⟩)]
   rw [e]
   unfold Ql
   rw [if_neg (by simpa using a1),a2]
   by_cases hz:q.kept.length=0
   · rw [if_pos (.inr ⟨rfl,by show q.at'=q.kept.length;omega⟩),if_pos hz];simp
   · rw [if_neg (by rintro (⟨h,_⟩ | ⟨_,h⟩);cases h;exact hz (by have h:q.at'=q.kept.length:=h;show q.kept.length=0;omega)),if_neg (by simp),if_pos rfl,if_neg hz];simp
 · intro h0
   have e:Ql q qdE={ q with at':=q.at' - 1,errs:=q.errs++[0] }:=by
    unfold Ql
    rw [if_neg (by simpa using b1),b2,if_neg (by rintro (⟨_,h⟩ | ⟨h,_⟩);exact h0 h;cases h),if_pos rfl]
   rw [e]
   unfold Ql
   rw [if_neg (by simpa using a1),a2,if_neg (by rintro (⟨h,_⟩ | ⟨_,h⟩);cases h;have h:q.at' - 1=q.kept.length:=h;omega),if_neg (by simp),if_pos rfl]
   refine ⟨by simp,?_⟩
   show (dy0::q.ds).getD (q.at' - 1+1) dy0=(dy0::q.ds).getD q.at' dy0
   rw [show q.at' - 1+1=q.at' by omega]
end Go.AM
