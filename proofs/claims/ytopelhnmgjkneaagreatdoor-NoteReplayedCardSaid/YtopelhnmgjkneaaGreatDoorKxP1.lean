/-
  KxP1: texts joined: Nt10 Nt23 Nt24. Own work.
-/
import Derived.Test.YtopelhnmgjkneaaGreatDoorKn7
set_option linter.all false
set_option linter.unusedSimpArgs false
set_option linter.unusedVariables false
set_option linter.unusedSectionVars false

namespace Go.AM
open Go.RowKit
theorem qwU {s:List UInt8} (h:s.length - 1<s.length):qpi s=decide (s[s.length - 1]≠10):=by
 unfold qpi
 rw [List.getLast?_eq_getElem?,List.getElem?_eq_getElem h]
def qwH (c : UInt8) : List (List UInt8) → List UInt8
 | []=>[]
 | [x]=>x
 | x::y::l=>x++c::qwH c (y::l)
theorem qwB (c : UInt8) : ∀ s : List UInt8,qwH c (qM c s) = s
 | []=>rfl
 | b::r=>by
   have ih:=qwB c r
   unfold qM
   by_cases hb:b=c
   · rw [if_pos hb]
     cases hs:qM c r with
     | nil=>exact absurd hs (Jz c r)
     | cons x xs =>
       rw [hs] at ih
       show []++c::qwH c (x::xs)=_
       rw [ih,hb];rfl
   · rw [if_neg hb]
     cases hs:qM c r with
     | nil=>exact absurd hs (Jz c r)
     | cons x xs =>
       rw [hs] at ih
       cases xs with
       | nil =>
         have ih:x=r:=ih
         show b::x=b::r
         rw [ih]
       | cons y ys =>
         have ih:x++c::qwH c (y::ys)=r:=ih
         show b::x++c::qwH c (y::ys)=b::r
         rw [←ih];rfl
theorem qwD (c : UInt8) : ∀ {s : List UInt8},∀ w ∈ qM c s,∀ b ∈ w,b ≠ c
 | [],w,hw,b,hb=>by simp [qM] at hw;subst hw;cases hb
 | x::r, w, hw, b, hb=>by
   have ih:=fun w hw=>qwD c (s:=r) w hw
   unfold qM at hw
   by_cases hx:x=c
   · rw [if_pos hx] at hw
     rcases List.mem_cons.1 hw with rfl | hw
     · cases hb
     · exact ih w hw b hb
   · rw [if_neg hx] at hw
     cases hs:qM c r with
     | nil=>exact absurd hs (Jz c r)
     | cons y ys =>
       rw [hs] at hw ih
       rcases List.mem_cons.1 hw with rfl | hw
       · rcases List.mem_cons.1 hb with rfl | hb
         · exact hx
         · exact ih y (by simp) b hb
       · exact ih w (by simp [hw]) b hb
def qwq (l:List (List UInt8)):List UInt8:=l.flatMap fun w=>w++[10]
theorem qwu {w:List UInt8} {l:List (List UInt8)}:qwq (w::l)=w++10::qwq l:=by
 unfold qwq;rw [List.flatMap_cons];simp
theorem qwy : ∀ {l : List (List UInt8)},(∀ w ∈ l,∀ b ∈ w,b ≠ 10) → qM 10 (qwq l) = l ++ [[]]
 | [],_=>rfl
 | w::l,h=>by
   rw [qwu,qfs (h w (by simp)),qwy fun x hx=>h x (by simp [hx])];rfl
theorem qwA {a b:List (List UInt8)}:qwq (a++b)=qwq a++qwq b:=by
 unfold qwq;rw [List.flatMap_append]
theorem qwF : ∀ {l : List (List UInt8)} {x : List UInt8},qwH 10 (l ++ [x]) = qwq l ++ x
 | [],x=>rfl
 | [w],x=>by
   show w++10::x=_
   simp [qwq]
 | w::v::l,x=>by
   show w++10::qwH 10 ((v::l)++[x])=_
   rw [qwF,qwu,qwu];simp [qwu]
theorem qwV {s:List UInt8} (h:qpi s=false):qM 10 s=(qM 10 s).dropLast++[[]]∧qwq (qM 10 s).dropLast=s:=by
 have hne:=Jz 10 s
 obtain ⟨l,x,hl⟩:∃ l x,qM 10 s=l++[x]:=⟨(qM 10 s).dropLast,(qM 10 s).getLast hne,(List.dropLast_concat_getLast hne).symm⟩
 have hj:=qwB 10 s
 rw [hl,qwF] at hj
 have hx:x=[]:=by
  rcases List.eq_nil_or_concat x with h0 | ⟨y,b,rfl⟩
  · exact h0
  · exfalso
    rw [List.concat_eq_append] at *
    have hb:=qwD 10 (s:=s) (y++[b]) (by rw [hl];simp) b (by simp)
    rw [←hj,←List.append_assoc] at h
    unfold qpi at h
    rw [List.getLast?_concat] at h
    simp only [decide_eq_false_iff_not,Decidable.not_not] at h
    exact hb h
 subst hx
 rw [hl,List.dropLast_concat]
 rw [List.append_nil] at hj
 exact ⟨rfl,hj⟩
theorem qwT {s:List UInt8} (h:V0 s=0):qwq (qaw s)=s:=by
 unfold qaw
 rw [if_pos h]
 unfold V0 at h
 split at h
 · cases h
 · split at h
   · cases h
   · rename_i h2
     exact (qwV (by simpa using h2)).2
theorem qwY {s:List UInt8}:∀ w∈qaw s,∀ b∈w,b≠10:=by
 intro w hw
 unfold qaw at hw
 split at hw
 · exact qwD 10 w (List.dropLast_subset _ hw)
 · cases hw
theorem qwO {l:List (List UInt8)}:qpi (qwq l)=false:=by
 rcases List.eq_nil_or_concat l with rfl | ⟨m,w,rfl⟩
 · rfl
 · rw [List.concat_eq_append,qwA]
   have:qwq [w]=w++[10]:=by simp [qwq]
   rw [this,←List.append_assoc]
   unfold qpi
   rw [List.getLast?_concat];rfl
theorem qwZ {l:List (List UInt8)} (h:∀ w∈l,∀ b∈w,b≠10) (h1:(qwq l).length≤65536) (h2:l.length≤400):V0 (qwq l)=0∧qaw (qwq l)=l:=by
 have hE:V0 (qwq l)=0:=by
  unfold V0
  rw [if_neg (by omega),qwO,qwy h,List.dropLast_concat]
  simp;omega
 refine ⟨hE,?_⟩
 unfold qaw
 rw [if_pos hE,qwy h,List.dropLast_concat]
theorem qwz {l:List (List UInt8)} {i:Nat}:(qwq (l.take i)).length≤(qwq l).length:=by
 conv=>rhs;rw [←List.take_append_drop i l,qwA,List.length_append]
 omega
theorem qw0 {n:Nat} {q:Pl} (h:PlR q) (hv:PlV n q):∀ i,i≤q.ds.length→jQ (q.kept.take i)=⟨q.ds.take i,q.kept.take i,i,List.replicate i 0⟩:=by
 have hk:=hv.kept
 intro i
 induction i with
 | zero=>intro _;simp [jQ,pl0]
 | succ i ih =>
   intro hi
   have ih:=ih (by omega)
   have hi1:i<q.ds.length:=by omega
   have hi2:i<q.kept.length:=by omega
   obtain ⟨⟨a1,a2⟩,a3⟩:=h i hi1 hi2
   rw [Yy hi2,ih]
   have hd:qX ⟨q.ds.take i,q.kept.take i,i,List.replicate i 0⟩=(dy0::q.ds).getD i dy0:=qeW (Nat.le_refl _) (by omega)
   unfold Ql
   rw [if_neg (by simpa using a1),if_neg (by omega),if_neg (by omega),if_neg (by omega),hd,a3,if_pos rfl]
   simp only [List.take_take,Nat.min_self]
   rw [List.take_succ_eq_append_getElem hi1,List.take_succ_eq_append_getElem hi2,List.replicate_succ']
theorem qwS {l:List (List UInt8)}:∀ i,i≤l.length→(qwq (jQ (l.take i)).kept).length≤(qwq (l.take i)).length∧∀ w∈(jQ (l.take i)).kept,w∈l:=by
 intro i
 induction i with
 | zero=>intro _;exact ⟨Nat.le_refl _,fun w hw=>by simp [jQ,pl0] at hw⟩
 | succ i ih =>
   intro hi
   obtain ⟨ih1,ih2⟩:=ih (by omega)
   have hlt:i<l.length:=by omega
   rw [Yy hlt,List.take_succ_eq_append_getElem hlt,qwA,List.length_append]
   generalize jQ (l.take i)=q at *
   have same:(qwq q.kept).length≤(qwq (l.take i)).length+(qwq [l[i]]).length∧∀ w∈q.kept,w∈l:=⟨by omega,ih2⟩
   unfold Ql
   split
   · exact same
   · split
     · exact same
     · split
       · exact same
       · split
         · exact same
         · split
           · simp only
             rw [qwA,List.length_append]
             have:=qwz (l:=q.kept) (i:=q.at')
             refine ⟨by omega,fun w hw=>?_⟩
             rw [List.mem_append] at hw
             rcases hw with hw | hw
             · exact ih2 w (List.mem_of_mem_take hw)
             · simp at hw;subst hw;exact List.getElem_mem hlt
           · exact same
end Go.AM
