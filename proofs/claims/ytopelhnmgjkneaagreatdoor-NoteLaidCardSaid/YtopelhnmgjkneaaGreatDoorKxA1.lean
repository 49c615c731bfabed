/-
  KxA1: texts joined: RdN Nt24 Nt25. Own work.
-/
import Derived.Test.YtopelhnmgjkneaaGreatDoorKn7
import Derived.WalkKit
import Derived.ProofKit
import Derived.OpenShut
import Derived.ChangeOld
import Derived.Below
import Derived.Deep.Slices
set_option linter.all false
set_option linter.unusedSimpArgs false
set_option linter.unusedVariables false
set_option linter.unusedSectionVars false

namespace Go.AM
open Go.RowKit
section
variable {P:Program} {w:World} {t e:TypeId}
theorem qxd {sz n : Nat} {Q : List AV → Prop} (ht : P.underlying t = some (.array n e)) (hc : P.cellsOf t = n * sz) (hz : P.cellsOf e = sz) (h0 : 0 < sz) (he : RdT P w e Q) :
 RdT P w t fun zs=>∃ els:List (List AV),els.length=n∧(∀ x∈els,x.length=sz∧Q x)∧zs=els.flatten:=by
 intro H enc fuel cs x hx
 obtain ⟨xs,m,_,rfl,hl,hn,hel⟩:=DataW.trod_array ht hx
 rw [hz] at hel
 have hel' : ∀ i,i < n → ∃ zs : List AV,zs.length = sz ∧ Q zs ∧ ∀ j (h : j < zs.length),Rep w (qja w) true zs[j] (cs.getD (i * sz + j) undef) := fun i hi => by
  have h1:=hel i hi
  rw [List.getElem?_eq_getElem (by omega)] at h1
  obtain ⟨zs,k1,k2,k3,k4⟩:=he H enc _ _ _ h1
  have hbound:i*sz+sz≤cs.length:=by rw [hl,hc,←Nat.succ_mul];exact Nat.mul_le_mul_right _ hi
  refine ⟨zs,by omega,k3,fun j hj=>?_⟩
  have:=k4 j hj
  have hj':j<sz:=by omega
  simpa [List.getD,List.getElem?_take,List.getElem?_drop,hj'] using this
 obtain ⟨els,q1,q2⟩:=Y8 hel'
 have hlen : ∀ x ∈ els,x.length = sz := fun x hx => by
  obtain ⟨i,hi,rfl⟩:=List.getElem_of_mem hx
  exact (q2 i hi).1
 have fl:=X6 hlen
 refine ⟨els.flatten,by rw [fl,q1,hl,hc],hl,⟨els,q1,fun x hx=>?_,rfl⟩,fun i hi=>?_⟩
 · obtain ⟨i,hi,rfl⟩ := List.getElem_of_mem hx
   exact ⟨(q2 i hi).1,(q2 i hi).2.1⟩
 · rw [fl,q1] at hi
   have hd:i / sz<n:=by rw [Nat.div_lt_iff_lt_mul h0];exact hi
   have hmo:i % sz<sz:=Nat.mod_lt _ h0
   obtain ⟨r1,r2,r3⟩:=q2 (i / sz) (by omega)
   have h1:=r3 (i % sz) (by omega)
   have e1:i / sz*sz+i % sz=i:=by rw [Nat.mul_comm];exact Nat.div_add_mod i sz
   rw [e1] at h1
   have h2 : els.flatten[i]? = some ((els[i / sz]'(by omega))[i % sz]'(by omega)) := by
    rw [X5 hlen]
    simp [show i / sz<els.length by omega,show i % sz<(els[i / sz]'(by omega)).length by omega]
   rw [List.getElem?_eq_getElem (by rw [fl,q1];exact hi)] at h2
   rw [Option.some.inj h2]
   exact h1
end
def qwr (l:List (List UInt8)):List UInt8:=l.flatMap fun w=>w++[10]
theorem qwG {w:List UInt8} {l:List (List UInt8)}:qwr (w::l)=w++10::qwr l:=by
 unfold qwr;rw [List.flatMap_cons];simp
theorem qwu : ∀ {l : List (List UInt8)},(∀ w ∈ l,∀ b ∈ w,b ≠ 10) → qM 10 (qwr l) = l ++ [[]]
 | [],_=>rfl
 | w::l,h=>by
   rw [qwG,qfs (h w (by simp)),qwu fun x hx=>h x (by simp [hx])];rfl
theorem qwx {a b:List (List UInt8)}:qwr (a++b)=qwr a++qwr b:=by
 unfold qwr;rw [List.flatMap_append]
theorem qw0 {l:List (List UInt8)}:qpi (qwr l)=false:=by
 rcases List.eq_nil_or_concat l with rfl | ⟨m,w,rfl⟩
 · rfl
 · rw [List.concat_eq_append,qwx]
   have:qwr [w]=w++[10]:=by simp [qwr]
   rw [this,←List.append_assoc]
   unfold qpi
   rw [List.getLast?_concat];rfl
theorem qxq {l:List (List UInt8)} (h:∀ w∈l,∀ b∈w,b≠10) (h1:(qwr l).length≤65536) (h2:l.length≤400):V0 (qwr l)=0∧qaw (qwr l)=l:=by
 have hE:V0 (qwr l)=0:=by
  unfold V0
  rw [if_neg (by omega),qw0,qwu h,List.dropLast_concat]
  simp;omega
 refine ⟨hE,?_⟩
 unfold qaw
 rw [if_pos hE,qwu h,List.dropLast_concat]
theorem qw2 {l:List (List UInt8)} {s:List UInt8}:jQ (l++[s])=Ql (jQ l) s:=by
 unfold jQ;rw [List.foldl_append];rfl
end Go.AM
