/-
  Px4: Cv4. Own work.
-/
import Derived.Test.YtlahcgdnieenpaaGreatDoorPx2
import Derived.Test.YtlahcgdnieenpaaGreatDoorPx3

set_option linter.all false
set_option maxRecDepth 100000
namespace Go.Proofs.YtlahcgdnieenpaaGreatDoor.Facts
open Go Go.AM Go.Proofs.Tryz
variable {i f:Nat}
theorem QB {f:Nat->Bool} {a n:Nat} (h:(List.range' a n).all f=true) {t:Nat} (u:a<=t) (v:t<a+n):f t=true:=LL.1 h t (List.mem_range'_1.2 ⟨u,v⟩)
theorem fsz:prog.funcs.size=753:=by kernel_rfl
theorem kf (h:i<753):LY prog i=true:=by
 by_cases q:i<100;· exact QB kf0 (by omega) (by omega)
 by_cases u:i<200;· exact QB qig (by omega) (by omega)
 by_cases v:i<300;· exact QB qih (by omega) (by omega)
 by_cases j:i<400;· exact QB qii (by omega) (by omega)
 by_cases z:i<500;· exact QB qij (by omega) (by omega)
 by_cases y:i<600;· exact QB qik (by omega) (by omega)
 by_cases o:i<700;· exact QB qil (by omega) (by omega)
 exact QB qim (by omega) (by omega)
theorem kg (q:2<=i) (h:i<732):Fk prog i=true:=by
 by_cases g:i<100;· exact QB kg0 (by omega) (by omega)
 by_cases u:i<200;· exact QB qin (by omega) (by omega)
 by_cases v:i<300;· exact QB qio (by omega) (by omega)
 by_cases j:i<400;· exact QB qip (by omega) (by omega)
 by_cases z:i<500;· exact QB qiq (by omega) (by omega)
 by_cases y:i<600;· exact QB qir (by omega) (by omega)
 by_cases o:i<700;· exact QB qis (by omega) (by omega)
 exact QB qit (by omega) (by omega)
theorem bJ {α:Type} {l:List α} {d:α} (h:l.length<=i):l.getD i d=d:=by rw [qmp,qm1 h];rfl
theorem sq (h:753<=f):nx f=[]:=by
 unfold nx;rcases qmV (f / 28) 27 with u | u
 . have e:f / 28=26:=by omega
   rw [e,bJ (by rw [show (nxT.getD 26 []).length=25 by kernel_rfl];omega)]
 rw [bJ (l:=nxT) (by rw [show nxT.length=27 by kernel_rfl];exact u)];rfl
theorem sj (f:Nat):(prog.funcs[f]?).elim [] prog.leadsTo=nx f:=by
 rcases qmV f 753 with h | h
 . have:=kf h;unfold LY at this;rw [qd,qd] at this;exact qoa this.1.1
 rw [Array.getElem?_eq_none (by rw [fsz];exact h),sq h];rfl
theorem qh3 (h:f<753):((prog.funcs[f]?).bind (·.body)).elim [] Code.globalsNamed=gvT f:=by have:=kf h;unfold LY at this;rw [qd,qd] at this;exact qoa this.1.2
theorem AK (f:Nat):(prog.funcs[f]?).any Func.goes=false:=by
 rcases qmV f 753 with h | h
 . have:=kf h;unfold LY at this;rw [qd,qmZ] at this;exact this.2
 rw [Array.getElem?_eq_none (by rw [fsz];exact h)];rfl
theorem qib (u : 2 ≤ f) (h : f < 732) : ((Tryz.prog.funcs[f]?).bind fun n => if n.ours || n.body.isNone || n.name == "runtime.NumGoroutine" then some n.name else none) = ipT f := by
 have:=kg u h;unfold Fk at this;rw [qd] at this;exact qoa this.1
theorem qhW (u:2<=f) (h:f<732):((prog.funcs[f]?).bind fun n=>if n.body.isNone then entryReads.lookup n.name else none)=none:=by have:=kg u h;unfold Fk at this;rw [qd] at this;exact qoa this.2
theorem Bi:prog.funcs.toList.map prog.leadsTo=(List.range 753).map nx:=by
 refine qpu fun i=>?_;have e:=sj i;rw [qnn,qnn,qo3];rcases qmV i 753 with h | h
 . rw [List.getElem?_range h];cases hq:prog.funcs[i]? with
   | none=>rw [Array.getElem?_eq_none_iff,fsz] at hq;omega
   | some g=>rw [hq] at e;exact qnH some e
 rw [Array.getElem?_eq_none (by rw [fsz];exact h),qm1 (by rw [List.length_range];exact h)];rfl
theorem JM:1+(prog.funcs.toList.map fun g=>(prog.leadsTo g).length+1).sum=2292:=by
 have e:(prog.funcs.toList.map fun g=>(prog.leadsTo g).length+1)=(prog.funcs.toList.map prog.leadsTo).map fun l=>l.length+1:=by rw [qmU];rfl
 rw [e,Bi];show 1+(((List.range 753).map nx).map fun l=>l.length+1).sum=2292
 kernel_rfl
theorem TN {L:List Nat} (h:cvP nx 2292 [f] 0 [] (fun a=>okP (a.reverse==L) True)=True):prog.closure f=L:=by unfold Program.closure;rw [JM];have h:cvP nx 2292 [f] 0 [] (fun a=>okP (a.reverse==L) True):=of_eq_true h;rw [Fv sj _ _ _ _ _ fun g=>by rw [Nat.zero_testBit];rfl] at h;have:=qoa (qt h).1;rwa [qpb] at this
theorem fm:prog.funcs.any Func.goes=false:=by rw [Array.any_eq_false];intro i u h;have:=AK i;rw [qmW u] at this;exact absurd h (by simpa using this)
theorem yH (f:FuncId):prog.goes f=false:=by unfold Program.goes;rw [fm,Bool.and_false,Bool.or_false,List.any_eq_false];exact fun g _=>by rw [AK];exact Bool.false_ne_true
end Go.Proofs.YtlahcgdnieenpaaGreatDoor.Facts
