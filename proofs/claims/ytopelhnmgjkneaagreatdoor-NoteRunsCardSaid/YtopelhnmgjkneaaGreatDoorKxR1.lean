/-
  KxR1: texts joined: Gn1 Nw1 Nt4 Nt10. Own work.
-/
import Derived.Test.YtopelhnmgjkneaaGreatDoorKm7
import Derived.ChangeKeysEq
import Derived.Laws.StructEq
set_option linter.all false
set_option linter.unusedSimpArgs false
set_option linter.unusedVariables false
set_option linter.unusedSectionVars false

namespace Go.AM
open Go.RowKit
theorem qxl {α:Type} {p:α→Bool} {l:List α} (hn:∀ k (hk:k<l.length),p l[k]=false):qiy p l = -1:=by
 have : l.findIdx? p = none := List.findIdx?_eq_none_iff.2 fun x hx => by
  obtain ⟨k,hk,rfl⟩:=List.getElem_of_mem hx
  exact hn k hk
 simp [qiy,this]
section
variable {hp:List HObj} {K:AV→List (Nat × HObj)→Prop}
end
theorem qwz {hp : List HObj} {K : AV → List (Nat × HObj) → Prop} {sz b : Nat} {x : AV} {id off n : Nat} {cs : List AV} (h : qr hp id = some (.cells cs)) (hl : off + n * sz ≤ cs.length) :
 qnk hp sz b x (.ms id off n sz) K=qnk hp sz b x (.sl false n (zT cs off (n*sz))) K:=by
 have e1:ZO (hpf hp) sz (.ms id off n sz)=some (n,zT cs off (n*sz)):=by
  simp only [ZO,zh,h]
  rw [if_pos ⟨trivial,hl⟩]
 have e2:ZO (hpf hp) sz (.sl false n (zT cs off (n*sz)))=some (n,zT cs off (n*sz)):=by
  simp only [ZO]
  rw [if_pos (by simp only [zT,List.length_take,List.length_drop];omega)]
 unfold qnk
 rw [e1,e2]
variable {P:Program}
variable {P:Program}
section
variable {K:AV→List (Nat × HObj)→Prop}
end
end Go.AM

namespace Go.AM
open Go.RowKit
theorem qxc {P:Program} {f:FuncId} {xs ys zs:List AV} {hp:List HObj} {ids:List Nat} {r:AV} {K:AV→List (Nat × HObj)→Prop} (h1:qE (hpf hp) xs=some (ys,ids)) (k:WkL ys zs) (h2:qC P f zs r) (h3:K r (bif r.scalar then [] else zB ids)):qnZ P f xs hp K :=
 qQ h1 (qmX h2 k) h3
section
variable {α:Type} {f:α→List AV} {sz:Nat} {P:Program} {hp:List HObj} {K:AV→List (Nat × HObj)→Prop}
end
section
variable {K:AV→List (Nat × HObj)→Prop}
end
theorem AccG.line {H x n} {ws:List Wd} {k z e:Int} {nm:List UInt8} (h:AccG H x 3 n (fl wdC ws)) (hn:n=ws.length):qi7 (.tup [LnV ⟨k,nm,ws,z⟩,I e]) (.tup [.agg [I k,S nm,x,I z],I e]) H:=by
 subst hn
 obtain ⟨ids,h1,_⟩:=h.pur
 rcases h with ⟨rfl,h0,_⟩ | ⟨id,rfl,_⟩
 · obtain rfl : ws = [] := List.eq_nil_of_length_eq_zero h0
   refine qG (r' := .tup [.agg [I k,S nm,.sl true 0 [],I z],I e]) (is:=[]) rfl ?_
   exact .tupL (.cons (.aggL (.cons (.refl _) (.cons (.refl _) (.cons .slf (.cons (.refl _) .nil))))) (.cons (.refl _) .nil))
 · have h2 : ze (hpf H) (.ms id 0 ws.length 3) = some (.sl (decide (ws.length = 0)) ws.length (fl wdC ws),ids) := h1
   refine qG (r' := .tup [.agg [I k,S nm,.sl (decide (ws.length=0)) ws.length (fl wdC ws),I z],I e]) (is:=ids) ?_ ?_
   · simp only [qU,Qq,zu,QT,h2]
     simp [ze]
   · exact .tupL (.cons (.aggL (.cons (.refl _) (.cons (.refl _) (.cons .slf (.cons (.refl _) .nil))))) (.cons (.refl _) .nil))
theorem qxw {s:List UInt8} (h:s.length - 1<s.length):qpi s=decide (s[s.length - 1]≠10):=by
 unfold qpi
 rw [List.getLast?_eq_getElem?,List.getElem?_eq_getElem h]
end Go.AM
