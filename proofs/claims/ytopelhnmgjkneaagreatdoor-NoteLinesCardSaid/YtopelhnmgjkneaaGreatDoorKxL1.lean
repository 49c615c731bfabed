/-
  KxL1: texts joined: Nt4 Nt5. Own work.
-/
import Derived.Test.YtopelhnmgjkneaaGreatDoorKn7
set_option linter.all false
set_option linter.unusedSimpArgs false
set_option linter.unusedVariables false
set_option linter.unusedSectionVars false

namespace Go.AM
open Go.RowKit
section
variable {α:Type} {f:α→List AV} {sz:Nat} {P:Program} {hp:List HObj} {K:AV→List (Nat × HObj)→Prop}
end
section
variable {K:AV→List (Nat × HObj)→Prop}
end
theorem AccG.line {H x n} {ws:List Wd} {k z e:Int} {nm:List UInt8} (h:AccG H x 3 n (fl wdC ws)) (hn:n=ws.length):qi7 (.tup [LnV ⟨k,nm,ws,z⟩,I e]) (.tup [.agg [I k,S nm,x,I z],I e]) H:=by
 subst hn
 obtain ⟨ids,h1,_⟩:=h.pur
 rcases h with ⟨rfl,h0,_⟩ | ⟨id,rfl,_⟩
 · obtain rfl : ws = [] := List.eq_nil_of_length_eq_zero h0
   refine qG (r' := .tup [.agg [I k,S nm,.sl true 0 [],I z],I e]) (is:=[]) rfl ?_
   exact .tupL (.cons (.aggL (.cons (.refl _) (.cons (.refl _) (.cons .slf (.cons (.refl _) .nil))))) (.cons (.refl _) .nil))
 · have h2 : ze (hpf H) (.ms id 0 ws.length 3) = some (.sl (decide (ws.length = 0)) ws.length (fl wdC ws),ids) := h1
   refine qG (r' := .tup [.agg [I k,S nm,.sl (decide (ws.length=0)) ws.length (fl wdC ws),I z],I e]) (is:=ids) ?_ ?_
   · simp only [qU,Qq,zu,QT,h2]
     simp [ze]
   · exact .tupL (.cons (.aggL (.cons (.refl _) (.cons (.refl _) (.cons .slf (.cons (.refl _) .nil))))) (.cons (.refl _) .nil))
theorem qw9 {w:Wd} (h:WdI w):(qjf w).length≤100030:=by
 unfold qjf
 have h1:(if w.2.1=[] then [UInt8.ofNat w.1.toNat] else w.2.1).length≤100001:=by
  split
  · simp
  · have:=h.2.2;omega
 have h2:(if w.2.2=1 then ([]:List UInt8) else 42::X0 (max 0 w.2.2).toNat).length≤20:=by
  split
  · simp
  · have := j8 18 (max 0 w.2.2).toNat (by have := h.2.1; unfold i64 at this; have e : (10 : Nat) ^ (18 + 1) = 10000000000000000000 := (by decide); omega)
    simp;omega
 rw [List.length_append];omega
end Go.AM
