/-
  KxF1: texts joined: St1 Nw1. Own work.
-/
import Derived.Test.YtopelhnmgjkneaaGreatDoorKn7
import Derived.Laws.Strings
set_option linter.all false
set_option linter.unusedSimpArgs false
set_option linter.unusedVariables false
set_option linter.unusedSectionVars false

namespace Go.AM
open Go.RowKit
section
variable {P:Program} {E:HE} {fr:List (Nat × AV)} {hp:List HObj} {F:Nat→AV} {os:List AOp} {KS:St→Prop} {KD:St→Tr→Prop} {tr:Tr} {K:AV→List (Nat × HObj)→Prop}
theorem qwZ (l:List UInt8) (n:Nat):(qw l).drop n=qw (l.drop n):=by simp [qw]
end
theorem qw5 {P:Program} {f:FuncId} {xs:List AV} {r r':AV} (h:qC P f xs r) (k:Wk r r'):qC P f xs r':=fun ro n w g vs h1 h2 h3 =>
 (h ro n w g vs h1 h2 h3).mono fun e w' ⟨v,g',e1,e2,e3⟩=>⟨v,g',e1,k.rep e2,e3⟩
end Go.AM
