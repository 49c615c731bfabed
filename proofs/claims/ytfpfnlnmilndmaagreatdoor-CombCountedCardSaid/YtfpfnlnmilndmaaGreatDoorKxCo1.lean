/-
  KxCo1: texts joined: Gn1. Own work.
-/
import Derived.Test.YtfpfnlnmilndmaaGreatDoorKc6
import Derived.ChangeKeysEq
import Derived.Laws.StructEq
set_option linter.unusedSimpArgs false
set_option linter.unusedVariables false

namespace Go.AM
open Go.RowKit
theorem Small.erase {l : List Int} (h : Small l) (i : Nat) : Small (l.eraseIdx i) := fun x hx => h x (List.mem_of_mem_eraseIdx hx)
section
variable {hp : List HObj} {K : AV → List (Nat × HObj) → Prop}
end
variable {P : Program}
variable {P : Program}
section
variable {K : AV → List (Nat × HObj) → Prop}
end
end Go.AM
