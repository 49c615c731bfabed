/-
  KxJo1: texts joined: Gn1 To1. Own work.
-/
import Derived.Test.YtelokgilhpjbhaaGreatKc5
import Derived.ChangeKeysEq
import Derived.Laws.StructEq

set_option linter.unusedSimpArgs false
set_option linter.unusedVariables false
namespace Go.AM
open Go.RowKit
theorem range_all_succ {p : Nat → Bool} (n : Nat) : (List.range (n + 1)).all p = ((List.range n).all p && p n) := by
  simp [List.range_succ, List.all_append]
section
variable {hp : List HObj} {K : AV → List (Nat × HObj) → Prop}
end
variable {P : Program}
variable {P : Program}
section
variable {K : AV → List (Nat × HObj) → Prop}
end
end Go.AM

set_option linter.unusedSimpArgs false
set_option linter.unusedVariables false
namespace Go.AM
open Go.RowKit
theorem aft_get {s r : List Int} {i : Nat} (h : i < (aft s r).length) : (aft s r)[i] = r.getD (s[i]'(by simpa [aft] using h)).toNat 0 := by simp [aft]
end Go.AM
