/-
  KxCo1: texts joined: Am18 Gn1 To1 To5. Own work.
-/
import Derived.Test.YtelokgilhpjbhaaGreatKc5
import Derived.ChangeKeysEq
import Derived.Laws.StructEq

set_option linter.unusedSimpArgs false
set_option linter.unusedVariables false
namespace Go.AM
open Go.RowKit
section
variable {P : Program} {E : HE} {fr : List (Nat × AV)} {hp : List HObj} {F : Nat → AV} {os : List AOp} {KS : St → Prop} {KD : St → Tr → Prop} {tr : Tr} {K : AV → List (Nat × HObj) → Prop}
theorem zrep_zero {z : List AV} : zrep 0 z = [] := rfl
variable {Q : Exit → St → Prop} {x y : AC}
end
end Go.AM

set_option linter.unusedSimpArgs false
set_option linter.unusedVariables false
namespace Go.AM
open Go.RowKit
theorem range_all_succ {p : Nat → Bool} (n : Nat) : (List.range (n + 1)).all p = ((List.range n).all p && p n) := by
  simp [List.range_succ, List.all_append]
section
variable {hp : List HObj} {K : AV → List (Nat × HObj) → Prop}
end
variable {P : Program}
variable {P : Program}
section
variable {K : AV → List (Nat × HObj) → Prop}
end
end Go.AM

set_option linter.unusedSimpArgs false
set_option linter.unusedVariables false
namespace Go.AM
open Go.RowKit
theorem aft_get {s r : List Int} {i : Nat} (h : i < (aft s r).length) : (aft s r)[i] = r.getD (s[i]'(by simpa [aft] using h)).toNat 0 := by simp [aft]
end Go.AM

set_option linter.unusedSimpArgs false
set_option linter.unusedVariables false
namespace Go.AM
open Go.RowKit
theorem wI_nat {w : List Nat} : (wI w).map Int.toNat = w := by
  unfold wI
  rw [List.map_map]
  conv => rhs; rw [← List.map_id w]
  exact List.map_congr_left fun x _ => rfl
section
variable {S : List (List Int)} {r : List Int} {i s : Nat} {R : List (List Int)} {F M : List Nat} {L : List (List Nat)} {G : List (List (List Nat))}
end
end Go.AM
