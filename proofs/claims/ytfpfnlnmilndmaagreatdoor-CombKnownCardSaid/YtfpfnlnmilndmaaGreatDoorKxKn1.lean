/-
  KxKn1: texts joined: Mp2. Own work.
-/
import Derived.Test.YtfpfnlnmilndmaaGreatDoorKc6
set_option linter.unusedSimpArgs false
set_option linter.unusedVariables false

namespace Go.AM
open Go.RowKit
abbrev ksR (n : Nat) : KS := (true,List.replicate n .int)
theorem eqLeaves_row : ∀ {l m : List Int},l.length = m.length → eqLeaves (List.replicate l.length .int) (l.map fun n => Value.int .i64 n) (m.map fun n => Value.int .i64 n) = some (decide (l = m))
 | [],[],_ => by simp [eqLeaves]
 | [],y :: m,h => by simp at h
 | x :: l,[],h => by simp at h
 | x :: l, y :: m, h => by
   have ih := eqLeaves_row (l := l) (m := m) (by simpa using h)
   simp only [List.map_cons,List.length_cons,List.replicate_succ,eqLeaves,eqLeaf,if_true]
   by_cases e : x = y
   · subst e
     simp only [beq_self_eq_true,ih,List.cons.injEq,true_and]
   · have : (x == y) = false := by simp [e]
     rw [this]; simp [e]
theorem eqK_row {n : Nat} {l m : List Int} (hl : l.length = n) (hm : m.length = n) : eqK (ksR n) (rowV l) (rowV m) = some (decide (l = m)) := by
 subst hl
 simp only [eqK,rowV]
 exact eqLeaves_row hm.symm
section
variable {P : Program} {E : HE} {fr : List (Nat × AV)} {hp : List HObj} {F : Nat → AV} {os : List AOp} {KS : St → Prop} {K : AV → List (Nat × HObj) → Prop}
end
end Go.AM
