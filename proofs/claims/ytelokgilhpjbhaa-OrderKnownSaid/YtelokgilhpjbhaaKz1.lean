/-
  Kz1: texts joined: Rd. Own work.
-/
import Derived.Test.YtelokgilhpjbhaaKk5
import Derived.WalkKit
import Derived.ProofKit
import Derived.OpenShut
import Derived.ChangeOld
import Derived.Below
import Derived.Deep.Slices

set_option linter.unusedSimpArgs false
set_option linter.unusedVariables false
namespace Go.AM
open Go.RowKit
def gAll (w : World) : G := ⟨fun b o => ∃ v, w.cell? ⟨b, o, none⟩ = some v, fun _ => none⟩
theorem heapOK_all (w : World) : HeapOK (fun _ => none) (gAll w) w :=
  ⟨fun _ _ => rfl, fun _ _ h => (by cases h), fun _ _ _ _ _ _ _ h => (by cases h), fun _ _ h => h⟩
section
variable {P : Program} {w : World} {t e : TypeId}
theorem calls_true {f : FuncId} {xs : List AV} {vs : Array Value} (h : PureOK P f xs (B true)) (hn : vs.size = xs.length) (hr : ∀ i (h : i < xs.length), Rep w (gAll w) true xs[i] (vs.getD i undef)) :
    Calls P f vs w fun e w' => e = .returned (.bool true) ∧ Below w.heap.size w w' := by
  have h1 := h none 0 w (gAll w) vs (heapOK_all w) hn hr
  have h2 : CallsIn Fence.wide 0 P f vs w _ := h1
  refine (callsIn_wide.1 h2).mono fun e w' ⟨v, g', e1, e2, e3, e4⟩ => ?_
  subst e1
  have ev : v = .bool true := by cases e2; rfl
  subst ev
  refine ⟨rfl, e4.tr.os, e4.tr.tape, e4.tr.output, e4.tr.size, fun k hk => e4.keep k hk ?_⟩
  rintro ⟨id, o, d, ho, _⟩
  cases ho
end
end Go.AM
