/-
  KxBk1: texts joined: Gn1 To5. Own work.
-/
import Derived.Test.YtelokgilhpjbhaaGreatKc5
import Derived.ChangeKeysEq
import Derived.Laws.StructEq

set_option linter.unusedSimpArgs false
set_option linter.unusedVariables false
namespace Go.AM
open Go.RowKit
theorem range_all_succ {p : Nat → Bool} (n : Nat) : (List.range (n + 1)).all p = ((List.range n).all p && p n) := by
  simp [List.range_succ, List.all_append]
section
variable {hp : List HObj} {K : AV → List (Nat × HObj) → Prop}
end
theorem le_freeze {fr fr' : List (Nat × AV)} {hp : List HObj} {ids : List Nat} (h : Fzn hp ids fr fr') (hids : ∀ i ∈ ids, ∃ cs, hpf hp i = some (.cells cs)) : St.le ⟨fr, hp⟩ ⟨fr', writeL hp (gones ids)⟩ := by
  rintro N a w g ⟨h1, hF, hok⟩
  obtain ⟨hokA, updA⟩ := hok.giveAll ids hids
  have e : hpf (writeL hp (gones ids)) = Hp.write (hpf hp) (gones ids) := hpf_write fun p hp => by
    simp only [gones, List.mem_map] at hp
    obtain ⟨i, hi, rfl⟩ := hp
    obtain ⟨cs, hcs⟩ := hids i hi
    exact Nat.le_of_lt (hpf_lt hcs)
  refine ⟨_, ⟨h1, ?_, by rw [e]; exact hokA⟩, by rw [e]; exact updA⟩
  intro t
  rcases h t with h | ⟨is, h, hs⟩
  · show Rep _ _ _ (get fr' t) _
    rw [h]; exact (hF t).mono updA.tr
  · exact (purify_rep hok h hs (hF t)).of
variable {P : Program}
variable {P : Program}
section
variable {K : AV → List (Nat × HObj) → Prop}
end
end Go.AM

set_option linter.unusedSimpArgs false
set_option linter.unusedVariables false
namespace Go.AM
open Go.RowKit
theorem wI_nat {w : List Nat} : (wI w).map Int.toNat = w := by
  unfold wI
  rw [List.map_map]
  conv => rhs; rw [← List.map_id w]
  exact List.map_congr_left fun x _ => rfl
section
variable {S : List (List Int)} {r : List Int} {i s : Nat} {R : List (List Int)} {F M : List Nat} {L : List (List Nat)} {G : List (List (List Nat))}
end
end Go.AM
