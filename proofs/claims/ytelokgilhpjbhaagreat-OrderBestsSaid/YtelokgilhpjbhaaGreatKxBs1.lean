/-
  KxBs1: texts joined: Am18 Gn1 To1 Gn2. Own work.
-/
import Derived.Test.YtelokgilhpjbhaaGreatKc5
import Derived.ChangeKeysEq
import Derived.Laws.StructEq

set_option linter.unusedSimpArgs false
set_option linter.unusedVariables false
namespace Go.AM
open Go.RowKit
section
variable {P : Program} {E : HE} {fr : List (Nat × AV)} {hp : List HObj} {F : Nat → AV} {os : List AOp} {KS : St → Prop} {KD : St → Tr → Prop} {tr : Tr} {K : AV → List (Nat × HObj) → Prop}
theorem zrep_zero {z : List AV} : zrep 0 z = [] := rfl
variable {Q : Exit → St → Prop} {x y : AC}
end
end Go.AM

set_option linter.unusedSimpArgs false
set_option linter.unusedVariables false
namespace Go.AM
open Go.RowKit
theorem range_all_succ {p : Nat → Bool} (n : Nat) : (List.range (n + 1)).all p = ((List.range n).all p && p n) := by
  simp [List.range_succ, List.all_append]
section
variable {hp : List HObj} {K : AV → List (Nat × HObj) → Prop}
end
variable {P : Program}
variable {P : Program}
theorem set_c2 {l : List AV} {n : Nat} {v : AV} (h : n < l.length) : l.take n ++ v :: l.drop (n + 1) = l.set n v := by
  rw [List.set_eq_take_append_cons_drop, if_pos h]
section
variable {K : AV → List (Nat × HObj) → Prop}
end
end Go.AM

set_option linter.unusedSimpArgs false
set_option linter.unusedVariables false
namespace Go.AM
open Go.RowKit
theorem aft_get {s r : List Int} {i : Nat} (h : i < (aft s r).length) : (aft s r)[i] = r.getD (s[i]'(by simpa [aft] using h)).toNat 0 := by simp [aft]
end Go.AM

set_option linter.unusedSimpArgs false
set_option linter.unusedVariables false
namespace Go.AM
open Go.RowKit
theorem le_freezeCell {fr fr' : List (Nat × AV)} {hp : List HObj} {id : Nat} {cs cs' : List AV} {is : List Nat} (h1 : nthH hp id = some (.cells cs)) (h2 : purifyL (hpf hp) cs = some (cs', is)) (hid : id ∉ is) (hf : Fzn hp is fr fr') :
    St.le ⟨fr, hp⟩ ⟨fr', writeL hp (gones is ++ [(id, .cells cs')])⟩ := by
  rintro N a w g ⟨k1, hF, hok⟩
  have hids := purifyL_ids h2
  obtain ⟨q1, q2⟩ := freezeCell hok (by rw [nthH_eq] at h1; exact h1) h2 hid hids (purifyL_rep hok h2 fun i h => h)
  have lt : ∀ p ∈ gones is ++ [(id, HObj.cells cs')], p.1 ≤ hp.length := fun p hp' => by
    rw [List.mem_append] at hp'
    rcases hp' with hp' | hp'
    · simp only [gones, List.mem_map] at hp'
      obtain ⟨i, hi, rfl⟩ := hp'
      obtain ⟨cs, hcs⟩ := hids i hi
      exact Nat.le_of_lt (hpf_lt hcs)
    · simp at hp'; subst hp'; exact Nat.le_of_lt (nthH_lt h1)
  have e : hpf (writeL hp (gones is ++ [(id, .cells cs')])) = Hp.set (Hp.write (hpf hp) (gones is)) id (.cells cs') := by
    rw [hpf_write lt, write_end]
  refine ⟨_, ⟨k1, ?_, by rw [e]; exact q1⟩, by rw [e]; exact q2⟩
  intro t
  rcases hf t with h | ⟨js, h, hs⟩
  · show Rep _ _ _ (get fr' t) _
    rw [h]; exact (hF t).mono q2.tr
  · exact (purify_rep hok h hs (hF t)).of
theorem callW_frz {P : Program} {f : FuncId} {xs : List AV} {hp : List HObj} {K : AV → List HObj → Prop} (h : CallW P f xs hp fun x H => ∃ y ids, purify (hpf H) x = some (y, ids) ∧ K y (writeL H (gones ids))) : CallW P f xs hp K := by
  intro ro n w g vs hok hvs hrep
  refine (h ro n w g vs hok hvs hrep).mono ?_
  rintro e w' ⟨v, x, H, g', rfl, ⟨y, ids, hpur, hK⟩, hx, hok', hu⟩
  have q := purify_rep hok' (ids := ids) hpur (fun i hi => hi) hx
  obtain ⟨k1, k2⟩ := hok'.giveAll ids (purify_ids hpur)
  have lt : ∀ p ∈ gones ids, p.1 ≤ H.length := fun p hp' => by
    simp only [gones, List.mem_map] at hp'
    obtain ⟨i, hi, rfl⟩ := hp'
    obtain ⟨cs, hcs⟩ := purify_ids hpur i hi
    exact Nat.le_of_lt (hpf_lt hcs)
  have e : hpf (writeL H (gones ids)) = Hp.write (hpf H) (gones ids) := hpf_write lt
  exact ⟨v, y, _, _, rfl, hK, q.of, by rw [e]; exact k1, by rw [e]; exact hu.trans k2⟩
end Go.AM
