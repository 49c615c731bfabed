/-
  KxRc1: texts joined: Gn1 To1. Own work.
-/
import Derived.Test.YtelokgilhpjbhaaGreatKc5
import Derived.ChangeKeysEq
import Derived.Laws.StructEq

set_option linter.unusedSimpArgs false
set_option linter.unusedVariables false
namespace Go.AM
open Go.RowKit
theorem range_all_succ {p : Nat → Bool} (n : Nat) : (List.range (n + 1)).all p = ((List.range n).all p && p n) := by
  simp [List.range_succ, List.all_append]
section
variable {hp : List HObj} {K : AV → List (Nat × HObj) → Prop}
end
theorem le_freeze {fr fr' : List (Nat × AV)} {hp : List HObj} {ids : List Nat} (h : Fzn hp ids fr fr') (hids : ∀ i ∈ ids, ∃ cs, hpf hp i = some (.cells cs)) : St.le ⟨fr, hp⟩ ⟨fr', writeL hp (gones ids)⟩ := by
  rintro N a w g ⟨h1, hF, hok⟩
  obtain ⟨hokA, updA⟩ := hok.giveAll ids hids
  have e : hpf (writeL hp (gones ids)) = Hp.write (hpf hp) (gones ids) := hpf_write fun p hp => by
    simp only [gones, List.mem_map] at hp
    obtain ⟨i, hi, rfl⟩ := hp
    obtain ⟨cs, hcs⟩ := hids i hi
    exact Nat.le_of_lt (hpf_lt hcs)
  refine ⟨_, ⟨h1, ?_, by rw [e]; exact hokA⟩, by rw [e]; exact updA⟩
  intro t
  rcases h t with h | ⟨is, h, hs⟩
  · show Rep _ _ _ (get fr' t) _
    rw [h]; exact (hF t).mono updA.tr
  · exact (purify_rep hok h hs (hF t)).of
variable {P : Program}
def AWS (P : Program) (ac : AC) (st : St) (Q : Exit → St → Prop) : Prop :=
  ∀ (N : Nat) (c : Go.Code) (a : Act) (w : World) (g : G) (R : Exit → Act → World → Prop) (ro : Option Nat) (n : Nat),
    Fits P N c ac → (ro = none ∨ ac.noRf = true) → Sim N st a w g → Lands N st a w g Q R → c.wpIn (W ro) n P R a w
theorem aws_of {ac : AC} {st : St} {Q : Exit → St → Prop} (h : AWP P (E1 P) ac st Q) : AWS P ac st Q := fun N c a w g R ro n hf hr hs hl =>
  fits_sound (E := E1 P) (w1 := w) (g1 := g) ys_E1 rs_E1 hf hr h (.refl _ _) hs hl
theorem aws_le {ac : AC} {st st' : St} {Q : Exit → St → Prop} (hle : St.le st st') (h : AWS P ac st' Q) : AWS P ac st Q := fun N c a w g R ro n hf hr hs hl => by
  obtain ⟨g2, hs2, hu2⟩ := hle N a w g hs
  exact h _ _ _ _ _ _ _ _ hf hr hs2 fun e st2 a2 w2 g3 q2 s2 u2 d2 => hl e st2 a2 w2 g3 q2 s2 (hu2.trans u2) d2
theorem aws_seq {x y : AC} {st : St} {Q : Exit → St → Prop} (h : AWS P x st (Exit.th (fun st => AWS P y st Q) Q)) : AWS P (.seq x y) st Q := fun N c a w g R ro n hf hr hs hl => by
  cases c <;> first | exact hf.elim | skip
  rename_i c1 c2
  have hr1 : ro = none ∨ x.noRf = true := hr.imp (fun h => h) (fun h => by simp [AC.noRf] at h; exact h.1)
  have hr2 : ro = none ∨ y.noRf = true := hr.imp (fun h => h) (fun h => by simp [AC.noRf] at h; exact h.2)
  refine wpIn_seq (h _ _ _ _ _ _ _ _ hf.1 hr1 hs fun e st' a' w' g' hq hs' hu hd => ?_)
  cases e with
  | normal => exact hq _ _ _ _ _ _ _ _ hf.2 hr2 hs' (fun e st2 a2 w2 g2 q2 s2 u2 d2 => hl e st2 a2 w2 g2 q2 s2 (hu.trans u2) (hd.trans hu.tr.size u2 d2))
  | _ => exact hl _ _ _ _ _ hq hs' hu hd
theorem aws_step {x y : AC} {st : St} {Q : Exit → St → Prop} (h : AWP P (E1 P) x st (Exit.th (fun st => AWS P y st Q) Q)) : AWS P (.seq x y) st Q := aws_seq (aws_of h)
theorem callW_aws {f : FuncId} {fn : Func} {ac : AC} {ts : List Nat} {xs : List AV} {hp : List HObj} {K : AV → List HObj → Prop} (hf : P.funcs[f]? = some fn) (hc : formOf P fn ts = some ac) (hr : resTmps fn.results.toList = some ts)
    (hl : xs.length ≤ fn.ntmps) (h : AWS P ac { fr := argFr 0 xs, hp := hp } (RetQ ts K)) : CallW P f xs hp K := by
  simp only [formOf, Option.map_eq_some_iff] at hc
  obtain ⟨c, hb, rfl⟩ := hc
  have hfit := ann_fits (P := P) (N := fn.ntmps) (rt := ts) (ex := []) (l := ts) (comp_fits c)
  have hr := resTmps_C (P := P) hr
  rw [← retC_tmps] at h
  intro ro n w g vs hok hvs hrep
  have go : CallsIn (W none) n P f vs w fun e w' => ∃ v r hp' g', e = .returned v ∧ K r hp' ∧ Rep w' g' false r v ∧ HeapOK (hpf hp') g' w' ∧ Upd (hpf hp) g w (hpf hp') g' w' := by
    refine callsIn_of_wp_marks hf hb trivial (h _ _ _ _ g _ _ _ hfit (.inl rfl) ?_ ?_) rfl
    · refine ⟨by simp [hvs]; omega, fun t => ?_, hok⟩
      show Rep w g false (get (argFr 0 xs) t) _
      rw [argFr_get]
      simp only [Nat.zero_le, if_true, Nat.sub_zero]
      by_cases ht : t < xs.length
      · have e1 : xs.getD t .any = xs[t] := by simp [ht]
        rw [e1]
        have := hrep t ht
        simp only [Array.getD_eq_getD_getElem?] at this ⊢
        rw [Array.getElem?_append_left (by omega)]
        exact this
      · have e1 : xs.getD t .any = .any := by simp [Nat.le_of_not_lt ht]
        rw [e1]; exact .any _ _
    · intro e st' a' w' g' hq hs hu hd
      obtain ⟨ms, d1, d2, d3⟩ := hd
      simp only [List.append_nil] at d1
      have fin : (∃ xs, resC (hpf st'.hp) st'.fr (ts.map (·, none)) xs ∧ K (tupOf xs) st'.hp) → LeavesInM (W none) n P fn a'.tmps (fun e w' => ∃ v r hp' g', e = .returned v ∧ K r hp' ∧ Rep w' g' false r v ∧ HeapOK (hpf hp') g' w' ∧ Upd (hpf hp) g w (hpf hp') g' w') a'.defers .returning w' := fun ⟨ys, hy, hK⟩ => by
        rw [d1]
        obtain ⟨k1, k2, k3⟩ := take_marks ms w' d2 d3 hs.2.2 hu
        refine leaves_marks ms w' d2 (fun D hD => (d3 D hD).2.1) ?_
        obtain ⟨v, j1, j2⟩ := run_resultsC (P := P) k1 (fun i => (hs.2.1 i).mono k3) hr hy
        exact ⟨v, j1, v, _, _, g', rfl, hK, j2, k1, k2⟩
      cases e with
      | normal => exact fin hq
      | ret => exact fin hq
      | _ => exact hq.elim
  exact go
variable {P : Program}
section
variable {K : AV → List (Nat × HObj) → Prop}
end
end Go.AM

set_option linter.unusedSimpArgs false
set_option linter.unusedVariables false
namespace Go.AM
open Go.RowKit
theorem aft_get {s r : List Int} {i : Nat} (h : i < (aft s r).length) : (aft s r)[i] = r.getD (s[i]'(by simpa [aft] using h)).toNat 0 := by simp [aft]
end Go.AM
