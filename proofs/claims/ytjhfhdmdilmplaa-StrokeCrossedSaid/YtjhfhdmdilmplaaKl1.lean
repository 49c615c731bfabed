/-
  LAWS: StrokeCrossed. Own work.
-/
import Derived.Test.YtjhfhdmdilmplaaKk11

/- LAWS: StrokeCrossed. Own work. -/
set_option linter.unusedSimpArgs false
set_option linter.unusedVariables false
namespace Go.AM
open Go.RowKit Go.Proofs

/-- More lines cross. -/
theorem canB_more {b : Bch} {d : List (Int × Int)} {s t : Int} (h : canB ⟨b.L, b.c ++ d⟩ s t = true) : canB b s t = true := by
  unfold canB at h ⊢
  simp at h ⊢
  exact ⟨h.1, h.2.1⟩
theorem pat_more {b : Bch} {d : List (Int × Int)} {l m : List Int} (h : Pat ⟨b.L, b.c ++ d⟩ l m) : Pat b l m := by
  induction h with
  | refl l => exact .refl _
  | symm _ ih => exact ih.symm
  | trans _ _ ih1 ih2 => exact ih1.trans ih2
  | swap p q hc => exact .swap p q (canB_more hc)
  | back p q hs => exact .back p q hs
theorem chkL_more {b c : Bch} {l : List Int} (hL : c.L = b.L) (hc : chkB c = 0) (h : chkL b l = 0) : chkL c l = 0 := by
  obtain ⟨h1, h2, h3⟩ := chkL0.1 h
  exact chkL0.2 ⟨hc, h2, fun s hs => by have := h3 s hs; unfold strokeB at this ⊢; rw [hL]; exact this⟩

theorem law16 (b : Bch) (l m u : List Int) (w0 w1 : Int) (hb : BOK b) (hl : l.length ≤ 9223372036854775807 ∧ ∀ n ∈ l, In64 n) (hm : m.length ≤ 9223372036854775807 ∧ ∀ n ∈ m, In64 n) (hu : UOK u) (hw : (0 ≤ w0 ∧ w0 ≤ 255) ∧ 0 ≤ w1 ∧ w1 ≤ 255) : PureOK Try.prog 16 [Bn false b, Ls false l, Ls false m, Us false u, .agg [U w0, U w1]] (B true) := by
  refine pure_of (walk Try.func16 form16 res16 (by show 5 ≤ _; decide) ?_)
  simp (disch := omega) [G16, wrap_id]
  refine callW_pure rfl (fine_ok false false b l hb.len hl.1) ?_
  cases h1 : fineB b l with
  | false =>
    simp (disch := omega) [wrap_id]
    exact callW_pure rfl works_ok (by simp)
  | true =>
  simp (disch := omega) [wrap_id]
  refine callW_pure rfl (fine_ok false false b m hb.len hm.1) ?_
  cases h2 : fineB b m with
  | false =>
    simp (disch := omega) [wrap_id]
    exact callW_pure rfl works_ok (by simp)
  | true =>
  obtain ⟨b1, l1, c1⟩ := fine_iff.1 h1
  obtain ⟨_, m1, c2⟩ := fine_iff.1 h2
  have sl := (chkL_S8 c1).1
  have sm := (chkL_S8 c2).1
  have ul := hu.1
  by_cases q2 : 50 < l.length
  · have q2' : (50 : Int) < l.length := by omega
    simp (disch := omega) [wrap_id, q2']
    exact callW_pure rfl works_ok (by simp)
  by_cases q3 : 60 < u.length
  · have q2' : ¬ (50 : Int) < l.length := by omega
    have q3' : (60 : Int) < u.length := by omega
    simp (disch := omega) [wrap_id, q2', q3']
    exact callW_pure rfl works_ok (by simp)
  have q2' : ¬ (50 : Int) < l.length := by omega
  have q3' : ¬ (60 : Int) < u.length := by omega
  obtain ⟨k1, k2, k3⟩ := chkL0.1 c1
  obtain ⟨L1, L2, L3⟩ := chkB_zero k1
  have L0 : b.L ≠ 0 := by omega
  have r1 := Int.tmod_nonneg b.L hw.1.1
  have r2 := Int.tmod_lt_of_pos w0 (show 0 < b.L by omega)
  have r3 := Int.tmod_nonneg b.L hw.2.1
  have r4 := Int.tmod_lt_of_pos w1 (show 0 < b.L by omega)
  simp (disch := omega) [wrap_id, q2', q3']
  generalize w0.tmod b.L = x at *
  generalize w1.tmod b.L = y at *
  have fl := flat2_len b.c
  have hc := hb.len
  refine bsl_of (ys := []) rfl rfl ?_
  simp (disch := omega) [wrap_id, zrep, place, fl]
  have pc : ∀ x : AV, x ∈ flat2 b.c → ∃ i, x = I i := fun x hx => by
    simp only [flat2, List.mem_flatMap] at hx
    obtain ⟨p, _, hx⟩ := hx
    simp at hx
    rcases hx with rfl | rfl <;> exact ⟨_, rfl⟩
  refine ⟨⟨fun x hx => ?_, by omega, by omega⟩, ?_⟩
  · obtain ⟨i, rfl⟩ := pc x hx; rfl
  refine bsl_of (ys := [.agg [I (min x y), I (max x y)]]) rfl rfl ?_
  simp (disch := omega) [wrap_id, zrep, place, fl]
  refine ⟨⟨by omega, by omega⟩, ?_⟩
  have fl2 : flat2 (b.c ++ [(min x y, max x y)]) = flat2 b.c ++ [I (min x y), I (max x y)] := by simp [flat2]
  have et : List.take (b.c.length * 2) (flat2 b.c) = flat2 b.c := List.take_of_length_le (by omega)
  rw [et, ← fl2]
  generalize hd : [(min x y, max x y)] = d at *
  have dl : d.length = 1 := by rw [← hd]; rfl
  have cl : (b.c ++ d).length = b.c.length + 1 := by rw [List.length_append, dl]
  have fl3 := flat2_len (b.c ++ d)
  have pu : ((flat2 (b.c ++ d)).all AV.isPure) = true := by
    rw [List.all_eq_true]; intro z hz
    simp only [flat2, List.mem_flatMap] at hz
    obtain ⟨p, _, hz⟩ := hz
    simp at hz
    rcases hz with rfl | rfl <;> rfl
  have hpl : purifyL (hpf [HObj.cells [I b.L, Ps false b.c], HObj.cells [U w0, U w1], HObj.gone, HObj.cells (flat2 (b.c ++ d)), HObj.cells [I b.L, AV.ms 3 0 (b.c.length + 1) 2]]) [I b.L, AV.ms 3 0 (b.c.length + 1) 2] = some ([I b.L, Ps false (b.c ++ d)], [3]) := by
    have e3 : hpf [HObj.cells [I b.L, Ps false b.c], HObj.cells [U w0, U w1], HObj.gone, HObj.cells (flat2 (b.c ++ d)), HObj.cells [I b.L, AV.ms 3 0 (b.c.length + 1) 2]] 3 = some (.cells (flat2 (b.c ++ d))) := rfl
    simp only [purifyL, purify1, e3]
    rw [if_pos ⟨by omega, pu⟩]
    simp [view, cl]
    rw [List.take_of_length_le (by omega)]
  refine callW_freeze (ys := [.agg [I b.L, Ps false (b.c ++ d)]]) (id := 4) (cs := [I b.L, AV.ms 3 0 (b.c.length + 1) 2]) rfl hpl (by simp) rfl ?_ ?_
  · intro i hi _
    have : i = 0 := by simp at hi; omega
    subst this
    exact .inr ⟨[3], by simp only [List.getElem_cons_zero, purify, hpl, Option.map], fun j hj => hj⟩
  have gw : writeL [HObj.cells [I b.L, Ps false b.c], HObj.cells [U w0, U w1], HObj.gone, HObj.cells (flat2 (b.c ++ d)), HObj.cells [I b.L, AV.ms 3 0 (b.c.length + 1) 2]] (gones [3] ++ [(4, HObj.cells [I b.L, Ps false (b.c ++ d)])]) = [HObj.cells [I b.L, Ps false b.c], HObj.cells [U w0, U w1], HObj.gone, HObj.gone, HObj.cells [I b.L, Ps false (b.c ++ d)]] := rfl
  rw [gw]
  have hcl : (Bch.mk b.L (b.c ++ d)).c.length ≤ 1000000 := by simp only [cl]; omega
  have hpm := fun {l m : List Int} (h : Pat ⟨b.L, b.c ++ d⟩ l m) => pat_more h
  have hcm := fun {l : List Int} (hc : chkB ⟨b.L, b.c ++ d⟩ = 0) => chkL_more (c := ⟨b.L, b.c ++ d⟩) (b := b) (l := l) rfl hc
  have eL : (Bch.mk b.L (b.c ++ d)).L = b.L := rfl
  have ebn : (AV.agg [I b.L, Ps false (b.c ++ d)]) = Bn false ⟨b.L, b.c ++ d⟩ := rfl
  rw [ebn]
  have ebc : HObj.cells [I b.L, Ps false (b.c ++ d)] = HObj.cells [I (Bch.mk b.L (b.c ++ d)).L, Ps false (Bch.mk b.L (b.c ++ d)).c] := rfl
  rw [ebc]
  generalize Bch.mk b.L (b.c ++ d) = c at *
  refine callW_pure rfl (refBench_ok false c hcl) ?_
  by_cases hc : chkB c = 0
  · simp (disch := omega) [wrap_id, hc]
    have d1 := hcm hc c1
    have d2 := hcm hc c2
    obtain ⟨p1, p2⟩ := moved_pat (u := u) d1
    have p3 : Pat b l (movedR c u l []).1 := hpm p1
    have p4 : chkL b (movedR c u l []).1 = 0 := chkL_more (c := b) (b := c) eL.symm k1 p2
    have p5 := form_le sl (hpm (form_sim (b := c) sl))
    have x1 := form_len b l
    have x2 := form_len c l
    have bL := hb.len
    refine callW_pure rfl (moved_ok false false false c l u d1 ⟨by omega, hu.2⟩) ?_
    generalize movedR c u l [] = mv at *
    obtain ⟨now, out⟩ := mv
    simp only at p1 p2 p3 p4
    have z2 := (chkL_S8 p2).2
    simp (disch := omega) [wrap_id]
    refine callW_pure rfl (short_ok false false b l (by omega) (by omega)) ?_
    rw [show shortR b l = form b l by unfold shortR; rw [if_neg (by simp [c1])], c1]
    simp (disch := omega) [wrap_id]
    refine callW_pure rfl (short_ok false false c l hcl (by omega)) ?_
    rw [show shortR c l = form c l by unfold shortR; rw [if_neg (by simp [d1])], d1]
    have p5' : ((form b l).length : Int) ≤ (form c l).length := by omega
    simp (disch := omega) [wrap_id, p5']
    refine callW_pure rfl (same_ok false false false c l now hcl (by omega) (by omega)) ?_
    rw [(sameR_pat d1 p2).2 p1]
    simp (disch := omega) [wrap_id]
    refine callW_pure rfl (same_ok false false false b l now (by omega) (by omega) (by omega)) ?_
    rw [(sameR_pat c1 p4).2 p3]
    simp (disch := omega) [wrap_id]
    refine callW_pure rfl (same_ok false false false c l m hcl (by omega) (by omega)) ?_
    by_cases hs : sameR c l m = 0
    · rw [hs]
      simp (disch := omega) [wrap_id]
      refine callW_pure rfl (same_ok false false false b l m (by omega) (by omega) (by omega)) ?_
      rw [(sameR_pat c1 c2).2 (hpm ((sameR_pat d1 d2).1 hs))]
      simp (disch := omega) [wrap_id]
      exact callW_pure rfl works_ok (by simp)
    · have hs' : (sameR c l m != 0) = true := by simpa using hs
      simp (disch := omega) [wrap_id, hs']
      exact callW_pure rfl works_ok (by simp)
  · have hc' : (chkB c != 0) = true := by simpa using hc
    simp (disch := omega) [wrap_id, hc, hc']
    exact callW_pure rfl works_ok (by simp)

end Go.AM
