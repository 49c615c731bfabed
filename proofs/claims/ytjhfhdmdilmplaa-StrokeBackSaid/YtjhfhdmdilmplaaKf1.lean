/-
  LAWS: StrokeBack. Own work.
-/
import Derived.Test.YtjhfhdmdilmplaaKe8

/- LAWS: StrokeBack. Own work. -/
set_option linter.unusedSimpArgs false
set_option linter.unusedVariables false
namespace Go.AM
open Go.RowKit Go.Proofs

theorem law11 (b : Bch) (l m : List Int) (hb : BOK b) (hl : l.length ≤ 9223372036854775807 ∧ ∀ n ∈ l, In64 n) (hm : m.length ≤ 9223372036854775807 ∧ ∀ n ∈ m, In64 n) : PureOK Try.prog 11 [Bn false b, Ls false l, Ls false m] (B true) := by
  refine pure_of (walk Try.func11 form11 res11 (by show 3 ≤ _; decide) ?_)
  simp (disch := omega) [G11, wrap_id]
  refine callW_pure rfl (fine_ok false false b l hb.len hl.1) ?_
  have works : ∀ {st : List (Nat × AV)}, True := fun {_} => trivial
  cases h1 : fineB b l with
  | false =>
    simp (disch := omega) [wrap_id]
    exact callW_pure rfl works_ok (by simp)
  | true =>
  simp (disch := omega) [wrap_id]
  refine callW_pure rfl (fine_ok false false b m hb.len hm.1) ?_
  cases h2 : fineB b m with
  | false =>
    simp (disch := omega) [wrap_id]
    exact callW_pure rfl works_ok (by simp)
  | true =>
  obtain ⟨b1, l1, c1⟩ := fine_iff.1 h1
  obtain ⟨_, m1, c2⟩ := fine_iff.1 h2
  obtain ⟨k1, k2, k3⟩ := chkL0.1 c1
  obtain ⟨_, k5, k6⟩ := chkL0.1 c2
  have sl := (chkL_S8 c1).1
  have sm := (chkL_S8 c2).1
  by_cases h3 : 30 < l.length
  · have h3' : (30 : Int) < l.length := by omega
    simp (disch := omega) [wrap_id, h3']
    exact callW_pure rfl works_ok (by simp)
  by_cases h4 : 15 < m.length
  · have h3' : ¬ (30 : Int) < l.length := by omega
    have h4' : (15 : Int) < m.length := by omega
    simp (disch := omega) [wrap_id, h3', h4']
    exact callW_pure rfl works_ok (by simp)
  have h3' : ¬ (30 : Int) < l.length := by omega
  have h4' : ¬ (15 : Int) < m.length := by omega
  simp (disch := omega) [wrap_id, h3', h4']
  refine back_w false l (by omega) sl.small fun H x a1 a2 a3 => ?_
  have a0 : nthH H 0 = some (.cells [I b.L, Ps false b.c]) := a2 0 (by simp)
  have H0 := nthH_lt a0
  have bl := backL_len l
  have bm := backL_len m
  simp (disch := omega) [wrap_id, a0]
  refine bsl_of (ys := []) rfl rfl ?_
  simp (disch := omega) [wrap_id, zrep, place]
  refine ⟨⟨by omega, by omega⟩, ?_⟩
  have a1' : AccR (H ++ [HObj.cells (l.map fun n => I n)]) x (backL l) := a1.mono fun i hi => nthH_front (a1.row.lt hi)
  have a0' : nthH (H ++ [HObj.cells (l.map fun n => I n)]) 0 = some (.cells [I b.L, Ps false b.c]) := (nthH_front H0).trans a0
  have w3 : nthH (H ++ [HObj.cells (l.map fun n => I n)]) H.length = some (.cells (l.map fun n => I n)) := nthH_end
  have w2 : (H ++ [HObj.cells (l.map fun n => I n)]).length = H.length + 1 := by simp
  generalize hHa : H ++ [HObj.cells (l.map fun n => I n)] = Ha at a1' a0' w3 w2
  refine app_rowR (l := l) (m := backL l) (.inr ⟨H.length, 0, _, rfl, w3, by simp, by simp [view]; rw [List.take_of_length_le (by simp)]⟩) a1'.row (by omega) (by omega) fun ws2 x1 x2 x3 x4 => ?_
  generalize hHb : writeL Ha ws2 = Hb at x1 x2 x3
  have rne : ∀ i, i < H.length → rid (.ms H.length 0 l.length 1) ≠ some i := fun i hi e => by simp [rid] at e; omega
  have a0'' : nthH Hb 0 = some (.cells [I b.L, Ps false b.c]) := by rw [x1 0 (by omega) (rne 0 H0)]; exact a0'
  have a1'' : AccR Hb x (backL l) := a1'.mono fun i hi => x1 i (a1'.row.lt hi) (rne i (a1.row.lt hi))
  simp (disch := omega) [wrap_id, hHb]
  have ha : ∀ s ∈ l ++ backL l, strokeB b s = true := fun s hs => by
    rcases List.mem_append.1 hs with h | h
    · exact k3 s h
    · exact strokeB_back k3 s h
  have ca : chkL b (l ++ backL l) = 0 := chkL0.2 ⟨k1, by rw [List.length_append]; omega, ha⟩
  have cb : chkL b (backL l) = 0 := chkL0.2 ⟨k1, by omega, strokeB_back k3⟩
  refine pureW_of (purifyAll2 bn_pur (ms_pur (n := l.length + (backL l).length) x3 (by simp))) (short_ok false false b (l ++ backL l) (by omega) (by rw [List.length_append]; omega)) ?_
  have sA : shortR b (l ++ backL l) = [] := by
    unfold shortR; rw [if_neg (by simp [ca])]
    have := (sim_iff (b := b) (sl.append (backL_S8 sl)) S8.nil).1 (sim_back sl)
    rw [this]; rfl
  have sC : shortR b l = form b l := by unfold shortR; rw [if_neg (by simp [c1])]
  have sB : (shortR b (backL l)).length = (form b l).length := by
    unfold shortR; rw [if_neg (by simp [cb])]; exact form_back_len sl
  have dj : disj (ws2.map fun x => x.1) [0] = true := disj_of fun i hi h0 => by
    simp at h0; subst h0
    rcases x4 0 hi with h | h
    · omega
    · simp [rid] at h; rw [h] at H0; simp at H0
  have H0' : ¬ H.length = 0 := by omega
  rw [sA]
  simp (disch := omega) [wrap_id, ca, dj, H0', x2]
  have d0 : nthH (Hb.set Ha.length .gone) 0 = some (.cells [I b.L, Ps false b.c]) := by rw [nthH_set_ne (by omega)]; exact a0''
  have dx : AccR (Hb.set Ha.length .gone) x (backL l) := a1''.mono fun i hi => nthH_set_ne (by have := a1'.row.lt hi; omega)
  generalize Hb.set Ha.length HObj.gone = Hc at d0 dx
  obtain ⟨fx, ix, px, hix⟩ := dx.pur
  have ix0 : (0 : Nat) ∉ ix := fun h => by have := a3 0 (hix 0 h).1; simp at this
  simp (disch := omega) [wrap_id, d0]
  refine callW_pure (purifyAll2 bn_pur px) (short_ok false fx b (backL l) (by omega) (by omega)) ?_
  have e0 : nthH (writeL Hc (gones ix)) 0 = some (.cells [I b.L, Ps false b.c]) := by rw [gones_keep (fun j hj => (hix j hj).2) ix0]; exact d0
  rw [cb]
  simp (disch := omega) [wrap_id]
  generalize writeL Hc (gones ix) = Hd at e0
  have Hd0 := nthH_lt e0
  simp (disch := omega) [wrap_id, e0]
  refine callW_pure (ids := []) rfl (short_ok false false b l (by omega) (by omega)) ?_
  rw [c1, sC]
  simp (disch := omega) [wrap_id]
  refine bsl_of (ys := []) rfl rfl ?_
  simp (disch := omega) [wrap_id, zrep, place]
  have et : List.take l.length (l.map fun n => I n) = l.map fun n => I n := List.take_of_length_le (by simp)
  rw [et]
  refine ⟨by omega, by omega, ?_⟩
  refine back_w false m (by omega) sm.small fun He y y1 y2 y3 => ?_
  have f0 : nthH He 0 = some (.cells [I b.L, Ps false b.c]) := by rw [y2 0 (by simp), nthH_front Hd0]; exact e0
  have f1 : nthH He (Hd.length + 1) = some (.cells ((l ++ m).map fun n => I n)) := by
    rw [y2 (Hd.length + 1) (by simp), nthH_eq, List.getElem?_append_right (by omega)]
    simp
  simp (disch := omega) [wrap_id]
  refine app_rowR (l := l ++ m) (m := backL m) (.inr ⟨Hd.length + 1, 0, _, by rw [List.length_append], f1, by simp, by simp [view]; rw [List.take_of_length_le (by simp)]⟩) y1.row (by rw [List.length_append]; omega) (by omega) fun ws3 z1 z2 z3 z4 => ?_
  have g0 : nthH (writeL He ws3) 0 = some (.cells [I b.L, Ps false b.c]) := by rw [z1 0 (nthH_lt f0) (by simp [rid])]; exact f0
  have sm2 : (10 : Nat) = 10 := rfl
  have cu : chkL b (l ++ m ++ backL m) = 0 := chkL0.2 ⟨k1, by rw [List.length_append, List.length_append]; omega, fun s hs => by
    rcases List.mem_append.1 hs with h | h
    · rcases List.mem_append.1 h with h | h
      · exact k3 s h
      · exact k6 s h
    · exact strokeB_back k6 s h⟩
  have sr : sameR b l (l ++ m ++ backL m) = 0 := by
    have e1 : twoR b l (l ++ m ++ backL m) = 0 := by unfold twoR; rw [if_neg (by simp [c1])]; exact cu
    have e2 : form b l = form b (l ++ m ++ backL m) := by
      refine (sim_iff sl ((sl.append sm).append (backL_S8 sm))).1 ?_
      have := (sim_back (b := b) sm).right l
      rw [List.append_nil, ← List.append_assoc] at this
      exact this.symm
    unfold sameR; rw [if_neg (fun h => h e1), if_pos e2]
  simp (disch := omega) [wrap_id, sB, g0]
  refine callW_pure (purAll3 bn_pur ls_pur (ms_pur z3 (by simp only [List.length_append]))) (same_ok false false false b l (l ++ m ++ backL m) (by omega) (by omega) (by rw [List.length_append, List.length_append]; omega)) ?_
  rw [sr]
  simp (disch := omega) [wrap_id]
  exact callW_pure rfl works_ok (by simp)

end Go.AM
