/-
  LAWS: StrokeShortest. Own work.
-/
import Derived.Test.YtjhfhdmdilmplaaKi10

/- LAWS: StrokeShortest. Own work. -/
set_option linter.unusedSimpArgs false
set_option linter.unusedVariables false
namespace Go.AM
open Go.RowKit Go.Proofs

theorem law10 (b : Bch) (l m u : List Int) (hb : BOK b) (hl : l.length ≤ 9223372036854775807 ∧ ∀ n ∈ l, In64 n) (hm : m.length ≤ 9223372036854775807 ∧ ∀ n ∈ m, In64 n) (hu : UOK u) : PureOK Try.prog 10 [Bn false b, Ls false l, Ls false m, Us false u] (B true) := by
  refine pure_of (walk Try.func10 form10 res10 (by show 4 ≤ _; decide) ?_)
  simp (disch := omega) [G10, wrap_id]
  refine callW_pure rfl (fine_ok false false b l hb.len hl.1) ?_
  cases h1 : fineB b l with
  | false =>
    simp (disch := omega) [wrap_id]
    exact callW_pure rfl works_ok (by simp)
  | true =>
  simp (disch := omega) [wrap_id]
  refine callW_pure rfl (fine_ok false false b m hb.len hm.1) ?_
  cases h2 : fineB b m with
  | false =>
    simp (disch := omega) [wrap_id]
    exact callW_pure rfl works_ok (by simp)
  | true =>
  obtain ⟨b1, l1, c1⟩ := fine_iff.1 h1
  obtain ⟨_, m1, c2⟩ := fine_iff.1 h2
  have sl := (chkL_S8 c1).1
  have sm := (chkL_S8 c2).1
  have ul := hu.1
  by_cases q1 : 60 < l.length + m.length
  · have q1' : (60 : Int) < l.length + m.length := by omega
    simp (disch := omega) [wrap_id, q1']
    exact callW_pure rfl works_ok (by simp)
  by_cases q2 : 50 < l.length
  · have q1' : ¬ (60 : Int) < l.length + m.length := by omega
    have q2' : (50 : Int) < l.length := by omega
    simp (disch := omega) [wrap_id, q1', q2']
    exact callW_pure rfl works_ok (by simp)
  by_cases q3 : 60 < u.length
  · have q1' : ¬ (60 : Int) < l.length + m.length := by omega
    have q2' : ¬ (50 : Int) < l.length := by omega
    have q3' : (60 : Int) < u.length := by omega
    simp (disch := omega) [wrap_id, q1', q2', q3']
    exact callW_pure rfl works_ok (by simp)
  have q1' : ¬ (60 : Int) < l.length + m.length := by omega
  have q2' : ¬ (50 : Int) < l.length := by omega
  have q3' : ¬ (60 : Int) < u.length := by omega
  simp (disch := omega) [wrap_id, q1', q2', q3']
  have v1 : shortR b l = form b l := by unfold shortR; rw [if_neg (by simp [c1])]
  have v2 : shortR b m = form b m := by unfold shortR; rw [if_neg (by simp [c2])]
  refine callW_pure rfl (short_ok false false b l (by omega) (by omega)) ?_
  rw [v1, c1]
  simp (disch := omega) [wrap_id]
  refine callW_pure rfl (short_ok false false b m (by omega) (by omega)) ?_
  rw [v2, c2]
  have x1 := form_len b l
  have x2 := form_len b m
  have x3 := form_par (b := b) sl
  have x4 : ¬ (l.length : Int) < (form b l).length := by omega
  have x5 : ¬ (m.length : Int) < (form b m).length := by omega
  have x6 : ((l.length : Int) - (form b l).length).tmod 2 = 0 := by rw [Int.tmod_eq_emod_of_nonneg (by omega)]; omega
  have cx := chkL_form c1
  have cy := chkL_form c2
  have y1 := form_form (b := b) sl
  have y2 : form b (l ++ m) = form b (form b l ++ form b m) := (sim_iff (sl.append sm) ((form_S8 sl).append (form_S8 sm))).1 ((form_sim sl).app (form_sim sm))
  obtain ⟨p1, p2⟩ := moved_pat (u := u) c1
  have y3 := form_le sl p1
  simp (disch := omega) [wrap_id, x4, x5, x6]
  refine callW_pure rfl (fine_ok false _ b (form b l) hb.len (by omega)) ?_
  rw [show fineB b (form b l) = true from fine_iff.2 ⟨b1, by omega, cx⟩]
  simp (disch := omega) [wrap_id]
  refine callW_pure rfl (fine_ok false _ b (form b m) hb.len (by omega)) ?_
  rw [show fineB b (form b m) = true from fine_iff.2 ⟨b1, by omega, cy⟩]
  simp (disch := omega) [wrap_id]
  refine callW_pure rfl (short_ok false _ b (form b l) (by omega) (by omega)) ?_
  rw [show shortR b (form b l) = form b l by unfold shortR; rw [if_neg (by simp [cx]), y1], cx]
  generalize hx : form b l = x at *
  generalize hy : form b m = y at *
  simp (disch := omega) [wrap_id]
  refine bsl_of (ys := []) rfl rfl ?_
  simp (disch := omega) [wrap_id, zrep, place]
  refine ⟨⟨by omega, by omega⟩, ⟨by omega, by omega⟩, ?_⟩
  have lm : (l ++ m).length = l.length + m.length := List.length_append
  have xy : (x ++ y).length = x.length + y.length := List.length_append
  have hm2 : nthH [HObj.cells [I b.L, Ps false b.c], HObj.gone, HObj.cells (List.take l.length (l.map fun n => I n) ++ m.map fun n => I n)] 2 = some (.cells ((l ++ m).map fun n => I n)) := by
    rw [List.map_append, List.take_of_length_le (by simp)]; rfl
  have ca := chkL_app c1 c2 (by omega)
  have cb := chkL_app cx cy (by omega)
  refine pureW_of (purifyAll2 bn_pur (ms_pur hm2 lm.symm)) (short_ok false false b (l ++ m) (by omega) (by omega)) ?_
  rw [show shortR b (l ++ m) = form b (l ++ m) by unfold shortR; rw [if_neg (by simp [ca])], ca]
  simp (disch := omega) [wrap_id]
  have n0 : nthH [HObj.cells [I b.L, Ps false b.c], HObj.gone, HObj.gone] 0 = some (.cells [I b.L, Ps false b.c]) := rfl
  refine bsl_of (ys := []) rfl rfl ?_
  simp (disch := omega) [wrap_id, zrep, place]
  refine ⟨⟨by omega, by omega⟩, ⟨by omega, by omega⟩, ?_⟩
  have hm4 : nthH [HObj.cells [I b.L, Ps false b.c], HObj.gone, HObj.gone, HObj.gone, HObj.cells (List.take x.length (x.map fun n => I n) ++ y.map fun n => I n)] 4 = some (.cells ((x ++ y).map fun n => I n)) := by
    rw [List.map_append, List.take_of_length_le (by simp)]; rfl
  refine pureW_of (purifyAll2 bn_pur (ms_pur hm4 xy.symm)) (short_ok false false b (x ++ y) (by omega) (by omega)) ?_
  rw [show shortR b (x ++ y) = form b (x ++ y) by unfold shortR; rw [if_neg (by simp [cb])], cb, ← y2]
  simp (disch := omega) [wrap_id]
  refine callW_pure rfl (moved_ok false false false b l u c1 ⟨by omega, hu.2⟩) ?_
  have z1 := form_len b (l ++ m)
  have z2 := (chkL_S8 p2).2
  have y3' : (x.length : Int) ≤ (movedR b u l []).1.length := by omega
  generalize movedR b u l [] = mv at *
  obtain ⟨now, out⟩ := mv
  simp only at y3' p2 z2 ⊢
  simp (disch := omega) [wrap_id]
  refine callW_pure rfl (equal_ok _ _ x x (by omega) (by omega)) ?_
  simp (disch := omega) [wrap_id]
  refine callW_pure rfl (equal_ok _ _ (form b (l ++ m)) (form b (l ++ m)) (by omega) (by omega)) ?_
  simp (disch := omega) [wrap_id, y3']
  exact callW_pure rfl works_ok (by simp)

end Go.AM
