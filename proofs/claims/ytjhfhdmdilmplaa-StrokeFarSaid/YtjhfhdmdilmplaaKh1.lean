/-
  LAWS: StrokeFar. Own work.
-/
import Derived.Test.YtjhfhdmdilmplaaKg9

/- LAWS: StrokeFar. Own work. -/
set_option linter.unusedSimpArgs false
set_option linter.unusedVariables false
namespace Go.AM
open Go.RowKit Go.Proofs

theorem eqk_bool {K : AV → List (Nat × HObj) → Prop} {neg a c : Bool} : EqkW neg (false, [.bool]) (B a) (B c) K = K (B (neg != (a == c))) [] := by
  refine eqk_of (a := .bool a) (b := .bool c) rfl rfl ?_
  cases a <;> cases c <;> rfl

theorem law14 (b : Bch) (l m o : List Int) (y : Int) (hb : BOK b) (hl : l.length ≤ 9223372036854775807 ∧ ∀ n ∈ l, In64 n) (hm : m.length ≤ 9223372036854775807 ∧ ∀ n ∈ m, In64 n) (ho : o.length ≤ 9223372036854775807 ∧ ∀ n ∈ o, In64 n) (hy : 0 ≤ y ∧ y ≤ 255) : PureOK Try.prog 14 [Bn false b, Ls false l, Ls false m, Ls false o, U y] (B true) := by
  refine pure_of (walk Try.func14 form14 res14 (by show 5 ≤ _; decide) ?_)
  simp (disch := omega) [G14, wrap_id]
  refine callW_pure rfl (fine_ok false false b l hb.len hl.1) ?_
  cases h1 : fineB b l with
  | false =>
    simp (disch := omega) [wrap_id]
    exact callW_pure rfl works_ok (by simp)
  | true =>
  simp (disch := omega) [wrap_id]
  refine callW_pure rfl (fine_ok false false b m hb.len hm.1) ?_
  cases h2 : fineB b m with
  | false =>
    simp (disch := omega) [wrap_id]
    exact callW_pure rfl works_ok (by simp)
  | true =>
  simp (disch := omega) [wrap_id]
  refine callW_pure rfl (fine_ok false false b o hb.len ho.1) ?_
  cases h3 : fineB b o with
  | false =>
    simp (disch := omega) [wrap_id]
    exact callW_pure rfl works_ok (by simp)
  | true =>
  obtain ⟨b1, l1, c1⟩ := fine_iff.1 h1
  obtain ⟨_, m1, c2⟩ := fine_iff.1 h2
  obtain ⟨_, o1, c3⟩ := fine_iff.1 h3
  have sl := (chkL_S8 c1).1
  have sm := (chkL_S8 c2).1
  have so := (chkL_S8 c3).1
  by_cases q1 : 25 < l.length
  · have q1' : (25 : Int) < l.length := by omega
    simp (disch := omega) [wrap_id, q1']
    exact callW_pure rfl works_ok (by simp)
  by_cases q2 : 25 < m.length
  · have q1' : ¬ (25 : Int) < l.length := by omega
    have q2' : (25 : Int) < m.length := by omega
    simp (disch := omega) [wrap_id, q1', q2']
    exact callW_pure rfl works_ok (by simp)
  by_cases q3 : 25 < o.length
  · have q1' : ¬ (25 : Int) < l.length := by omega
    have q2' : ¬ (25 : Int) < m.length := by omega
    have q3' : (25 : Int) < o.length := by omega
    simp (disch := omega) [wrap_id, q1', q2', q3']
    exact callW_pure rfl works_ok (by simp)
  have q1' : ¬ (25 : Int) < l.length := by omega
  have q2' : ¬ (25 : Int) < m.length := by omega
  have q3' : ¬ (25 : Int) < o.length := by omega
  simp (disch := omega) [wrap_id, q1', q2', q3']
  have w1 : twoR b l m = 0 := two_zero c1 c2
  have w2 : twoR b m l = 0 := two_zero c2 c1
  have w3 : twoR b m o = 0 := two_zero c2 c3
  have w4 : twoR b l o = 0 := two_zero c1 c3
  have v1 : wayR b l m = form b (backL l ++ m) := by unfold wayR; rw [if_neg (by simp [w1])]
  have v2 : wayR b m l = form b (backL m ++ l) := by unfold wayR; rw [if_neg (by simp [w2])]
  have v3 : wayR b m o = form b (backL m ++ o) := by unfold wayR; rw [if_neg (by simp [w3])]
  have v4 : wayR b l o = form b (backL l ++ o) := by unfold wayR; rw [if_neg (by simp [w4])]
  refine callW_pure rfl (way_ok false false false b l m (by omega) (by omega) (by omega)) ?_
  rw [v1, w1]
  simp (disch := omega) [wrap_id]
  refine callW_pure rfl (way_ok false false false b m l (by omega) (by omega) (by omega)) ?_
  rw [v2, w2]
  simp (disch := omega) [wrap_id]
  refine callW_pure rfl (way_ok false false false b m o (by omega) (by omega) (by omega)) ?_
  rw [v3, w3]
  simp (disch := omega) [wrap_id]
  refine callW_pure rfl (way_ok false false false b l o (by omega) (by omega) (by omega)) ?_
  rw [v4, w4]
  have t1 := way_len (b := b) sl sm
  have t2 := way_tri (b := b) sl sm so
  have t3 := form_len b (backL l ++ m)
  have bl := backL_len l
  rw [List.length_append, bl] at t3
  have ck : chkL b (form b (backL l ++ m)) = 0 := chkL_form (chkL_app (chkL_back c1) c2 (by omega))
  have t4 := way_zero (b := b) sl sm
  have t5 := way_draw (b := b) sl sm
  have t6 := form_len b (backL m ++ o)
  have t7 := form_len b (backL l ++ o)
  rw [List.length_append, backL_len] at t6 t7
  generalize form b (backL l ++ m) = x at *
  generalize form b (backL m ++ o) = z at *
  generalize form b (backL l ++ o) = w at *
  simp (disch := omega) [wrap_id, t1]
  have e1 : ¬ (x.length : Int) + z.length < w.length := by omega
  have e2 : ¬ (l.length : Int) + m.length < x.length := by omega
  simp (disch := omega) [wrap_id, ← t1, e1, e2]
  refine callW_pure rfl (fine_ok false _ b x hb.len (by omega)) ?_
  have f1 : fineB b x = true := fine_iff.2 ⟨b1, by omega, ck⟩
  rw [f1]
  simp (disch := omega) [wrap_id]
  refine pureW_of rfl (same_ok false false false b l m (by omega) (by omega) (by omega)) ?_
  have w5 : sameR b l m = if x.length = 0 then 0 else 18 := by
    have := sameR_pat c1 c2
    rcases sameR_val c1 c2 with h | h
    · rw [if_pos (by rw [t4.2 (this.1 h)]; rfl), h]
    · rw [if_neg (fun e => by rw [this.2 (t4.1 (List.eq_nil_of_length_eq_zero e))] at h; omega), h]
  have u5 : ((x.length : Int) == 0) = (sameR b l m == 0) := by rw [w5]; by_cases e : x.length = 0 <;> simp [e]
  simp (disch := omega) [wrap_id, u5]
  rw [eqk_bool, show (true != ((sameR b l m == 0) == (sameR b l m == 0))) = false by simp]
  obtain ⟨k1, k2, k3⟩ := chkL0.1 c1
  obtain ⟨L1, L2, _⟩ := chkB_zero k1
  have L0 : b.L ≠ 0 := by omega
  have r1 := Int.tmod_nonneg b.L hy.1
  have r2 := Int.tmod_lt_of_pos y (show 0 < b.L by omega)
  have s5 : (decide (l.length + x.length ≤ 60) && !decide (sameR b (l ++ x) m = 0)) = false := by
    by_cases lx : l.length + x.length ≤ 60
    · simp [lx, (sameR_pat (chkL_app c1 ck lx) c2).2 t5]
    · simp [lx]
  by_cases lx : l.length + x.length ≤ 60
  all_goals first
  | have lx' : (l.length : Int) + x.length ≤ 60 := by omega
    simp (disch := omega) [wrap_id, lx']
    refine bsl_of (ys := []) rfl rfl ?_
    simp (disch := omega) [wrap_id, zrep, place]
    refine ⟨⟨by omega, by omega⟩, ⟨by omega, by omega⟩, ?_⟩
    have hm2 : nthH [HObj.cells [I b.L, Ps false b.c], HObj.gone, HObj.cells (List.take l.length (l.map fun n => I n) ++ x.map fun n => I n)] 2 = some (.cells ((l ++ x).map fun n => I n)) := by
      rw [List.map_append, List.take_of_length_le (by simp)]; rfl
    refine pureW_of (purAll3 bn_pur (ms_pur hm2 (by rw [List.length_append])) ls_pur) (same_ok false false false b (l ++ x) m (by omega) (by rw [List.length_append]; omega) (by omega)) ?_
    rw [(sameR_pat (chkL_app c1 ck lx) c2).2 t5]
    simp (disch := omega) [wrap_id]
    have n0 : nthH [HObj.cells [I b.L, Ps false b.c], HObj.gone, HObj.cells (List.take l.length (l.map fun n => I n) ++ x.map fun n => I n)] 0 = some (.cells [I b.L, Ps false b.c]) := rfl
    generalize [HObj.cells [I b.L, Ps false b.c], HObj.gone, HObj.cells (List.take l.length (l.map fun n => I n) ++ x.map fun n => I n)] = H at n0 ⊢
  | have lx' : ¬ (l.length : Int) + x.length ≤ 60 := by omega
    simp (disch := omega) [wrap_id, lx', b_rem L0]
    have n0 : nthH [HObj.cells [I b.L, Ps false b.c]] 0 = some (.cells [I b.L, Ps false b.c]) := rfl
    generalize [HObj.cells [I b.L, Ps false b.c]] = H at n0 ⊢
  all_goals
    clear v1 v2 v3 v4 s5 w5 u5 hm ho q1' q2' q3' t1 t2 t3 t4 t5 t6 t7 e1 e2 f1
    have H0 := nthH_lt n0
    generalize y.tmod b.L = r at r1 r2 ⊢
    refine c_split (fun h => ?_) (fun h => ?_)
  all_goals
    simp (disch := omega) [wrap_id, n0]
    refine callW_pure rfl (short_ok false false b l (by omega) (by omega)) ?_
    rw [c1, show shortR b l = form b l by unfold shortR; rw [if_neg (by simp [c1])]]
    simp (disch := omega) [wrap_id, n0]
    obtain ⟨s, es, ss⟩ : ∃ s : Int, (if 128 ≤ y then -(1 + r) else 1 + r) = s ∧ strokeB b s = true := by
      refine ⟨_, rfl, ?_⟩
      unfold strokeB
      simp only [Bool.or_eq_true, Bool.and_eq_true, decide_eq_true_eq]
      split <;> omega
    first
      | have h' : 128 ≤ y := by simpa using h
        rw [if_pos h'] at es
      | have h' : ¬ 128 ≤ y := by simpa using h
        rw [if_neg h'] at es
    rw [es]
    have cs : chkL b [s] = 0 := chkL0.2 ⟨k1, by simp, fun x hx => by simp at hx; subst hx; exact ss⟩
    have cl : chkL b (l ++ [s]) = 0 := chkL_app c1 cs (by rw [List.length_singleton]; omega)
    have s8 : St8 s := (chkL_S8 cs).1 s (by simp)
    have fm := form_more (b := b) sl s8
    have f60 := form_len b l
    have f61 := form_len b (l ++ [s])
    rw [List.length_append, List.length_singleton] at f61
    refine bsl_of (ys := []) rfl rfl ?_
    simp (disch := omega) [wrap_id, zrep, place]
    refine ⟨⟨by omega, by omega⟩, ?_⟩
    refine bsl_of (ys := [I s]) rfl rfl ?_
    simp (disch := omega) [wrap_id, zrep, place]
    refine ⟨⟨by omega, by omega⟩, ?_⟩
    have nn : nthH (H ++ [HObj.gone, HObj.cells (List.take l.length (l.map fun n => I n) ++ [I s])]) (H.length + 1) = some (.cells ((l ++ [s]).map fun n => I n)) := by
      rw [nthH_eq, List.getElem?_append_right (by omega), List.map_append, List.take_of_length_le (by simp)]
      simp
    refine pureW_of (purifyAll2 bn_pur (ms_pur nn (by simp))) (short_ok false false b (l ++ [s]) (by omega) (by simp; omega)) ?_
    rw [cl, show shortR b (l ++ [s]) = form b (l ++ [s]) by unfold shortR; rw [if_neg (by simp [cl])]]
    have dj : disj [H.length] [0] = true := disj_of fun i hi h0 => by simp at hi h0; omega
    simp (disch := omega) [wrap_id]
    refine ⟨fun e => by rw [e] at H0; simp at H0, ?_⟩
    rcases fm with fm | fm
    · have g1 : (((form b (l ++ [s])).length : Int) == ↑(form b l).length + 1) = true := by simp; omega
      simp (disch := omega) [wrap_id, g1]
      exact callW_pure rfl works_ok (by simp)
    · have g1 : (((form b (l ++ [s])).length : Int) == ↑(form b l).length + 1) = false := by simp; omega
      have g2 : (((form b (l ++ [s])).length : Int) == ↑(form b l).length - 1) = true := by simp; omega
      simp (disch := omega) [wrap_id, g1, g2]
      exact callW_pure rfl works_ok (by simp)

end Go.AM
