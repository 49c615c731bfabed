/-
  LAWS, PART 1: StrokeBenches. Own work.
  LAWS: StrokeWays. Own work.
-/
import Derived.Test.YtjhfhdmdilmplaaKo13

/- LAWS, PART 1: StrokeBenches. Own work. -/
set_option linter.unusedSimpArgs false
set_option linter.unusedVariables false
namespace Go.AM
open Go.RowKit Go.Proofs

theorem great_ok (f : Bool) (b : Bch) (hb : b.c.length ≤ 9223372036854775807) : PureOK Try.prog 18 [Bn f b] (B (decide (40 < b.c.length))) := by
  refine pure_of (walk Try.func18 form18 res18 (by show 1 ≤ _; decide) ?_)
  simp (disch := omega) [G18, wrap_id]
  omega

theorem law3' (f g : Bool) (b : Bch) (l : List Int) (hb : b.c.length ≤ 9223372036854775807) (hl : l.length ≤ 9223372036854775807) : PureOK Try.prog 3 [Bn f b, Ls g l] (B true) := by
  refine pure_of (walk Try.func3 form3 res3 (by show 2 ≤ _; decide) ?_)
  simp (disch := omega) [G3, wrap_id]
  refine callW_pure rfl (great_ok f b hb) ?_
  by_cases h1 : 40 < b.c.length
  · simp (disch := omega) [wrap_id, h1]
    exact callW_pure rfl works_ok (by simp)
  · by_cases h2 : 70 < l.length
    · have h2' : (70 : Int) < l.length := by omega
      simp (disch := omega) [wrap_id, h1, h2, h2']
      exact callW_pure rfl works_ok (by simp)
    · have h2' : ¬ (70 : Int) < l.length := by omega
      simp (disch := omega) [wrap_id, h1, h2, h2']
      refine pureW_of rfl (bench_ok f b (by omega)) ?_
      simp (disch := omega) [wrap_id]
      refine pureW_of rfl (refBench_ok f b (by omega)) ?_
      simp (disch := omega) [wrap_id]
      refine pureW_of rfl (list_ok f g b l (by omega) (by omega)) ?_
      simp (disch := omega) [wrap_id]
      refine pureW_of rfl (refList_ok f g b l (by omega) (by omega)) ?_
      simp (disch := omega) [wrap_id]
      refine pureW_of rfl works_ok ?_
      simp (disch := omega) [wrap_id]

theorem law3 (b : Bch) (l : List Int) (hb : BOK b) (hl : l.length ≤ 9223372036854775807 ∧ ∀ n ∈ l, In64 n) : PureOK Try.prog 3 [Bn false b, Ls false l] (B true) := law3' false false b l hb.len hl.1

end Go.AM

/- LAWS: StrokeWays. Own work. -/
set_option linter.unusedSimpArgs false
set_option linter.unusedVariables false
namespace Go.AM
open Go.RowKit Go.Proofs

theorem wayR_len {b : Bch} {l m : List Int} : (wayR b l m).length ≤ l.length + m.length := by
  unfold wayR; split
  · simp
  · have := form_len b (backL l ++ m)
    rw [List.length_append, backL_len] at this; exact this
theorem cmnF_len {b : Bch} : ∀ (n : Nat) (x y : List Int), (cmnF b n x y).length ≤ n
  | 0, x, y => by simp [cmnF]
  | n + 1, x, y => by
    simp only [cmnF]; split
    · simp
    · have := cmnF_len (b := b) n (x.erase (leastC (cms b x y))) (y.erase (leastC (cms b x y)))
      simp; omega
theorem commonR_len {b : Bch} {l m : List Int} : (commonR b l m).length ≤ l.length := by
  unfold commonR; split
  · simp
  · have h1 := form_len b (comF b (form b l) (form b m))
    have h2 := cmnF_len (b := b) (form b l).length (form b l) (form b m)
    have h3 := form_len b l
    unfold comF at h1 ⊢; omega

theorem law8 (b : Bch) (l m : List Int) (hb : BOK b) (hl : l.length ≤ 9223372036854775807 ∧ ∀ n ∈ l, In64 n) (hm : m.length ≤ 9223372036854775807 ∧ ∀ n ∈ m, In64 n) : PureOK Try.prog 8 [Bn false b, Ls false l, Ls false m] (B true) := by
  refine pure_of (walk Try.func8 form8 res8 (by show 3 ≤ _; decide) ?_)
  simp (disch := omega) [G8, wrap_id]
  refine callW_pure rfl (great_ok false b hb.len) ?_
  by_cases h1 : 40 < b.c.length
  · simp (disch := omega) [wrap_id, h1]
    exact callW_pure rfl works_ok (by simp)
  by_cases h2 : 70 < l.length
  · have h2' : (70 : Int) < l.length := by omega
    simp (disch := omega) [wrap_id, h1, h2, h2']
    exact callW_pure rfl works_ok (by simp)
  by_cases h3 : 70 < m.length
  · have h2' : ¬ (70 : Int) < l.length := by omega
    have h3' : (70 : Int) < m.length := by omega
    simp (disch := omega) [wrap_id, h1, h2, h2', h3, h3']
    exact callW_pure rfl works_ok (by simp)
  have h2' : ¬ (70 : Int) < l.length := by omega
  have h3' : ¬ (70 : Int) < m.length := by omega
  simp (disch := omega) [wrap_id, h1, h2, h2', h3, h3']
  have e1 := wayR_len (b := b) (l := l) (m := m)
  have e2 := commonR_len (b := b) (l := l) (m := m)
  refine callW_pure rfl (way_ok false false false b l m (by omega) (by omega) (by omega)) ?_
  simp (disch := omega) [wrap_id]
  refine callW_pure rfl (refWay_ok false false false b l m (by omega) (by omega) (by omega)) ?_
  simp (disch := omega) [wrap_id]
  refine callW_pure rfl (common_ok false false false b l m (by omega) (by omega) (by omega)) ?_
  simp (disch := omega) [wrap_id]
  refine callW_pure rfl (refCommon_ok false false false b l m (by omega) (by omega) (by omega)) ?_
  simp (disch := omega) [wrap_id]
  refine callW_pure rfl (equal_ok _ _ (wayR b l m) (wayR b l m) (by omega) (by omega)) ?_
  simp (disch := omega) [wrap_id]
  refine callW_pure rfl (equal_ok _ _ (commonR b l m) (commonR b l m) (by omega) (by omega)) ?_
  simp (disch := omega) [wrap_id]
  exact callW_pure rfl works_ok (by simp)

end Go.AM
