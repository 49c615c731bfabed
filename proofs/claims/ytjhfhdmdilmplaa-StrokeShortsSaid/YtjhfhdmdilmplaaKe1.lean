/-
  LAWS, PART 1: StrokeBenches. Own work.
  LAWS: StrokeShorts. Own work.
-/
import Derived.Test.YtjhfhdmdilmplaaKd7

/- LAWS, PART 1: StrokeBenches. Own work. -/
set_option linter.unusedSimpArgs false
set_option linter.unusedVariables false
namespace Go.AM
open Go.RowKit Go.Proofs

theorem great_ok (f : Bool) (b : Bch) (hb : b.c.length ≤ 9223372036854775807) : PureOK Try.prog 18 [Bn f b] (B (decide (40 < b.c.length))) := by
  refine pure_of (walk Try.func18 form18 res18 (by show 1 ≤ _; decide) ?_)
  simp (disch := omega) [G18, wrap_id]
  omega

theorem law3' (f g : Bool) (b : Bch) (l : List Int) (hb : b.c.length ≤ 9223372036854775807) (hl : l.length ≤ 9223372036854775807) : PureOK Try.prog 3 [Bn f b, Ls g l] (B true) := by
  refine pure_of (walk Try.func3 form3 res3 (by show 2 ≤ _; decide) ?_)
  simp (disch := omega) [G3, wrap_id]
  refine callW_pure rfl (great_ok f b hb) ?_
  by_cases h1 : 40 < b.c.length
  · simp (disch := omega) [wrap_id, h1]
    exact callW_pure rfl works_ok (by simp)
  · by_cases h2 : 70 < l.length
    · have h2' : (70 : Int) < l.length := by omega
      simp (disch := omega) [wrap_id, h1, h2, h2']
      exact callW_pure rfl works_ok (by simp)
    · have h2' : ¬ (70 : Int) < l.length := by omega
      simp (disch := omega) [wrap_id, h1, h2, h2']
      refine pureW_of rfl (bench_ok f b (by omega)) ?_
      simp (disch := omega) [wrap_id]
      refine pureW_of rfl (refBench_ok f b (by omega)) ?_
      simp (disch := omega) [wrap_id]
      refine pureW_of rfl (list_ok f g b l (by omega) (by omega)) ?_
      simp (disch := omega) [wrap_id]
      refine pureW_of rfl (refList_ok f g b l (by omega) (by omega)) ?_
      simp (disch := omega) [wrap_id]
      refine pureW_of rfl works_ok ?_
      simp (disch := omega) [wrap_id]

theorem law3 (b : Bch) (l : List Int) (hb : BOK b) (hl : l.length ≤ 9223372036854775807 ∧ ∀ n ∈ l, In64 n) : PureOK Try.prog 3 [Bn false b, Ls false l] (B true) := law3' false false b l hb.len hl.1

end Go.AM

/- LAWS: StrokeShorts. Own work. -/
set_option linter.unusedSimpArgs false
set_option linter.unusedVariables false
namespace Go.AM
open Go.RowKit Go.Proofs

theorem shortR_len (b : Bch) (l : List Int) : (shortR b l).length ≤ l.length := by
  unfold shortR; split
  · simp
  · exact form_len b l

theorem law4 (b : Bch) (l m : List Int) (hb : BOK b) (hl : l.length ≤ 9223372036854775807 ∧ ∀ n ∈ l, In64 n) (hm : m.length ≤ 9223372036854775807 ∧ ∀ n ∈ m, In64 n) : PureOK Try.prog 4 [Bn false b, Ls false l, Ls false m] (B true) := by
  refine pure_of (walk Try.func4 form4 res4 (by show 3 ≤ _; decide) ?_)
  simp (disch := omega) [G4, wrap_id]
  refine callW_pure rfl (great_ok false b hb.len) ?_
  by_cases h1 : 40 < b.c.length
  · simp (disch := omega) [wrap_id, h1]
    exact callW_pure rfl works_ok (by simp)
  by_cases h2 : 70 < l.length
  · have h2' : (70 : Int) < l.length := by omega
    simp (disch := omega) [wrap_id, h1, h2, h2']
    exact callW_pure rfl works_ok (by simp)
  by_cases h3 : 70 < m.length
  · have h2' : ¬ (70 : Int) < l.length := by omega
    have h3' : (70 : Int) < m.length := by omega
    simp (disch := omega) [wrap_id, h1, h2, h2', h3, h3']
    exact callW_pure rfl works_ok (by simp)
  have h2' : ¬ (70 : Int) < l.length := by omega
  have h3' : ¬ (70 : Int) < m.length := by omega
  simp (disch := omega) [wrap_id, h1, h2, h2', h3, h3']
  refine callW_pure rfl (short_ok false false b l (by omega) (by omega)) ?_
  simp (disch := omega) [wrap_id]
  refine callW_pure rfl (refShort_ok false false b l (by omega) (by omega)) ?_
  simp (disch := omega) [wrap_id]
  have hs := shortR_len b l
  refine pureW_of rfl (equal_ok _ _ _ _ (by omega) (by omega)) ?_
  simp (disch := omega) [wrap_id]
  refine pureW_of rfl (same_ok false false false b l m (by omega) (by omega) (by omega)) ?_
  simp (disch := omega) [wrap_id]
  refine pureW_of rfl (refSame_ok false false false b l m (by omega) (by omega) (by omega)) ?_
  simp (disch := omega) [wrap_id]
  refine pureW_of rfl works_ok ?_
  simp (disch := omega) [wrap_id]

end Go.AM
