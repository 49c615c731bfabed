/-
  THE COMPILED FORMS of functions of the program, each held against its body by the kernel. Own work (printed by a program of this claim).
  THE COMPILED FORMS of functions of the program, each held against its body by the kernel. Own work (printed by a program of this claim).
  LAWS, PART 1: StrokeBenches. Own work.
  LAWS: StrokeChains. Own work.
-/
import Derived.Test.YtjhfhdmdilmplaaKq14
import Derived.Test.YtjhfhdmdilmplaaProg

/- THE COMPILED FORMS of functions of the program, each held against its body by the kernel. Own work (printed by a program of this claim). -/
set_option maxRecDepth 100000
namespace Go.AM
open Go.RowKit Go.Proofs

/-- oxgall/oxgalllaw02.StrokeChains -/
def G5 : AC := (.seq (.rgn [⟨none, [(.box 4 2 (.t 0)), (.mv 8 (.k (B false)))]⟩] [1, 2, 3, 4]) (.seq (.seq (.rgn [⟨none, [(.ld 12 true 2 (.t 4)), (.call 13 18 [(.t 12)]), (.mv 14 (.t 13))]⟩, ⟨(some (14, false)), [(.mv 15 (.t 1)), (.len 16 (.t 15)), (.bin 17 .gtr (.t 16) (.k (I 70)))]⟩, ⟨none, [(.pick 18 (.t 14) (.k (B true)) (.t 17)), (.mv 19 (.t 18))]⟩, ⟨(some (19, false)), [(.mv 20 (.t 2)), (.len 21 (.t 20)), (.bin 22 .gtr (.t 21) (.k (I 70)))]⟩, ⟨none, [(.pick 23 (.t 19) (.k (B true)) (.t 22)), (.mv 24 (.t 23))]⟩, ⟨(some (24, false)), [(.mv 25 (.t 3)), (.len 26 (.t 25)), (.bin 27 .gtr (.t 26) (.k (I 200))), (.mv 28 (.t 27))]⟩, ⟨(some (28, true)), [(.mv 29 (.t 3)), (.len 30 (.t 29)), (.bin 31 .leq (.t 30) (.k (I 8192)))]⟩, ⟨(some (24, false)), [(.pick 32 (.t 28) (.t 31) (.k (B false)))]⟩, ⟨none, [(.pick 33 (.t 24) (.k (B true)) (.t 32)), (.mv 34 (.t 33))]⟩, ⟨(some (34, false)), [(.mv 35 (.t 3)), (.len 36 (.t 35)), (.bin 37 .gtr (.t 36) (.k (I 8200)))]⟩, ⟨none, [(.pick 38 (.t 34) (.k (B true)) (.t 37))]⟩] [1, 2, 3, 4, 38]) (.cond (.t 38) (.seq (.rgn [⟨none, [(.call 39 19 []), (.mv 8 (.t 39))]⟩] [8]) .ret) .skip)) (.seq (.rgn [⟨none, [(.ld 41 true 2 (.t 4)), (.mv 42 (.t 1)), (.mv 43 (.t 2)), (.call 44 29 [(.t 41), (.t 42), (.t 43)]), (.mv 40 (.t 44)), (.ext 45 (.t 40) 0), (.ext 46 (.t 40) 1), (.mv 9 (.t 45)), (.mv 10 (.t 46))]⟩] [1, 2, 3, 4, 9, 10]) (.seq (.rgn [⟨none, [(.ld 47 true 2 (.t 4)), (.mv 48 (.t 1)), (.mv 49 (.t 2)), (.call 50 28 [(.t 47), (.t 48), (.t 49)]), (.mv 11 (.t 50))]⟩] [1, 2, 3, 4, 9, 10, 11]) (.seq (.seq (.drw [⟨none, [(.mv 51 (.t 10)), (.mv 52 (.t 11)), (.bin 53 .neq (.t 51) (.t 52)), (.mv 54 (.t 53))]⟩, ⟨(some (54, false)), [(.ld 55 true 2 (.t 4)), (.mv 56 (.t 1)), (.mv 57 (.t 2)), (.mv 58 (.t 3)), (.call 59 30 [(.t 55), (.t 56), (.t 57), (.t 58)]), (.ld 60 true 2 (.t 4)), (.mv 61 (.t 1)), (.mv 62 (.t 2)), (.mv 63 (.t 3)), (.call 64 31 [(.t 60), (.t 61), (.t 62), (.t 63)]), (.bin 65 .neq (.t 59) (.t 64))]⟩, ⟨none, [(.pick 66 (.t 54) (.k (B true)) (.t 65))]⟩] [(4, 9), (8, 9)] [1, 2, 4, 9, 11, 66]) (.cond (.t 66) (.seq (.rgn [⟨none, [(.mv 8 (.k (B false)))]⟩] [8]) .ret) .skip)) (.seq (.seq (.rgn [⟨none, [(.mv 67 (.t 11)), (.bin 68 .neq (.t 67) (.k (I 0)))]⟩] [1, 2, 4, 9, 68]) (.cond (.t 68) (.seq (.rgn [⟨none, [(.mv 69 (.t 9)), (.len 70 (.t 69)), (.bin 71 .eql (.t 70) (.k (I 0))), (.mv 72 (.t 71))]⟩, ⟨(some (72, true)), [(.call 73 19 [])]⟩, ⟨none, [(.pick 74 (.t 72) (.t 73) (.k (B false))), (.mv 8 (.t 74))]⟩] [8]) .ret) .skip)) (.seq (.rgn [⟨none, [(.ld 75 true 2 (.t 4)), (.mv 76 (.t 1)), (.mv 77 (.t 2)), (.mv 78 (.t 9)), (.call 79 31 [(.t 75), (.t 76), (.t 77), (.t 78)]), (.bin 80 .eql (.t 79) (.k (I 0))), (.mv 81 (.t 80))]⟩, ⟨(some (81, true)), [(.call 82 19 [])]⟩, ⟨none, [(.pick 83 (.t 81) (.t 82) (.k (B false))), (.mv 8 (.t 83))]⟩] [8]) .ret)))))))
theorem form5 : formOf Try.prog Try.f5 [8] = some G5 := by kernel_rfl
theorem res5 : resTmps Try.f5.results.toList = some [8] := by kernel_rfl

end Go.AM

/- THE COMPILED FORMS of functions of the program, each held against its body by the kernel. Own work (printed by a program of this claim). -/
set_option maxRecDepth 100000
namespace Go.AM
open Go.RowKit Go.Proofs

/-- oxgall/oxgalllaw02.StrokeBenches -/
def G3 : AC := (.seq (.rgn [⟨none, [(.box 2 2 (.t 0)), (.mv 4 (.k (B false)))]⟩] [1, 2]) (.seq (.seq (.rgn [⟨none, [(.ld 5 true 2 (.t 2)), (.call 6 18 [(.t 5)]), (.mv 7 (.t 6))]⟩, ⟨(some (7, false)), [(.mv 8 (.t 1)), (.len 9 (.t 8)), (.bin 10 .gtr (.t 9) (.k (I 70)))]⟩, ⟨none, [(.pick 11 (.t 7) (.k (B true)) (.t 10))]⟩] [1, 2, 11]) (.cond (.t 11) (.seq (.rgn [⟨none, [(.call 12 19 []), (.mv 4 (.t 12))]⟩] [4]) .ret) .skip)) (.seq (.drw [⟨none, [(.ld 13 true 2 (.t 2)), (.call 14 20 [(.t 13)]), (.ld 15 true 2 (.t 2)), (.call 16 21 [(.t 15)]), (.bin 17 .eql (.t 14) (.t 16)), (.mv 18 (.t 17))]⟩, ⟨(some (18, true)), [(.ld 19 true 2 (.t 2)), (.mv 20 (.t 1)), (.call 21 22 [(.t 19), (.t 20)]), (.ld 22 true 2 (.t 2)), (.mv 23 (.t 1)), (.call 24 23 [(.t 22), (.t 23)]), (.bin 25 .eql (.t 21) (.t 24))]⟩, ⟨none, [(.pick 26 (.t 18) (.t 25) (.k (B false))), (.mv 27 (.t 26))]⟩, ⟨(some (27, true)), [(.call 28 19 [])]⟩, ⟨none, [(.pick 29 (.t 27) (.t 28) (.k (B false))), (.mv 4 (.t 29))]⟩] [(0, 2), (1, 2), (6, 9), (8, 9)] [4]) .ret)))
theorem form3 : formOf Try.prog Try.f3 [4] = some G3 := by kernel_rfl
theorem res3 : resTmps Try.f3.results.toList = some [4] := by kernel_rfl

end Go.AM

/- LAWS, PART 1: StrokeBenches. Own work. -/
set_option linter.unusedSimpArgs false
set_option linter.unusedVariables false
namespace Go.AM
open Go.RowKit Go.Proofs

theorem great_ok (f : Bool) (b : Bch) (hb : b.c.length ≤ 9223372036854775807) : PureOK Try.prog 18 [Bn f b] (B (decide (40 < b.c.length))) := by
  refine pure_of (walk Try.func18 form18 res18 (by show 1 ≤ _; decide) ?_)
  simp (disch := omega) [G18, wrap_id]
  omega

theorem law3' (f g : Bool) (b : Bch) (l : List Int) (hb : b.c.length ≤ 9223372036854775807) (hl : l.length ≤ 9223372036854775807) : PureOK Try.prog 3 [Bn f b, Ls g l] (B true) := by
  refine pure_of (walk Try.func3 form3 res3 (by show 2 ≤ _; decide) ?_)
  simp (disch := omega) [G3, wrap_id]
  refine callW_pure rfl (great_ok f b hb) ?_
  by_cases h1 : 40 < b.c.length
  · simp (disch := omega) [wrap_id, h1]
    exact callW_pure rfl works_ok (by simp)
  · by_cases h2 : 70 < l.length
    · have h2' : (70 : Int) < l.length := by omega
      simp (disch := omega) [wrap_id, h1, h2, h2']
      exact callW_pure rfl works_ok (by simp)
    · have h2' : ¬ (70 : Int) < l.length := by omega
      simp (disch := omega) [wrap_id, h1, h2, h2']
      refine pureW_of rfl (bench_ok f b (by omega)) ?_
      simp (disch := omega) [wrap_id]
      refine pureW_of rfl (refBench_ok f b (by omega)) ?_
      simp (disch := omega) [wrap_id]
      refine pureW_of rfl (list_ok f g b l (by omega) (by omega)) ?_
      simp (disch := omega) [wrap_id]
      refine pureW_of rfl (refList_ok f g b l (by omega) (by omega)) ?_
      simp (disch := omega) [wrap_id]
      refine pureW_of rfl works_ok ?_
      simp (disch := omega) [wrap_id]

theorem law3 (b : Bch) (l : List Int) (hb : BOK b) (hl : l.length ≤ 9223372036854775807 ∧ ∀ n ∈ l, In64 n) : PureOK Try.prog 3 [Bn false b, Ls false l] (B true) := law3' false false b l hb.len hl.1

end Go.AM

/- LAWS: StrokeChains. Own work. -/
set_option linter.unusedSimpArgs false
set_option linter.unusedVariables false
namespace Go.AM
open Go.RowKit Go.Proofs

set_option maxHeartbeats 2000000 in
theorem law5 (b : Bch) (l m : List Int) (ms : List Mv) (hb : BOK b) (hl : l.length ≤ 9223372036854775807 ∧ ∀ n ∈ l, In64 n) (hm : m.length ≤ 9223372036854775807 ∧ ∀ n ∈ m, In64 n) (hms : MOK ms) : PureOK Try.prog 5 [Bn false b, Ls false l, Ls false m, Ms false ms] (B true) := by
  refine pure_of (walk Try.func5 form5 res5 (by show 4 ≤ _; decide) ?_)
  have ml := hms.1
  simp -implicitDefEqProofs (disch := omega) [G5, wrap_id]
  refine callW_pure rfl (great_ok false b hb.len) ?_
  by_cases h1 : 40 < b.c.length
  · simp -implicitDefEqProofs (disch := omega) [wrap_id, h1]
    exact callW_pure rfl works_ok (by simp)
  by_cases h2 : 70 < l.length
  · have h2' : (70 : Int) < l.length := by omega
    simp -implicitDefEqProofs (disch := omega) [wrap_id, h1, h2, h2']
    exact callW_pure rfl works_ok (by simp)
  by_cases h3 : 70 < m.length
  · have h2' : ¬ (70 : Int) < l.length := by omega
    have h3' : (70 : Int) < m.length := by omega
    simp -implicitDefEqProofs (disch := omega) [wrap_id, h1, h2, h2', h3, h3']
    exact callW_pure rfl works_ok (by simp)
  have h2' : ¬ (70 : Int) < l.length := by omega
  have h3' : ¬ (70 : Int) < m.length := by omega
  by_cases h4 : 200 < ms.length ∧ ms.length ≤ 8192
  · have h4' : (200 : Int) < ms.length := by omega
    have h5' : (ms.length : Int) ≤ 8192 := by omega
    simp -implicitDefEqProofs (disch := omega) [wrap_id, h1, h2, h2', h3, h3', h4', h5']
    exact callW_pure rfl works_ok (by simp)
  by_cases h5 : 8200 < ms.length
  · have h4' : (200 : Int) < ms.length := by omega
    have h5' : ¬ (ms.length : Int) ≤ 8192 := by omega
    have h6' : (8200 : Int) < ms.length := by omega
    simp -implicitDefEqProofs (disch := omega) [wrap_id, h1, h2, h2', h3, h3', h4', h5', h6']
    exact callW_pure rfl works_ok (by simp)
  have h6' : ¬ (8200 : Int) < ms.length := by omega
  have go : (decide ((200 : Int) < ms.length) = true → (ms.length : Int) ≤ 8192 → False) := fun h h' => by simp at h; omega
  have cz := fun hs => chain_zero (b := b) (l := l) (m := m) hs
  have cl : (chnR b l m).length ≤ 3540 := by
    by_cases hs : sameR b l m = 0
    · exact (cz hs).2.2
    · unfold chnR; rw [if_pos hs]; simp
  by_cases h7 : 200 < ms.length
  all_goals first
  | have h4' : (200 : Int) < ms.length := by omega
    have h5' : ¬ (ms.length : Int) ≤ 8192 := by omega
    simp -implicitDefEqProofs (disch := omega) [wrap_id, h1, h2, h2', h3, h3', h4', h5', h6']
  | have h4' : ¬ (200 : Int) < ms.length := by omega
    simp -implicitDefEqProofs (disch := omega) [wrap_id, h1, h2, h2', h3, h3', h4', h6']
  all_goals
    refine callW_pure rfl (chainGo_ok false false false b l m (by omega) (by omega) (by omega)) ?_
    simp -implicitDefEqProofs (disch := omega) [wrap_id]
    refine callW_pure rfl (refSame_ok false false false b l m (by omega) (by omega) (by omega)) ?_
    simp -implicitDefEqProofs (disch := omega) [wrap_id]
    refine pureW_of rfl (chain_c false false false false b l m ms (by omega) (by omega) (by omega) (by omega) hms.2) ?_
    simp -implicitDefEqProofs (disch := omega) [wrap_id]
    refine pureW_of rfl (refChain_ok false false false false b l m ms (by omega) (by omega) (by omega) (by omega) hms.2) ?_
    simp -implicitDefEqProofs (disch := omega) [wrap_id, cmp2, nthT, disj]
    by_cases hs : sameR b l m = 0
    · obtain ⟨z1, z2, z3⟩ := cz hs
      simp -implicitDefEqProofs (disch := omega) [wrap_id, hs]
      refine callW_pure rfl (refChain_ok false false false false b l m (chnR b l m) (by omega) (by omega) (by omega) (by omega) z2) ?_
      rw [z1]
      simp -implicitDefEqProofs (disch := omega) [wrap_id]
      exact callW_pure rfl works_ok (by simp)
    · have hs' : (sameR b l m != 0) = true := by simpa using hs
      have e : chnR b l m = [] := by unfold chnR; rw [if_pos hs]
      simp -implicitDefEqProofs (disch := omega) [wrap_id, hs, hs', e]
      exact callW_pure rfl works_ok (by simp)

end Go.AM
