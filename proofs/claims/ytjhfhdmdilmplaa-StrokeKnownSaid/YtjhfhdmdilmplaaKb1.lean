/-
  TABLE ENTRIES OF THE EVALUATOR. Own work (printed by a program of this claim).
  STROKEKNOWN: the closed statement, by the evaluator. Own work (printed by a program of this claim).
-/
import Derived.Test.YtjhfhdmdilmplaaKc6

/- TABLE ENTRIES OF THE EVALUATOR. Own work (printed by a program of this claim). -/
set_option maxRecDepth 100000
namespace Go.AM
open Go.RowKit Go.Proofs

/-- oxgall/oxgalllaw02.StrokeBenches -/
def C3 : Code := ⟨3, true, 30, [(4, none)], G3⟩
theorem cok3 : CodeOK Try.prog C3 := codeOK (fn := Try.f3) (ts := [4]) Try.func3 form3 (resTmps_C res3) (by kernel_rfl) (by kernel_rfl)
/-- oxgall/oxgalllaw02.StrokeShorts -/
def C4 : Code := ⟨4, true, 58, [(6, none)], G4⟩
theorem cok4 : CodeOK Try.prog C4 := codeOK (fn := Try.f4) (ts := [6]) Try.func4 form4 (resTmps_C res4) (by kernel_rfl) (by kernel_rfl)
/-- oxgall/oxgalllaw02.StrokeChains -/
def C5 : Code := ⟨5, true, 84, [(8, none)], G5⟩
theorem cok5 : CodeOK Try.prog C5 := codeOK (fn := Try.f5) (ts := [8]) Try.func5 form5 (resTmps_C res5) (by kernel_rfl) (by kernel_rfl)
/-- oxgall/oxgalllaw02.StrokeRounds -/
def C6 : Code := ⟨6, true, 141, [(6, none)], G6⟩
theorem cok6 : CodeOK Try.prog C6 := codeOK (fn := Try.f6) (ts := [6]) Try.func6 form6 (resTmps_C res6) (by kernel_rfl) (by kernel_rfl)
/-- oxgall/oxgalllaw02.StrokeCounts -/
def C7 : Code := ⟨7, true, 56, [(4, none)], G7⟩
theorem cok7 : CodeOK Try.prog C7 := codeOK (fn := Try.f7) (ts := [4]) Try.func7 form7 (resTmps_C res7) (by kernel_rfl) (by kernel_rfl)
/-- oxgall/oxgalllaw02.StrokeWays -/
def C8 : Code := ⟨8, true, 77, [(6, none)], G8⟩
theorem cok8 : CodeOK Try.prog C8 := codeOK (fn := Try.f8) (ts := [6]) Try.func8 form8 (resTmps_C res8) (by kernel_rfl) (by kernel_rfl)
/-- oxgall/oxgalllaw02.StrokeExchanged -/
def C9 : Code := ⟨9, true, 196, [(10, none)], G9⟩
theorem cok9 : CodeOK Try.prog C9 := codeOK (fn := Try.f9) (ts := [10]) Try.func9 form9 (resTmps_C res9) (by kernel_rfl) (by kernel_rfl)
/-- oxgall/oxgalllaw02.StrokeShortest -/
def C10 : Code := ⟨10, true, 164, [(8, none)], G10⟩
theorem cok10 : CodeOK Try.prog C10 := codeOK (fn := Try.f10) (ts := [8]) Try.func10 form10 (resTmps_C res10) (by kernel_rfl) (by kernel_rfl)
/-- oxgall/oxgalllaw02.StrokeBack -/
def C11 : Code := ⟨11, true, 100, [(6, none)], G11⟩
theorem cok11 : CodeOK Try.prog C11 := codeOK (fn := Try.f11) (ts := [6]) Try.func11 form11 (resTmps_C res11) (by kernel_rfl) (by kernel_rfl)
/-- oxgall/oxgalllaw02.StrokeSeen -/
def C12 : Code := ⟨12, true, 167, [(8, none)], G12⟩
theorem cok12 : CodeOK Try.prog C12 := codeOK (fn := Try.f12) (ts := [8]) Try.func12 form12 (resTmps_C res12) (by kernel_rfl) (by kernel_rfl)
/-- oxgall/oxgalllaw02.StrokeRounded -/
def C13 : Code := ⟨13, true, 264, [(8, none)], G13⟩
theorem cok13 : CodeOK Try.prog C13 := codeOK (fn := Try.f13) (ts := [8]) Try.func13 form13 (resTmps_C res13) (by kernel_rfl) (by kernel_rfl)
/-- oxgall/oxgalllaw02.StrokeFar -/
def C14 : Code := ⟨14, true, 209, [(10, none)], G14⟩
theorem cok14 : CodeOK Try.prog C14 := codeOK (fn := Try.f14) (ts := [10]) Try.func14 form14 (resTmps_C res14) (by kernel_rfl) (by kernel_rfl)
/-- oxgall/oxgalllaw02.StrokeMeet -/
def C15 : Code := ⟨15, true, 274, [(8, none)], G15⟩
theorem cok15 : CodeOK Try.prog C15 := codeOK (fn := Try.f15) (ts := [8]) Try.func15 form15 (resTmps_C res15) (by kernel_rfl) (by kernel_rfl)
/-- oxgall/oxgalllaw02.StrokeCrossed -/
def C16 : Code := ⟨16, true, 136, [(10, none)], G16⟩
theorem cok16 : CodeOK Try.prog C16 := codeOK (fn := Try.f16) (ts := [10]) Try.func16 form16 (resTmps_C res16) (by kernel_rfl) (by kernel_rfl)
/-- oxgall/oxgalllaw02.StrokeKnown -/
def C17 : Code := ⟨17, true, 70, [(0, none)], G17⟩
theorem cok17 : CodeOK Try.prog C17 := codeOK (fn := Try.f17) (ts := [0]) Try.func17 form17 (resTmps_C res17) (by kernel_rfl) (by kernel_rfl)
end Go.AM

/- STROKEKNOWN: the closed statement, by the evaluator. Own work (printed by a program of this claim). -/
set_option maxRecDepth 1000000
namespace Go.AM
open Go.RowKit Go.Proofs

theorem pk0 : PureOK Try.prog 24 [(.agg [(I 4), (.sl true 3 [(I 0), (I 1), (I 1), (I 2), (I 2), (I 3)])]), (.sl true 3 [(I 1), (I 2), (I (-1))])] (.tup [(.sl false 3 [(I 1), (I 2), (I (-1))]), (I 0)]) := eval_tab hks1_ok (n := 100) (k := 30) (show evalE hks1 tab1 kn1 ovlX 100 30 24 [(.agg [(I 4), (.sl true 3 [(I 0), (I 1), (I 1), (I 2), (I 2), (I 3)])]), (.sl true 3 [(I 1), (I 2), (I (-1))])] = some (.val (.tup [(.sl false 3 [(I 1), (I 2), (I (-1))]), (I 0)])) by kernel_rfl)
theorem pk1 : PureOK Try.prog 36 [(.agg [(I 4), (.sl true 3 [(I 0), (I 1), (I 1), (I 2), (I 2), (I 3)])]), (.sl true 4 [(I 4), (I 1), (I 3), (I 2)]), (.sl true 3 [(I 0), (I 2), (I 3)])] (.tup [(I 0), (I 16)]) := eval_tab hks1_ok (n := 100) (k := 30) (show evalE hks1 tab1 kn1 ovlX 100 30 36 [(.agg [(I 4), (.sl true 3 [(I 0), (I 1), (I 1), (I 2), (I 2), (I 3)])]), (.sl true 4 [(I 4), (I 1), (I 3), (I 2)]), (.sl true 3 [(I 0), (I 2), (I 3)])] = some (.val (.tup [(I 0), (I 16)])) by kernel_rfl)
theorem pk2 : PureOK Try.prog 36 [(.agg [(I 4), (.sl true 3 [(I 0), (I 1), (I 1), (I 2), (I 2), (I 3)])]), (.sl true 4 [(I 4), (I 1), (I 3), (I 2)]), (.sl true 3 [(I 1), (I 2), (I 4)])] (.tup [(I 0), (I 3)]) := eval_tab hks1_ok (n := 100) (k := 30) (show evalE hks1 tab1 kn1 ovlX 100 30 36 [(.agg [(I 4), (.sl true 3 [(I 0), (I 1), (I 1), (I 2), (I 2), (I 3)])]), (.sl true 4 [(I 4), (I 1), (I 3), (I 2)]), (.sl true 3 [(I 1), (I 2), (I 4)])] = some (.val (.tup [(I 0), (I 3)])) by kernel_rfl)
theorem pk3 : PureOK Try.prog 41 [(.agg [(I 4), (.sl true 3 [(I 0), (I 1), (I 1), (I 2), (I 2), (I 3)])]), (.sl true 0 [])] (.tup [(I 1), (I 0)]) := eval_tab hks1_ok (n := 100) (k := 30) (show evalE hks1 tab1 kn1 ovlX 100 30 41 [(.agg [(I 4), (.sl true 3 [(I 0), (I 1), (I 1), (I 2), (I 2), (I 3)])]), (.sl true 0 [])] = some (.val (.tup [(I 1), (I 0)])) by kernel_rfl)
def hks3 : List Hk := [
  ⟨24, memoG [([(.agg [(I 4), (.sl true 3 [(I 0), (I 1), (I 1), (I 2), (I 2), (I 3)])]), (.sl true 3 [(I 1), (I 2), (I (-1))])], (.tup [(.sl false 3 [(I 1), (I 2), (I (-1))]), (I 0)]))]⟩,
  ⟨36, memoG [([(.agg [(I 4), (.sl true 3 [(I 0), (I 1), (I 1), (I 2), (I 2), (I 3)])]), (.sl true 4 [(I 4), (I 1), (I 3), (I 2)]), (.sl true 3 [(I 0), (I 2), (I 3)])], (.tup [(I 0), (I 16)])), ([(.agg [(I 4), (.sl true 3 [(I 0), (I 1), (I 1), (I 2), (I 2), (I 3)])]), (.sl true 4 [(I 4), (I 1), (I 3), (I 2)]), (.sl true 3 [(I 1), (I 2), (I 4)])], (.tup [(I 0), (I 3)]))]⟩,
  ⟨41, memoG [([(.agg [(I 4), (.sl true 3 [(I 0), (I 1), (I 1), (I 2), (I 2), (I 3)])]), (.sl true 0 [])], (.tup [(I 1), (I 0)]))]⟩,
  ⟨19, memoG [([], B true)]⟩
  ] ++ hks1
theorem hks3_ok : ∀ h ∈ hks3, HkOK Try.prog h := by
  intro h hm
  unfold hks3 at hm
  rw [List.mem_append] at hm
  rcases hm with hm | hm
  · simp only [List.mem_cons, List.not_mem_nil, or_false] at hm
    rcases hm with rfl | rfl | rfl | rfl
    · exact memoG_ok (by simp only [List.forall_mem_cons, List.not_mem_nil, false_implies, implies_true, and_true]; exact pk0)
    · exact memoG_ok (by simp only [List.forall_mem_cons, List.not_mem_nil, false_implies, implies_true, and_true]; exact ⟨pk1, pk2⟩)
    · exact memoG_ok (by simp only [List.forall_mem_cons, List.not_mem_nil, false_implies, implies_true, and_true]; exact pk3)
    · exact memoG_ok (by simp only [List.forall_mem_cons, List.not_mem_nil, false_implies, implies_true, and_true]; exact works_ok)
  · exact hks1_ok h hm

theorem tab2_ok : ∀ c ∈ C17 :: tab1, CodeOK Try.prog c := List.forall_mem_cons.2 ⟨cok17, tab1_ok⟩

theorem law17 : PureOK Try.prog 17 [] (B true) := evalE_ok (T := ⟨hks3, hks3_ok, C17 :: tab1, tab2_ok, kn1, kn1_ok, ovlX, ovlX_ok⟩) (n := 100) (k := 30) (show evalE hks3 (C17 :: tab1) kn1 ovlX 100 30 17 [] = some (.val (B true)) by kernel_rfl)
end Go.AM
