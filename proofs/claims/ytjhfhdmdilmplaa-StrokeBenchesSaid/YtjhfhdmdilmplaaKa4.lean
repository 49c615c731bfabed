/-
  THE COMPILED FORMS of functions of the program, each held against its body by the kernel. Own work (printed by a program of this claim).
  CONTRACTS, PART 1: strokes as numbers, comparisons of lists. Own work.
  CONTRACTS, PART 2: benches and lists. Own work.
  CONTRACTS, PART 3: lists of strokes. Own work.
  THE COMPILED FORMS of functions of the program, each held against its body by the kernel. Own work (printed by a program of this claim).
  CONTRACTS, PART 4: short forms as the specification makes them. Own work.
  CONTRACTS, PART 5: strokes that undo one another. Own work.
  CONTRACTS, PART 6: shortest lists, and which stroke comes first. Own work.
  CONTRACTS, PART 7: the stroke that comes first; short forms. Own work.
  CONTRACTS, PART 8: lists that grow; short forms. Own work.
  CONTRACTS, PART 9: the short form as the specification makes it. Own work.
  CONTRACTS, PART 10: what the specification answers. Own work.
  CONTRACTS, PART 11: which strokes can be first. Own work.
  CONTRACTS, PART 12: which strokes can be first: the function. Own work.
  ARGUMENTS OF THE STROKE LAYER, read. Own work.
  THE COMPILED FORMS of functions of the program, each held against its body by the kernel. Own work (printed by a program of this claim).
-/
import Derived.Test.YtjhfhdmdilmplaaKa3
import Derived.Test.YtjhfhdmdilmplaaProg
import Derived.ChangeKeysEq
import Derived.Laws.StructEq

/- THE COMPILED FORMS of functions of the program, each held against its body by the kernel. Own work (printed by a program of this claim). -/
set_option maxRecDepth 100000
namespace Go.AM
open Go.RowKit Go.Proofs

/-- oxgall/oxgalllaw02.great -/
def G18 : AC := (.seq (.rgn [⟨none, [(.box 1 2 (.t 0)), (.mv 2 (.k (B false)))]⟩] [1]) (.seq (.rgn [⟨none, [(.fa 3 (.t 1) 1), (.ld 4 false 1 (.t 3)), (.len 5 (.t 4)), (.bin 6 .gtr (.t 5) (.k (I 40))), (.mv 2 (.t 6))]⟩] [2]) .ret))
theorem form18 : formOf Try.prog Try.f18 [2] = some G18 := by kernel_rfl
theorem res18 : resTmps Try.f18.results.toList = some [2] := by kernel_rfl

/-- oxgall/stroke.CheckBench -/
def G20 : AC := (.seq (.rgn [⟨none, [(.box 1 2 (.t 0)), (.mv 2 (.k (I 0)))]⟩] [1]) (.seq (.seq (.rgn [⟨none, [(.fa 5 (.t 1) 0), (.ld 6 false 1 (.t 5)), (.bsl 7 1 1 [(I 0)] [(0, (.t 6))]), (.call 8 56 [(.k (I 1)), (.k (I 8)), (.t 7)]), (.un 9 .not (.t 8)), (.mv 10 (.t 9))]⟩, ⟨(some (10, false)), [(.fa 11 (.t 1) 1), (.ld 12 false 1 (.t 11)), (.len 13 (.t 12)), (.bin 14 .gtr (.t 13) (.k (I 28)))]⟩, ⟨none, [(.pick 15 (.t 10) (.k (B true)) (.t 14))]⟩] [1, 15]) (.cond (.t 15) (.seq (.rgn [⟨none, [(.mv 2 (.k (I 6)))]⟩] [2]) .ret) .skip)) (.seq (.seq (.rgn [⟨none, [(.fa 16 (.t 1) 1), (.ld 17 false 1 (.t 16)), (.len 18 (.t 17)), (.mv 19 (.k (I 0)))]⟩] [1, 17, 18, 19]) (.block 0 (.loop (.seq (.rgn [⟨none, [(.bin 20 .lss (.t 19) (.t 18))]⟩] [1, 17, 18, 19, 20]) (.seq (.cond (.t 20) .skip (.exit 0)) (.seq (.block 1 (.seq (.rgn [⟨none, [(.mv 21 (.t 19)), (.ia 22 2 (.t 17) (.t 19)), (.ld 23 true 2 (.t 22)), (.al 4 [(I 0), (I 0)]), (.mv 3 (.t 21)), (.st 2 (.t 4) (.t 23))]⟩] [1, 3, 4, 17, 18, 19]) (.seq (.drw [⟨none, [(.fa 24 (.t 1) 0), (.ld 25 false 1 (.t 24)), (.bin 26 .sub (.t 25) (.k (I 1))), (.iaa 27 2 1 (.t 4) (.k (I 0))), (.ld 28 false 1 (.t 27)), (.iaa 29 2 1 (.t 4) (.k (I 1))), (.ld 30 false 1 (.t 29)), (.bsl 31 2 1 [(I 0)] [(0, (.t 28)), (1, (.t 30))]), (.call 32 56 [(.k (I 0)), (.t 26), (.t 31)]), (.un 33 .not (.t 32)), (.mv 34 (.t 33))]⟩, ⟨(some (34, false)), [(.iaa 35 2 1 (.t 4) (.k (I 0))), (.ld 36 false 1 (.t 35)), (.iaa 37 2 1 (.t 4) (.k (I 1))), (.ld 38 false 1 (.t 37)), (.bin 39 .geq (.t 36) (.t 38))]⟩, ⟨none, [(.pick 40 (.t 34) (.k (B true)) (.t 39)), (.mv 41 (.t 40))]⟩, ⟨(some (41, false)), [(.fa 42 (.t 1) 1), (.ld 43 false 1 (.t 42)), (.mv 44 (.t 3)), (.slc 45 2 (.t 43) none (some (.t 44)) none), (.ld 46 true 2 (.t 4)), (.call 47 57 [(.t 45), (.t 46)])]⟩, ⟨none, [(.pick 48 (.t 41) (.k (B true)) (.t 47))]⟩] [(1, 4), (1, 6), (4, 6), (1, 7), (12, 14), (19, 22)] [1, 17, 18, 19, 48]) (.cond (.t 48) (.seq (.rgn [⟨none, [(.mv 2 (.k (I 2)))]⟩] [2]) .ret) .skip)))) (.rgn [⟨none, [(.bin 49 .add (.t 19) (.k (I 1))), (.mv 19 (.t 49))]⟩] [1, 17, 18, 19]))))))) (.seq (.rgn [⟨none, [(.mv 2 (.k (I 0)))]⟩] [2]) .ret))))
theorem form20 : formOf Try.prog Try.f20 [2] = some G20 := by kernel_rfl
theorem res20 : resTmps Try.f20.results.toList = some [2] := by kernel_rfl

/-- oxgall/oxgallref02.CheckBench -/
def G21 : AC := (.seq (.rgn [⟨none, [(.box 1 2 (.t 0)), (.mv 2 (.k (I 0)))]⟩] [1]) (.seq (.seq (.rgn [⟨none, [(.fa 6 (.t 1) 0), (.ld 7 false 1 (.t 6)), (.bin 8 .lss (.t 7) (.k (I 1))), (.mv 9 (.t 8))]⟩, ⟨(some (9, false)), [(.fa 10 (.t 1) 0), (.ld 11 false 1 (.t 10)), (.bin 12 .gtr (.t 11) (.k (I 8)))]⟩, ⟨none, [(.pick 13 (.t 9) (.k (B true)) (.t 12)), (.mv 14 (.t 13))]⟩, ⟨(some (14, false)), [(.fa 15 (.t 1) 1), (.ld 16 false 1 (.t 15)), (.len 17 (.t 16)), (.bin 18 .gtr (.t 17) (.k (I 28)))]⟩, ⟨none, [(.pick 19 (.t 14) (.k (B true)) (.t 18))]⟩] [1, 19]) (.cond (.t 19) (.seq (.rgn [⟨none, [(.mv 2 (.k (I 6)))]⟩] [2]) .ret) .skip)) (.seq (.seq (.rgn [⟨none, [(.mv 3 (.k (I 0)))]⟩] [1, 3]) (.block 0 (.loop (.seq (.seq (.rgn [⟨none, [(.mv 20 (.t 3)), (.fa 21 (.t 1) 1), (.ld 22 false 1 (.t 21)), (.len 23 (.t 22)), (.bin 24 .lss (.t 20) (.t 23))]⟩] [1, 3, 24]) (.cond (.t 24) .skip (.exit 0))) (.seq (.block 1 (.seq (.rgn [⟨none, [(.fa 27 (.t 1) 1), (.ld 28 false 1 (.t 27)), (.mv 29 (.t 3)), (.ia 30 2 (.t 28) (.t 29)), (.ld 31 true 2 (.t 30)), (.al 4 [(I 0), (I 0)]), (.st 2 (.t 4) (.t 31))]⟩] [1, 3, 4]) (.seq (.seq (.rgn [⟨none, [(.iaa 32 2 1 (.t 4) (.k (I 0))), (.ld 33 false 1 (.t 32)), (.bin 34 .lss (.t 33) (.k (I 0))), (.mv 35 (.t 34))]⟩, ⟨(some (35, false)), [(.iaa 36 2 1 (.t 4) (.k (I 0))), (.ld 37 false 1 (.t 36)), (.iaa 38 2 1 (.t 4) (.k (I 1))), (.ld 39 false 1 (.t 38)), (.bin 40 .geq (.t 37) (.t 39))]⟩, ⟨none, [(.pick 41 (.t 35) (.k (B true)) (.t 40)), (.mv 42 (.t 41))]⟩, ⟨(some (42, false)), [(.iaa 43 2 1 (.t 4) (.k (I 1))), (.ld 44 false 1 (.t 43)), (.fa 45 (.t 1) 0), (.ld 46 false 1 (.t 45)), (.bin 47 .geq (.t 44) (.t 46))]⟩, ⟨none, [(.pick 48 (.t 42) (.k (B true)) (.t 47))]⟩] [1, 3, 4, 48]) (.cond (.t 48) (.seq (.rgn [⟨none, [(.mv 2 (.k (I 2)))]⟩] [2]) .ret) .skip)) (.seq (.rgn [⟨none, [(.mv 5 (.k (I 0)))]⟩] [1, 3, 4, 5]) (.block 2 (.loop (.seq (.seq (.rgn [⟨none, [(.mv 49 (.t 5)), (.mv 50 (.t 3)), (.bin 51 .lss (.t 49) (.t 50))]⟩] [1, 3, 4, 5, 51]) (.cond (.t 51) .skip (.exit 2))) (.seq (.block 3 (.seq (.drw [⟨none, [(.fa 54 (.t 1) 1), (.ld 55 false 1 (.t 54)), (.mv 56 (.t 5)), (.ia 57 2 (.t 55) (.t 56)), (.ld 58 true 2 (.t 57)), (.ld 59 true 2 (.t 4)), (.eqk 60 false (true, [.int, .int]) (.t 58) (.t 59))]⟩] [(1, 5), (4, 5)] [1, 3, 4, 5, 60]) (.cond (.t 60) (.seq (.rgn [⟨none, [(.mv 2 (.k (I 2)))]⟩] [2]) .ret) .skip))) (.rgn [⟨none, [(.mv 52 (.t 5)), (.bin 53 .add (.t 52) (.k (I 1))), (.mv 5 (.t 53))]⟩] [1, 3, 4, 5]))))))))) (.rgn [⟨none, [(.mv 25 (.t 3)), (.bin 26 .add (.t 25) (.k (I 1))), (.mv 3 (.t 26))]⟩] [1, 3])))))) (.seq (.rgn [⟨none, [(.mv 2 (.k (I 0)))]⟩] [2]) .ret))))
theorem form21 : formOf Try.prog Try.f21 [2] = some G21 := by kernel_rfl
theorem res21 : resTmps Try.f21.results.toList = some [2] := by kernel_rfl

/-- oxgall/stroke.CheckList -/
def G22 : AC := (.seq (.rgn [⟨none, [(.box 2 2 (.t 0)), (.mv 4 (.k (I 0)))]⟩] [1, 2]) (.seq (.seq (.rgn [⟨none, [(.ld 6 true 2 (.t 2)), (.call 7 20 [(.t 6)]), (.mv 5 (.t 7))]⟩] [1, 2, 5]) (.seq (.rgn [⟨none, [(.mv 8 (.t 5)), (.bin 9 .neq (.t 8) (.k (I 0)))]⟩] [1, 2, 5, 9]) (.cond (.t 9) (.seq (.rgn [⟨none, [(.mv 10 (.t 5)), (.mv 4 (.t 10))]⟩] [4]) .ret) .skip))) (.seq (.block 0 (.seq (.rgn [⟨none, [(.mv 12 (.t 1)), (.len 13 (.t 12)), (.bin 14 .gtr (.t 13) (.k (I 60))), (.mv 11 (.t 14))]⟩] [1, 2, 11]) (.cond (.t 11) (.seq (.rgn [⟨none, [(.mv 4 (.k (I 6)))]⟩] [4]) .ret) (.seq (.rgn [⟨none, [(.fa 16 (.t 2) 0), (.ld 17 false 1 (.t 16)), (.un 18 .neg (.t 17)), (.fa 19 (.t 2) 0), (.ld 20 false 1 (.t 19)), (.mv 21 (.t 1)), (.call 22 56 [(.t 18), (.t 20), (.t 21)]), (.un 23 .not (.t 22)), (.mv 24 (.t 23))]⟩, ⟨(some (24, false)), [(.mv 25 (.t 1)), (.call 26 58 [(.t 25), (.k (I 0))])]⟩, ⟨none, [(.pick 27 (.t 24) (.k (B true)) (.t 26)), (.mv 15 (.t 27))]⟩] [15]) (.cond (.t 15) (.seq (.rgn [⟨none, [(.mv 4 (.k (I 3)))]⟩] [4]) .ret) .skip))))) (.seq (.rgn [⟨none, [(.mv 4 (.k (I 0)))]⟩] [4]) .ret))))
theorem form22 : formOf Try.prog Try.f22 [4] = some G22 := by kernel_rfl
theorem res22 : resTmps Try.f22.results.toList = some [4] := by kernel_rfl

/-- oxgall/oxgallref02.CheckList -/
def G23 : AC := (.seq (.rgn [⟨none, [(.box 2 2 (.t 0)), (.mv 4 (.k (I 0)))]⟩] [1, 2]) (.seq (.seq (.rgn [⟨none, [(.ld 6 true 2 (.t 2)), (.call 7 21 [(.t 6)]), (.bin 8 .neq (.t 7) (.k (I 0)))]⟩] [1, 2, 8]) (.cond (.t 8) (.seq (.rgn [⟨none, [(.ld 9 true 2 (.t 2)), (.call 10 21 [(.t 9)]), (.mv 4 (.t 10))]⟩] [4]) .ret) .skip)) (.seq (.seq (.rgn [⟨none, [(.mv 11 (.t 1)), (.len 12 (.t 11)), (.bin 13 .gtr (.t 12) (.k (I 60)))]⟩] [1, 2, 13]) (.cond (.t 13) (.seq (.rgn [⟨none, [(.mv 4 (.k (I 6)))]⟩] [4]) .ret) .skip)) (.seq (.seq (.rgn [⟨none, [(.mv 5 (.k (I 0)))]⟩] [1, 2, 5]) (.block 0 (.loop (.seq (.seq (.rgn [⟨none, [(.mv 14 (.t 5)), (.mv 15 (.t 1)), (.len 16 (.t 15)), (.bin 17 .lss (.t 14) (.t 16))]⟩] [1, 2, 5, 17]) (.cond (.t 17) .skip (.exit 0))) (.seq (.block 1 (.seq (.drw [⟨none, [(.ld 20 true 2 (.t 2)), (.mv 21 (.t 1)), (.mv 22 (.t 5)), (.ia 23 1 (.t 21) (.t 22)), (.ld 24 false 1 (.t 23)), (.call 25 51 [(.t 20), (.t 24)]), (.un 26 .not (.t 25))]⟩] [(0, 4)] [1, 2, 5, 26]) (.cond (.t 26) (.seq (.rgn [⟨none, [(.mv 4 (.k (I 3)))]⟩] [4]) .ret) .skip))) (.rgn [⟨none, [(.mv 18 (.t 5)), (.bin 19 .add (.t 18) (.k (I 1))), (.mv 5 (.t 19))]⟩] [1, 2, 5])))))) (.seq (.rgn [⟨none, [(.mv 4 (.k (I 0)))]⟩] [4]) .ret)))))
theorem form23 : formOf Try.prog Try.f23 [4] = some G23 := by kernel_rfl
theorem res23 : resTmps Try.f23.results.toList = some [4] := by kernel_rfl

/-- oxgall/stroke.Short -/
def G24 : AC := (.seq (.rgn [⟨none, [(.box 2 2 (.t 0)), (.mv 4 (.k (.sl true 0 []))), (.mv 5 (.k (I 0)))]⟩] [1, 2]) (.seq (.rgn [⟨none, [(.ld 11 true 2 (.t 2)), (.mv 12 (.t 1)), (.bsl 13 1 1 [(.sl true 0 [])] [(0, (.t 12))]), (.call 14 59 [(.t 11), (.t 13)]), (.mv 10 (.t 14)), (.ext 15 (.t 10) 0), (.ext 16 (.t 10) 1), (.mv 6 (.t 15)), (.mv 7 (.t 16))]⟩] [1, 6, 7]) (.seq (.seq (.rgn [⟨none, [(.mv 17 (.t 7)), (.bin 18 .neq (.t 17) (.k (I 0)))]⟩] [1, 6, 7, 18]) (.cond (.t 18) (.seq (.rgn [⟨none, [(.mv 19 (.t 7)), (.mv 4 (.k (.sl true 0 []))), (.mv 5 (.t 19))]⟩] [4, 5]) .ret) .skip)) (.seq (.rgn [⟨none, [(.mv 20 (.t 6)), (.mv 21 (.t 1)), (.call 22 60 [(.t 20), (.t 21)]), (.mv 8 (.t 22))]⟩] [8]) (.seq (.rgn [⟨none, [(.mv 23 (.t 8)), (.len 24 (.t 23)), (.mks 25 1 8 [(I 0)] (.t 24) (.t 24)), (.mv 9 (.t 25))]⟩] [8, 9]) (.seq (.rgn [⟨none, [(.mv 26 (.t 9)), (.mv 27 (.t 8)), (.cpy 28 1 (.t 26) (.t 27))]⟩] [9]) (.seq (.rgn [⟨none, [(.mv 29 (.t 9)), (.mv 4 (.t 29)), (.mv 5 (.k (I 0)))]⟩] [4, 5]) .ret)))))))
theorem form24 : formOf Try.prog Try.f24 [4, 5] = some G24 := by kernel_rfl
theorem res24 : resTmps Try.f24.results.toList = some [4, 5] := by kernel_rfl

/-- oxgall/oxgallref02.Short -/
def G25 : AC := (.seq (.rgn [⟨none, [(.box 2 2 (.t 0)), (.mv 4 (.k (.sl true 0 []))), (.mv 5 (.k (I 0)))]⟩] [1, 2]) (.seq (.seq (.rgn [⟨none, [(.ld 6 true 2 (.t 2)), (.mv 7 (.t 1)), (.call 8 23 [(.t 6), (.t 7)]), (.bin 9 .neq (.t 8) (.k (I 0)))]⟩] [1, 2, 9]) (.cond (.t 9) (.seq (.rgn [⟨none, [(.ld 10 true 2 (.t 2)), (.mv 11 (.t 1)), (.call 12 23 [(.t 10), (.t 11)]), (.mv 4 (.k (.sl true 0 []))), (.mv 5 (.t 12))]⟩] [4, 5]) .ret) .skip)) (.seq (.rgn [⟨none, [(.ld 13 true 2 (.t 2)), (.mv 14 (.t 1)), (.call 15 40 [(.t 13), (.t 14)]), (.mv 4 (.t 15)), (.mv 5 (.k (I 0)))]⟩] [4, 5]) .ret)))
theorem form25 : formOf Try.prog Try.f25 [4, 5] = some G25 := by kernel_rfl
theorem res25 : resTmps Try.f25.results.toList = some [4, 5] := by kernel_rfl

/-- oxgall/oxgallref02.Equal -/
def G26 : AC := (.seq (.rgn [⟨none, [(.mv 4 (.k (B false)))]⟩] [0, 1]) (.seq (.seq (.rgn [⟨none, [(.mv 6 (.t 0)), (.len 7 (.t 6)), (.mv 8 (.t 1)), (.len 9 (.t 8)), (.bin 10 .neq (.t 7) (.t 9))]⟩] [0, 1, 10]) (.cond (.t 10) (.seq (.rgn [⟨none, [(.mv 4 (.k (B false)))]⟩] [4]) .ret) .skip)) (.seq (.seq (.rgn [⟨none, [(.mv 5 (.k (I 0)))]⟩] [0, 1, 5]) (.block 0 (.loop (.seq (.seq (.rgn [⟨none, [(.mv 11 (.t 5)), (.mv 12 (.t 0)), (.len 13 (.t 12)), (.bin 14 .lss (.t 11) (.t 13))]⟩] [0, 1, 5, 14]) (.cond (.t 14) .skip (.exit 0))) (.seq (.block 1 (.seq (.drw [⟨none, [(.mv 17 (.t 0)), (.mv 18 (.t 5)), (.ia 19 1 (.t 17) (.t 18)), (.ld 20 false 1 (.t 19)), (.mv 21 (.t 1)), (.mv 22 (.t 5)), (.ia 23 1 (.t 21) (.t 22)), (.ld 24 false 1 (.t 23)), (.bin 25 .neq (.t 20) (.t 24))]⟩] [(3, 7)] [0, 1, 5, 25]) (.cond (.t 25) (.seq (.rgn [⟨none, [(.mv 4 (.k (B false)))]⟩] [4]) .ret) .skip))) (.rgn [⟨none, [(.mv 15 (.t 5)), (.bin 16 .add (.t 15) (.k (I 1))), (.mv 5 (.t 16))]⟩] [0, 1, 5])))))) (.seq (.rgn [⟨none, [(.mv 4 (.k (B true)))]⟩] [4]) .ret))))
theorem form26 : formOf Try.prog Try.f26 [4] = some G26 := by kernel_rfl
theorem res26 : resTmps Try.f26.results.toList = some [4] := by kernel_rfl

/-- oxgall/stroke.Same -/
def G27 : AC := (.seq (.rgn [⟨none, [(.box 3 2 (.t 0)), (.mv 6 (.k (I 0)))]⟩] [1, 2, 3]) (.seq (.rgn [⟨none, [(.ld 10 true 2 (.t 3)), (.mv 11 (.t 1)), (.mv 12 (.t 2)), (.bsl 13 2 1 [(.sl true 0 [])] [(0, (.t 11)), (1, (.t 12))]), (.call 14 59 [(.t 10), (.t 13)]), (.mv 9 (.t 14)), (.ext 15 (.t 9) 0), (.ext 16 (.t 9) 1), (.mv 7 (.t 15)), (.mv 8 (.t 16))]⟩] [1, 2, 7, 8]) (.seq (.block 0 (.seq (.rgn [⟨none, [(.mv 18 (.t 8)), (.bin 19 .neq (.t 18) (.k (I 0))), (.mv 17 (.t 19))]⟩] [1, 2, 7, 8, 17]) (.cond (.t 17) (.seq (.rgn [⟨none, [(.mv 20 (.t 8)), (.mv 6 (.t 20))]⟩] [6]) .ret) (.seq (.rgn [⟨none, [(.mv 22 (.t 7)), (.mv 23 (.t 1)), (.call 24 60 [(.t 22), (.t 23)]), (.mv 25 (.t 7)), (.mv 26 (.t 2)), (.call 27 60 [(.t 25), (.t 26)]), (.call 28 61 [(.t 24), (.t 27)]), (.un 29 .not (.t 28)), (.mv 21 (.t 29))]⟩] [21]) (.cond (.t 21) (.seq (.rgn [⟨none, [(.mv 6 (.k (I 18)))]⟩] [6]) .ret) .skip))))) (.seq (.rgn [⟨none, [(.mv 6 (.k (I 0)))]⟩] [6]) .ret))))
theorem form27 : formOf Try.prog Try.f27 [6] = some G27 := by kernel_rfl
theorem res27 : resTmps Try.f27.results.toList = some [6] := by kernel_rfl

/-- oxgall/oxgallref02.Same -/
def G28 : AC := (.seq (.rgn [⟨none, [(.box 3 2 (.t 0)), (.mv 6 (.k (I 0)))]⟩] [1, 2, 3]) (.seq (.seq (.rgn [⟨none, [(.ld 7 true 2 (.t 3)), (.mv 8 (.t 1)), (.mv 9 (.t 2)), (.call 10 62 [(.t 7), (.t 8), (.t 9)]), (.bin 11 .neq (.t 10) (.k (I 0)))]⟩] [1, 2, 3, 11]) (.cond (.t 11) (.seq (.rgn [⟨none, [(.ld 12 true 2 (.t 3)), (.mv 13 (.t 1)), (.mv 14 (.t 2)), (.call 15 62 [(.t 12), (.t 13), (.t 14)]), (.mv 6 (.t 15))]⟩] [6]) .ret) .skip)) (.seq (.seq (.drw [⟨none, [(.ld 16 true 2 (.t 3)), (.mv 17 (.t 1)), (.call 18 40 [(.t 16), (.t 17)]), (.ld 19 true 2 (.t 3)), (.mv 20 (.t 2)), (.call 21 40 [(.t 19), (.t 20)]), (.call 22 26 [(.t 18), (.t 21)]), (.un 23 .not (.t 22))]⟩] [(0, 3), (2, 3)] [23]) (.cond (.t 23) (.seq (.rgn [⟨none, [(.mv 6 (.k (I 18)))]⟩] [6]) .ret) .skip)) (.seq (.rgn [⟨none, [(.mv 6 (.k (I 0)))]⟩] [6]) .ret))))
theorem form28 : formOf Try.prog Try.f28 [6] = some G28 := by kernel_rfl
theorem res28 : resTmps Try.f28.results.toList = some [6] := by kernel_rfl

/-- oxgall/oxgallref02.IsStroke -/
def G51 : AC := (.seq (.rgn [⟨none, [(.box 2 2 (.t 0)), (.mv 4 (.k (B false)))]⟩] [1, 2]) (.seq (.rgn [⟨none, [(.mv 5 (.t 1)), (.bin 6 .geq (.t 5) (.k (I 1))), (.mv 7 (.t 6))]⟩, ⟨(some (7, true)), [(.mv 8 (.t 1)), (.fa 9 (.t 2) 0), (.ld 10 false 1 (.t 9)), (.bin 11 .leq (.t 8) (.t 10))]⟩, ⟨none, [(.pick 12 (.t 7) (.t 11) (.k (B false))), (.mv 13 (.t 12))]⟩, ⟨(some (13, false)), [(.mv 14 (.t 1)), (.bin 15 .leq (.t 14) (.k (I (-1)))), (.mv 16 (.t 15))]⟩, ⟨(some (16, true)), [(.mv 17 (.t 1)), (.fa 18 (.t 2) 0), (.ld 19 false 1 (.t 18)), (.un 20 .neg (.t 19)), (.bin 21 .geq (.t 17) (.t 20))]⟩, ⟨(some (13, false)), [(.pick 22 (.t 16) (.t 21) (.k (B false)))]⟩, ⟨none, [(.pick 23 (.t 13) (.k (B true)) (.t 22)), (.mv 4 (.t 23))]⟩] [4]) .ret))
theorem form51 : formOf Try.prog Try.f51 [4] = some G51 := by kernel_rfl
theorem res51 : resTmps Try.f51.results.toList = some [4] := by kernel_rfl

/-- oxgall/oxgallref02.Can -/
def G52 : AC := (.seq (.rgn [⟨none, [(.box 3 2 (.t 0)), (.mv 6 (.k (B false)))]⟩] [1, 2, 3]) (.seq (.rgn [⟨none, [(.mv 10 (.t 1)), (.call 11 86 [(.t 10)]), (.mv 12 (.t 2)), (.call 13 86 [(.t 12)]), (.mv 7 (.t 11)), (.mv 8 (.t 13))]⟩] [3, 7, 8]) (.seq (.seq (.rgn [⟨none, [(.mv 14 (.t 7)), (.mv 15 (.t 8)), (.bin 16 .eql (.t 14) (.t 15))]⟩] [3, 7, 8, 16]) (.cond (.t 16) (.seq (.rgn [⟨none, [(.mv 6 (.k (B false)))]⟩] [6]) .ret) .skip)) (.seq (.seq (.rgn [⟨none, [(.mv 9 (.k (I 0)))]⟩] [3, 7, 8, 9]) (.block 0 (.loop (.seq (.seq (.rgn [⟨none, [(.mv 17 (.t 9)), (.fa 18 (.t 3) 1), (.ld 19 false 1 (.t 18)), (.len 20 (.t 19)), (.bin 21 .lss (.t 17) (.t 20))]⟩] [3, 7, 8, 9, 21]) (.cond (.t 21) .skip (.exit 0))) (.seq (.block 1 (.seq (.rgn [⟨none, [(.fa 24 (.t 3) 1), (.ld 25 false 1 (.t 24)), (.mv 26 (.t 9)), (.ia 27 2 (.t 25) (.t 26)), (.ld 28 true 2 (.t 27)), (.mv 29 (.t 7)), (.mv 30 (.t 8)), (.mx 31 false (.t 29) (.t 30)), (.mv 32 (.t 7)), (.mv 33 (.t 8)), (.mx 34 true (.t 32) (.t 33)), (.bld 35 [(I 0), (I 0)] [(0, 1, (.t 31)), (1, 1, (.t 34))]), (.eqk 36 false (true, [.int, .int]) (.t 28) (.t 35))]⟩] [3, 7, 8, 9, 36]) (.cond (.t 36) (.seq (.rgn [⟨none, [(.mv 6 (.k (B false)))]⟩] [6]) .ret) .skip))) (.rgn [⟨none, [(.mv 22 (.t 9)), (.bin 23 .add (.t 22) (.k (I 1))), (.mv 9 (.t 23))]⟩] [3, 7, 8, 9])))))) (.seq (.rgn [⟨none, [(.mv 6 (.k (B true)))]⟩] [6]) .ret)))))
theorem form52 : formOf Try.prog Try.f52 [6] = some G52 := by kernel_rfl
theorem res52 : resTmps Try.f52.results.toList = some [6] := by kernel_rfl

/-- oxgall/oxgalllaw02.free -/
def G53 : AC := (.seq (.rgn [⟨none, [(.box 3 2 (.t 0)), (.mv 6 (.k (B false)))]⟩] [1, 2, 3]) (.seq (.seq (.rgn [⟨none, [(.mv 7 (.k (I 0)))]⟩] [1, 2, 3, 7]) (.block 0 (.loop (.seq (.seq (.rgn [⟨none, [(.mv 8 (.t 7)), (.mv 9 (.t 1)), (.len 10 (.t 9)), (.bin 11 .lss (.t 8) (.t 10))]⟩] [1, 2, 3, 7, 11]) (.cond (.t 11) .skip (.exit 0))) (.seq (.block 1 (.seq (.drw [⟨none, [(.ld 14 true 2 (.t 3)), (.mv 15 (.t 1)), (.mv 16 (.t 7)), (.ia 17 1 (.t 15) (.t 16)), (.ld 18 false 1 (.t 17)), (.mv 19 (.t 2)), (.call 20 52 [(.t 14), (.t 18), (.t 19)]), (.un 21 .not (.t 20))]⟩] [(0, 4)] [1, 2, 3, 7, 21]) (.cond (.t 21) (.seq (.rgn [⟨none, [(.mv 6 (.k (B false)))]⟩] [6]) .ret) .skip))) (.rgn [⟨none, [(.mv 12 (.t 7)), (.bin 13 .add (.t 12) (.k (I 1))), (.mv 7 (.t 13))]⟩] [1, 2, 3, 7])))))) (.seq (.rgn [⟨none, [(.mv 6 (.k (B true)))]⟩] [6]) .ret)))
theorem form53 : formOf Try.prog Try.f53 [6] = some G53 := by kernel_rfl
theorem res53 : resTmps Try.f53.results.toList = some [6] := by kernel_rfl

/-- oxgall/stroke.within -/
def G56 : AC := (.seq (.rgn [⟨none, [(.box 3 1 (.t 0)), (.box 4 1 (.t 1)), (.mv 6 (.k (B false)))]⟩] [2, 3, 4]) (.seq (.rgn [⟨none, [(.mv 7 (.t 2)), (.mkf 8 (.func 88) [] [(.t 3), (.t 4)]), (.call 9 87 [(.t 7), (.t 8)]), (.un 10 .not (.t 9)), (.mv 6 (.t 10))]⟩] [6]) .ret))
theorem form56 : formOf Try.prog Try.f56 [6] = some G56 := by kernel_rfl
theorem res56 : resTmps Try.f56.results.toList = some [6] := by kernel_rfl

/-- slices.Contains[[][2]int,[2]int] -/
def G57 : AC := (.seq (.rgn [⟨none, [(.box 3 2 (.t 1)), (.mv 4 (.k (B false)))]⟩] [0, 3]) (.seq (.rgn [⟨none, [(.mv 5 (.t 0)), (.ld 6 true 2 (.t 3)), (.call 7 89 [(.t 5), (.t 6)]), (.bin 8 .geq (.t 7) (.k (I 0))), (.mv 4 (.t 8))]⟩] [4]) .ret))
theorem form57 : formOf Try.prog Try.f57 [4] = some G57 := by kernel_rfl
theorem res57 : resTmps Try.f57.results.toList = some [4] := by kernel_rfl

/-- slices.Contains[[]int,int] -/
def G58 : AC := (.seq (.rgn [⟨none, [(.mv 4 (.k (B false)))]⟩] [0, 1]) (.seq (.rgn [⟨none, [(.mv 5 (.t 0)), (.mv 6 (.t 1)), (.call 7 90 [(.t 5), (.t 6)]), (.bin 8 .geq (.t 7) (.k (I 0))), (.mv 4 (.t 8))]⟩] [4]) .ret))
theorem form58 : formOf Try.prog Try.f58 [4] = some G58 := by kernel_rfl
theorem res58 : resTmps Try.f58.results.toList = some [4] := by kernel_rfl

/-- slices.Equal[[]int,int] -/
def G61 : AC := (.seq (.rgn [⟨none, [(.mv 4 (.k (B false)))]⟩] [0, 1]) (.seq (.seq (.rgn [⟨none, [(.mv 6 (.t 0)), (.len 7 (.t 6)), (.mv 8 (.t 1)), (.len 9 (.t 8)), (.bin 10 .neq (.t 7) (.t 9))]⟩] [0, 1, 10]) (.cond (.t 10) (.seq (.rgn [⟨none, [(.mv 4 (.k (B false)))]⟩] [4]) .ret) .skip)) (.seq (.seq (.rgn [⟨none, [(.mv 11 (.t 0)), (.len 12 (.t 11)), (.mv 13 (.k (I 0)))]⟩] [0, 1, 12, 13]) (.block 0 (.loop (.seq (.rgn [⟨none, [(.bin 14 .lss (.t 13) (.t 12))]⟩] [0, 1, 12, 13, 14]) (.seq (.cond (.t 14) .skip (.exit 0)) (.seq (.block 1 (.seq (.rgn [⟨none, [(.mv 15 (.t 13)), (.mv 5 (.t 15))]⟩] [0, 1, 5, 12, 13]) (.seq (.drw [⟨none, [(.mv 16 (.t 0)), (.mv 17 (.t 5)), (.ia 18 1 (.t 16) (.t 17)), (.ld 19 false 1 (.t 18)), (.mv 20 (.t 1)), (.mv 21 (.t 5)), (.ia 22 1 (.t 20) (.t 21)), (.ld 23 false 1 (.t 22)), (.bin 24 .neq (.t 19) (.t 23))]⟩] [(3, 7)] [0, 1, 12, 13, 24]) (.cond (.t 24) (.seq (.rgn [⟨none, [(.mv 4 (.k (B false)))]⟩] [4]) .ret) .skip)))) (.rgn [⟨none, [(.bin 25 .add (.t 13) (.k (I 1))), (.mv 13 (.t 25))]⟩] [0, 1, 12, 13]))))))) (.seq (.rgn [⟨none, [(.mv 4 (.k (B true)))]⟩] [4]) .ret))))
theorem form61 : formOf Try.prog Try.f61 [4] = some G61 := by kernel_rfl
theorem res61 : resTmps Try.f61.results.toList = some [4] := by kernel_rfl

/-- oxgall/oxgallref02.Two -/
def G62 : AC := (.seq (.rgn [⟨none, [(.box 3 2 (.t 0)), (.mv 6 (.k (I 0)))]⟩] [1, 2, 3]) (.seq (.seq (.rgn [⟨none, [(.ld 7 true 2 (.t 3)), (.mv 8 (.t 1)), (.call 9 23 [(.t 7), (.t 8)]), (.bin 10 .neq (.t 9) (.k (I 0)))]⟩] [1, 2, 3, 10]) (.cond (.t 10) (.seq (.rgn [⟨none, [(.ld 11 true 2 (.t 3)), (.mv 12 (.t 1)), (.call 13 23 [(.t 11), (.t 12)]), (.mv 6 (.t 13))]⟩] [6]) .ret) .skip)) (.seq (.rgn [⟨none, [(.ld 14 true 2 (.t 3)), (.mv 15 (.t 2)), (.call 16 23 [(.t 14), (.t 15)]), (.mv 6 (.t 16))]⟩] [6]) .ret)))
theorem form62 : formOf Try.prog Try.f62 [6] = some G62 := by kernel_rfl
theorem res62 : resTmps Try.f62.results.toList = some [6] := by kernel_rfl

/-- oxgall/oxgallref02.Reduced -/
def G77 : AC := (.seq (.rgn [⟨none, [(.box 2 2 (.t 0)), (.mv 4 (.k (.sl true 0 [])))]⟩] [1, 2]) (.seq (.rgn [⟨none, [(.bsl 8 0 1 [(I 0)] []), (.mv 9 (.t 1)), (.app 10 1 8 (.t 8) (.t 9)), (.mv 5 (.t 10))]⟩] [2, 5]) (.seq (.rgn [⟨none, [(.ld 12 true 2 (.t 2)), (.mv 13 (.t 5)), (.call 14 101 [(.t 12), (.t 13)]), (.mv 11 (.t 14)), (.ext 15 (.t 11) 0), (.ext 16 (.t 11) 1), (.mv 6 (.t 15)), (.mv 7 (.t 16))]⟩] [2, 5, 6, 7]) (.seq (.block 0 (.loop (.seq (.seq (.rgn [⟨none, [(.mv 17 (.t 6)), (.bin 18 .geq (.t 17) (.k (I 0)))]⟩] [2, 5, 6, 7, 18]) (.cond (.t 18) .skip (.exit 0))) (.block 1 (.seq (.rgn [⟨none, [(.mv 19 (.t 5)), (.mv 20 (.t 7)), (.call 21 74 [(.t 19), (.t 20)]), (.mv 22 (.t 6)), (.call 23 74 [(.t 21), (.t 22)]), (.mv 5 (.t 23))]⟩] [2, 5]) (.rgn [⟨none, [(.ld 25 true 2 (.t 2)), (.mv 26 (.t 5)), (.call 27 101 [(.t 25), (.t 26)]), (.mv 24 (.t 27)), (.ext 28 (.t 24) 0), (.ext 29 (.t 24) 1), (.mv 6 (.t 28)), (.mv 7 (.t 29))]⟩] [2, 5, 6, 7])))))) (.seq (.rgn [⟨none, [(.mv 30 (.t 5)), (.mv 4 (.t 30))]⟩] [4]) .ret)))))
theorem form77 : formOf Try.prog Try.f77 [4] = some G77 := by kernel_rfl
theorem res77 : resTmps Try.f77.results.toList = some [4] := by kernel_rfl

/-- oxgall/stroke.least[int] -/
def G83 : AC := (.seq (.rgn [⟨none, [(.mv 4 (.k (I 0)))]⟩] [0, 1]) (.seq (.rgn [⟨none, [(.mv 8 (.t 0)), (.ia 9 1 (.t 8) (.k (I 0))), (.ld 10 false 1 (.t 9)), (.mv 5 (.t 10))]⟩] [0, 1, 5]) (.seq (.seq (.rgn [⟨none, [(.mv 11 (.t 0)), (.slc 12 1 (.t 11) (some (.k (I 1))) none none), (.len 13 (.t 12)), (.mv 14 (.k (I 0)))]⟩] [1, 5, 12, 13, 14]) (.block 0 (.loop (.seq (.rgn [⟨none, [(.bin 15 .lss (.t 14) (.t 13))]⟩] [1, 5, 12, 13, 14, 15]) (.seq (.cond (.t 15) .skip (.exit 0)) (.seq (.block 1 (.seq (.rgn [⟨none, [(.ia 16 1 (.t 12) (.t 14)), (.ld 17 false 1 (.t 16)), (.mv 7 (.t 17))]⟩] [1, 5, 7, 12, 13, 14]) (.seq (.rgn [⟨none, [(.mv 18 (.t 1)), (.mv 19 (.t 7)), (.callv 20 (.t 18) [(.t 19)]), (.mv 21 (.t 1)), (.mv 22 (.t 5)), (.callv 23 (.t 21) [(.t 22)]), (.bin 24 .lss (.t 20) (.t 23))]⟩] [1, 5, 7, 12, 13, 14, 24]) (.cond (.t 24) (.rgn [⟨none, [(.mv 25 (.t 7)), (.mv 5 (.t 25))]⟩] [1, 5, 12, 13, 14]) .skip)))) (.rgn [⟨none, [(.bin 26 .add (.t 14) (.k (I 1))), (.mv 14 (.t 26))]⟩] [1, 5, 12, 13, 14]))))))) (.seq (.rgn [⟨none, [(.mv 27 (.t 5)), (.mv 4 (.t 27))]⟩] [4]) .ret))))
theorem form83 : formOf Try.prog Try.f83 [4] = some G83 := by kernel_rfl
theorem res83 : resTmps Try.f83.results.toList = some [4] := by kernel_rfl

/-- oxgall/stroke.key -/
def G84 : AC := (.seq (.rgn [⟨none, [(.mv 2 (.k (I 0)))]⟩] [0]) (.seq (.seq (.rgn [⟨none, [(.mv 3 (.t 0)), (.bin 4 .lss (.t 3) (.k (I 0)))]⟩] [0, 4]) (.cond (.t 4) (.seq (.rgn [⟨none, [(.mv 5 (.t 0)), (.bin 6 .mul (.k (I (-2))) (.t 5)), (.bin 7 .sub (.t 6) (.k (I 1))), (.mv 2 (.t 7))]⟩] [2]) .ret) .skip)) (.seq (.rgn [⟨none, [(.mv 8 (.t 0)), (.bin 9 .mul (.k (I 2)) (.t 8)), (.bin 10 .sub (.t 9) (.k (I 2))), (.mv 2 (.t 10))]⟩] [2]) .ret)))
theorem form84 : formOf Try.prog Try.f84 [2] = some G84 := by kernel_rfl
theorem res84 : resTmps Try.f84.results.toList = some [2] := by kernel_rfl

/-- oxgall/oxgallref02.Line -/
def G86 : AC := (.seq (.rgn [⟨none, [(.mv 2 (.k (I 0)))]⟩] [0]) (.seq (.seq (.rgn [⟨none, [(.mv 3 (.t 0)), (.bin 4 .lss (.t 3) (.k (I 0)))]⟩] [0, 4]) (.cond (.t 4) (.seq (.rgn [⟨none, [(.mv 5 (.t 0)), (.bin 6 .sub (.k (I (-1))) (.t 5)), (.mv 2 (.t 6))]⟩] [2]) .ret) .skip)) (.seq (.rgn [⟨none, [(.mv 7 (.t 0)), (.bin 8 .sub (.t 7) (.k (I 1))), (.mv 2 (.t 8))]⟩] [2]) .ret)))
theorem form86 : formOf Try.prog Try.f86 [2] = some G86 := by kernel_rfl
theorem res86 : resTmps Try.f86.results.toList = some [2] := by kernel_rfl

/-- slices.ContainsFunc[[]int,int] -/
def G87 : AC := (.seq (.rgn [⟨none, [(.mv 4 (.k (B false)))]⟩] [0, 1]) (.seq (.rgn [⟨none, [(.mv 5 (.t 0)), (.mv 6 (.t 1)), (.call 7 104 [(.t 5), (.t 6)]), (.bin 8 .geq (.t 7) (.k (I 0))), (.mv 4 (.t 8))]⟩] [4]) .ret))
theorem form87 : formOf Try.prog Try.f87 [4] = some G87 := by kernel_rfl
theorem res87 : resTmps Try.f87.results.toList = some [4] := by kernel_rfl

/-- oxgall/stroke.within$1 -/
def G88 : AC := (.seq (.rgn [⟨none, [(.mv 4 (.k (B false)))]⟩] [0, 1, 2]) (.seq (.rgn [⟨none, [(.mv 5 (.t 0)), (.ld 6 false 1 (.t 1)), (.bin 7 .lss (.t 5) (.t 6)), (.mv 8 (.t 7))]⟩, ⟨(some (8, false)), [(.mv 9 (.t 0)), (.ld 10 false 1 (.t 2)), (.bin 11 .gtr (.t 9) (.t 10))]⟩, ⟨none, [(.pick 12 (.t 8) (.k (B true)) (.t 11)), (.mv 4 (.t 12))]⟩] [4]) .ret))
theorem form88 : formOf Try.prog Try.f88 [4] = some G88 := by kernel_rfl
theorem res88 : resTmps Try.f88.results.toList = some [4] := by kernel_rfl

/-- slices.Index[[][2]int,[2]int] -/
def G89 : AC := (.seq (.rgn [⟨none, [(.box 3 2 (.t 1)), (.mv 4 (.k (I 0)))]⟩] [0, 3]) (.seq (.seq (.rgn [⟨none, [(.mv 6 (.t 0)), (.len 7 (.t 6)), (.mv 8 (.k (I 0)))]⟩] [0, 3, 7, 8]) (.block 0 (.loop (.seq (.rgn [⟨none, [(.bin 9 .lss (.t 8) (.t 7))]⟩] [0, 3, 7, 8, 9]) (.seq (.cond (.t 9) .skip (.exit 0)) (.seq (.block 1 (.seq (.rgn [⟨none, [(.mv 10 (.t 8)), (.mv 5 (.t 10))]⟩] [0, 3, 5, 7, 8]) (.seq (.drw [⟨none, [(.ld 11 true 2 (.t 3)), (.mv 12 (.t 0)), (.mv 13 (.t 5)), (.ia 14 2 (.t 12) (.t 13)), (.ld 15 true 2 (.t 14)), (.eqk 16 false (true, [.int, .int]) (.t 11) (.t 15))]⟩] [(0, 4)] [0, 3, 5, 7, 8, 16]) (.cond (.t 16) (.seq (.rgn [⟨none, [(.mv 17 (.t 5)), (.mv 4 (.t 17))]⟩] [4]) .ret) .skip)))) (.rgn [⟨none, [(.bin 18 .add (.t 8) (.k (I 1))), (.mv 8 (.t 18))]⟩] [0, 3, 7, 8]))))))) (.seq (.rgn [⟨none, [(.mv 4 (.k (I (-1))))]⟩] [4]) .ret)))
theorem form89 : formOf Try.prog Try.f89 [4] = some G89 := by kernel_rfl
theorem res89 : resTmps Try.f89.results.toList = some [4] := by kernel_rfl

/-- slices.Index[[]int,int] -/
def G90 : AC := (.seq (.rgn [⟨none, [(.mv 4 (.k (I 0)))]⟩] [0, 1]) (.seq (.seq (.rgn [⟨none, [(.mv 6 (.t 0)), (.len 7 (.t 6)), (.mv 8 (.k (I 0)))]⟩] [0, 1, 7, 8]) (.block 0 (.loop (.seq (.rgn [⟨none, [(.bin 9 .lss (.t 8) (.t 7))]⟩] [0, 1, 7, 8, 9]) (.seq (.cond (.t 9) .skip (.exit 0)) (.seq (.block 1 (.seq (.rgn [⟨none, [(.mv 10 (.t 8)), (.mv 5 (.t 10))]⟩] [0, 1, 5, 7, 8]) (.seq (.rgn [⟨none, [(.mv 11 (.t 1)), (.mv 12 (.t 0)), (.mv 13 (.t 5)), (.ia 14 1 (.t 12) (.t 13)), (.ld 15 false 1 (.t 14)), (.bin 16 .eql (.t 11) (.t 15))]⟩] [0, 1, 5, 7, 8, 16]) (.cond (.t 16) (.seq (.rgn [⟨none, [(.mv 17 (.t 5)), (.mv 4 (.t 17))]⟩] [4]) .ret) .skip)))) (.rgn [⟨none, [(.bin 18 .add (.t 8) (.k (I 1))), (.mv 8 (.t 18))]⟩] [0, 1, 7, 8]))))))) (.seq (.rgn [⟨none, [(.mv 4 (.k (I (-1))))]⟩] [4]) .ret)))
theorem form90 : formOf Try.prog Try.f90 [4] = some G90 := by kernel_rfl
theorem res90 : resTmps Try.f90.results.toList = some [4] := by kernel_rfl

/-- oxgall/oxgallref02.Key -/
def G99 : AC := (.seq (.rgn [⟨none, [(.mv 2 (.k (I 0)))]⟩] [0]) (.seq (.seq (.rgn [⟨none, [(.mv 3 (.t 0)), (.bin 4 .lss (.t 3) (.k (I 0)))]⟩] [0, 4]) (.cond (.t 4) (.seq (.rgn [⟨none, [(.mv 5 (.t 0)), (.call 6 86 [(.t 5)]), (.bin 7 .mul (.k (I 2)) (.t 6)), (.bin 8 .add (.t 7) (.k (I 1))), (.mv 2 (.t 8))]⟩] [2]) .ret) .skip)) (.seq (.rgn [⟨none, [(.mv 9 (.t 0)), (.call 10 86 [(.t 9)]), (.bin 11 .mul (.k (I 2)) (.t 10)), (.mv 2 (.t 11))]⟩] [2]) .ret)))
theorem form99 : formOf Try.prog Try.f99 [2] = some G99 := by kernel_rfl
theorem res99 : resTmps Try.f99.results.toList = some [2] := by kernel_rfl

/-- oxgall/stroke.line -/
def G100 : AC := (.seq (.rgn [⟨none, [(.mv 2 (.k (I 0)))]⟩] [0]) (.seq (.rgn [⟨none, [(.mv 3 (.t 0)), (.mv 4 (.t 0)), (.un 5 .neg (.t 4)), (.mx 6 true (.t 3) (.t 5)), (.bin 7 .sub (.t 6) (.k (I 1))), (.mv 2 (.t 7))]⟩] [2]) .ret))
theorem form100 : formOf Try.prog Try.f100 [2] = some G100 := by kernel_rfl
theorem res100 : resTmps Try.f100.results.toList = some [2] := by kernel_rfl

/-- slices.IndexFunc[[]int,int] -/
def G104 : AC := (.seq (.rgn [⟨none, [(.mv 4 (.k (I 0)))]⟩] [0, 1]) (.seq (.seq (.rgn [⟨none, [(.mv 6 (.t 0)), (.len 7 (.t 6)), (.mv 8 (.k (I 0)))]⟩] [0, 1, 7, 8]) (.block 0 (.loop (.seq (.rgn [⟨none, [(.bin 9 .lss (.t 8) (.t 7))]⟩] [0, 1, 7, 8, 9]) (.seq (.cond (.t 9) .skip (.exit 0)) (.seq (.block 1 (.seq (.rgn [⟨none, [(.mv 10 (.t 8)), (.mv 5 (.t 10))]⟩] [0, 1, 5, 7, 8]) (.seq (.rgn [⟨none, [(.mv 11 (.t 1)), (.mv 12 (.t 0)), (.mv 13 (.t 5)), (.ia 14 1 (.t 12) (.t 13)), (.ld 15 false 1 (.t 14)), (.callv 16 (.t 11) [(.t 15)])]⟩] [0, 1, 5, 7, 8, 16]) (.cond (.t 16) (.seq (.rgn [⟨none, [(.mv 17 (.t 5)), (.mv 4 (.t 17))]⟩] [4]) .ret) .skip)))) (.rgn [⟨none, [(.bin 18 .add (.t 8) (.k (I 1))), (.mv 8 (.t 18))]⟩] [0, 1, 7, 8]))))))) (.seq (.rgn [⟨none, [(.mv 4 (.k (I (-1))))]⟩] [4]) .ret)))
theorem form104 : formOf Try.prog Try.f104 [4] = some G104 := by kernel_rfl
theorem res104 : resTmps Try.f104.results.toList = some [4] := by kernel_rfl

end Go.AM

/- CONTRACTS, PART 1: strokes as numbers, comparisons of lists. Own work. -/
set_option linter.unusedSimpArgs false
set_option linter.unusedVariables false
namespace Go.AM
open Go.RowKit Go.Proofs

/-- A list of numbers. -/
abbrev Ls (f : Bool) (l : List Int) : AV := .sl f l.length (l.map fun n => I n)

theorem line_ok (n : Int) (h : -1000000 ≤ n ∧ n ≤ 1000000) : PureOK Try.prog 100 [I n] (I (max n (-n) - 1)) := by
  refine pure_of (walk Try.func100 form100 res100 (by show 1 ≤ _; decide) ?_)
  simp (disch := omega) [G100, wrap_id]
  

theorem key_ok (n : Int) (h : -1000000 ≤ n ∧ n ≤ 1000000) : PureOK Try.prog 84 [I n] (I (if n < 0 then -2 * n - 1 else 2 * n - 2)) := by
  refine pure_of (walk Try.func84 form84 res84 (by show 1 ≤ _; decide) ?_)
  simp (disch := omega) [G84, wrap_id]
  refine c_split (fun h => ?_) (fun h => ?_)
  · simp at h; simp (disch := omega) [wrap_id, h]
  · simp at h; simp (disch := omega) [wrap_id]; omega

theorem equal_ok (f g : Bool) (l m : List Int) (hl : l.length ≤ 1000000) (hm : m.length ≤ 1000000) : PureOK Try.prog 26 [Ls f l, Ls g m] (B (decide (l = m))) := by
  refine pure_of (walk Try.func26 form26 res26 (by show 2 ≤ _; decide) ?_)
  simp (disch := omega) [G26, wrap_id]
  refine c_split (fun h => ?_) (fun h => ?_)
  · simp at h; simp (disch := omega) [wrap_id, h]
    intro e; subst e; exact h rfl
  · simp at h; simp (disch := omega) [wrap_id, h]
    refine loop_eq (fun i : Nat => ⟨[(0, Ls f l), (1, Ls g m), (5, I i)], []⟩) (fun i => i ≤ l.length ∧ l.take i = m.take i) (fun i => l.length - i) 0 ⟨by omega, rfl⟩ rfl ?_
    intro i ⟨hi, he⟩
    simp (disch := omega) [wrap_id]
    refine c_split (fun h => ?_) (fun h => ?_)
    · simp at h
      have h2 : i < m.length := by omega
      simp (disch := omega) [wrap_id, cells_ls, h, h2]
      refine c_split (fun h3 => ?_) (fun h3 => ?_)
      · simp at h3; simp (disch := omega) [wrap_id]
        intro e; subst e; exact h3 rfl
      · simp at h3; simp (disch := omega) [wrap_id]
        refine next_eq (i + 1) ⟨by omega, ?_⟩ (by omega) (by simp)
        rw [List.take_add_one, List.take_add_one, he]; simp [h, h2, h3]
    · simp at h; simp (disch := omega) [wrap_id]
      have e1 : l.take i = l := List.take_of_length_le h
      have e2 : m.take i = m := List.take_of_length_le (by omega)
      rw [← e1, he, e2]

/-- The index of the first one, or -1. -/
def idxI {α : Type} (p : α → Bool) (l : List α) : Int := match l.findIdx? p with
  | some k => k
  | none => -1

theorem idxI_some {α : Type} {p : α → Bool} {l : List α} {i : Nat} (h : i < l.length) (hp : p l[i] = true) (hn : ∀ k (hk : k < l.length), k < i → p l[k] = false) : idxI p l = i := by
  have : l.findIdx? p = some i := List.findIdx?_eq_some_iff_getElem.2 ⟨h, hp, fun j hj => by simpa using hn j (by omega) hj⟩
  simp [idxI, this]
theorem idxI_none {α : Type} {p : α → Bool} {l : List α} (hn : ∀ k (hk : k < l.length), p l[k] = false) : idxI p l = -1 := by
  have : l.findIdx? p = none := List.findIdx?_eq_none_iff.2 fun x hx => by
    obtain ⟨k, hk, rfl⟩ := List.getElem_of_mem hx
    exact hn k hk
  simp [idxI, this]
theorem idxI_any {α : Type} (p : α → Bool) (l : List α) : decide (idxI p l ≥ 0) = l.any p := by
  cases h : l.findIdx? p with
  | some k =>
    have h1 : idxI p l = k := by simp [idxI, h]
    obtain ⟨hk, h2, _⟩ := List.findIdx?_eq_some_iff_getElem.1 h
    rw [h1]
    have : l.any p = true := List.any_eq_true.2 ⟨l[k], List.getElem_mem hk, h2⟩
    rw [this]; simp
  | none =>
    have h1 : idxI p l = -1 := by simp [idxI, h]
    have : l.any p = false := by
      rw [List.any_eq_false]; intro x hx
      have := List.findIdx?_eq_none_iff.1 h x hx
      simp [this]
    rw [h1, this]; rfl

theorem within1_w (x lo hi : Int) (a b : Nat) (hp : List HObj) (ha : nthH hp a = some (.cells [I lo])) (hb : nthH hp b = some (.cells [I hi])) (K : AV → List HObj → Prop) (hK : K (B (decide (x < lo) || decide (x > hi))) hp) :
    CallW Try.prog 88 [I x, .ref a 0, .ref b 0] hp K := by
  refine walk Try.func88 form88 res88 (by show 3 ≤ _; decide) ?_
  simp [G88, ha, hb]
  refine gd_split (fun h => ?_) (fun h => ?_)
  · simp at h; simp [ha, hb, h] at hK ⊢; exact hK
  · simp at h; simp [ha, hb, show ¬ x < lo by omega] at hK ⊢; exact hK

theorem indexFunc_w (f : Bool) (l : List Int) (hl : l.length ≤ 1000000) (lo hi : Int) (a b : Nat) (hp : List HObj) (ha : nthH hp a = some (.cells [I lo])) (hb : nthH hp b = some (.cells [I hi])) (K : AV → List HObj → Prop)
    (hK : K (I (idxI (fun x => decide (x < lo) || decide (x > hi)) l)) hp) :
    CallW Try.prog 104 [Ls f l, .fn (.func 88) [] [.ref a 0, .ref b 0]] hp K := by
  refine walk Try.func104 form104 res104 (by show 2 ≤ _; decide) ?_
  simp [G104]
  refine loop_eq (fun i : Nat => ⟨[(0, Ls f l), (1, .fn (.func 88) [] [.ref a 0, .ref b 0]), (7, I l.length), (8, I i)], hp⟩) (fun i => i ≤ l.length ∧ ∀ k (h : k < l.length), k < i → ¬ (l[k] < lo ∨ l[k] > hi)) (fun i => l.length - i) 0 ⟨by omega, fun k _ h => by omega⟩ rfl ?_
  intro i ⟨hi1, hi2⟩
  simp (disch := omega) [wrap_id]
  refine c_split (fun h => ?_) (fun h => ?_)
  · simp at h
    simp (disch := omega) [wrap_id, cells_ls, h]
    refine ⟨by kernel_rfl, within1_w _ _ _ _ _ _ ha hb _ ?_⟩
    simp
    refine c_split (fun h3 => ?_) (fun h3 => ?_)
    · simp
      rw [idxI_some h (by simpa using h3) (fun k hk hk' => by simpa using hi2 k hk hk')] at hK
      exact hK
    · simp (disch := omega) [wrap_id]
      simp at h3
      refine next_eq (i + 1) ⟨by omega, fun k hk hk' => ?_⟩ (by omega) (by simp)
      by_cases e : k = i
      · subst e; exact h3
      · have := hi2 k hk (by omega); omega
  · simp at h
    simp
    rw [idxI_none (fun k hk => by have := hi2 k hk (by omega); simpa using this)] at hK
    exact hK

theorem containsFunc_w (f : Bool) (l : List Int) (hl : l.length ≤ 1000000) (lo hi : Int) (a b : Nat) (hp : List HObj) (ha : nthH hp a = some (.cells [I lo])) (hb : nthH hp b = some (.cells [I hi])) (K : AV → List HObj → Prop)
    (hK : K (B (l.any fun x => decide (x < lo) || decide (x > hi))) hp) :
    CallW Try.prog 87 [Ls f l, .fn (.func 88) [] [.ref a 0, .ref b 0]] hp K := by
  refine walk Try.func87 form87 res87 (by show 2 ≤ _; decide) ?_
  simp [G87]
  refine indexFunc_w f l hl lo hi a b hp ha hb _ ?_
  simp
  rw [← idxI_any] at hK
  exact hK

/-- Whether all numbers are from one to another one. -/
def allIn (lo hi : Int) (l : List Int) : Bool := l.all fun x => decide (lo ≤ x) && decide (x ≤ hi)

theorem allIn_any (lo hi : Int) (l : List Int) : allIn lo hi l = !(l.any fun x => decide (x < lo) || decide (hi < x)) := by
  induction l with
  | nil => rfl
  | cons x l ih =>
    simp only [allIn, List.all_cons, List.any_cons] at ih ⊢
    rw [ih]
    by_cases h1 : lo ≤ x
    · by_cases h2 : x ≤ hi
      · simp [h1, h2, show ¬ x < lo by omega, show ¬ hi < x by omega]
      · simp [h1, h2, show hi < x by omega]
    · simp [h1, show x < lo by omega]

theorem within_ok (lo hi : Int) (f : Bool) (l : List Int) (hl : l.length ≤ 1000000) : PureOK Try.prog 56 [I lo, I hi, Ls f l] (B (allIn lo hi l)) := by
  refine pure_of (walk Try.func56 form56 res56 (by show 3 ≤ _; decide) ?_)
  simp [G56]
  refine containsFunc_w f l hl lo hi 0 1 _ rfl rfl _ ?_
  simp
  exact allIn_any lo hi l

theorem index_ok (f : Bool) (l : List Int) (hl : l.length ≤ 1000000) (v : Int) : PureOK Try.prog 90 [Ls f l, I v] (I (idxI (fun x => v == x) l)) := by
  refine pure_of (walk Try.func90 form90 res90 (by show 2 ≤ _; decide) ?_)
  simp [G90]
  refine loop_eq (fun i : Nat => ⟨[(0, Ls f l), (1, I v), (7, I l.length), (8, I i)], []⟩) (fun i => i ≤ l.length ∧ ∀ k (h : k < l.length), k < i → v ≠ l[k]) (fun i => l.length - i) 0 ⟨by omega, fun k _ h => by omega⟩ rfl ?_
  intro i ⟨hi1, hi2⟩
  simp (disch := omega) [wrap_id]
  refine c_split (fun h => ?_) (fun h => ?_)
  · simp at h
    simp (disch := omega) [wrap_id, cells_ls, h]
    refine c_split (fun h3 => ?_) (fun h3 => ?_)
    · simp
      rw [idxI_some h (by simpa using h3) (fun k hk hk' => by simpa using hi2 k hk hk')]
    · simp (disch := omega) [wrap_id]
      simp at h3
      refine next_eq (i + 1) ⟨by omega, fun k hk hk' => ?_⟩ (by omega) (by simp)
      by_cases e : k = i
      · subst e; exact h3
      · exact hi2 k hk (by omega)
  · simp at h
    simp
    rw [idxI_none (fun k hk => by have := hi2 k hk (by omega); simpa using this)]

theorem idxI_mem {α : Type} [BEq α] [LawfulBEq α] (l : List α) (v : α) : 0 ≤ idxI (fun x => v == x) l ↔ v ∈ l := by
  have := idxI_any (fun x => v == x) l
  constructor
  · intro h
    have h2 : l.any (fun x => v == x) = true := by rw [← this]; simpa using h
    obtain ⟨x, hx, e⟩ := List.any_eq_true.1 h2
    have := LawfulBEq.eq_of_beq e
    rw [this]; exact hx
  · intro h
    have h2 : l.any (fun x => v == x) = true := List.any_eq_true.2 ⟨v, h, by simp⟩
    rw [h2] at this
    simpa using this

theorem contains_ok (f : Bool) (l : List Int) (hl : l.length ≤ 1000000) (v : Int) : PureOK Try.prog 58 [Ls f l, I v] (B (l.contains v)) := by
  refine pure_of (walk Try.func58 form58 res58 (by show 2 ≤ _; decide) ?_)
  simp [G58]
  refine callW_pure rfl (index_ok f l hl v) ?_
  simp
  exact (idxI_mem l v).symm

/-- Pairs of numbers, laid flat. -/
def flat2 (c : List (Int × Int)) : List AV := c.flatMap fun p => [I p.1, I p.2]
abbrev Ps (f : Bool) (c : List (Int × Int)) : AV := .sl f c.length (flat2 c)
abbrev Pr (p : Int × Int) : AV := .agg [I p.1, I p.2]

theorem flat2_len (c : List (Int × Int)) : (flat2 c).length = c.length * 2 := by
  induction c with
  | nil => rfl
  | cons p c ih => simp [flat2] at ih ⊢; omega

theorem flat2_drop (c : List (Int × Int)) (i : Nat) : (flat2 c).drop (i * 2) = flat2 (c.drop i) := by
  induction i generalizing c with
  | zero => simp
  | succ i ih =>
    cases c with
    | nil => simp [flat2]
    | cons p c =>
      have : (i + 1) * 2 = i * 2 + 1 + 1 := by omega
      rw [this]
      simp only [List.drop_succ_cons]
      rw [← ih c]
      rfl

theorem flat2_take (c : List (Int × Int)) (i : Nat) : (flat2 c).take (i * 2) = flat2 (c.take i) := by
  induction i generalizing c with
  | zero => simp [flat2]
  | succ i ih =>
    cases c with
    | nil => simp [flat2]
    | cons p c =>
      have : (i + 1) * 2 = i * 2 + 1 + 1 := by omega
      rw [this]
      show _ :: _ :: List.take (i * 2) (flat2 c) = _
      rw [ih c]
      rfl

theorem flat2_view {c : List (Int × Int)} {i : Nat} (h : i < c.length) : ((flat2 c).drop (i * 2)).take 2 = [I c[i].1, I c[i].2] := by
  rw [flat2_drop, List.drop_eq_getElem_cons h]
  rfl

theorem cells_pair {c : List (Int × Int)} {i : Nat} {K : AV → List (Nat × HObj) → Prop} (h : i < c.length) : CellsW (flat2 c) (i * 2) 2 true K = K (Pr (c.getD i (0, 0))) [] := by
  have := flat2_len c
  simp only [CellsW, view, flat2_view h]
  simp [h]
  intro _; omega

theorem bing_pair {neg : Bool} {p q : Int × Int} {K : AV → List (Nat × HObj) → Prop} : EqkW neg (true, [.int, .int]) (Pr p) (Pr q) K = K (B (neg != decide (p = q))) [] := eqk_pair

theorem bing_pair2 {neg : Bool} {a b c d : Int} {K : AV → List (Nat × HObj) → Prop} : EqkW neg (true, [.int, .int]) (.agg [I a, I b]) (.agg [I c, I d]) K = K (B (neg != decide ((a, b) = (c, d)))) [] := eqk_pair

end Go.AM

/- CONTRACTS, PART 2: benches and lists. Own work. -/
set_option linter.unusedSimpArgs false
set_option linter.unusedVariables false
namespace Go.AM
open Go.RowKit Go.Proofs

theorem indexP_ok (f : Bool) (l : List (Int × Int)) (hl : l.length ≤ 1000000) (v : Int × Int) : PureOK Try.prog 89 [Ps f l, Pr v] (I (idxI (fun x => v == x) l)) := by
  refine pure_of (walk Try.func89 form89 res89 (by show 2 ≤ _; decide) ?_)
  simp [G89]
  refine loop_eq (fun i : Nat => ⟨[(0, Ps f l), (3, .ref 0 0), (7, I l.length), (8, I i)], [.cells [I v.1, I v.2]]⟩) (fun i => i ≤ l.length ∧ ∀ k (h : k < l.length), k < i → v ≠ l[k]) (fun i => l.length - i) 0 ⟨by omega, fun k _ h => by omega⟩ rfl ?_
  intro i ⟨hi1, hi2⟩
  simp (disch := omega) [wrap_id]
  refine c_split (fun h => ?_) (fun h => ?_)
  · simp at h
    simp (disch := omega) [wrap_id, cells_pair, flat2_len, h, bing_pair]
    refine c_split (fun h3 => ?_) (fun h3 => ?_)
    · simp
      rw [idxI_some h (by simpa using h3) (fun k hk hk' => by simpa using hi2 k hk hk')]
    · simp (disch := omega) [wrap_id]
      simp at h3
      refine next_eq (i + 1) ⟨by omega, fun k hk hk' => ?_⟩ (by omega) (by simp)
      by_cases e : k = i
      · subst e; exact h3
      · exact hi2 k hk (by omega)
  · simp at h
    simp
    rw [idxI_none (fun k hk => by have := hi2 k hk (by omega); simpa using this)]

theorem containsP_ok (f : Bool) (l : List (Int × Int)) (hl : l.length ≤ 1000000) (v : Int × Int) : PureOK Try.prog 57 [Ps f l, Pr v] (B (l.contains v)) := by
  refine pure_of (walk Try.func57 form57 res57 (by show 2 ≤ _; decide) ?_)
  simp [G57]
  refine callW_pure rfl (indexP_ok f l hl v) ?_
  simp
  exact (idxI_mem l v).symm

/-- A bench. -/
structure Bch where
  L : Int
  c : List (Int × Int)

abbrev Bn (f : Bool) (b : Bch) : AV := .agg [I b.L, Ps f b.c]

/-- Whether the pair at an index may stand there. -/
def pairB (b : Bch) (i : Nat) : Bool := decide (0 ≤ (b.c.getD i (0, 0)).1) && decide ((b.c.getD i (0, 0)).1 < (b.c.getD i (0, 0)).2) && decide ((b.c.getD i (0, 0)).2 < b.L) && !(b.c.take i).contains (b.c.getD i (0, 0))

def chkB (b : Bch) : Int := if b.L < 1 ∨ b.L > 8 ∨ b.c.length > 28 then 6 else if (List.range b.c.length).all (pairB b) then 0 else 2

theorem range_all {n : Nat} {p : Nat → Bool} : (List.range n).all p = true ↔ ∀ k, k < n → p k = true := by simp [List.all_eq_true]

theorem isStroke_ok (f : Bool) (b : Bch) (hb : -1000000 ≤ b.L ∧ b.L ≤ 1000000) (n : Int) : PureOK Try.prog 51 [Bn f b, I n] (B ((decide (1 ≤ n) && decide (n ≤ b.L)) || (decide (n ≤ -1) && decide (-b.L ≤ n)))) := by
  refine pure_of (walk Try.func51 form51 res51 (by show 2 ≤ _; decide) ?_)
  by_cases h1 : 1 ≤ n <;> by_cases h2 : n ≤ b.L <;> by_cases h3 : n ≤ -1 <;> by_cases h4 : -b.L ≤ n <;> simp (disch := omega) [G51, wrap_id, h1, h2, h3, h4]

theorem refLine_ok (n : Int) (h : -1000000 ≤ n ∧ n ≤ 1000000) : PureOK Try.prog 86 [I n] (I (if n < 0 then -1 - n else n - 1)) := by
  refine pure_of (walk Try.func86 form86 res86 (by show 1 ≤ _; decide) ?_)
  by_cases h1 : n < 0 <;> simp (disch := omega) [G86, wrap_id, h1]

def lineI (n : Int) : Int := if n < 0 then -1 - n else n - 1
def canB (b : Bch) (x y : Int) : Bool := !(lineI x == lineI y) && !(b.c.contains (min (lineI x) (lineI y), max (lineI x) (lineI y)))

theorem refCan_ok (f : Bool) (b : Bch) (hb : b.c.length ≤ 1000000) (x y : Int) (hx : -1000000 ≤ x ∧ x ≤ 1000000) (hy : -1000000 ≤ y ∧ y ≤ 1000000) : PureOK Try.prog 52 [Bn f b, I x, I y] (B (canB b x y)) := by
  refine pure_of (walk Try.func52 form52 res52 (by show 3 ≤ _; decide) ?_)
  simp (disch := omega) [G52, wrap_id]
  refine callW_pure rfl (refLine_ok x hx) ?_
  simp (disch := omega) [wrap_id]
  refine callW_pure rfl (refLine_ok y hy) ?_
  simp (disch := omega) [wrap_id]
  rw [show (if x < 0 then -1 - x else x - 1) = lineI x from rfl, show (if y < 0 then -1 - y else y - 1) = lineI y from rfl]
  refine c_split (fun hne => ?_) (fun hne => ?_)
  · simp at hne
    simp [canB, hne]
  · simp at hne
    simp
    refine loop_eq (fun i : Nat => ⟨[(3, .ref 0 0), (7, I (lineI x)), (8, I (lineI y)), (9, I i)], [.cells [I b.L, Ps f b.c]]⟩) (fun i => i ≤ b.c.length ∧ ∀ k (h : k < b.c.length), k < i → b.c[k] ≠ (min (lineI x) (lineI y), max (lineI x) (lineI y))) (fun i => b.c.length - i) 0 ⟨by omega, fun k _ h => by omega⟩ rfl ?_
    intro i ⟨hi1, hi2⟩
    simp (disch := omega) [wrap_id]
    refine c_split (fun h => ?_) (fun h => ?_)
    · simp at h
      simp (disch := omega) [wrap_id, cells_pair, flat2_len, h, bing_pair2, placeF]
      refine c_split (fun h3 => ?_) (fun h3 => ?_)
      · simp at h3
        simp [canB]
        intro _
        rw [← h3.1, ← h3.2]; exact List.getElem_mem h
      · simp (disch := omega) [wrap_id]
        simp at h3
        refine next_eq (i + 1) ⟨by omega, fun k hk hk' => ?_⟩ (by omega) (by simp)
        by_cases e : k = i
        · subst e; intro e; rw [e] at h3; simp at h3
        · exact hi2 k hk (by omega)
    · simp at h
      simp [canB, hne]
      intro hm
      obtain ⟨k, hk, e⟩ := List.getElem_of_mem hm
      exact hi2 k hk (by omega) e

theorem pairB_def {b : Bch} {i : Nat} (h : i < b.c.length) : pairB b i = (decide (0 ≤ b.c[i].1) && decide (b.c[i].1 < b.c[i].2) && decide (b.c[i].2 < b.L) && !(b.c.take i).contains b.c[i]) := by
  have : b.c.getD i (0, 0) = b.c[i] := by simp [h]
  simp only [pairB, this]

theorem not_take {c : List (Int × Int)} {i : Nat} (h : i < c.length) (hn : ∀ m (hm : m < c.length), m < i → c[m] ≠ c[i]) : (c.take i).contains c[i] = false := by
  simp only [List.contains_eq_mem, decide_eq_false_iff_not]
  intro hm
  obtain ⟨k, hk, e⟩ := List.getElem_of_mem hm
  have hk2 := hk
  rw [List.length_take] at hk2
  rw [List.getElem_take] at e
  exact hn k (by omega) (by omega) e

theorem in_take {c : List (Int × Int)} {i k : Nat} (h : i < c.length) (hk : k < i) (e : c[k] = c[i]) : (c.take i).contains c[i] = true := by
  simp only [List.contains_eq_mem, decide_eq_true_eq]
  rw [← e]
  have : (c.take i)[k]'(by simp; omega) = c[k] := by rw [List.getElem_take]
  rw [← this]; exact List.getElem_mem _

theorem chkB_bad {b : Bch} {i : Nat} (h1 : ¬ b.L < 1) (h2 : ¬ 8 < b.L) (h3 : ¬ 28 < b.c.length) (h : i < b.c.length) (hb : pairB b i = false) : chkB b = 2 := by
  simp only [chkB]
  rw [if_neg (by omega), if_neg]
  intro ha
  have := range_all.1 ha i h
  rw [hb] at this; cases this

theorem refBench_ok (f : Bool) (b : Bch) (hb : b.c.length ≤ 1000000) : PureOK Try.prog 21 [Bn f b] (I (chkB b)) := by
  refine pure_of (walk Try.func21 form21 res21 (by show 1 ≤ _; decide) ?_)
  by_cases h1 : b.L < 1
  · simp (disch := omega) [G21, wrap_id, h1, chkB]
  by_cases h2 : 8 < b.L
  · simp (disch := omega) [G21, wrap_id, h1, h2, chkB]
  by_cases h3 : (28 : Int) < b.c.length
  · have h3' : 28 < b.c.length := by omega
    simp (disch := omega) [G21, wrap_id, h1, h2, h3, h3', chkB]
  have h3' : ¬ 28 < b.c.length := by omega
  simp (disch := omega) [G21, wrap_id, h1, h2, h3]
  refine loop_eq (fun p : Nat × List HObj => ⟨[(1, .ref 0 0), (3, I p.1)], .cells [I b.L, Ps f b.c] :: p.2⟩) (fun p => p.1 ≤ b.c.length ∧ ∀ k, k < p.1 → pairB b k = true) (fun p => b.c.length - p.1) (0, []) ⟨by simp, fun k h => by simp at h⟩ rfl ?_
  rintro ⟨i, junk⟩ ⟨hi1, hi2⟩
  simp at hi1 hi2
  simp (disch := omega) [wrap_id]
  refine c_split (fun h => ?_) (fun h => ?_)
  · simp at h
    simp (disch := omega) [wrap_id, cells_pair, flat2_len, h]
    have gd : (b.c.getD i (0, 0)) = b.c[i] := by simp [h]
    by_cases a1 : b.c[i].1 < 0
    · simp (disch := omega) [wrap_id, a1]
      exact (chkB_bad h1 h2 h3' h (by rw [pairB_def h]; simp; omega))
    by_cases a2 : b.c[i].2 ≤ b.c[i].1
    · simp (disch := omega) [wrap_id, a1, a2]
      exact (chkB_bad h1 h2 h3' h (by rw [pairB_def h]; simp; omega))
    by_cases a3 : b.L ≤ b.c[i].2
    · simp (disch := omega) [wrap_id, a1, a2, a3]
      exact (chkB_bad h1 h2 h3' h (by rw [pairB_def h]; simp; omega))
    simp (disch := omega) [wrap_id, a1, a2, a3]
    refine loop_eq (fun k : Nat => ⟨[(1, .ref 0 0), (3, I i), (4, .ref (junk.length + 1) 0), (5, I k)], .cells [I b.L, Ps f b.c] :: (junk ++ [.cells [I b.c[i].1, I b.c[i].2]])⟩) (fun k => k ≤ i ∧ ∀ m (hm : m < b.c.length), m < k → b.c[m] ≠ b.c[i]) (fun k => i - k) 0 ⟨by omega, fun k _ h => by omega⟩ rfl ?_
    intro k ⟨hk1, hk2⟩
    simp (disch := omega) [wrap_id]
    refine c_split (fun hk => ?_) (fun hk => ?_)
    · simp at hk
      have hk' : k < b.c.length := by omega
      simp (disch := omega) [wrap_id, cells_pair, flat2_len, h, hk', bing_pair2]
      refine c_split (fun e => ?_) (fun e => ?_)
      · have e' : b.c[k] = b.c[i] := by simpa [Prod.ext_iff] using e
        simp (disch := omega) [wrap_id]
        exact (chkB_bad h1 h2 h3' h (by rw [pairB_def h, in_take h hk e']; simp))
      · have e' : b.c[k] ≠ b.c[i] := by intro e'; rw [e'] at e; simp at e
        simp (disch := omega) [wrap_id]
        refine next_eq (k + 1) ⟨by omega, fun m hm hm' => ?_⟩ (by omega) (by simp)
        by_cases e2 : m = k
        · subst e2; exact e'
        · exact hk2 m hm (by omega)
    · simp at hk
      simp (disch := omega) [wrap_id]
      refine next_eq (i + 1, junk ++ [.cells [I b.c[i].1, I b.c[i].2]]) ⟨by simp; omega, fun m hm => ?_⟩ (by simp; omega) (by simp)
      simp at hm
      by_cases e2 : m = i
      · subst e2
        have hki : k = m := by omega
        subst hki
        rw [pairB_def h, not_take h (fun m hm hm' => hk2 m hm hm')]
        simp; omega
      · exact hi2 m (by omega)
  · simp at h
    simp [chkB, h1, h2, h3']
    intro k hk
    exact hi2 k (by omega)

theorem containsP_n (f : Bool) {n : Nat} (l : List (Int × Int)) (hn : n = l.length) (hl : l.length ≤ 1000000) (v : Int × Int) : PureOK Try.prog 57 [.sl f n (flat2 l), Pr v] (B (l.contains v)) := by
  subst hn; exact containsP_ok f l hl v

theorem bench_ok (f : Bool) (b : Bch) (hb : b.c.length ≤ 1000000) : PureOK Try.prog 20 [Bn f b] (I (chkB b)) := by
  refine pure_of (walk Try.func20 form20 res20 (by show 1 ≤ _; decide) ?_)
  simp (disch := omega) [G20, wrap_id]
  refine bsl_of rfl rfl ?_
  simp (disch := omega) [wrap_id, zrep]
  refine callW_pure rfl (within_ok 1 8 true [b.L] (by simp)) ?_
  simp (disch := omega) [wrap_id, allIn]
  by_cases h1 : b.L < 1
  · simp (disch := omega) [wrap_id, chkB, h1, show ¬ 1 ≤ b.L by omega]
  by_cases h2 : 8 < b.L
  · simp (disch := omega) [wrap_id, chkB, h1, h2, show 1 ≤ b.L by omega, show ¬ b.L ≤ 8 by omega]
  have h1' : 1 ≤ b.L := by omega
  have h2' : b.L ≤ 8 := by omega
  by_cases h3 : (28 : Int) < b.c.length
  · have h3' : 28 < b.c.length := by omega
    simp (disch := omega) [wrap_id, h1', h2', h3, h3', chkB]
  have h3' : ¬ 28 < b.c.length := by omega
  simp (disch := omega) [wrap_id, h1', h2', h3]
  refine loop_eq (fun p : Nat × List HObj => ⟨[(1, .ref 0 0), (17, Ps f b.c), (18, I b.c.length), (19, I p.1)], .cells [I b.L, Ps f b.c] :: p.2⟩) (fun p => p.1 ≤ b.c.length ∧ ∀ k, k < p.1 → pairB b k = true) (fun p => b.c.length - p.1) (0, []) ⟨by simp, fun k h => by simp at h⟩ rfl ?_
  rintro ⟨i, junk⟩ ⟨hi1, hi2⟩
  simp at hi1 hi2
  simp (disch := omega) [wrap_id]
  refine c_split (fun h => ?_) (fun h => ?_)
  · simp at h
    simp (disch := omega) [wrap_id, cells_pair, flat2_len, h]
    refine bsl_of rfl rfl ?_
    simp (disch := omega) [wrap_id, zrep]
    refine pureW_of rfl (within_ok 0 (b.L - 1) true [b.c[i].1, b.c[i].2] (by simp)) ?_
    simp (disch := omega) [wrap_id, allIn]
    by_cases hA : 0 ≤ b.c[i].1 ∧ b.c[i].1 ≤ b.L - 1 ∧ 0 ≤ b.c[i].2 ∧ b.c[i].2 ≤ b.L - 1
    · obtain ⟨g1, g2, g3, g4⟩ := hA
      by_cases a2 : b.c[i].2 ≤ b.c[i].1
      · simp (disch := omega) [wrap_id, g1, g2, g3, g4, a2]
        exact chkB_bad h1 h2 h3' h (by rw [pairB_def h]; simp; omega)
      simp (disch := omega) [wrap_id, g1, g2, g3, g4, a2, flat2_take, flat2_len, show i ≤ b.c.length by omega]
      refine pureW_of rfl (containsP_n _ (b.c.take i) (by simp; omega) (by simp; omega) (b.c[i].1, b.c[i].2)) ?_
      simp (disch := omega) [wrap_id]
      have pe : (b.c[i].1, b.c[i].2) = b.c[i] := rfl
      refine c_split (fun e => ?_) (fun e => ?_)
      · simp (disch := omega) [wrap_id]
        exact chkB_bad h1 h2 h3' h (by rw [pairB_def h]; simp at e ⊢; intros; exact e)
      · simp (disch := omega) [wrap_id]
        refine next_eq (i + 1, junk ++ [.cells [I b.c[i].1, I b.c[i].2]]) ⟨by simp; omega, fun m hm => ?_⟩ (by simp; omega) (by simp)
        simp at hm
        by_cases e2 : m = i
        · subst e2
          rw [pairB_def h]
          simp at e ⊢
          exact ⟨⟨⟨by omega, by omega⟩, by omega⟩, e⟩
        · exact hi2 m (by omega)
    · have e : (!decide (0 ≤ b.c[i].1) || !decide (b.c[i].1 ≤ b.L - 1) || (!decide (0 ≤ b.c[i].2) || !decide (b.c[i].2 ≤ b.L - 1))) = true := by
        simp; omega
      simp only [e]
      simp (disch := omega) [wrap_id]
      exact chkB_bad h1 h2 h3' h (by rw [pairB_def h]; simp; omega)
  · simp at h
    simp [chkB, h1, h2, h3']
    intro k hk
    exact hi2 k (by omega)

end Go.AM

/- CONTRACTS, PART 3: lists of strokes. Own work. -/
set_option linter.unusedSimpArgs false
set_option linter.unusedVariables false
namespace Go.AM
open Go.RowKit Go.Proofs

def strokeB (b : Bch) (n : Int) : Bool := (decide (1 ≤ n) && decide (n ≤ b.L)) || (decide (n ≤ -1) && decide (-b.L ≤ n))

def chkL (b : Bch) (l : List Int) : Int := if chkB b ≠ 0 then chkB b else if 60 < l.length then 6 else if l.all (strokeB b) then 0 else 3

theorem chkB_zero {b : Bch} (h : chkB b = 0) : 1 ≤ b.L ∧ b.L ≤ 8 ∧ b.c.length ≤ 28 := by
  simp only [chkB] at h
  split at h
  · omega
  · omega

theorem all_stroke (b : Bch) (l : List Int) : l.all (strokeB b) = (allIn (-b.L) b.L l && !l.contains 0) := by
  induction l with
  | nil => rfl
  | cons x l ih =>
    simp only [allIn, List.all_cons, List.contains_cons] at ih ⊢
    rw [ih]
    by_cases h0 : x = 0
    · subst h0; simp [strokeB]
    · have e : strokeB b x = (decide (-b.L ≤ x) && decide (x ≤ b.L)) := by
        rw [Bool.eq_iff_iff]; simp [strokeB]; omega
      have h0' : ((0 : Int) == x) = false := by simp; omega
      rw [e, h0']
      simp [Bool.and_assoc, Bool.and_left_comm]

theorem list_ok (f g : Bool) (b : Bch) (l : List Int) (hb : b.c.length ≤ 1000000) (hl : l.length ≤ 1000000) : PureOK Try.prog 22 [Bn f b, Ls g l] (I (chkL b l)) := by
  refine pure_of (walk Try.func22 form22 res22 (by show 2 ≤ _; decide) ?_)
  simp (disch := omega) [G22, wrap_id]
  refine callW_pure rfl (bench_ok f b hb) ?_
  simp (disch := omega) [wrap_id]
  refine c_split (fun h0 => ?_) (fun h0 => ?_)
  · simp at h0
    simp [chkL, h0]
  simp at h0
  obtain ⟨k1, k2, k3⟩ := chkB_zero h0
  simp (disch := omega) [wrap_id]
  refine c_split (fun h1 => ?_) (fun h1 => ?_)
  · simp at h1
    have h1' : 60 < l.length := by omega
    simp [chkL, h0, h1']
  simp at h1
  have h1' : ¬ 60 < l.length := by omega
  simp (disch := omega) [wrap_id]
  refine callW_pure rfl (within_ok (-b.L) b.L g l hl) ?_
  simp (disch := omega) [wrap_id]
  cases ha : allIn (-b.L) b.L l with
  | false =>
    simp (disch := omega) [wrap_id]
    simp [chkL, h0, h1', all_stroke, ha]
  | true =>
    simp (disch := omega) [wrap_id]
    refine callW_pure rfl (contains_ok g l hl 0) ?_
    simp (disch := omega) [wrap_id]
    refine c_split (fun h2 => ?_) (fun h2 => ?_)
    · simp at h2
      simp [chkL, h0, h1', all_stroke, ha, h2]
    · simp at h2
      simp [chkL, h0, h1', all_stroke, ha, h2]

theorem refList_ok (f g : Bool) (b : Bch) (l : List Int) (hb : b.c.length ≤ 1000000) (hl : l.length ≤ 1000000) : PureOK Try.prog 23 [Bn f b, Ls g l] (I (chkL b l)) := by
  refine pure_of (walk Try.func23 form23 res23 (by show 2 ≤ _; decide) ?_)
  simp (disch := omega) [G23, wrap_id]
  refine callW_pure rfl (refBench_ok f b hb) ?_
  simp (disch := omega) [wrap_id]
  refine c_split (fun h0 => ?_) (fun h0 => ?_)
  · simp at h0
    simp (disch := omega) [wrap_id]
    refine callW_pure rfl (refBench_ok f b hb) ?_
    simp [chkL, h0]
  simp at h0
  obtain ⟨k1, k2, k3⟩ := chkB_zero h0
  simp (disch := omega) [wrap_id]
  refine c_split (fun h1 => ?_) (fun h1 => ?_)
  · simp at h1
    have h1' : 60 < l.length := by omega
    simp [chkL, h0, h1']
  simp at h1
  have h1' : ¬ 60 < l.length := by omega
  simp (disch := omega) [wrap_id]
  refine loop_eq (fun i : Nat => ⟨[(1, Ls g l), (2, .ref 0 0), (5, I i)], [.cells [I b.L, Ps f b.c]]⟩) (fun i => i ≤ l.length ∧ ∀ k (h : k < l.length), k < i → strokeB b l[k] = true) (fun i => l.length - i) 0 ⟨by omega, fun k _ h => by omega⟩ rfl ?_
  intro i ⟨hi1, hi2⟩
  simp (disch := omega) [wrap_id]
  refine c_split (fun h => ?_) (fun h => ?_)
  · simp at h
    simp (disch := omega) [wrap_id, cells_ls, h]
    refine pureW_of rfl (isStroke_ok f b (by omega) l[i]) ?_
    rw [show ((decide (1 ≤ l[i]) && decide (l[i] ≤ b.L)) || (decide (l[i] ≤ -1) && decide (-b.L ≤ l[i]))) = strokeB b l[i] from rfl]
    simp (disch := omega) [wrap_id]
    refine c_split (fun h2 => ?_) (fun h2 => ?_)
    · simp at h2
      simp (disch := omega) [wrap_id]
      have : l.all (strokeB b) = false := by
        rw [List.all_eq_false]; exact ⟨l[i], List.getElem_mem h, by simp [h2]⟩
      simp only [chkL, h0, h1', this]; simp
    · simp at h2
      simp (disch := omega) [wrap_id]
      refine next_eq (i + 1) ⟨by omega, fun k hk hk' => ?_⟩ (by omega) (by simp)
      by_cases e : k = i
      · subst e; exact h2
      · exact hi2 k hk (by omega)
  · simp at h
    simp (disch := omega) [wrap_id]
    have : l.all (strokeB b) = true := by
      rw [List.all_eq_true]
      intro x hx
      obtain ⟨k, hk, rfl⟩ := List.getElem_of_mem hx
      exact hi2 k hk (by omega)
    simp only [chkL, h0, h1', this]; simp

end Go.AM

/- THE COMPILED FORMS of functions of the program, each held against its body by the kernel. Own work (printed by a program of this claim). -/
set_option maxRecDepth 100000
namespace Go.AM
open Go.RowKit Go.Proofs

/-- oxgall/stroke.Chain -/
def G29 : AC := (.seq (.rgn [⟨none, [(.box 3 2 (.t 0)), (.mv 6 (.k (.sl true 0 []))), (.mv 7 (.k (I 0)))]⟩] [1, 2, 3]) (.seq (.seq (.rgn [⟨none, [(.ld 10 true 2 (.t 3)), (.mv 11 (.t 1)), (.mv 12 (.t 2)), (.call 13 27 [(.t 10), (.t 11), (.t 12)]), (.mv 8 (.t 13))]⟩] [1, 2, 3, 8]) (.seq (.rgn [⟨none, [(.mv 14 (.t 8)), (.bin 15 .neq (.t 14) (.k (I 0)))]⟩] [1, 2, 3, 8, 15]) (.cond (.t 15) (.seq (.rgn [⟨none, [(.mv 16 (.t 8)), (.mv 6 (.k (.sl true 0 []))), (.mv 7 (.t 16))]⟩] [6, 7]) .ret) .skip))) (.seq (.rgn [⟨none, [(.ld 17 true 2 (.t 3)), (.call 18 63 [(.t 17)]), (.mv 9 (.t 18))]⟩] [1, 2, 9]) (.seq (.rgn [⟨none, [(.mv 19 (.t 9)), (.mv 20 (.t 1)), (.call 21 64 [(.t 19), (.t 20)]), (.mv 22 (.t 9)), (.mv 23 (.t 9)), (.mv 24 (.t 2)), (.call 25 64 [(.t 23), (.t 24)]), (.mv 26 (.t 2)), (.call 27 65 [(.t 22), (.t 25), (.t 26)]), (.app 28 3 24 (.t 21) (.t 27)), (.mv 6 (.t 28)), (.mv 7 (.k (I 0)))]⟩] [6, 7]) .ret))))
theorem form29 : formOf Try.prog Try.f29 [6, 7] = some G29 := by kernel_rfl
theorem res29 : resTmps Try.f29.results.toList = some [6, 7] := by kernel_rfl

/-- oxgall/stroke.CheckChain -/
def G30 : AC := (.seq (.rgn [⟨none, [(.box 4 2 (.t 0)), (.mv 8 (.k (I 0)))]⟩] [1, 2, 3, 4]) (.seq (.rgn [⟨none, [(.ld 15 true 2 (.t 4)), (.mv 16 (.t 1)), (.mv 17 (.t 2)), (.bsl 18 2 1 [(.sl true 0 [])] [(0, (.t 16)), (1, (.t 17))]), (.call 19 59 [(.t 15), (.t 18)]), (.mv 14 (.t 19)), (.ext 20 (.t 14) 0), (.ext 21 (.t 14) 1), (.mv 9 (.t 20)), (.mv 10 (.t 21))]⟩] [1, 2, 3, 9, 10]) (.seq (.block 0 (.seq (.rgn [⟨none, [(.mv 23 (.t 10)), (.bin 24 .neq (.t 23) (.k (I 0))), (.mv 22 (.t 24))]⟩] [1, 2, 3, 9, 10, 22]) (.cond (.t 22) (.seq (.rgn [⟨none, [(.mv 25 (.t 10)), (.mv 8 (.t 25))]⟩] [8]) .ret) (.seq (.rgn [⟨none, [(.mv 27 (.t 3)), (.len 28 (.t 27)), (.bin 29 .gtr (.t 28) (.k (I 8192))), (.mv 26 (.t 29))]⟩] [1, 2, 3, 9, 26]) (.cond (.t 26) (.seq (.rgn [⟨none, [(.mv 8 (.k (I 6)))]⟩] [8]) .ret) .skip))))) (.seq (.rgn [⟨none, [(.mv 30 (.t 1)), (.call 31 66 [(.t 30)]), (.mv 11 (.t 31))]⟩] [2, 3, 9, 11]) (.seq (.seq (.rgn [⟨none, [(.mv 32 (.t 3)), (.len 33 (.t 32)), (.mv 34 (.k (I 0)))]⟩] [2, 9, 11, 32, 33, 34]) (.block 1 (.loop (.seq (.rgn [⟨none, [(.bin 35 .lss (.t 34) (.t 33))]⟩] [2, 9, 11, 32, 33, 34, 35]) (.seq (.cond (.t 35) .skip (.exit 1)) (.seq (.block 2 (.seq (.rgn [⟨none, [(.ia 36 3 (.t 32) (.t 34)), (.ld 37 true 3 (.t 36)), (.al 13 [(I 0), (I 0), (I 0)]), (.st 3 (.t 13) (.t 37))]⟩] [2, 9, 11, 13, 32, 33, 34]) (.seq (.seq (.rgn [⟨none, [(.mv 38 (.t 9)), (.mv 39 (.t 11)), (.ld 40 true 3 (.t 13)), (.call 41 67 [(.t 38), (.t 39), (.t 40)]), (.un 42 .not (.t 41))]⟩] [2, 9, 11, 13, 32, 33, 34, 42]) (.cond (.t 42) (.seq (.rgn [⟨none, [(.mv 8 (.k (I 16)))]⟩] [8]) .ret) .skip)) (.seq (.rgn [⟨none, [(.mv 43 (.t 9)), (.mv 44 (.t 11)), (.ld 45 true 3 (.t 13)), (.call 46 68 [(.t 43), (.t 44), (.t 45)]), (.mv 11 (.t 46))]⟩] [2, 9, 11, 32, 33, 34]) (.seq (.rgn [⟨none, [(.mv 47 (.t 11)), (.len 48 (.t 47)), (.bin 49 .gtr (.t 48) (.k (I 120)))]⟩] [2, 9, 11, 32, 33, 34, 49]) (.cond (.t 49) (.seq (.rgn [⟨none, [(.mv 8 (.k (I 4)))]⟩] [8]) .ret) .skip)))))) (.rgn [⟨none, [(.bin 50 .add (.t 34) (.k (I 1))), (.mv 34 (.t 50))]⟩] [2, 9, 11, 32, 33, 34]))))))) (.seq (.seq (.rgn [⟨none, [(.mv 51 (.t 11)), (.mv 52 (.t 2)), (.call 53 61 [(.t 51), (.t 52)]), (.un 54 .not (.t 53))]⟩] [54]) (.cond (.t 54) (.seq (.rgn [⟨none, [(.mv 8 (.k (I 18)))]⟩] [8]) .ret) .skip)) (.seq (.rgn [⟨none, [(.mv 8 (.k (I 0)))]⟩] [8]) .ret)))))))
theorem form30 : formOf Try.prog Try.f30 [8] = some G30 := by kernel_rfl
theorem res30 : resTmps Try.f30.results.toList = some [8] := by kernel_rfl

/-- oxgall/oxgallref02.CheckChain -/
def G31 : AC := (.seq (.rgn [⟨none, [(.box 4 2 (.t 0)), (.mv 8 (.k (I 0)))]⟩] [1, 2, 3, 4]) (.seq (.seq (.rgn [⟨none, [(.ld 13 true 2 (.t 4)), (.mv 14 (.t 1)), (.mv 15 (.t 2)), (.call 16 62 [(.t 13), (.t 14), (.t 15)]), (.bin 17 .neq (.t 16) (.k (I 0)))]⟩] [1, 2, 3, 4, 17]) (.cond (.t 17) (.seq (.rgn [⟨none, [(.ld 18 true 2 (.t 4)), (.mv 19 (.t 1)), (.mv 20 (.t 2)), (.call 21 62 [(.t 18), (.t 19), (.t 20)]), (.mv 8 (.t 21))]⟩] [8]) .ret) .skip)) (.seq (.seq (.rgn [⟨none, [(.mv 22 (.t 3)), (.len 23 (.t 22)), (.bin 24 .gtr (.t 23) (.k (I 8192)))]⟩] [1, 2, 3, 4, 24]) (.cond (.t 24) (.seq (.rgn [⟨none, [(.mv 8 (.k (I 6)))]⟩] [8]) .ret) .skip)) (.seq (.rgn [⟨none, [(.bsl 25 0 1 [(I 0)] []), (.mv 26 (.t 1)), (.app 27 1 8 (.t 25) (.t 26)), (.mv 9 (.t 27))]⟩] [2, 3, 4, 9]) (.seq (.seq (.rgn [⟨none, [(.mv 10 (.k (I 0)))]⟩] [2, 3, 4, 9, 10]) (.block 0 (.loop (.seq (.seq (.rgn [⟨none, [(.mv 28 (.t 10)), (.mv 29 (.t 3)), (.len 30 (.t 29)), (.bin 31 .lss (.t 28) (.t 30))]⟩] [2, 3, 4, 9, 10, 31]) (.cond (.t 31) .skip (.exit 0))) (.seq (.block 1 (.seq (.drw [⟨none, [(.ld 35 true 2 (.t 4)), (.mv 36 (.t 9)), (.mv 37 (.t 3)), (.mv 38 (.t 10)), (.ia 39 3 (.t 37) (.t 38)), (.ld 40 true 3 (.t 39)), (.call 41 69 [(.t 35), (.t 36), (.t 40)]), (.mv 34 (.t 41)), (.ext 42 (.t 34) 0), (.ext 43 (.t 34) 1), (.mv 11 (.t 42)), (.mv 12 (.t 43))]⟩] [(0, 5)] [2, 3, 4, 10, 11, 12]) (.seq (.seq (.rgn [⟨none, [(.mv 44 (.t 12)), (.un 45 .not (.t 44))]⟩] [2, 3, 4, 10, 11, 45]) (.cond (.t 45) (.seq (.rgn [⟨none, [(.mv 8 (.k (I 16)))]⟩] [8]) .ret) .skip)) (.seq (.seq (.rgn [⟨none, [(.mv 46 (.t 11)), (.len 47 (.t 46)), (.bin 48 .gtr (.t 47) (.k (I 120)))]⟩] [2, 3, 4, 10, 11, 48]) (.cond (.t 48) (.seq (.rgn [⟨none, [(.mv 8 (.k (I 4)))]⟩] [8]) .ret) .skip)) (.rgn [⟨none, [(.mv 49 (.t 11)), (.mv 9 (.t 49))]⟩] [2, 3, 4, 9, 10]))))) (.rgn [⟨none, [(.mv 32 (.t 10)), (.bin 33 .add (.t 32) (.k (I 1))), (.mv 10 (.t 33))]⟩] [2, 3, 4, 9, 10])))))) (.seq (.seq (.rgn [⟨none, [(.mv 50 (.t 9)), (.mv 51 (.t 2)), (.call 52 26 [(.t 50), (.t 51)]), (.un 53 .not (.t 52))]⟩] [53]) (.cond (.t 53) (.seq (.rgn [⟨none, [(.mv 8 (.k (I 18)))]⟩] [8]) .ret) .skip)) (.seq (.rgn [⟨none, [(.mv 8 (.k (I 0)))]⟩] [8]) .ret)))))))
theorem form31 : formOf Try.prog Try.f31 [8] = some G31 := by kernel_rfl
theorem res31 : resTmps Try.f31.results.toList = some [8] := by kernel_rfl

/-- oxgall/oxgallref02.Firsts -/
def G33 : AC := (.seq (.rgn [⟨none, [(.box 2 2 (.t 0)), (.mv 4 (.k (.sl true 0 []))), (.mv 5 (.k (I 0)))]⟩] [1, 2]) (.seq (.seq (.rgn [⟨none, [(.ld 6 true 2 (.t 2)), (.mv 7 (.t 1)), (.call 8 23 [(.t 6), (.t 7)]), (.bin 9 .neq (.t 8) (.k (I 0)))]⟩] [1, 2, 9]) (.cond (.t 9) (.seq (.rgn [⟨none, [(.ld 10 true 2 (.t 2)), (.mv 11 (.t 1)), (.call 12 23 [(.t 10), (.t 11)]), (.mv 4 (.k (.sl true 0 []))), (.mv 5 (.t 12))]⟩] [4, 5]) .ret) .skip)) (.seq (.drw [⟨none, [(.ld 13 true 2 (.t 2)), (.ld 14 true 2 (.t 2)), (.mv 15 (.t 1)), (.call 16 40 [(.t 14), (.t 15)]), (.call 17 72 [(.t 13), (.t 16)]), (.mv 4 (.t 17)), (.mv 5 (.k (I 0)))]⟩] [(0, 1), (0, 3)] [4, 5]) .ret)))
theorem form33 : formOf Try.prog Try.f33 [4, 5] = some G33 := by kernel_rfl
theorem res33 : resTmps Try.f33.results.toList = some [4, 5] := by kernel_rfl

/-- oxgall/oxgallref02.Rounds -/
def G35 : AC := (.seq (.rgn [⟨none, [(.box 2 2 (.t 0)), (.mv 4 (.k (.sl true 0 []))), (.mv 5 (.k (I 0)))]⟩] [1, 2]) (.seq (.seq (.rgn [⟨none, [(.ld 11 true 2 (.t 2)), (.mv 12 (.t 1)), (.call 13 23 [(.t 11), (.t 12)]), (.bin 14 .neq (.t 13) (.k (I 0)))]⟩] [1, 2, 14]) (.cond (.t 14) (.seq (.rgn [⟨none, [(.ld 15 true 2 (.t 2)), (.mv 16 (.t 1)), (.call 17 23 [(.t 15), (.t 16)]), (.mv 4 (.k (.sl true 0 []))), (.mv 5 (.t 17))]⟩] [4, 5]) .ret) .skip)) (.seq (.rgn [⟨none, [(.ld 18 true 2 (.t 2)), (.mv 19 (.t 1)), (.call 20 40 [(.t 18), (.t 19)]), (.mv 6 (.t 20))]⟩] [2, 6]) (.seq (.rgn [⟨none, [(.mv 7 (.k (.sl true 0 [])))]⟩] [2, 6, 7]) (.seq (.block 0 (.loop (.seq (.seq (.rgn [⟨none, [(.mv 21 (.t 6)), (.len 22 (.t 21)), (.bin 23 .gtr (.t 22) (.k (I 0)))]⟩] [2, 6, 7, 23]) (.cond (.t 23) .skip (.exit 0))) (.block 1 (.seq (.rgn [⟨none, [(.ld 24 true 2 (.t 2)), (.mv 25 (.t 6)), (.call 26 72 [(.t 24), (.t 25)]), (.mv 8 (.t 26))]⟩] [2, 6, 7, 8]) (.seq (.rgn [⟨none, [(.mv 27 (.t 7)), (.mv 28 (.t 8)), (.bsl 29 1 1 [(.sl true 0 [])] [(0, (.t 28))]), (.app 30 1 24 (.t 27) (.t 29)), (.mv 7 (.t 30))]⟩] [2, 6, 7, 8]) (.seq (.rgn [⟨none, [(.mv 9 (.k (I 0)))]⟩] [2, 6, 7, 8, 9]) (.block 2 (.loop (.seq (.seq (.rgn [⟨none, [(.mv 31 (.t 9)), (.mv 32 (.t 8)), (.len 33 (.t 32)), (.bin 34 .lss (.t 31) (.t 33))]⟩] [2, 6, 7, 8, 9, 34]) (.cond (.t 34) .skip (.exit 2))) (.seq (.block 3 (.seq (.rgn [⟨none, [(.mv 10 (.k (I 0)))]⟩] [2, 6, 7, 8, 9, 10]) (.seq (.block 4 (.loop (.seq (.seq (.drw [⟨none, [(.mv 37 (.t 6)), (.mv 38 (.t 10)), (.ia 39 1 (.t 37) (.t 38)), (.ld 40 false 1 (.t 39)), (.mv 41 (.t 8)), (.mv 42 (.t 9)), (.ia 43 1 (.t 41) (.t 42)), (.ld 44 false 1 (.t 43)), (.bin 45 .neq (.t 40) (.t 44))]⟩] [(3, 7)] [2, 6, 7, 8, 9, 10, 45]) (.cond (.t 45) .skip (.exit 4))) (.block 5 (.rgn [⟨none, [(.mv 46 (.t 10)), (.bin 47 .add (.t 46) (.k (I 1))), (.mv 10 (.t 47))]⟩] [2, 6, 7, 8, 9, 10]))))) (.rgn [⟨none, [(.mv 48 (.t 6)), (.mv 49 (.t 10)), (.call 50 74 [(.t 48), (.t 49)]), (.mv 6 (.t 50))]⟩] [2, 6, 7, 8, 9])))) (.rgn [⟨none, [(.mv 35 (.t 9)), (.bin 36 .add (.t 35) (.k (I 1))), (.mv 9 (.t 36))]⟩] [2, 6, 7, 8, 9])))))))))))) (.seq (.rgn [⟨none, [(.mv 51 (.t 7)), (.mv 4 (.t 51)), (.mv 5 (.k (I 0)))]⟩] [4, 5]) .ret))))))
theorem form35 : formOf Try.prog Try.f35 [4, 5] = some G35 := by kernel_rfl
theorem res35 : resTmps Try.f35.results.toList = some [4, 5] := by kernel_rfl

/-- oxgall/stroke.CheckSpine -/
def G36 : AC := (.seq (.rgn [⟨none, [(.box 3 2 (.t 0)), (.mv 6 (.k (I 0))), (.mv 7 (.k (I 0)))]⟩] [1, 2, 3]) (.seq (.rgn [⟨none, [(.ld 16 true 2 (.t 3)), (.mv 17 (.t 1)), (.bsl 18 1 1 [(.sl true 0 [])] [(0, (.t 17))]), (.call 19 59 [(.t 16), (.t 18)]), (.mv 15 (.t 19)), (.ext 20 (.t 15) 0), (.ext 21 (.t 15) 1), (.mv 8 (.t 20)), (.mv 9 (.t 21))]⟩] [1, 2, 8, 9]) (.seq (.seq (.rgn [⟨none, [(.mv 22 (.t 9)), (.bin 23 .neq (.t 22) (.k (I 0)))]⟩] [1, 2, 8, 9, 23]) (.cond (.t 23) (.seq (.rgn [⟨none, [(.mv 24 (.t 9)), (.mv 6 (.k (I 0))), (.mv 7 (.t 24))]⟩] [6, 7]) .ret) .skip)) (.seq (.rgn [⟨none, [(.mv 25 (.t 8)), (.mv 26 (.t 1)), (.call 27 60 [(.t 25), (.t 26)]), (.mv 10 (.t 27))]⟩] [2, 8, 10]) (.seq (.rgn [⟨none, [(.mv 11 (.k (I 0)))]⟩] [2, 8, 10, 11]) (.seq (.seq (.rgn [⟨none, [(.mv 28 (.t 2)), (.len 29 (.t 28)), (.mv 30 (.k (I 0)))]⟩] [2, 8, 10, 11, 28, 29, 30]) (.block 0 (.loop (.seq (.rgn [⟨none, [(.bin 31 .lss (.t 30) (.t 29))]⟩] [2, 8, 10, 11, 28, 29, 30, 31]) (.seq (.cond (.t 31) .skip (.exit 0)) (.seq (.block 1 (.seq (.rgn [⟨none, [(.ia 32 1 (.t 28) (.t 30)), (.ld 33 false 1 (.t 32)), (.mv 13 (.t 33))]⟩] [2, 8, 10, 11, 13, 28, 29, 30]) (.seq (.seq (.rgn [⟨none, [(.mv 34 (.t 11)), (.mv 35 (.t 10)), (.len 36 (.t 35)), (.bin 37 .sub (.t 36) (.k (I 1))), (.mv 38 (.t 13)), (.bsl 39 1 1 [(I 0)] [(0, (.t 38))]), (.call 40 56 [(.t 34), (.t 37), (.t 39)]), (.un 41 .not (.t 40))]⟩] [2, 8, 10, 13, 28, 29, 30, 41]) (.cond (.t 41) (.seq (.rgn [⟨none, [(.mv 6 (.k (I 0))), (.mv 7 (.k (I 3)))]⟩] [6, 7]) .ret) .skip)) (.rgn [⟨none, [(.mv 42 (.t 13)), (.bin 43 .add (.t 42) (.k (I 1))), (.mv 11 (.t 43))]⟩] [2, 8, 10, 11, 28, 29, 30])))) (.rgn [⟨none, [(.bin 44 .add (.t 30) (.k (I 1))), (.mv 30 (.t 44))]⟩] [2, 8, 10, 11, 28, 29, 30]))))))) (.seq (.seq (.rgn [⟨none, [(.mv 14 (.k (I 1)))]⟩] [2, 8, 10, 14]) (.block 2 (.loop (.seq (.seq (.rgn [⟨none, [(.mv 45 (.t 14)), (.mv 46 (.t 2)), (.len 47 (.t 46)), (.bin 48 .lss (.t 45) (.t 47))]⟩] [2, 8, 10, 14, 48]) (.cond (.t 48) .skip (.exit 2))) (.seq (.block 3 (.seq (.drw [⟨none, [(.mv 51 (.t 8)), (.mv 52 (.t 10)), (.mv 53 (.t 2)), (.mv 54 (.t 14)), (.bin 55 .sub (.t 54) (.k (I 1))), (.ia 56 1 (.t 53) (.t 55)), (.ld 57 false 1 (.t 56)), (.ia 58 1 (.t 52) (.t 57)), (.ld 59 false 1 (.t 58)), (.mv 60 (.t 10)), (.mv 61 (.t 2)), (.mv 62 (.t 14)), (.ia 63 1 (.t 61) (.t 62)), (.ld 64 false 1 (.t 63)), (.ia 65 1 (.t 60) (.t 64)), (.ld 66 false 1 (.t 65)), (.call 67 75 [(.t 51), (.t 59), (.t 66)])]⟩] [(6, 13), (8, 13), (6, 15), (8, 15)] [2, 8, 10, 14, 67]) (.cond (.t 67) (.seq (.rgn [⟨none, [(.mv 6 (.k (I 0))), (.mv 7 (.k (I 16)))]⟩] [6, 7]) .ret) .skip))) (.rgn [⟨none, [(.mv 49 (.t 14)), (.bin 50 .add (.t 49) (.k (I 1))), (.mv 14 (.t 50))]⟩] [2, 8, 10, 14])))))) (.seq (.rgn [⟨none, [(.mv 68 (.t 2)), (.len 69 (.t 68)), (.mv 6 (.t 69)), (.mv 7 (.k (I 0)))]⟩] [6, 7]) .ret))))))))
theorem form36 : formOf Try.prog Try.f36 [6, 7] = some G36 := by kernel_rfl
theorem res36 : resTmps Try.f36.results.toList = some [6, 7] := by kernel_rfl

/-- oxgall/oxgallref02.CheckSpine -/
def G37 : AC := (.seq (.rgn [⟨none, [(.box 3 2 (.t 0)), (.mv 6 (.k (I 0))), (.mv 7 (.k (I 0)))]⟩] [1, 2, 3]) (.seq (.seq (.rgn [⟨none, [(.ld 11 true 2 (.t 3)), (.mv 12 (.t 1)), (.call 13 23 [(.t 11), (.t 12)]), (.bin 14 .neq (.t 13) (.k (I 0)))]⟩] [1, 2, 3, 14]) (.cond (.t 14) (.seq (.rgn [⟨none, [(.ld 15 true 2 (.t 3)), (.mv 16 (.t 1)), (.call 17 23 [(.t 15), (.t 16)]), (.mv 6 (.k (I 0))), (.mv 7 (.t 17))]⟩] [6, 7]) .ret) .skip)) (.seq (.rgn [⟨none, [(.ld 18 true 2 (.t 3)), (.mv 19 (.t 1)), (.call 20 40 [(.t 18), (.t 19)]), (.mv 8 (.t 20))]⟩] [2, 3, 8]) (.seq (.seq (.rgn [⟨none, [(.mv 9 (.k (I 0)))]⟩] [2, 3, 8, 9]) (.block 0 (.loop (.seq (.seq (.rgn [⟨none, [(.mv 21 (.t 9)), (.mv 22 (.t 2)), (.len 23 (.t 22)), (.bin 24 .lss (.t 21) (.t 23))]⟩] [2, 3, 8, 9, 24]) (.cond (.t 24) .skip (.exit 0))) (.seq (.block 1 (.seq (.drw [⟨none, [(.mv 27 (.t 2)), (.mv 28 (.t 9)), (.ia 29 1 (.t 27) (.t 28)), (.ld 30 false 1 (.t 29)), (.bin 31 .lss (.t 30) (.k (I 0))), (.mv 32 (.t 31))]⟩, ⟨(some (32, false)), [(.mv 33 (.t 2)), (.mv 34 (.t 9)), (.ia 35 1 (.t 33) (.t 34)), (.ld 36 false 1 (.t 35)), (.mv 37 (.t 8)), (.len 38 (.t 37)), (.bin 39 .geq (.t 36) (.t 38))]⟩, ⟨none, [(.pick 40 (.t 32) (.k (B true)) (.t 39)), (.mv 41 (.t 40))]⟩, ⟨(some (41, false)), [(.mv 42 (.t 9)), (.bin 43 .gtr (.t 42) (.k (I 0))), (.mv 44 (.t 43))]⟩, ⟨(some (44, true)), [(.mv 45 (.t 2)), (.mv 46 (.t 9)), (.ia 47 1 (.t 45) (.t 46)), (.ld 48 false 1 (.t 47)), (.mv 49 (.t 2)), (.mv 50 (.t 9)), (.bin 51 .sub (.t 50) (.k (I 1))), (.ia 52 1 (.t 49) (.t 51)), (.ld 53 false 1 (.t 52)), (.bin 54 .leq (.t 48) (.t 53))]⟩, ⟨(some (41, false)), [(.pick 55 (.t 44) (.t 54) (.k (B false)))]⟩, ⟨none, [(.pick 56 (.t 41) (.k (B true)) (.t 55))]⟩] [(21, 26)] [2, 3, 8, 9, 56]) (.cond (.t 56) (.seq (.rgn [⟨none, [(.mv 6 (.k (I 0))), (.mv 7 (.k (I 3)))]⟩] [6, 7]) .ret) .skip))) (.rgn [⟨none, [(.mv 25 (.t 9)), (.bin 26 .add (.t 25) (.k (I 1))), (.mv 9 (.t 26))]⟩] [2, 3, 8, 9])))))) (.seq (.seq (.rgn [⟨none, [(.mv 10 (.k (I 1)))]⟩] [2, 3, 8, 10]) (.block 2 (.loop (.seq (.seq (.rgn [⟨none, [(.mv 57 (.t 10)), (.mv 58 (.t 2)), (.len 59 (.t 58)), (.bin 60 .lss (.t 57) (.t 59))]⟩] [2, 3, 8, 10, 60]) (.cond (.t 60) .skip (.exit 2))) (.seq (.block 3 (.seq (.drw [⟨none, [(.ld 63 true 2 (.t 3)), (.mv 64 (.t 8)), (.mv 65 (.t 2)), (.mv 66 (.t 10)), (.bin 67 .sub (.t 66) (.k (I 1))), (.ia 68 1 (.t 65) (.t 67)), (.ld 69 false 1 (.t 68)), (.ia 70 1 (.t 64) (.t 69)), (.ld 71 false 1 (.t 70)), (.mv 72 (.t 8)), (.mv 73 (.t 2)), (.mv 74 (.t 10)), (.ia 75 1 (.t 73) (.t 74)), (.ld 76 false 1 (.t 75)), (.ia 77 1 (.t 72) (.t 76)), (.ld 78 false 1 (.t 77)), (.call 79 52 [(.t 63), (.t 71), (.t 78)])]⟩] [(0, 6), (0, 8), (0, 13), (6, 13), (8, 13), (0, 15), (6, 15), (8, 15)] [2, 3, 8, 10, 79]) (.cond (.t 79) (.seq (.rgn [⟨none, [(.mv 6 (.k (I 0))), (.mv 7 (.k (I 16)))]⟩] [6, 7]) .ret) .skip))) (.rgn [⟨none, [(.mv 61 (.t 10)), (.bin 62 .add (.t 61) (.k (I 1))), (.mv 10 (.t 62))]⟩] [2, 3, 8, 10])))))) (.seq (.rgn [⟨none, [(.mv 80 (.t 2)), (.len 81 (.t 80)), (.mv 6 (.t 81)), (.mv 7 (.k (I 0)))]⟩] [6, 7]) .ret))))))
theorem form37 : formOf Try.prog Try.f37 [6, 7] = some G37 := by kernel_rfl
theorem res37 : resTmps Try.f37.results.toList = some [6, 7] := by kernel_rfl

/-- oxgall/stroke.Spine -/
def G38 : AC := (.seq (.rgn [⟨none, [(.box 2 2 (.t 0)), (.mv 4 (.k (.sl true 0 []))), (.mv 5 (.k (I 0)))]⟩] [1, 2]) (.seq (.rgn [⟨none, [(.ld 16 true 2 (.t 2)), (.mv 17 (.t 1)), (.bsl 18 1 1 [(.sl true 0 [])] [(0, (.t 17))]), (.call 19 59 [(.t 16), (.t 18)]), (.mv 15 (.t 19)), (.ext 20 (.t 15) 0), (.ext 21 (.t 15) 1), (.mv 6 (.t 20)), (.mv 7 (.t 21))]⟩] [1, 6, 7]) (.seq (.seq (.rgn [⟨none, [(.mv 22 (.t 7)), (.bin 23 .neq (.t 22) (.k (I 0)))]⟩] [1, 6, 7, 23]) (.cond (.t 23) (.seq (.rgn [⟨none, [(.mv 24 (.t 7)), (.mv 4 (.k (.sl true 0 []))), (.mv 5 (.t 24))]⟩] [4, 5]) .ret) .skip)) (.seq (.rgn [⟨none, [(.mv 25 (.t 6)), (.mv 26 (.t 1)), (.call 27 60 [(.t 25), (.t 26)]), (.mv 8 (.t 27))]⟩] [6, 8]) (.seq (.drw [⟨none, [(.mv 28 (.t 8)), (.len 29 (.t 28)), (.mks 30 1 8 [(I 0)] (.t 29) (.t 29)), (.mv 31 (.t 8)), (.len 32 (.t 31)), (.mks 33 1 8 [(I 0)] (.t 32) (.t 32)), (.mv 9 (.t 30)), (.mv 10 (.t 33))]⟩] [(2, 5)] [6, 8, 9, 10]) (.seq (.rgn [⟨none, [(.mv 11 (.k (I (-1))))]⟩] [6, 8, 9, 10, 11]) (.seq (.seq (.rgn [⟨none, [(.mv 34 (.t 8)), (.len 35 (.t 34)), (.mv 36 (.k (I 0)))]⟩] [6, 8, 9, 10, 11, 35, 36]) (.block 0 (.loop (.seq (.rgn [⟨none, [(.bin 37 .lss (.t 36) (.t 35))]⟩] [6, 8, 9, 10, 11, 35, 36, 37]) (.seq (.cond (.t 37) .skip (.exit 0)) (.seq (.block 1 (.seq (.rgn [⟨none, [(.mv 38 (.t 36)), (.mv 12 (.t 38))]⟩] [6, 8, 9, 10, 11, 12, 35, 36]) (.seq (.rgn [⟨none, [(.mv 39 (.t 9)), (.mv 40 (.t 12)), (.mv 41 (.t 10)), (.mv 42 (.t 12)), (.ia 43 1 (.t 39) (.t 40)), (.st 1 (.t 43) (.k (I 1))), (.ia 44 1 (.t 41) (.t 42)), (.st 1 (.t 44) (.k (I (-1))))]⟩] [6, 8, 9, 10, 11, 12, 35, 36]) (.seq (.seq (.rgn [⟨none, [(.mv 45 (.t 12)), (.mv 46 (.k (I 0)))]⟩] [6, 8, 9, 10, 11, 12, 35, 36, 45, 46]) (.block 2 (.loop (.seq (.rgn [⟨none, [(.bin 47 .lss (.t 46) (.t 45))]⟩] [6, 8, 9, 10, 11, 12, 35, 36, 45, 46, 47]) (.seq (.cond (.t 47) .skip (.exit 2)) (.seq (.block 3 (.seq (.rgn [⟨none, [(.mv 48 (.t 46)), (.mv 13 (.t 48))]⟩] [6, 8, 9, 10, 11, 12, 13, 35, 36, 45, 46]) (.seq (.drw [⟨none, [(.mv 49 (.t 6)), (.mv 50 (.t 8)), (.mv 51 (.t 13)), (.ia 52 1 (.t 50) (.t 51)), (.ld 53 false 1 (.t 52)), (.mv 54 (.t 8)), (.mv 55 (.t 12)), (.ia 56 1 (.t 54) (.t 55)), (.ld 57 false 1 (.t 56)), (.call 58 75 [(.t 49), (.t 53), (.t 57)]), (.un 59 .not (.t 58)), (.mv 60 (.t 59))]⟩, ⟨(some (60, true)), [(.mv 61 (.t 9)), (.mv 62 (.t 13)), (.ia 63 1 (.t 61) (.t 62)), (.ld 64 false 1 (.t 63)), (.mv 65 (.t 9)), (.mv 66 (.t 12)), (.ia 67 1 (.t 65) (.t 66)), (.ld 68 false 1 (.t 67)), (.bin 69 .geq (.t 64) (.t 68))]⟩, ⟨none, [(.pick 70 (.t 60) (.t 69) (.k (B false)))]⟩] [(4, 8), (15, 19)] [6, 8, 9, 10, 11, 12, 13, 35, 36, 45, 46, 70]) (.cond (.t 70) (.rgn [⟨none, [(.mv 71 (.t 9)), (.mv 72 (.t 12)), (.mv 73 (.t 10)), (.mv 74 (.t 12)), (.mv 75 (.t 9)), (.mv 76 (.t 13)), (.ia 77 1 (.t 75) (.t 76)), (.ld 78 false 1 (.t 77)), (.bin 79 .add (.t 78) (.k (I 1))), (.mv 80 (.t 13)), (.ia 81 1 (.t 71) (.t 72)), (.st 1 (.t 81) (.t 79)), (.ia 82 1 (.t 73) (.t 74)), (.st 1 (.t 82) (.t 80))]⟩] [6, 8, 9, 10, 11, 12, 35, 36, 45, 46]) .skip)))) (.rgn [⟨none, [(.bin 83 .add (.t 46) (.k (I 1))), (.mv 46 (.t 83))]⟩] [6, 8, 9, 10, 11, 12, 35, 36, 45, 46]))))))) (.seq (.drw [⟨none, [(.mv 84 (.t 11)), (.bin 85 .lss (.t 84) (.k (I 0))), (.mv 86 (.t 85))]⟩, ⟨(some (86, false)), [(.mv 87 (.t 9)), (.mv 88 (.t 12)), (.ia 89 1 (.t 87) (.t 88)), (.ld 90 false 1 (.t 89)), (.mv 91 (.t 9)), (.mv 92 (.t 11)), (.ia 93 1 (.t 91) (.t 92)), (.ld 94 false 1 (.t 93)), (.bin 95 .gtr (.t 90) (.t 94))]⟩, ⟨none, [(.pick 96 (.t 86) (.k (B true)) (.t 95))]⟩] [(6, 10)] [6, 8, 9, 10, 11, 12, 35, 36, 96]) (.cond (.t 96) (.rgn [⟨none, [(.mv 97 (.t 12)), (.mv 11 (.t 97))]⟩] [6, 8, 9, 10, 11, 35, 36]) .skip)))))) (.rgn [⟨none, [(.bin 98 .add (.t 36) (.k (I 1))), (.mv 36 (.t 98))]⟩] [6, 8, 9, 10, 11, 35, 36]))))))) (.seq (.rgn [⟨none, [(.mv 14 (.k (.sl true 0 [])))]⟩] [10, 11, 14]) (.seq (.block 4 (.loop (.seq (.seq (.rgn [⟨none, [(.mv 99 (.t 11)), (.bin 100 .geq (.t 99) (.k (I 0)))]⟩] [10, 11, 14, 100]) (.cond (.t 100) .skip (.exit 4))) (.seq (.block 5 (.rgn [⟨none, [(.mv 105 (.t 14)), (.mv 106 (.t 11)), (.bsl 107 1 1 [(I 0)] [(0, (.t 106))]), (.app 108 1 8 (.t 105) (.t 107)), (.mv 14 (.t 108))]⟩] [10, 11, 14])) (.rgn [⟨none, [(.mv 101 (.t 10)), (.mv 102 (.t 11)), (.ia 103 1 (.t 101) (.t 102)), (.ld 104 false 1 (.t 103)), (.mv 11 (.t 104))]⟩] [10, 11, 14]))))) (.seq (.rgn [⟨none, [(.mv 109 (.t 14)), (.call 110 76 [(.t 109)])]⟩] [14]) (.seq (.rgn [⟨none, [(.mv 111 (.t 14)), (.mv 4 (.t 111)), (.mv 5 (.k (I 0)))]⟩] [4, 5]) .ret)))))))))))
theorem form38 : formOf Try.prog Try.f38 [4, 5] = some G38 := by kernel_rfl
theorem res38 : resTmps Try.f38.results.toList = some [4, 5] := by kernel_rfl

/-- oxgall/oxgalllaw02.lists -/
def G39 : AC := (.seq (.rgn [⟨none, [(.mv 4 (.k (B false)))]⟩] [0, 1]) (.seq (.seq (.rgn [⟨none, [(.mv 6 (.t 0)), (.len 7 (.t 6)), (.mv 8 (.t 1)), (.len 9 (.t 8)), (.bin 10 .neq (.t 7) (.t 9))]⟩] [0, 1, 10]) (.cond (.t 10) (.seq (.rgn [⟨none, [(.mv 4 (.k (B false)))]⟩] [4]) .ret) .skip)) (.seq (.seq (.rgn [⟨none, [(.mv 5 (.k (I 0)))]⟩] [0, 1, 5]) (.block 0 (.loop (.seq (.seq (.rgn [⟨none, [(.mv 11 (.t 5)), (.mv 12 (.t 0)), (.len 13 (.t 12)), (.bin 14 .lss (.t 11) (.t 13))]⟩] [0, 1, 5, 14]) (.cond (.t 14) .skip (.exit 0))) (.seq (.block 1 (.seq (.drw [⟨none, [(.mv 17 (.t 0)), (.mv 18 (.t 5)), (.ia 19 1 (.t 17) (.t 18)), (.ld 20 false 1 (.t 19)), (.mv 21 (.t 1)), (.mv 22 (.t 5)), (.ia 23 1 (.t 21) (.t 22)), (.ld 24 false 1 (.t 23)), (.call 25 26 [(.t 20), (.t 24)]), (.un 26 .not (.t 25))]⟩] [(3, 7)] [0, 1, 5, 26]) (.cond (.t 26) (.seq (.rgn [⟨none, [(.mv 4 (.k (B false)))]⟩] [4]) .ret) .skip))) (.rgn [⟨none, [(.mv 15 (.t 5)), (.bin 16 .add (.t 15) (.k (I 1))), (.mv 5 (.t 16))]⟩] [0, 1, 5])))))) (.seq (.rgn [⟨none, [(.mv 4 (.k (B true)))]⟩] [4]) .ret))))
theorem form39 : formOf Try.prog Try.f39 [4] = some G39 := by kernel_rfl
theorem res39 : resTmps Try.f39.results.toList = some [4] := by kernel_rfl

/-- oxgall/oxgallref02.Form -/
def G40 : AC := (.seq (.rgn [⟨none, [(.box 2 2 (.t 0)), (.mv 4 (.k (.sl true 0 [])))]⟩] [1, 2]) (.seq (.rgn [⟨none, [(.ld 8 true 2 (.t 2)), (.mv 9 (.t 1)), (.call 10 77 [(.t 8), (.t 9)]), (.mv 5 (.t 10))]⟩] [2, 5]) (.seq (.rgn [⟨none, [(.mv 6 (.k (.sl true 0 [])))]⟩] [2, 5, 6]) (.seq (.block 0 (.loop (.seq (.seq (.rgn [⟨none, [(.mv 11 (.t 5)), (.len 12 (.t 11)), (.bin 13 .gtr (.t 12) (.k (I 0)))]⟩] [2, 5, 6, 13]) (.cond (.t 13) .skip (.exit 0))) (.block 1 (.seq (.rgn [⟨none, [(.ld 14 true 2 (.t 2)), (.mv 15 (.t 5)), (.call 16 78 [(.t 14), (.t 15)]), (.mv 7 (.t 16))]⟩] [2, 5, 6, 7]) (.seq (.rgn [⟨none, [(.mv 17 (.t 6)), (.mv 18 (.t 5)), (.mv 19 (.t 7)), (.ia 20 1 (.t 18) (.t 19)), (.ld 21 false 1 (.t 20)), (.bsl 22 1 1 [(I 0)] [(0, (.t 21))]), (.app 23 1 8 (.t 17) (.t 22)), (.mv 6 (.t 23))]⟩] [2, 5, 6, 7]) (.rgn [⟨none, [(.mv 24 (.t 5)), (.mv 25 (.t 7)), (.call 26 74 [(.t 24), (.t 25)]), (.mv 5 (.t 26))]⟩] [2, 5, 6]))))))) (.seq (.rgn [⟨none, [(.mv 27 (.t 6)), (.mv 4 (.t 27))]⟩] [4]) .ret)))))
theorem form40 : formOf Try.prog Try.f40 [4] = some G40 := by kernel_rfl
theorem res40 : resTmps Try.f40.results.toList = some [4] := by kernel_rfl

/-- oxgall/stroke.Count -/
def G41 : AC := (.seq (.rgn [⟨none, [(.box 2 2 (.t 0)), (.mv 4 (.k (I 0))), (.mv 5 (.k (I 0)))]⟩] [1, 2]) (.seq (.rgn [⟨none, [(.ld 10 true 2 (.t 2)), (.mv 11 (.t 1)), (.bsl 12 1 1 [(.sl true 0 [])] [(0, (.t 11))]), (.call 13 59 [(.t 10), (.t 12)]), (.mv 9 (.t 13)), (.ext 14 (.t 9) 0), (.ext 15 (.t 9) 1), (.mv 6 (.t 14)), (.mv 7 (.t 15))]⟩] [1, 6, 7]) (.seq (.seq (.rgn [⟨none, [(.mv 16 (.t 7)), (.bin 17 .neq (.t 16) (.k (I 0)))]⟩] [1, 6, 7, 17]) (.cond (.t 17) (.seq (.rgn [⟨none, [(.mv 18 (.t 7)), (.mv 4 (.k (I 0))), (.mv 5 (.t 18))]⟩] [4, 5]) .ret) .skip)) (.seq (.rgn [⟨none, [(.mv 19 (.t 6)), (.mv 20 (.t 1)), (.call 21 60 [(.t 19), (.t 20)]), (.mv 8 (.t 21))]⟩] [6, 8]) (.seq (.seq (.rgn [⟨none, [(.mv 22 (.t 8)), (.len 23 (.t 22)), (.bin 24 .gtr (.t 23) (.k (I 16)))]⟩] [6, 8, 24]) (.cond (.t 24) (.seq (.rgn [⟨none, [(.mv 4 (.k (I 0))), (.mv 5 (.k (I 7)))]⟩] [4, 5]) .ret) .skip)) (.seq (.rgn [⟨none, [(.mv 25 (.t 6)), (.mv 26 (.t 8)), (.call 27 79 [(.t 25), (.t 26)]), (.mv 4 (.t 27)), (.mv 5 (.k (I 0)))]⟩] [4, 5]) .ret))))))
theorem form41 : formOf Try.prog Try.f41 [4, 5] = some G41 := by kernel_rfl
theorem res41 : resTmps Try.f41.results.toList = some [4, 5] := by kernel_rfl

/-- oxgall/oxgallref02.Count -/
def G42 : AC := (.seq (.rgn [⟨none, [(.box 2 2 (.t 0)), (.mv 4 (.k (I 0))), (.mv 5 (.k (I 0)))]⟩] [1, 2]) (.seq (.seq (.rgn [⟨none, [(.ld 12 true 2 (.t 2)), (.mv 13 (.t 1)), (.call 14 23 [(.t 12), (.t 13)]), (.bin 15 .neq (.t 14) (.k (I 0)))]⟩] [1, 2, 15]) (.cond (.t 15) (.seq (.rgn [⟨none, [(.ld 16 true 2 (.t 2)), (.mv 17 (.t 1)), (.call 18 23 [(.t 16), (.t 17)]), (.mv 4 (.k (I 0))), (.mv 5 (.t 18))]⟩] [4, 5]) .ret) .skip)) (.seq (.rgn [⟨none, [(.ld 19 true 2 (.t 2)), (.mv 20 (.t 1)), (.call 21 40 [(.t 19), (.t 20)]), (.mv 6 (.t 21))]⟩] [2, 6]) (.seq (.seq (.rgn [⟨none, [(.mv 22 (.t 6)), (.len 23 (.t 22)), (.bin 24 .gtr (.t 23) (.k (I 16)))]⟩] [2, 6, 24]) (.cond (.t 24) (.seq (.rgn [⟨none, [(.mv 4 (.k (I 0))), (.mv 5 (.k (I 7)))]⟩] [4, 5]) .ret) .skip)) (.seq (.rgn [⟨none, [(.mv 25 (.t 6)), (.len 26 (.t 25)), (.bin 27 .shl (.k (I 1)) (.t 26)), (.mks 28 1 8 [(I 0)] (.t 27) (.t 27)), (.mv 7 (.t 28))]⟩] [2, 6, 7]) (.seq (.rgn [⟨none, [(.mv 29 (.t 7)), (.ia 30 1 (.t 29) (.k (I 0))), (.st 1 (.t 30) (.k (I 1)))]⟩] [2, 6, 7]) (.seq (.seq (.rgn [⟨none, [(.mv 8 (.k (I 0)))]⟩] [2, 6, 7, 8]) (.block 0 (.loop (.seq (.seq (.rgn [⟨none, [(.mv 31 (.t 8)), (.mv 32 (.t 7)), (.len 33 (.t 32)), (.bin 34 .lss (.t 31) (.t 33))]⟩] [2, 6, 7, 8, 34]) (.cond (.t 34) .skip (.exit 0))) (.seq (.block 1 (.seq (.rgn [⟨none, [(.mv 9 (.k (I 0)))]⟩] [2, 6, 7, 8, 9]) (.block 2 (.loop (.seq (.seq (.rgn [⟨none, [(.mv 37 (.t 9)), (.mv 38 (.t 6)), (.len 39 (.t 38)), (.bin 40 .lss (.t 37) (.t 39)), (.mv 41 (.t 40))]⟩, ⟨(some (41, true)), [(.mv 42 (.t 7)), (.mv 43 (.t 8)), (.ia 44 1 (.t 42) (.t 43)), (.ld 45 false 1 (.t 44)), (.bin 46 .gtr (.t 45) (.k (I 0)))]⟩, ⟨none, [(.pick 47 (.t 41) (.t 46) (.k (B false)))]⟩] [2, 6, 7, 8, 9, 47]) (.cond (.t 47) .skip (.exit 2))) (.seq (.block 3 (.seq (.seq (.rgn [⟨none, [(.mv 50 (.t 8)), (.mv 51 (.t 9)), (.bin 52 .shr (.t 50) (.t 51)), (.bin 53 .and (.t 52) (.k (I 1))), (.bin 54 .eql (.t 53) (.k (I 1)))]⟩] [2, 6, 7, 8, 9, 54]) (.cond (.t 54) (.exit 3) .skip)) (.seq (.rgn [⟨none, [(.mv 10 (.k (B true)))]⟩] [2, 6, 7, 8, 9, 10]) (.seq (.seq (.rgn [⟨none, [(.mv 11 (.k (I 0)))]⟩] [2, 6, 7, 8, 9, 10, 11]) (.block 4 (.loop (.seq (.seq (.rgn [⟨none, [(.mv 55 (.t 11)), (.mv 56 (.t 9)), (.bin 57 .lss (.t 55) (.t 56))]⟩] [2, 6, 7, 8, 9, 10, 11, 57]) (.cond (.t 57) .skip (.exit 4))) (.seq (.block 5 (.drw [⟨none, [(.mv 60 (.t 10)), (.mv 61 (.t 60))]⟩, ⟨(some (61, true)), [(.mv 62 (.t 8)), (.mv 63 (.t 11)), (.bin 64 .shr (.t 62) (.t 63)), (.bin 65 .and (.t 64) (.k (I 1))), (.bin 66 .eql (.t 65) (.k (I 1))), (.mv 67 (.t 66))]⟩, ⟨(some (67, false)), [(.ld 68 true 2 (.t 2)), (.mv 69 (.t 6)), (.mv 70 (.t 11)), (.ia 71 1 (.t 69) (.t 70)), (.ld 72 false 1 (.t 71)), (.mv 73 (.t 6)), (.mv 74 (.t 9)), (.ia 75 1 (.t 73) (.t 74)), (.ld 76 false 1 (.t 75)), (.call 77 52 [(.t 68), (.t 72), (.t 76)])]⟩, ⟨(some (61, true)), [(.pick 78 (.t 67) (.k (B true)) (.t 77))]⟩, ⟨none, [(.pick 79 (.t 61) (.t 78) (.k (B false))), (.mv 10 (.t 79))]⟩] [(8, 12), (8, 16), (12, 16)] [2, 6, 7, 8, 9, 10, 11])) (.rgn [⟨none, [(.mv 58 (.t 11)), (.bin 59 .add (.t 58) (.k (I 1))), (.mv 11 (.t 59))]⟩] [2, 6, 7, 8, 9, 10, 11])))))) (.seq (.rgn [⟨none, [(.mv 80 (.t 10))]⟩] [2, 6, 7, 8, 9, 80]) (.cond (.t 80) (.drw [⟨none, [(.mv 81 (.t 7)), (.mv 82 (.t 8)), (.mv 83 (.t 9)), (.bin 84 .shl (.k (I 1)) (.t 83)), (.bin 85 .add (.t 82) (.t 84)), (.ia 86 1 (.t 81) (.t 85)), (.ld 87 false 1 (.t 86)), (.mv 88 (.t 7)), (.mv 89 (.t 8)), (.ia 90 1 (.t 88) (.t 89)), (.ld 91 false 1 (.t 90)), (.bin 92 .add (.t 87) (.t 91)), (.ia 93 1 (.t 81) (.t 85)), (.st 1 (.t 93) (.t 92))]⟩] [(6, 10)] [2, 6, 7, 8, 9]) .skip)))))) (.rgn [⟨none, [(.mv 48 (.t 9)), (.bin 49 .add (.t 48) (.k (I 1))), (.mv 9 (.t 49))]⟩] [2, 6, 7, 8, 9]))))))) (.rgn [⟨none, [(.mv 35 (.t 8)), (.bin 36 .add (.t 35) (.k (I 1))), (.mv 8 (.t 36))]⟩] [2, 6, 7, 8])))))) (.seq (.rgn [⟨none, [(.mv 94 (.t 7)), (.mv 95 (.t 7)), (.len 96 (.t 95)), (.bin 97 .sub (.t 96) (.k (I 1))), (.ia 98 1 (.t 94) (.t 97)), (.ld 99 false 1 (.t 98)), (.mv 4 (.t 99)), (.mv 5 (.k (I 0)))]⟩] [4, 5]) .ret))))))))
theorem form42 : formOf Try.prog Try.f42 [4, 5] = some G42 := by kernel_rfl
theorem res42 : resTmps Try.f42.results.toList = some [4, 5] := by kernel_rfl

/-- oxgall/stroke.Way -/
def G43 : AC := (.seq (.rgn [⟨none, [(.box 3 2 (.t 0)), (.mv 6 (.k (.sl true 0 []))), (.mv 7 (.k (I 0)))]⟩] [1, 2, 3]) (.seq (.rgn [⟨none, [(.ld 11 true 2 (.t 3)), (.mv 12 (.t 1)), (.mv 13 (.t 2)), (.bsl 14 2 1 [(.sl true 0 [])] [(0, (.t 12)), (1, (.t 13))]), (.call 15 59 [(.t 11), (.t 14)]), (.mv 10 (.t 15)), (.ext 16 (.t 10) 0), (.ext 17 (.t 10) 1), (.mv 8 (.t 16)), (.mv 9 (.t 17))]⟩] [1, 2, 8, 9]) (.seq (.seq (.rgn [⟨none, [(.mv 18 (.t 9)), (.bin 19 .neq (.t 18) (.k (I 0)))]⟩] [1, 2, 8, 9, 19]) (.cond (.t 19) (.seq (.rgn [⟨none, [(.mv 20 (.t 9)), (.mv 6 (.k (.sl true 0 []))), (.mv 7 (.t 20))]⟩] [6, 7]) .ret) .skip)) (.seq (.rgn [⟨none, [(.mv 21 (.t 8)), (.mv 22 (.t 1)), (.call 23 81 [(.t 22)]), (.mv 24 (.t 2)), (.bsl 25 2 1 [(.sl true 0 [])] [(0, (.t 23)), (1, (.t 24))]), (.call 26 80 [(.t 25)]), (.call 27 60 [(.t 21), (.t 26)]), (.mv 6 (.t 27)), (.mv 7 (.k (I 0)))]⟩] [6, 7]) .ret))))
theorem form43 : formOf Try.prog Try.f43 [6, 7] = some G43 := by kernel_rfl
theorem res43 : resTmps Try.f43.results.toList = some [6, 7] := by kernel_rfl

/-- oxgall/oxgallref02.Way -/
def G44 : AC := (.seq (.rgn [⟨none, [(.box 3 2 (.t 0)), (.mv 6 (.k (.sl true 0 []))), (.mv 7 (.k (I 0)))]⟩] [1, 2, 3]) (.seq (.seq (.rgn [⟨none, [(.ld 8 true 2 (.t 3)), (.mv 9 (.t 1)), (.mv 10 (.t 2)), (.call 11 62 [(.t 8), (.t 9), (.t 10)]), (.bin 12 .neq (.t 11) (.k (I 0)))]⟩] [1, 2, 3, 12]) (.cond (.t 12) (.seq (.rgn [⟨none, [(.ld 13 true 2 (.t 3)), (.mv 14 (.t 1)), (.mv 15 (.t 2)), (.call 16 62 [(.t 13), (.t 14), (.t 15)]), (.mv 6 (.k (.sl true 0 []))), (.mv 7 (.t 16))]⟩] [6, 7]) .ret) .skip)) (.seq (.drw [⟨none, [(.ld 17 true 2 (.t 3)), (.mv 18 (.t 1)), (.call 19 49 [(.t 18)]), (.mv 20 (.t 2)), (.app 21 1 8 (.t 19) (.t 20)), (.call 22 40 [(.t 17), (.t 21)]), (.mv 6 (.t 22)), (.mv 7 (.k (I 0)))]⟩] [(0, 2), (0, 4)] [6, 7]) .ret)))
theorem form44 : formOf Try.prog Try.f44 [6, 7] = some G44 := by kernel_rfl
theorem res44 : resTmps Try.f44.results.toList = some [6, 7] := by kernel_rfl

/-- oxgall/oxgallref02.Common -/
def G46 : AC := (.seq (.rgn [⟨none, [(.box 3 2 (.t 0)), (.mv 6 (.k (.sl true 0 []))), (.mv 7 (.k (I 0)))]⟩] [1, 2, 3]) (.seq (.seq (.rgn [⟨none, [(.ld 13 true 2 (.t 3)), (.mv 14 (.t 1)), (.mv 15 (.t 2)), (.call 16 62 [(.t 13), (.t 14), (.t 15)]), (.bin 17 .neq (.t 16) (.k (I 0)))]⟩] [1, 2, 3, 17]) (.cond (.t 17) (.seq (.rgn [⟨none, [(.ld 18 true 2 (.t 3)), (.mv 19 (.t 1)), (.mv 20 (.t 2)), (.call 21 62 [(.t 18), (.t 19), (.t 20)]), (.mv 6 (.k (.sl true 0 []))), (.mv 7 (.t 21))]⟩] [6, 7]) .ret) .skip)) (.seq (.drw [⟨none, [(.ld 22 true 2 (.t 3)), (.mv 23 (.t 1)), (.call 24 40 [(.t 22), (.t 23)]), (.ld 25 true 2 (.t 3)), (.mv 26 (.t 2)), (.call 27 40 [(.t 25), (.t 26)]), (.mv 8 (.t 24)), (.mv 9 (.t 27))]⟩] [(0, 3), (2, 3)] [3, 8, 9]) (.seq (.rgn [⟨none, [(.mv 10 (.k (.sl true 0 [])))]⟩] [3, 8, 9, 10]) (.block 0 (.loop (.block 1 (.seq (.rgn [⟨none, [(.ld 29 true 2 (.t 3)), (.mv 30 (.t 8)), (.mv 31 (.t 9)), (.call 32 85 [(.t 29), (.t 30), (.t 31)]), (.mv 28 (.t 32)), (.ext 33 (.t 28) 0), (.ext 34 (.t 28) 1), (.mv 11 (.t 33)), (.mv 12 (.t 34))]⟩] [3, 8, 9, 10, 11, 12]) (.seq (.seq (.rgn [⟨none, [(.mv 35 (.t 11)), (.bin 36 .lss (.t 35) (.k (I 0)))]⟩] [3, 8, 9, 10, 11, 12, 36]) (.cond (.t 36) (.seq (.rgn [⟨none, [(.ld 37 true 2 (.t 3)), (.mv 38 (.t 10)), (.call 39 40 [(.t 37), (.t 38)]), (.mv 6 (.t 39)), (.mv 7 (.k (I 0)))]⟩] [6, 7]) .ret) .skip)) (.seq (.rgn [⟨none, [(.mv 40 (.t 10)), (.mv 41 (.t 8)), (.mv 42 (.t 11)), (.ia 43 1 (.t 41) (.t 42)), (.ld 44 false 1 (.t 43)), (.bsl 45 1 1 [(I 0)] [(0, (.t 44))]), (.app 46 1 8 (.t 40) (.t 45)), (.mv 10 (.t 46))]⟩] [3, 8, 9, 10, 11, 12]) (.rgn [⟨none, [(.mv 47 (.t 8)), (.mv 48 (.t 11)), (.call 49 74 [(.t 47), (.t 48)]), (.mv 50 (.t 9)), (.mv 51 (.t 12)), (.call 52 74 [(.t 50), (.t 51)]), (.mv 8 (.t 49)), (.mv 9 (.t 52))]⟩] [3, 8, 9, 10])))))))))))
theorem form46 : formOf Try.prog Try.f46 [6, 7] = some G46 := by kernel_rfl
theorem res46 : resTmps Try.f46.results.toList = some [6, 7] := by kernel_rfl

/-- oxgall/oxgalllaw02.fine -/
def G47 : AC := (.seq (.rgn [⟨none, [(.box 2 2 (.t 0)), (.mv 4 (.k (B false)))]⟩] [1, 2]) (.seq (.rgn [⟨none, [(.ld 5 true 2 (.t 2)), (.call 6 18 [(.t 5)]), (.un 7 .not (.t 6)), (.mv 8 (.t 7))]⟩, ⟨(some (8, true)), [(.mv 9 (.t 1)), (.len 10 (.t 9)), (.bin 11 .leq (.t 10) (.k (I 60)))]⟩, ⟨none, [(.pick 12 (.t 8) (.t 11) (.k (B false))), (.mv 13 (.t 12))]⟩, ⟨(some (13, true)), [(.ld 14 true 2 (.t 2)), (.mv 15 (.t 1)), (.call 16 23 [(.t 14), (.t 15)]), (.bin 17 .eql (.t 16) (.k (I 0)))]⟩, ⟨none, [(.pick 18 (.t 13) (.t 17) (.k (B false))), (.mv 4 (.t 18))]⟩] [4]) .ret))
theorem form47 : formOf Try.prog Try.f47 [4] = some G47 := by kernel_rfl
theorem res47 : resTmps Try.f47.results.toList = some [4] := by kernel_rfl

/-- oxgall/oxgalllaw02.Moved -/
def G48 : AC := (.seq (.rgn [⟨none, [(.box 3 2 (.t 0)), (.mv 6 (.k (.sl true 0 []))), (.mv 7 (.k (.sl true 0 [])))]⟩] [1, 2, 3]) (.seq (.rgn [⟨none, [(.bsl 15 0 1 [(I 0)] []), (.mv 16 (.t 1)), (.app 17 1 8 (.t 15) (.t 16)), (.mv 8 (.t 17))]⟩] [2, 3, 8]) (.seq (.rgn [⟨none, [(.mv 9 (.k (.sl true 0 [])))]⟩] [2, 3, 8, 9]) (.seq (.seq (.rgn [⟨none, [(.mv 10 (.k (I 0)))]⟩] [2, 3, 8, 9, 10]) (.block 0 (.loop (.seq (.seq (.rgn [⟨none, [(.mv 18 (.t 10)), (.bin 19 .add (.t 18) (.k (I 1))), (.mv 20 (.t 2)), (.len 21 (.t 20)), (.bin 22 .lss (.t 19) (.t 21))]⟩] [2, 3, 8, 9, 10, 22]) (.cond (.t 22) .skip (.exit 0))) (.seq (.block 1 (.seq (.rgn [⟨none, [(.mv 25 (.t 2)), (.mv 26 (.t 10)), (.bin 27 .add (.t 26) (.k (I 1))), (.ia 28 1 (.t 25) (.t 27)), (.ld 29 false 1 (.t 28)), (.cnv 30 .i64 (.t 29)), (.mv 31 (.t 8)), (.len 32 (.t 31)), (.bin 33 .add (.t 32) (.k (I 1))), (.bin 34 .rem (.t 30) (.t 33)), (.mv 11 (.t 34))]⟩] [2, 3, 8, 9, 10, 11]) (.seq (.rgn [⟨none, [(.mv 35 (.t 2)), (.mv 36 (.t 10)), (.ia 37 1 (.t 35) (.t 36)), (.ld 38 false 1 (.t 37)), (.cnv 39 .i64 (.t 38)), (.bin 40 .rem (.t 39) (.k (I 3))), (.bin 41 .add (.k (I 1)) (.t 40)), (.mv 42 (.t 11)), (.call 43 55 [(.t 41), (.t 42), (.k (I 0))]), (.al 12 [(I 0), (I 0), (I 0)]), (.st 3 (.t 12) (.t 43))]⟩] [2, 3, 8, 9, 10, 12]) (.seq (.seq (.rgn [⟨none, [(.fa 44 (.t 12) 0), (.ld 45 false 1 (.t 44)), (.bin 46 .eql (.t 45) (.k (I 3)))]⟩] [2, 3, 8, 9, 10, 12, 46]) (.cond (.t 46) (.seq (.drw [⟨none, [(.mv 47 (.t 2)), (.mv 48 (.t 10)), (.ia 49 1 (.t 47) (.t 48)), (.ld 50 false 1 (.t 49)), (.bin 51 .quo (.t 50) (.k (.v (.int .u8 3)))), (.cnv 52 .i64 (.t 51)), (.fa 53 (.t 3) 0), (.ld 54 false 1 (.t 53)), (.bin 55 .rem (.t 52) (.t 54)), (.bin 56 .add (.k (I 1)) (.t 55)), (.fa 57 (.t 12) 2), (.st 1 (.t 57) (.t 56))]⟩] [(3, 7)] [2, 3, 8, 9, 10, 12]) (.seq (.rgn [⟨none, [(.mv 58 (.t 2)), (.mv 59 (.t 10)), (.ia 60 1 (.t 58) (.t 59)), (.ld 61 false 1 (.t 60)), (.bin 62 .geq (.t 61) (.k (.v (.int .u8 128))))]⟩] [2, 3, 8, 9, 10, 12, 62]) (.cond (.t 62) (.rgn [⟨none, [(.fa 63 (.t 12) 2), (.ld 64 false 1 (.t 63)), (.un 65 .neg (.t 64)), (.fa 66 (.t 12) 2), (.st 1 (.t 66) (.t 65))]⟩] [2, 3, 8, 9, 10, 12]) .skip))) .skip)) (.seq (.rgn [⟨none, [(.ld 68 true 2 (.t 3)), (.mv 69 (.t 8)), (.ld 70 true 3 (.t 12)), (.call 71 69 [(.t 68), (.t 69), (.t 70)]), (.mv 67 (.t 71)), (.ext 72 (.t 67) 0), (.ext 73 (.t 67) 1), (.mv 13 (.t 72)), (.mv 14 (.t 73))]⟩] [2, 3, 8, 9, 10, 12, 13, 14]) (.seq (.rgn [⟨none, [(.mv 74 (.t 14)), (.mv 75 (.t 74))]⟩, ⟨(some (75, true)), [(.mv 76 (.t 13)), (.len 77 (.t 76)), (.bin 78 .leq (.t 77) (.k (I 50)))]⟩, ⟨none, [(.pick 79 (.t 75) (.t 78) (.k (B false)))]⟩] [2, 3, 8, 9, 10, 12, 13, 79]) (.cond (.t 79) (.seq (.rgn [⟨none, [(.mv 80 (.t 13)), (.mv 8 (.t 80))]⟩] [2, 3, 8, 9, 10, 12]) (.rgn [⟨none, [(.mv 81 (.t 9)), (.ld 82 true 3 (.t 12)), (.bsl 83 1 3 [(I 0), (I 0), (I 0)] [(0, (.t 82))]), (.app 84 3 24 (.t 81) (.t 83)), (.mv 9 (.t 84))]⟩] [2, 3, 8, 9, 10])) .skip))))))) (.rgn [⟨none, [(.mv 23 (.t 10)), (.bin 24 .add (.t 23) (.k (I 2))), (.mv 10 (.t 24))]⟩] [2, 3, 8, 9, 10])))))) (.seq (.rgn [⟨none, [(.mv 85 (.t 8)), (.mv 86 (.t 9)), (.mv 6 (.t 85)), (.mv 7 (.t 86))]⟩] [6, 7]) .ret)))))
theorem form48 : formOf Try.prog Try.f48 [6, 7] = some G48 := by kernel_rfl
theorem res48 : resTmps Try.f48.results.toList = some [6, 7] := by kernel_rfl

/-- oxgall/oxgallref02.Back -/
def G49 : AC := (.seq (.rgn [⟨none, [(.mv 2 (.k (.sl true 0 [])))]⟩] [0]) (.seq (.rgn [⟨none, [(.mv 3 (.k (.sl true 0 [])))]⟩] [0, 3]) (.seq (.seq (.rgn [⟨none, [(.mv 5 (.t 0)), (.len 6 (.t 5)), (.bin 7 .sub (.t 6) (.k (I 1))), (.mv 4 (.t 7))]⟩] [0, 3, 4]) (.block 0 (.loop (.seq (.seq (.rgn [⟨none, [(.mv 8 (.t 4)), (.bin 9 .geq (.t 8) (.k (I 0)))]⟩] [0, 3, 4, 9]) (.cond (.t 9) .skip (.exit 0))) (.seq (.block 1 (.rgn [⟨none, [(.mv 12 (.t 3)), (.mv 13 (.t 0)), (.mv 14 (.t 4)), (.ia 15 1 (.t 13) (.t 14)), (.ld 16 false 1 (.t 15)), (.un 17 .neg (.t 16)), (.bsl 18 1 1 [(I 0)] [(0, (.t 17))]), (.app 19 1 8 (.t 12) (.t 18)), (.mv 3 (.t 19))]⟩] [0, 3, 4])) (.rgn [⟨none, [(.mv 10 (.t 4)), (.bin 11 .sub (.t 10) (.k (I 1))), (.mv 4 (.t 11))]⟩] [0, 3, 4])))))) (.seq (.rgn [⟨none, [(.mv 20 (.t 3)), (.mv 2 (.t 20))]⟩] [2]) .ret))))
theorem form49 : formOf Try.prog Try.f49 [2] = some G49 := by kernel_rfl
theorem res49 : resTmps Try.f49.results.toList = some [2] := by kernel_rfl

/-- oxgall/oxgalllaw02.through -/
def G50 : AC := (.seq (.rgn [⟨none, [(.mv 6 (.k (.sl true 0 [])))]⟩] [0, 1, 2]) (.seq (.rgn [⟨none, [(.mv 7 (.k (.sl true 0 [])))]⟩] [0, 1, 2, 7]) (.seq (.seq (.rgn [⟨none, [(.mv 8 (.k (I 0)))]⟩] [0, 1, 2, 7, 8]) (.block 0 (.loop (.seq (.seq (.rgn [⟨none, [(.mv 10 (.t 8)), (.mv 11 (.t 0)), (.len 12 (.t 11)), (.bin 13 .lss (.t 10) (.t 12))]⟩] [0, 1, 2, 7, 8, 13]) (.cond (.t 13) .skip (.exit 0))) (.seq (.block 1 (.seq (.rgn [⟨none, [(.mv 16 (.t 0)), (.mv 17 (.t 8)), (.ia 18 1 (.t 16) (.t 17)), (.ld 19 false 1 (.t 18)), (.call 20 86 [(.t 19)]), (.mv 9 (.t 20))]⟩] [0, 1, 2, 7, 8, 9]) (.seq (.rgn [⟨none, [(.mv 21 (.t 9)), (.mv 22 (.t 1)), (.bin 23 .eql (.t 21) (.t 22)), (.mv 24 (.t 23))]⟩, ⟨(some (24, false)), [(.mv 25 (.t 9)), (.mv 26 (.t 2)), (.bin 27 .eql (.t 25) (.t 26))]⟩, ⟨none, [(.pick 28 (.t 24) (.k (B true)) (.t 27))]⟩] [0, 1, 2, 7, 8, 28]) (.cond (.t 28) (.rgn [⟨none, [(.mv 29 (.t 7)), (.mv 30 (.t 0)), (.mv 31 (.t 8)), (.ia 32 1 (.t 30) (.t 31)), (.ld 33 false 1 (.t 32)), (.bsl 34 1 1 [(I 0)] [(0, (.t 33))]), (.app 35 1 8 (.t 29) (.t 34)), (.mv 7 (.t 35))]⟩] [0, 1, 2, 7, 8]) .skip)))) (.rgn [⟨none, [(.mv 14 (.t 8)), (.bin 15 .add (.t 14) (.k (I 1))), (.mv 8 (.t 15))]⟩] [0, 1, 2, 7, 8])))))) (.seq (.rgn [⟨none, [(.mv 36 (.t 7)), (.mv 6 (.t 36))]⟩] [6]) .ret))))
theorem form50 : formOf Try.prog Try.f50 [6] = some G50 := by kernel_rfl
theorem res50 : resTmps Try.f50.results.toList = some [6] := by kernel_rfl

/-- oxgall/stroke.newTable -/
def G63 : AC := (.seq (.rgn [⟨none, [(.box 1 2 (.t 0)), (.mv 2 (.k (.v (.pointer none))))]⟩] [1]) (.seq (.rgn [⟨none, [(.ld 6 true 2 (.t 1)), (.bld 7 [(I 0), (.sl true 0 []), (I 0), (I 0), (I 0), (I 0), (I 0), (I 0), (I 0), (I 0), (I 0), (I 0), (I 0), (I 0), (I 0), (I 0), (I 0), (I 0), (I 0), (I 0), (I 0), (I 0), (I 0), (I 0), (I 0), (I 0), (I 0), (I 0), (I 0), (I 0), (I 0), (I 0), (I 0), (I 0), (I 0), (I 0), (I 0), (I 0), (I 0), (I 0), (I 0), (I 0), (I 0), (I 0), (I 0), (I 0), (I 0), (I 0), (I 0), (I 0), (I 0), (I 0), (I 0), (I 0), (I 0), (I 0), (I 0), (I 0), (I 0), (I 0), (I 0), (I 0), (I 0), (I 0), (I 0), (I 0)] [(0, 2, (.t 6))]), (.box 8 66 (.t 7)), (.mv 3 (.t 8))]⟩] [1, 3]) (.seq (.seq (.rgn [⟨none, [(.fa 9 (.t 1) 1), (.ld 10 false 1 (.t 9)), (.len 11 (.t 10)), (.mv 12 (.k (I 0)))]⟩] [3, 10, 11, 12]) (.block 0 (.loop (.seq (.rgn [⟨none, [(.bin 13 .lss (.t 12) (.t 11))]⟩] [3, 10, 11, 12, 13]) (.seq (.cond (.t 13) .skip (.exit 0)) (.seq (.block 1 (.seq (.rgn [⟨none, [(.ia 14 2 (.t 10) (.t 12)), (.ld 15 true 2 (.t 14)), (.al 5 [(I 0), (I 0)]), (.st 2 (.t 5) (.t 15))]⟩] [3, 5, 10, 11, 12]) (.drw [⟨none, [(.mv 16 (.t 3)), (.iaa 17 2 1 (.t 5) (.k (I 0))), (.ld 18 false 1 (.t 17)), (.iaa 19 2 1 (.t 5) (.k (I 1))), (.ld 20 false 1 (.t 19)), (.mv 21 (.t 3)), (.iaa 22 2 1 (.t 5) (.k (I 1))), (.ld 23 false 1 (.t 22)), (.iaa 24 2 1 (.t 5) (.k (I 0))), (.ld 25 false 1 (.t 24)), (.nilc 26 (.t 16)), (.fa 27 (.t 26) 2), (.iaa 28 8 8 (.t 27) (.t 18)), (.iaa 29 8 1 (.t 28) (.t 20)), (.st 1 (.t 29) (.k (I 1))), (.nilc 30 (.t 21)), (.fa 31 (.t 30) 2), (.iaa 32 8 8 (.t 31) (.t 23)), (.iaa 33 8 1 (.t 32) (.t 25)), (.st 1 (.t 33) (.k (I 1)))]⟩] [(2, 4), (2, 7), (4, 7), (2, 9), (4, 9), (7, 9), (7, 14), (9, 14)] [3, 10, 11, 12]))) (.rgn [⟨none, [(.bin 34 .add (.t 12) (.k (I 1))), (.mv 12 (.t 34))]⟩] [3, 10, 11, 12]))))))) (.seq (.rgn [⟨none, [(.mv 35 (.t 3)), (.mv 2 (.t 35))]⟩] [2]) .ret))))
theorem form63 : formOf Try.prog Try.f63 [2] = some G63 := by kernel_rfl
theorem res63 : resTmps Try.f63.results.toList = some [2] := by kernel_rfl

/-- (*oxgall/stroke.table).down -/
def G64 : AC := (.seq (.rgn [⟨none, [(.box 2 1 (.t 0)), (.mv 4 (.k (.sl true 0 [])))]⟩] [1, 2]) (.seq (.rgn [⟨none, [(.mv 13 (.t 1)), (.call 14 66 [(.t 13)]), (.al 5 [(.sl true 0 [])]), (.st 1 (.t 5) (.t 14))]⟩] [2, 5]) (.seq (.rgn [⟨none, [(.al 6 [(.sl true 0 [])])]⟩] [2, 5, 6]) (.seq (.rgn [⟨none, [(.mkf 15 (.func 91) [] [(.t 2), (.t 5), (.t 6)]), (.al 7 [(.v .nilFunc)]), (.st 1 (.t 7) (.t 15))]⟩] [2, 5, 6, 7]) (.seq (.rgn [⟨none, [(.mkf 16 (.func 92) [] [(.t 7)]), (.mv 8 (.t 16))]⟩] [2, 5, 6, 7, 8]) (.seq (.block 0 (.loop (.block 1 (.seq (.rgn [⟨none, [(.ld 18 false 1 (.t 2)), (.ld 19 false 1 (.t 5)), (.call 20 93 [(.t 18), (.t 19)]), (.mv 17 (.t 20)), (.ext 21 (.t 17) 0), (.ext 22 (.t 17) 1), (.mv 9 (.t 21)), (.mv 10 (.t 22))]⟩] [2, 5, 6, 7, 8, 9, 10]) (.seq (.seq (.rgn [⟨none, [(.mv 23 (.t 9)), (.bin 24 .lss (.t 23) (.k (I 0)))]⟩] [2, 5, 6, 7, 8, 9, 10, 24]) (.cond (.t 24) (.exit 0) .skip)) (.seq (.rgn [⟨none, [(.mv 25 (.t 8)), (.mv 26 (.t 10)), (.mv 27 (.t 9)), (.bin 28 .add (.t 27) (.k (I 1))), (.callv 29 (.t 25) [(.t 26), (.t 28)])]⟩] [2, 5, 6, 7, 8, 9]) (.rgn [⟨none, [(.ld 30 false 1 (.t 7)), (.mv 31 (.t 9)), (.bld 32 [(I 0), (I 0), (I 0)] [(0, 1, (.k (I 2))), (1, 1, (.t 31))]), (.callv 33 (.t 30) [(.t 32)])]⟩] [2, 5, 6, 7, 8]))))))) (.seq (.seq (.rgn [⟨none, [(.ld 34 false 1 (.t 2)), (.ld 35 false 1 (.t 5)), (.call 36 60 [(.t 34), (.t 35)]), (.len 37 (.t 36)), (.mv 38 (.k (I 0)))]⟩] [5, 6, 8, 36, 37, 38]) (.block 2 (.loop (.seq (.rgn [⟨none, [(.bin 39 .lss (.t 38) (.t 37))]⟩] [5, 6, 8, 36, 37, 38, 39]) (.seq (.cond (.t 39) .skip (.exit 2)) (.seq (.block 3 (.seq (.rgn [⟨none, [(.mv 40 (.t 38)), (.ia 41 1 (.t 36) (.t 38)), (.ld 42 false 1 (.t 41)), (.mv 11 (.t 40)), (.mv 12 (.t 42))]⟩] [5, 6, 8, 11, 12, 36, 37, 38]) (.rgn [⟨none, [(.mv 43 (.t 8)), (.mv 44 (.t 11)), (.ld 45 false 1 (.t 5)), (.mv 46 (.t 11)), (.slc 47 1 (.t 45) (some (.t 46)) none none), (.mv 48 (.t 12)), (.call 49 90 [(.t 47), (.t 48)]), (.bin 50 .add (.t 44) (.t 49)), (.mv 51 (.t 11)), (.callv 52 (.t 43) [(.t 50), (.t 51)])]⟩] [5, 6, 8, 36, 37, 38]))) (.rgn [⟨none, [(.bin 53 .add (.t 38) (.k (I 1))), (.mv 38 (.t 53))]⟩] [5, 6, 8, 36, 37, 38]))))))) (.seq (.rgn [⟨none, [(.ld 54 false 1 (.t 6)), (.mv 4 (.t 54))]⟩] [4]) .ret))))))))
theorem form64 : formOf Try.prog Try.f64 [4] = some G64 := by kernel_rfl
theorem res64 : resTmps Try.f64.results.toList = some [4] := by kernel_rfl

/-- (*oxgall/stroke.table).up -/
def G65 : AC := (.seq (.rgn [⟨none, [(.mv 6 (.k (.sl true 0 [])))]⟩] [0, 1, 2]) (.seq (.rgn [⟨none, [(.mv 12 (.t 2)), (.call 13 66 [(.t 12)]), (.mv 7 (.t 13))]⟩] [0, 1, 7]) (.seq (.rgn [⟨none, [(.mv 8 (.k (.sl true 0 [])))]⟩] [0, 1, 7, 8]) (.seq (.seq (.rgn [⟨none, [(.mv 14 (.t 1)), (.len 15 (.t 14)), (.mv 16 (.k (I 0)))]⟩] [0, 7, 8, 14, 15, 16]) (.block 0 (.loop (.seq (.rgn [⟨none, [(.bin 17 .lss (.t 16) (.t 15))]⟩] [0, 7, 8, 14, 15, 16, 17]) (.seq (.cond (.t 17) .skip (.exit 0)) (.seq (.block 1 (.seq (.rgn [⟨none, [(.ia 18 3 (.t 14) (.t 16)), (.ld 19 true 3 (.t 18)), (.al 10 [(I 0), (I 0), (I 0)]), (.st 3 (.t 10) (.t 19))]⟩] [0, 7, 8, 10, 14, 15, 16]) (.seq (.rgn [⟨none, [(.ld 20 true 3 (.t 10)), (.al 11 [(I 0), (I 0), (I 0)]), (.st 3 (.t 11) (.t 20))]⟩] [0, 7, 8, 10, 11, 14, 15, 16]) (.seq (.seq (.rgn [⟨none, [(.fa 21 (.t 10) 0), (.ld 22 false 1 (.t 21)), (.bin 23 .eql (.t 22) (.k (I 2)))]⟩] [0, 7, 8, 10, 11, 14, 15, 16, 23]) (.cond (.t 23) (.drw [⟨none, [(.fa 24 (.t 10) 1), (.ld 25 false 1 (.t 24)), (.mv 26 (.t 7)), (.fa 27 (.t 10) 1), (.ld 28 false 1 (.t 27)), (.ia 29 1 (.t 26) (.t 28)), (.ld 30 false 1 (.t 29)), (.bld 31 [(I 0), (I 0), (I 0)] [(0, 1, (.k (I 3))), (1, 1, (.t 25)), (2, 1, (.t 30))]), (.st 3 (.t 11) (.t 31))]⟩] [(1, 4), (1, 6)] [0, 7, 8, 10, 11, 14, 15, 16]) .skip)) (.seq (.rgn [⟨none, [(.mv 32 (.t 0)), (.mv 33 (.t 7)), (.ld 34 true 3 (.t 10)), (.call 35 68 [(.t 32), (.t 33), (.t 34)]), (.mv 7 (.t 35))]⟩] [0, 7, 8, 11, 14, 15, 16]) (.drw [⟨none, [(.mv 36 (.t 8)), (.mv 37 (.t 8)), (.len 38 (.t 37)), (.mv 39 (.t 8)), (.len 40 (.t 39)), (.slc 41 3 (.t 36) none (some (.t 38)) (some (.t 40))), (.ld 42 true 3 (.t 11)), (.bsl 43 1 3 [(I 0), (I 0), (I 0)] [(0, (.t 42))]), (.app 44 3 24 (.t 41) (.t 43)), (.mv 8 (.t 44))]⟩] [] [0, 7, 8, 14, 15, 16])))))) (.rgn [⟨none, [(.bin 45 .add (.t 16) (.k (I 1))), (.mv 16 (.t 45))]⟩] [0, 7, 8, 14, 15, 16]))))))) (.seq (.rgn [⟨none, [(.mv 46 (.t 8)), (.call 47 94 [(.t 46)])]⟩] [8]) (.seq (.rgn [⟨none, [(.mv 48 (.t 8)), (.mv 6 (.t 48))]⟩] [6]) .ret))))))
theorem form65 : formOf Try.prog Try.f65 [6] = some G65 := by kernel_rfl
theorem res65 : resTmps Try.f65.results.toList = some [6] := by kernel_rfl

/-- slices.Clone[[]int,int] -/
def G66 : AC := (.seq (.rgn [⟨none, [(.mv 2 (.k (.sl true 0 [])))]⟩] [0]) (.seq (.seq (.rgn [⟨none, [(.mv 3 (.t 0)), (.isn 4 false 0 (.t 3))]⟩] [0, 4]) (.cond (.t 4) (.seq (.rgn [⟨none, [(.mv 2 (.k (.sl true 0 [])))]⟩] [2]) .ret) .skip)) (.seq (.rgn [⟨none, [(.bsl 5 0 1 [(I 0)] []), (.mv 6 (.t 0)), (.app 7 1 8 (.t 5) (.t 6)), (.mv 2 (.t 7))]⟩] [2]) .ret)))
theorem form66 : formOf Try.prog Try.f66 [2] = some G66 := by kernel_rfl
theorem res66 : resTmps Try.f66.results.toList = some [2] := by kernel_rfl

/-- (*oxgall/stroke.table).isMove -/
def G67 : AC := (.seq (.rgn [⟨none, [(.box 5 3 (.t 2)), (.mv 6 (.k (B false)))]⟩] [0, 1, 5]) (.seq (.seq (.rgn [⟨none, [(.fa 9 (.t 5) 0), (.ld 10 false 1 (.t 9)), (.bin 11 .eql (.t 10) (.k (I 3)))]⟩] [0, 1, 5, 11]) (.cond (.t 11) (.seq (.drw [⟨none, [(.mv 12 (.t 1)), (.len 13 (.t 12)), (.fa 14 (.t 5) 1), (.ld 15 false 1 (.t 14)), (.bsl 16 1 1 [(I 0)] [(0, (.t 15))]), (.call 17 56 [(.k (I 0)), (.t 13), (.t 16)]), (.mv 18 (.t 17))]⟩, ⟨(some (18, true)), [(.fa 19 (.t 5) 2), (.ld 20 false 1 (.t 19)), (.bin 21 .neq (.t 20) (.k (I 0)))]⟩, ⟨none, [(.pick 22 (.t 18) (.t 21) (.k (B false))), (.mv 23 (.t 22))]⟩, ⟨(some (23, true)), [(.mv 24 (.t 0)), (.nilc 25 (.t 24)), (.fa 26 (.t 25) 0), (.fa 27 (.t 26) 0), (.ld 28 false 1 (.t 27)), (.un 29 .neg (.t 28)), (.mv 30 (.t 0)), (.nilc 31 (.t 30)), (.fa 32 (.t 31) 0), (.fa 33 (.t 32) 0), (.ld 34 false 1 (.t 33)), (.fa 35 (.t 5) 2), (.ld 36 false 1 (.t 35)), (.bsl 37 1 1 [(I 0)] [(0, (.t 36))]), (.call 38 56 [(.t 29), (.t 34), (.t 37)])]⟩, ⟨none, [(.pick 39 (.t 23) (.t 38) (.k (B false))), (.mv 6 (.t 39))]⟩] [(16, 22), (16, 24), (22, 24), (16, 25), (22, 25)] [6]) .ret) .skip)) (.seq (.seq (.rgn [⟨none, [(.mv 40 (.t 1)), (.len 41 (.t 40)), (.bin 42 .sub (.t 41) (.k (I 2))), (.fa 43 (.t 5) 1), (.ld 44 false 1 (.t 43)), (.bsl 45 1 1 [(I 0)] [(0, (.t 44))]), (.call 46 56 [(.k (I 0)), (.t 42), (.t 45)]), (.un 47 .not (.t 46)), (.mv 48 (.t 47))]⟩, ⟨(some (48, false)), [(.fa 49 (.t 5) 2), (.ld 50 false 1 (.t 49)), (.bin 51 .neq (.t 50) (.k (I 0)))]⟩, ⟨none, [(.pick 52 (.t 48) (.k (B true)) (.t 51))]⟩] [0, 1, 5, 52]) (.cond (.t 52) (.seq (.rgn [⟨none, [(.mv 6 (.k (B false)))]⟩] [6]) .ret) .skip)) (.seq (.drw [⟨none, [(.mv 53 (.t 1)), (.fa 54 (.t 5) 1), (.ld 55 false 1 (.t 54)), (.ia 56 1 (.t 53) (.t 55)), (.ld 57 false 1 (.t 56)), (.mv 58 (.t 1)), (.fa 59 (.t 5) 1), (.ld 60 false 1 (.t 59)), (.bin 61 .add (.t 60) (.k (I 1))), (.ia 62 1 (.t 58) (.t 61)), (.ld 63 false 1 (.t 62)), (.mv 7 (.t 57)), (.mv 8 (.t 63))]⟩] [(2, 7), (4, 7), (2, 10), (4, 10)] [0, 5, 7, 8]) (.seq (.rgn [⟨none, [(.fa 64 (.t 5) 0), (.ld 65 false 1 (.t 64)), (.bin 66 .eql (.t 65) (.k (I 1))), (.mv 67 (.t 66))]⟩, ⟨(some (67, true)), [(.mv 68 (.t 0)), (.mv 69 (.t 7)), (.mv 70 (.t 8)), (.call 71 75 [(.t 68), (.t 69), (.t 70)])]⟩, ⟨none, [(.pick 72 (.t 67) (.t 71) (.k (B false))), (.mv 73 (.t 72))]⟩, ⟨(some (73, false)), [(.fa 74 (.t 5) 0), (.ld 75 false 1 (.t 74)), (.bin 76 .eql (.t 75) (.k (I 2))), (.mv 77 (.t 76))]⟩, ⟨(some (77, true)), [(.mv 78 (.t 7)), (.mv 79 (.t 8)), (.un 80 .neg (.t 79)), (.bin 81 .eql (.t 78) (.t 80))]⟩, ⟨(some (73, false)), [(.pick 82 (.t 77) (.t 81) (.k (B false)))]⟩, ⟨none, [(.pick 83 (.t 73) (.k (B true)) (.t 82)), (.mv 6 (.t 83))]⟩] [6]) .ret)))))
theorem form67 : formOf Try.prog Try.f67 [6] = some G67 := by kernel_rfl
theorem res67 : resTmps Try.f67.results.toList = some [6] := by kernel_rfl

/-- (*oxgall/stroke.table).move -/
def G68 : AC := (.seq (.rgn [⟨none, [(.box 5 3 (.t 2)), (.mv 6 (.k (.sl true 0 [])))]⟩] [1, 5]) (.seq (.seq (.rgn [⟨none, [(.fa 7 (.t 5) 0), (.ld 8 false 1 (.t 7))]⟩] [1, 5, 8]) (.block 0 (.seq (.rgn [⟨none, [(.bin 10 .eql (.t 8) (.k (I 1))), (.mv 9 (.t 10))]⟩] [1, 5, 8, 9]) (.cond (.t 9) (.seq (.drw [⟨none, [(.mv 11 (.t 1)), (.fa 12 (.t 5) 1), (.ld 13 false 1 (.t 12)), (.mv 14 (.t 1)), (.fa 15 (.t 5) 1), (.ld 16 false 1 (.t 15)), (.bin 17 .add (.t 16) (.k (I 1))), (.mv 18 (.t 1)), (.fa 19 (.t 5) 1), (.ld 20 false 1 (.t 19)), (.bin 21 .add (.t 20) (.k (I 1))), (.ia 22 1 (.t 18) (.t 21)), (.ld 23 false 1 (.t 22)), (.mv 24 (.t 1)), (.fa 25 (.t 5) 1), (.ld 26 false 1 (.t 25)), (.ia 27 1 (.t 24) (.t 26)), (.ld 28 false 1 (.t 27)), (.ia 29 1 (.t 11) (.t 13)), (.st 1 (.t 29) (.t 23)), (.ia 30 1 (.t 14) (.t 17)), (.st 1 (.t 30) (.t 28))]⟩] [(2, 5), (2, 9), (5, 9), (2, 12), (5, 12), (2, 15), (5, 15), (9, 15), (12, 15), (2, 17), (5, 17), (9, 17), (12, 17), (5, 19)] [1]) (.seq (.rgn [⟨none, [(.mv 31 (.t 1)), (.mv 6 (.t 31))]⟩] [6]) .ret)) (.seq (.rgn [⟨none, [(.bin 33 .eql (.t 8) (.k (I 2))), (.mv 32 (.t 33))]⟩] [1, 5, 32]) (.cond (.t 32) (.seq (.rgn [⟨none, [(.mv 34 (.t 1)), (.fa 35 (.t 5) 1), (.ld 36 false 1 (.t 35)), (.fa 37 (.t 5) 1), (.ld 38 false 1 (.t 37)), (.bin 39 .add (.t 38) (.k (I 2))), (.call 40 95 [(.t 34), (.t 36), (.t 39)]), (.mv 6 (.t 40))]⟩] [6]) .ret) .skip)))))) (.seq (.rgn [⟨none, [(.mv 41 (.t 1)), (.fa 42 (.t 5) 1), (.ld 43 false 1 (.t 42)), (.fa 44 (.t 5) 2), (.ld 45 false 1 (.t 44)), (.fa 46 (.t 5) 2), (.ld 47 false 1 (.t 46)), (.un 48 .neg (.t 47)), (.bsl 49 2 1 [(I 0)] [(0, (.t 45)), (1, (.t 48))]), (.call 50 96 [(.t 41), (.t 43), (.t 49)]), (.mv 6 (.t 50))]⟩] [6]) .ret)))
theorem form68 : formOf Try.prog Try.f68 [6] = some G68 := by kernel_rfl
theorem res68 : resTmps Try.f68.results.toList = some [6] := by kernel_rfl

/-- oxgall/oxgallref02.Move -/
def G69 : AC := (.seq (.rgn [⟨none, [(.box 3 2 (.t 0)), (.box 5 3 (.t 2)), (.mv 6 (.k (.sl true 0 []))), (.mv 7 (.k (B false)))]⟩] [1, 3, 5]) (.seq (.seq (.rgn [⟨none, [(.fa 10 (.t 5) 1), (.ld 11 false 1 (.t 10)), (.bin 12 .lss (.t 11) (.k (I 0))), (.mv 13 (.t 12))]⟩, ⟨(some (13, false)), [(.fa 14 (.t 5) 1), (.ld 15 false 1 (.t 14)), (.mv 16 (.t 1)), (.len 17 (.t 16)), (.bin 18 .gtr (.t 15) (.t 17))]⟩, ⟨none, [(.pick 19 (.t 13) (.k (B true)) (.t 18))]⟩] [1, 3, 5, 19]) (.cond (.t 19) (.seq (.rgn [⟨none, [(.mv 6 (.k (.sl true 0 []))), (.mv 7 (.k (B false)))]⟩] [6, 7]) .ret) .skip)) (.seq (.seq (.rgn [⟨none, [(.fa 20 (.t 5) 0), (.ld 21 false 1 (.t 20)), (.bin 22 .eql (.t 21) (.k (I 3)))]⟩] [1, 3, 5, 22]) (.cond (.t 22) (.seq (.seq (.rgn [⟨none, [(.ld 23 true 2 (.t 3)), (.fa 24 (.t 5) 2), (.ld 25 false 1 (.t 24)), (.call 26 51 [(.t 23), (.t 25)]), (.un 27 .not (.t 26))]⟩] [1, 5, 27]) (.cond (.t 27) (.seq (.rgn [⟨none, [(.mv 6 (.k (.sl true 0 []))), (.mv 7 (.k (B false)))]⟩] [6, 7]) .ret) .skip)) (.seq (.rgn [⟨none, [(.bsl 28 0 1 [(I 0)] []), (.mv 29 (.t 1)), (.fa 30 (.t 5) 1), (.ld 31 false 1 (.t 30)), (.slc 32 1 (.t 29) none (some (.t 31)) none), (.app 33 1 8 (.t 28) (.t 32)), (.mv 8 (.t 33))]⟩] [1, 5, 8]) (.seq (.rgn [⟨none, [(.mv 34 (.t 8)), (.fa 35 (.t 5) 2), (.ld 36 false 1 (.t 35)), (.fa 37 (.t 5) 2), (.ld 38 false 1 (.t 37)), (.un 39 .neg (.t 38)), (.bsl 40 2 1 [(I 0)] [(0, (.t 36)), (1, (.t 39))]), (.app 41 1 8 (.t 34) (.t 40)), (.mv 8 (.t 41))]⟩] [1, 5, 8]) (.seq (.rgn [⟨none, [(.mv 42 (.t 8)), (.mv 43 (.t 1)), (.fa 44 (.t 5) 1), (.ld 45 false 1 (.t 44)), (.slc 46 1 (.t 43) (some (.t 45)) none none), (.app 47 1 8 (.t 42) (.t 46)), (.mv 6 (.t 47)), (.mv 7 (.k (B true)))]⟩] [6, 7]) .ret)))) .skip)) (.seq (.seq (.rgn [⟨none, [(.fa 48 (.t 5) 1), (.ld 49 false 1 (.t 48)), (.bin 50 .add (.t 49) (.k (I 1))), (.mv 51 (.t 1)), (.len 52 (.t 51)), (.bin 53 .geq (.t 50) (.t 52)), (.mv 54 (.t 53))]⟩, ⟨(some (54, false)), [(.fa 55 (.t 5) 2), (.ld 56 false 1 (.t 55)), (.bin 57 .neq (.t 56) (.k (I 0)))]⟩, ⟨none, [(.pick 58 (.t 54) (.k (B true)) (.t 57))]⟩] [1, 3, 5, 58]) (.cond (.t 58) (.seq (.rgn [⟨none, [(.mv 6 (.k (.sl true 0 []))), (.mv 7 (.k (B false)))]⟩] [6, 7]) .ret) .skip)) (.seq (.rgn [⟨none, [(.bsl 59 0 1 [(I 0)] []), (.mv 60 (.t 1)), (.app 61 1 8 (.t 59) (.t 60)), (.mv 9 (.t 61))]⟩] [1, 3, 5, 9]) (.seq (.seq (.drw [⟨none, [(.fa 62 (.t 5) 0), (.ld 63 false 1 (.t 62)), (.bin 64 .eql (.t 63) (.k (I 1))), (.mv 65 (.t 64))]⟩, ⟨(some (65, true)), [(.ld 66 true 2 (.t 3)), (.mv 67 (.t 1)), (.fa 68 (.t 5) 1), (.ld 69 false 1 (.t 68)), (.ia 70 1 (.t 67) (.t 69)), (.ld 71 false 1 (.t 70)), (.mv 72 (.t 1)), (.fa 73 (.t 5) 1), (.ld 74 false 1 (.t 73)), (.bin 75 .add (.t 74) (.k (I 1))), (.ia 76 1 (.t 72) (.t 75)), (.ld 77 false 1 (.t 76)), (.call 78 52 [(.t 66), (.t 71), (.t 77)])]⟩, ⟨none, [(.pick 79 (.t 65) (.t 78) (.k (B false)))]⟩] [(4, 7), (4, 9), (4, 12), (7, 12), (9, 12), (4, 15), (7, 15), (9, 15)] [1, 5, 9, 79]) (.cond (.t 79) (.seq (.drw [⟨none, [(.mv 80 (.t 9)), (.fa 81 (.t 5) 1), (.ld 82 false 1 (.t 81)), (.mv 83 (.t 9)), (.fa 84 (.t 5) 1), (.ld 85 false 1 (.t 84)), (.bin 86 .add (.t 85) (.k (I 1))), (.mv 87 (.t 1)), (.fa 88 (.t 5) 1), (.ld 89 false 1 (.t 88)), (.bin 90 .add (.t 89) (.k (I 1))), (.ia 91 1 (.t 87) (.t 90)), (.ld 92 false 1 (.t 91)), (.mv 93 (.t 1)), (.fa 94 (.t 5) 1), (.ld 95 false 1 (.t 94)), (.ia 96 1 (.t 93) (.t 95)), (.ld 97 false 1 (.t 96)), (.ia 98 1 (.t 80) (.t 82)), (.st 1 (.t 98) (.t 92)), (.ia 99 1 (.t 83) (.t 86)), (.st 1 (.t 99) (.t 97))]⟩] [(2, 5), (2, 9), (5, 9), (2, 12), (5, 12), (2, 15), (5, 15), (9, 15), (12, 15), (2, 17), (5, 17), (9, 17), (12, 17), (5, 19)] [9]) (.seq (.rgn [⟨none, [(.mv 100 (.t 9)), (.mv 6 (.t 100)), (.mv 7 (.k (B true)))]⟩] [6, 7]) .ret)) .skip)) (.seq (.seq (.drw [⟨none, [(.fa 101 (.t 5) 0), (.ld 102 false 1 (.t 101)), (.bin 103 .eql (.t 102) (.k (I 2))), (.mv 104 (.t 103))]⟩, ⟨(some (104, true)), [(.mv 105 (.t 1)), (.fa 106 (.t 5) 1), (.ld 107 false 1 (.t 106)), (.bin 108 .add (.t 107) (.k (I 1))), (.ia 109 1 (.t 105) (.t 108)), (.ld 110 false 1 (.t 109)), (.mv 111 (.t 1)), (.fa 112 (.t 5) 1), (.ld 113 false 1 (.t 112)), (.ia 114 1 (.t 111) (.t 113)), (.ld 115 false 1 (.t 114)), (.un 116 .neg (.t 115)), (.bin 117 .eql (.t 110) (.t 116))]⟩, ⟨none, [(.pick 118 (.t 104) (.t 117) (.k (B false)))]⟩] [(6, 12), (9, 12), (6, 14), (9, 14)] [5, 9, 118]) (.cond (.t 118) (.seq (.drw [⟨none, [(.mv 119 (.t 9)), (.fa 120 (.t 5) 1), (.ld 121 false 1 (.t 120)), (.bin 122 .add (.t 121) (.k (I 1))), (.call 123 74 [(.t 119), (.t 122)]), (.fa 124 (.t 5) 1), (.ld 125 false 1 (.t 124)), (.call 126 74 [(.t 123), (.t 125)]), (.mv 6 (.t 126)), (.mv 7 (.k (B true)))]⟩] [(2, 6), (4, 6)] [6, 7]) .ret) .skip)) (.seq (.rgn [⟨none, [(.mv 6 (.k (.sl true 0 []))), (.mv 7 (.k (B false)))]⟩] [6, 7]) .ret))))))))
theorem form69 : formOf Try.prog Try.f69 [6, 7] = some G69 := by kernel_rfl
theorem res69 : resTmps Try.f69.results.toList = some [6, 7] := by kernel_rfl

/-- (*oxgall/stroke.table).pile -/
def G70 : AC := (.seq (.rgn [⟨none, [(.mv 4 (.k (.v (.pointer none))))]⟩] [0, 1]) (.seq (.rgn [⟨none, [(.mv 8 (.t 0)), (.bld 9 [(.v (.pointer none)), (.sl true 0 []), (.sl true 0 []), (.sl true 0 []), (.sl true 0 []), (.sl true 0 []), (.sl true 0 []), (.sl true 0 []), (.sl true 0 [])] [(0, 1, (.t 8))]), (.box 10 9 (.t 9)), (.mv 5 (.t 10))]⟩] [1, 5]) (.seq (.seq (.rgn [⟨none, [(.mv 11 (.t 1)), (.len 12 (.t 11)), (.mv 13 (.k (I 0)))]⟩] [5, 11, 12, 13]) (.block 0 (.loop (.seq (.rgn [⟨none, [(.bin 14 .lss (.t 13) (.t 12))]⟩] [5, 11, 12, 13, 14]) (.seq (.cond (.t 14) .skip (.exit 0)) (.seq (.block 1 (.seq (.rgn [⟨none, [(.ia 15 1 (.t 11) (.t 13)), (.ld 16 false 1 (.t 15)), (.mv 7 (.t 16))]⟩] [5, 7, 11, 12, 13]) (.rgn [⟨none, [(.mv 17 (.t 5)), (.mv 18 (.t 7)), (.call 19 97 [(.t 17), (.t 18)])]⟩] [5, 11, 12, 13]))) (.rgn [⟨none, [(.bin 20 .add (.t 13) (.k (I 1))), (.mv 13 (.t 20))]⟩] [5, 11, 12, 13]))))))) (.seq (.rgn [⟨none, [(.mv 21 (.t 5)), (.mv 4 (.t 21))]⟩] [4]) .ret))))
theorem form70 : formOf Try.prog Try.f70 [4] = some G70 := by kernel_rfl
theorem res70 : resTmps Try.f70.results.toList = some [4] := by kernel_rfl

/-- (*oxgall/stroke.pile).fronts -/
def G71 : AC := (.seq (.rgn [⟨none, [(.box 1 1 (.t 0)), (.mv 2 (.k (.v .nilFunc)))]⟩] [1]) (.seq (.rgn [⟨none, [(.mkf 3 (.func 98) [] [(.t 1)]), (.mv 2 (.t 3))]⟩] [2]) .ret))
theorem form71 : formOf Try.prog Try.f71 [2] = some G71 := by kernel_rfl
theorem res71 : resTmps Try.f71.results.toList = some [2] := by kernel_rfl

/-- oxgall/oxgallref02.firsts -/
def G72 : AC := (.seq (.rgn [⟨none, [(.box 2 2 (.t 0)), (.mv 4 (.k (.sl true 0 [])))]⟩] [1, 2]) (.seq (.rgn [⟨none, [(.mv 5 (.k (.sl true 0 [])))]⟩] [1, 2, 5]) (.seq (.seq (.rgn [⟨none, [(.mv 6 (.k (I 0)))]⟩] [1, 2, 5, 6]) (.block 0 (.loop (.seq (.seq (.rgn [⟨none, [(.mv 10 (.t 6)), (.mv 11 (.t 1)), (.len 12 (.t 11)), (.bin 13 .lss (.t 10) (.t 12))]⟩] [1, 2, 5, 6, 13]) (.cond (.t 13) .skip (.exit 0))) (.seq (.block 1 (.seq (.rgn [⟨none, [(.mv 7 (.k (B true)))]⟩] [1, 2, 5, 6, 7]) (.seq (.seq (.rgn [⟨none, [(.mv 8 (.k (I 0)))]⟩] [1, 2, 5, 6, 7, 8]) (.block 2 (.loop (.seq (.seq (.rgn [⟨none, [(.mv 16 (.t 8)), (.mv 17 (.t 6)), (.bin 18 .lss (.t 16) (.t 17))]⟩] [1, 2, 5, 6, 7, 8, 18]) (.cond (.t 18) .skip (.exit 2))) (.seq (.block 3 (.drw [⟨none, [(.mv 21 (.t 7)), (.mv 22 (.t 21))]⟩, ⟨(some (22, true)), [(.ld 23 true 2 (.t 2)), (.mv 24 (.t 1)), (.mv 25 (.t 8)), (.ia 26 1 (.t 24) (.t 25)), (.ld 27 false 1 (.t 26)), (.mv 28 (.t 1)), (.mv 29 (.t 6)), (.ia 30 1 (.t 28) (.t 29)), (.ld 31 false 1 (.t 30)), (.call 32 52 [(.t 23), (.t 27), (.t 31)])]⟩, ⟨none, [(.pick 33 (.t 22) (.t 32) (.k (B false))), (.mv 7 (.t 33))]⟩] [(2, 6), (2, 10), (6, 10)] [1, 2, 5, 6, 7, 8])) (.rgn [⟨none, [(.mv 19 (.t 8)), (.bin 20 .add (.t 19) (.k (I 1))), (.mv 8 (.t 20))]⟩] [1, 2, 5, 6, 7, 8])))))) (.seq (.seq (.rgn [⟨none, [(.mv 34 (.t 7)), (.un 35 .not (.t 34))]⟩] [1, 2, 5, 6, 35]) (.cond (.t 35) (.exit 1) .skip)) (.seq (.rgn [⟨none, [(.mv 36 (.t 5)), (.mv 37 (.t 1)), (.mv 38 (.t 6)), (.ia 39 1 (.t 37) (.t 38)), (.ld 40 false 1 (.t 39)), (.bsl 41 1 1 [(I 0)] [(0, (.t 40))]), (.app 42 1 8 (.t 36) (.t 41)), (.mv 5 (.t 42))]⟩] [1, 2, 5, 6]) (.seq (.rgn [⟨none, [(.mv 43 (.t 5)), (.len 44 (.t 43)), (.bin 45 .sub (.t 44) (.k (I 1))), (.mv 9 (.t 45))]⟩] [1, 2, 5, 6, 9]) (.block 4 (.loop (.seq (.seq (.drw [⟨none, [(.mv 46 (.t 9)), (.bin 47 .gtr (.t 46) (.k (I 0))), (.mv 48 (.t 47))]⟩, ⟨(some (48, true)), [(.mv 49 (.t 5)), (.mv 50 (.t 9)), (.ia 51 1 (.t 49) (.t 50)), (.ld 52 false 1 (.t 51)), (.call 53 99 [(.t 52)]), (.mv 54 (.t 5)), (.mv 55 (.t 9)), (.bin 56 .sub (.t 55) (.k (I 1))), (.ia 57 1 (.t 54) (.t 56)), (.ld 58 false 1 (.t 57)), (.call 59 99 [(.t 58)]), (.bin 60 .lss (.t 53) (.t 59))]⟩, ⟨none, [(.pick 61 (.t 48) (.t 60) (.k (B false)))]⟩] [(6, 12), (7, 12)] [1, 2, 5, 6, 9, 61]) (.cond (.t 61) .skip (.exit 4))) (.seq (.block 5 (.drw [⟨none, [(.mv 64 (.t 5)), (.mv 65 (.t 9)), (.mv 66 (.t 5)), (.mv 67 (.t 9)), (.bin 68 .sub (.t 67) (.k (I 1))), (.mv 69 (.t 5)), (.mv 70 (.t 9)), (.bin 71 .sub (.t 70) (.k (I 1))), (.ia 72 1 (.t 69) (.t 71)), (.ld 73 false 1 (.t 72)), (.mv 74 (.t 5)), (.mv 75 (.t 9)), (.ia 76 1 (.t 74) (.t 75)), (.ld 77 false 1 (.t 76)), (.ia 78 1 (.t 64) (.t 65)), (.st 1 (.t 78) (.t 73)), (.ia 79 1 (.t 66) (.t 68)), (.st 1 (.t 79) (.t 77))]⟩] [(9, 13)] [1, 2, 5, 6, 9])) (.rgn [⟨none, [(.mv 62 (.t 9)), (.bin 63 .sub (.t 62) (.k (I 1))), (.mv 9 (.t 63))]⟩] [1, 2, 5, 6, 9]))))))))))) (.rgn [⟨none, [(.mv 14 (.t 6)), (.bin 15 .add (.t 14) (.k (I 1))), (.mv 6 (.t 15))]⟩] [1, 2, 5, 6])))))) (.seq (.rgn [⟨none, [(.mv 80 (.t 5)), (.mv 4 (.t 80))]⟩] [4]) .ret))))
theorem form72 : formOf Try.prog Try.f72 [4] = some G72 := by kernel_rfl
theorem res72 : resTmps Try.f72.results.toList = some [4] := by kernel_rfl

/-- (*oxgall/stroke.pile).take -/
def G73 : AC := (.seq (.rgn [⟨none, [(.mv 6 (.t 1)), (.call 7 100 [(.t 6)]), (.mv 4 (.t 7))]⟩] [0, 4]) (.seq (.rgn [⟨none, [(.mv 8 (.k (I 0)))]⟩] [0, 4, 8]) (.block 0 (.loop (.seq (.rgn [⟨none, [(.bin 9 .lss (.t 8) (.k (I 8)))]⟩] [0, 4, 8, 9]) (.seq (.cond (.t 9) .skip (.exit 0)) (.seq (.block 1 (.seq (.rgn [⟨none, [(.mv 10 (.t 8)), (.mv 5 (.t 10))]⟩] [0, 4, 5, 8]) (.seq (.rgn [⟨none, [(.mv 11 (.t 5)), (.mv 12 (.t 4)), (.bin 13 .eql (.t 11) (.t 12)), (.mv 14 (.t 13))]⟩, ⟨(some (14, false)), [(.mv 15 (.t 0)), (.nilc 16 (.t 15)), (.fa 17 (.t 16) 0), (.ld 18 false 1 (.t 17)), (.mv 19 (.t 4)), (.mv 20 (.t 5)), (.nilc 21 (.t 18)), (.fa 22 (.t 21) 2), (.iaa 23 8 8 (.t 22) (.t 19)), (.iaa 24 8 1 (.t 23) (.t 20)), (.ld 25 false 1 (.t 24)), (.bin 26 .eql (.t 25) (.k (I 1)))]⟩, ⟨none, [(.pick 27 (.t 14) (.k (B true)) (.t 26))]⟩] [0, 4, 5, 8, 27]) (.cond (.t 27) (.drw [⟨none, [(.mv 28 (.t 0)), (.mv 29 (.t 5)), (.mv 30 (.t 0)), (.mv 31 (.t 5)), (.nilc 32 (.t 30)), (.fa 33 (.t 32) 1), (.iaa 34 8 1 (.t 33) (.t 31)), (.ld 35 false 1 (.t 34)), (.slc 36 1 (.t 35) (some (.k (I 1))) none none), (.nilc 37 (.t 28)), (.fa 38 (.t 37) 1), (.iaa 39 8 1 (.t 38) (.t 29)), (.st 1 (.t 39) (.t 36))]⟩] [] [0, 4, 8]) .skip)))) (.rgn [⟨none, [(.bin 40 .add (.t 8) (.k (I 1))), (.mv 8 (.t 40))]⟩] [0, 4, 8]))))))))
theorem form73 : formOf Try.prog Try.f73 [] = some G73 := by kernel_rfl
theorem res73 : resTmps Try.f73.results.toList = some [] := by kernel_rfl

/-- oxgall/oxgallref02.without -/
def G74 : AC := (.seq (.rgn [⟨none, [(.mv 4 (.k (.sl true 0 [])))]⟩] [0, 1]) (.seq (.drw [⟨none, [(.bsl 5 0 1 [(I 0)] []), (.mv 6 (.t 0)), (.mv 7 (.t 1)), (.slc 8 1 (.t 6) none (some (.t 7)) none), (.app 9 1 8 (.t 5) (.t 8)), (.mv 10 (.t 0)), (.mv 11 (.t 1)), (.bin 12 .add (.t 11) (.k (I 1))), (.slc 13 1 (.t 10) (some (.t 12)) none none), (.app 14 1 8 (.t 9) (.t 13)), (.mv 4 (.t 14))]⟩] [] [4]) .ret))
theorem form74 : formOf Try.prog Try.f74 [4] = some G74 := by kernel_rfl
theorem res74 : resTmps Try.f74.results.toList = some [4] := by kernel_rfl

/-- (*oxgall/stroke.table).can -/
def G75 : AC := (.seq (.rgn [⟨none, [(.mv 6 (.k (B false)))]⟩] [0, 1, 2]) (.seq (.drw [⟨none, [(.mv 7 (.t 1)), (.call 8 100 [(.t 7)]), (.mv 9 (.t 2)), (.call 10 100 [(.t 9)]), (.bin 11 .neq (.t 8) (.t 10)), (.mv 12 (.t 11))]⟩, ⟨(some (12, true)), [(.mv 13 (.t 0)), (.mv 14 (.t 1)), (.call 15 100 [(.t 14)]), (.mv 16 (.t 2)), (.call 17 100 [(.t 16)]), (.nilc 18 (.t 13)), (.fa 19 (.t 18) 2), (.iaa 20 8 8 (.t 19) (.t 15)), (.iaa 21 8 1 (.t 20) (.t 17)), (.ld 22 false 1 (.t 21)), (.bin 23 .eql (.t 22) (.k (I 0)))]⟩, ⟨none, [(.pick 24 (.t 12) (.t 23) (.k (B false))), (.mv 6 (.t 24))]⟩] [] [6]) .ret))
theorem form75 : formOf Try.prog Try.f75 [6] = some G75 := by kernel_rfl
theorem res75 : resTmps Try.f75.results.toList = some [6] := by kernel_rfl

/-- slices.Reverse[[]int,int] -/
def G76 : AC := (.seq (.rgn [⟨none, [(.mv 4 (.t 0)), (.len 5 (.t 4)), (.bin 6 .sub (.t 5) (.k (I 1))), (.mv 2 (.k (I 0))), (.mv 3 (.t 6))]⟩] [0, 2, 3]) (.block 0 (.loop (.seq (.seq (.rgn [⟨none, [(.mv 7 (.t 2)), (.mv 8 (.t 3)), (.bin 9 .lss (.t 7) (.t 8))]⟩] [0, 2, 3, 9]) (.cond (.t 9) .skip (.exit 0))) (.seq (.block 1 (.drw [⟨none, [(.mv 14 (.t 0)), (.mv 15 (.t 2)), (.mv 16 (.t 0)), (.mv 17 (.t 3)), (.mv 18 (.t 0)), (.mv 19 (.t 3)), (.ia 20 1 (.t 18) (.t 19)), (.ld 21 false 1 (.t 20)), (.mv 22 (.t 0)), (.mv 23 (.t 2)), (.ia 24 1 (.t 22) (.t 23)), (.ld 25 false 1 (.t 24)), (.ia 26 1 (.t 14) (.t 15)), (.st 1 (.t 26) (.t 21)), (.ia 27 1 (.t 16) (.t 17)), (.st 1 (.t 27) (.t 25))]⟩] [(7, 11)] [0, 2, 3])) (.rgn [⟨none, [(.mv 10 (.t 2)), (.bin 11 .add (.t 10) (.k (I 1))), (.mv 12 (.t 3)), (.bin 13 .sub (.t 12) (.k (I 1))), (.mv 2 (.t 11)), (.mv 3 (.t 13))]⟩] [0, 2, 3]))))))
theorem form76 : formOf Try.prog Try.f76 [] = some G76 := by kernel_rfl
theorem res76 : resTmps Try.f76.results.toList = some [] := by kernel_rfl

/-- oxgall/oxgallref02.first -/
def G78 : AC := (.seq (.rgn [⟨none, [(.box 2 2 (.t 0)), (.mv 4 (.k (I 0)))]⟩] [1, 2]) (.seq (.rgn [⟨none, [(.mv 5 (.k (I (-1))))]⟩] [1, 2, 5]) (.seq (.seq (.rgn [⟨none, [(.mv 6 (.k (I 0)))]⟩] [1, 2, 5, 6]) (.block 0 (.loop (.seq (.seq (.rgn [⟨none, [(.mv 9 (.t 6)), (.mv 10 (.t 1)), (.len 11 (.t 10)), (.bin 12 .lss (.t 9) (.t 11))]⟩] [1, 2, 5, 6, 12]) (.cond (.t 12) .skip (.exit 0))) (.seq (.block 1 (.seq (.rgn [⟨none, [(.mv 7 (.k (B true)))]⟩] [1, 2, 5, 6, 7]) (.seq (.seq (.rgn [⟨none, [(.mv 8 (.k (I 0)))]⟩] [1, 2, 5, 6, 7, 8]) (.block 2 (.loop (.seq (.seq (.rgn [⟨none, [(.mv 15 (.t 8)), (.mv 16 (.t 6)), (.bin 17 .lss (.t 15) (.t 16))]⟩] [1, 2, 5, 6, 7, 8, 17]) (.cond (.t 17) .skip (.exit 2))) (.seq (.block 3 (.drw [⟨none, [(.mv 20 (.t 7)), (.mv 21 (.t 20))]⟩, ⟨(some (21, true)), [(.ld 22 true 2 (.t 2)), (.mv 23 (.t 1)), (.mv 24 (.t 8)), (.ia 25 1 (.t 23) (.t 24)), (.ld 26 false 1 (.t 25)), (.mv 27 (.t 1)), (.mv 28 (.t 6)), (.ia 29 1 (.t 27) (.t 28)), (.ld 30 false 1 (.t 29)), (.call 31 52 [(.t 22), (.t 26), (.t 30)])]⟩, ⟨none, [(.pick 32 (.t 21) (.t 31) (.k (B false))), (.mv 7 (.t 32))]⟩] [(2, 6), (2, 10), (6, 10)] [1, 2, 5, 6, 7, 8])) (.rgn [⟨none, [(.mv 18 (.t 8)), (.bin 19 .add (.t 18) (.k (I 1))), (.mv 8 (.t 19))]⟩] [1, 2, 5, 6, 7, 8])))))) (.seq (.drw [⟨none, [(.mv 33 (.t 7)), (.mv 34 (.t 33))]⟩, ⟨(some (34, true)), [(.mv 35 (.t 5)), (.bin 36 .lss (.t 35) (.k (I 0))), (.mv 37 (.t 36))]⟩, ⟨(some (37, false)), [(.mv 38 (.t 1)), (.mv 39 (.t 6)), (.ia 40 1 (.t 38) (.t 39)), (.ld 41 false 1 (.t 40)), (.call 42 99 [(.t 41)]), (.mv 43 (.t 1)), (.mv 44 (.t 5)), (.ia 45 1 (.t 43) (.t 44)), (.ld 46 false 1 (.t 45)), (.call 47 99 [(.t 46)]), (.bin 48 .lss (.t 42) (.t 47))]⟩, ⟨(some (34, true)), [(.pick 49 (.t 37) (.k (B true)) (.t 48))]⟩, ⟨none, [(.pick 50 (.t 34) (.t 49) (.k (B false)))]⟩] [(8, 13), (9, 13)] [1, 2, 5, 6, 50]) (.cond (.t 50) (.rgn [⟨none, [(.mv 51 (.t 6)), (.mv 5 (.t 51))]⟩] [1, 2, 5, 6]) .skip))))) (.rgn [⟨none, [(.mv 13 (.t 6)), (.bin 14 .add (.t 13) (.k (I 1))), (.mv 6 (.t 14))]⟩] [1, 2, 5, 6])))))) (.seq (.rgn [⟨none, [(.mv 52 (.t 5)), (.mv 4 (.t 52))]⟩] [4]) .ret))))
theorem form78 : formOf Try.prog Try.f78 [4] = some G78 := by kernel_rfl
theorem res78 : resTmps Try.f78.results.toList = some [4] := by kernel_rfl

/-- oxgall/stroke.back -/
def G81 : AC := (.seq (.rgn [⟨none, [(.mv 2 (.k (.sl true 0 [])))]⟩] [0]) (.seq (.rgn [⟨none, [(.mv 5 (.t 0)), (.call 6 66 [(.t 5)]), (.mv 3 (.t 6))]⟩] [3]) (.seq (.rgn [⟨none, [(.mv 7 (.t 3)), (.call 8 76 [(.t 7)])]⟩] [3]) (.seq (.seq (.rgn [⟨none, [(.mv 9 (.t 3)), (.len 10 (.t 9)), (.mv 11 (.k (I 0)))]⟩] [3, 10, 11]) (.block 0 (.loop (.seq (.rgn [⟨none, [(.bin 12 .lss (.t 11) (.t 10))]⟩] [3, 10, 11, 12]) (.seq (.cond (.t 12) .skip (.exit 0)) (.seq (.block 1 (.seq (.rgn [⟨none, [(.mv 13 (.t 11)), (.mv 4 (.t 13))]⟩] [3, 4, 10, 11]) (.rgn [⟨none, [(.mv 14 (.t 3)), (.mv 15 (.t 4)), (.mv 16 (.t 3)), (.mv 17 (.t 4)), (.ia 18 1 (.t 16) (.t 17)), (.ld 19 false 1 (.t 18)), (.un 20 .neg (.t 19)), (.ia 21 1 (.t 14) (.t 15)), (.st 1 (.t 21) (.t 20))]⟩] [3, 10, 11]))) (.rgn [⟨none, [(.bin 22 .add (.t 11) (.k (I 1))), (.mv 11 (.t 22))]⟩] [3, 10, 11]))))))) (.seq (.rgn [⟨none, [(.mv 23 (.t 3)), (.mv 2 (.t 23))]⟩] [2]) .ret)))))
theorem form81 : formOf Try.prog Try.f81 [2] = some G81 := by kernel_rfl
theorem res81 : resTmps Try.f81.results.toList = some [2] := by kernel_rfl

/-- (*oxgall/stroke.pile).front -/
def G82 : AC := (.seq (.rgn [⟨none, [(.mv 4 (.k (B false)))]⟩] [0, 1]) (.seq (.drw [⟨none, [(.mv 6 (.t 0)), (.mv 7 (.t 1)), (.call 8 100 [(.t 7)]), (.nilc 9 (.t 6)), (.fa 10 (.t 9) 1), (.iaa 11 8 1 (.t 10) (.t 8)), (.ld 12 false 1 (.t 11)), (.mv 5 (.t 12))]⟩] [] [1, 5]) (.seq (.rgn [⟨none, [(.mv 13 (.t 5)), (.len 14 (.t 13)), (.bin 15 .gtr (.t 14) (.k (I 0))), (.mv 16 (.t 15))]⟩, ⟨(some (16, true)), [(.mv 17 (.t 5)), (.ia 18 1 (.t 17) (.k (I 0))), (.ld 19 false 1 (.t 18)), (.mv 20 (.t 1)), (.bin 21 .eql (.t 19) (.t 20))]⟩, ⟨none, [(.pick 22 (.t 16) (.t 21) (.k (B false))), (.mv 4 (.t 22))]⟩] [4]) .ret)))
theorem form82 : formOf Try.prog Try.f82 [4] = some G82 := by kernel_rfl
theorem res82 : resTmps Try.f82.results.toList = some [4] := by kernel_rfl

/-- oxgall/oxgallref02.both -/
def G85 : AC := (.seq (.rgn [⟨none, [(.box 3 2 (.t 0)), (.mv 6 (.k (I 0))), (.mv 7 (.k (I 0)))]⟩] [1, 2, 3]) (.seq (.drw [⟨none, [(.ld 14 true 2 (.t 3)), (.mv 15 (.t 1)), (.call 16 72 [(.t 14), (.t 15)]), (.ld 17 true 2 (.t 3)), (.mv 18 (.t 2)), (.call 19 72 [(.t 17), (.t 18)]), (.mv 8 (.t 16)), (.mv 9 (.t 19))]⟩] [(0, 3), (2, 3)] [1, 2, 8, 9]) (.seq (.seq (.rgn [⟨none, [(.mv 10 (.k (I 0)))]⟩] [1, 2, 8, 9, 10]) (.block 0 (.loop (.seq (.seq (.rgn [⟨none, [(.mv 20 (.t 10)), (.mv 21 (.t 8)), (.len 22 (.t 21)), (.bin 23 .lss (.t 20) (.t 22))]⟩] [1, 2, 8, 9, 10, 23]) (.cond (.t 23) .skip (.exit 0))) (.seq (.block 1 (.seq (.rgn [⟨none, [(.mv 11 (.k (I 0)))]⟩] [1, 2, 8, 9, 10, 11]) (.block 2 (.loop (.seq (.seq (.rgn [⟨none, [(.mv 26 (.t 11)), (.mv 27 (.t 9)), (.len 28 (.t 27)), (.bin 29 .lss (.t 26) (.t 28))]⟩] [1, 2, 8, 9, 10, 11, 29]) (.cond (.t 29) .skip (.exit 2))) (.seq (.block 3 (.seq (.drw [⟨none, [(.mv 32 (.t 8)), (.mv 33 (.t 10)), (.ia 34 1 (.t 32) (.t 33)), (.ld 35 false 1 (.t 34)), (.mv 36 (.t 9)), (.mv 37 (.t 11)), (.ia 38 1 (.t 36) (.t 37)), (.ld 39 false 1 (.t 38)), (.bin 40 .eql (.t 35) (.t 39))]⟩] [(3, 7)] [1, 2, 8, 9, 10, 11, 40]) (.cond (.t 40) (.seq (.rgn [⟨none, [(.mv 12 (.k (I 0))), (.mv 13 (.k (I 0)))]⟩] [1, 2, 8, 10, 12, 13]) (.seq (.block 4 (.loop (.seq (.seq (.drw [⟨none, [(.mv 41 (.t 1)), (.mv 42 (.t 12)), (.ia 43 1 (.t 41) (.t 42)), (.ld 44 false 1 (.t 43)), (.mv 45 (.t 8)), (.mv 46 (.t 10)), (.ia 47 1 (.t 45) (.t 46)), (.ld 48 false 1 (.t 47)), (.bin 49 .neq (.t 44) (.t 48))]⟩] [(3, 7)] [1, 2, 8, 10, 12, 13, 49]) (.cond (.t 49) .skip (.exit 4))) (.block 5 (.rgn [⟨none, [(.mv 50 (.t 12)), (.bin 51 .add (.t 50) (.k (I 1))), (.mv 12 (.t 51))]⟩] [1, 2, 8, 10, 12, 13]))))) (.seq (.block 6 (.loop (.seq (.seq (.drw [⟨none, [(.mv 52 (.t 2)), (.mv 53 (.t 13)), (.ia 54 1 (.t 52) (.t 53)), (.ld 55 false 1 (.t 54)), (.mv 56 (.t 8)), (.mv 57 (.t 10)), (.ia 58 1 (.t 56) (.t 57)), (.ld 59 false 1 (.t 58)), (.bin 60 .neq (.t 55) (.t 59))]⟩] [(3, 7)] [2, 8, 10, 12, 13, 60]) (.cond (.t 60) .skip (.exit 6))) (.block 7 (.rgn [⟨none, [(.mv 61 (.t 13)), (.bin 62 .add (.t 61) (.k (I 1))), (.mv 13 (.t 62))]⟩] [2, 8, 10, 12, 13]))))) (.seq (.rgn [⟨none, [(.mv 63 (.t 12)), (.mv 64 (.t 13)), (.mv 6 (.t 63)), (.mv 7 (.t 64))]⟩] [6, 7]) .ret)))) .skip))) (.rgn [⟨none, [(.mv 30 (.t 11)), (.bin 31 .add (.t 30) (.k (I 1))), (.mv 11 (.t 31))]⟩] [1, 2, 8, 9, 10, 11]))))))) (.rgn [⟨none, [(.mv 24 (.t 10)), (.bin 25 .add (.t 24) (.k (I 1))), (.mv 10 (.t 25))]⟩] [1, 2, 8, 9, 10])))))) (.seq (.rgn [⟨none, [(.mv 6 (.k (I (-1)))), (.mv 7 (.k (I (-1))))]⟩] [6, 7]) .ret))))
theorem form85 : formOf Try.prog Try.f85 [6, 7] = some G85 := by kernel_rfl
theorem res85 : resTmps Try.f85.results.toList = some [6, 7] := by kernel_rfl

/-- (*oxgall/stroke.table).down$1 -/
def G91 : AC := (.seq (.rgn [⟨none, [(.box 4 3 (.t 0))]⟩] [1, 2, 3, 4]) (.seq (.rgn [⟨none, [(.ld 5 false 1 (.t 1)), (.ld 6 false 1 (.t 2)), (.ld 7 true 3 (.t 4)), (.call 8 68 [(.t 5), (.t 6), (.t 7)]), (.st 1 (.t 2) (.t 8))]⟩] [3, 4]) (.rgn [⟨none, [(.ld 9 false 1 (.t 3)), (.ld 10 true 3 (.t 4)), (.bsl 11 1 3 [(I 0), (I 0), (I 0)] [(0, (.t 10))]), (.app 12 3 24 (.t 9) (.t 11)), (.st 1 (.t 3) (.t 12))]⟩] [])))
theorem form91 : formOf Try.prog Try.f91 [] = some G91 := by kernel_rfl
theorem res91 : resTmps Try.f91.results.toList = some [] := by kernel_rfl

/-- (*oxgall/stroke.table).down$2 -/
def G92 : AC := (.seq (.rgn [⟨none, [(.mv 6 (.t 0)), (.mv 5 (.t 6))]⟩] [1, 2, 5]) (.block 0 (.loop (.seq (.seq (.rgn [⟨none, [(.mv 7 (.t 5)), (.mv 8 (.t 1)), (.bin 9 .gtr (.t 7) (.t 8))]⟩] [1, 2, 5, 9]) (.cond (.t 9) .skip (.exit 0))) (.seq (.block 1 (.rgn [⟨none, [(.ld 12 false 1 (.t 2)), (.mv 13 (.t 5)), (.bin 14 .sub (.t 13) (.k (I 1))), (.bld 15 [(I 0), (I 0), (I 0)] [(0, 1, (.k (I 1))), (1, 1, (.t 14))]), (.callv 16 (.t 12) [(.t 15)])]⟩] [1, 2, 5])) (.rgn [⟨none, [(.mv 10 (.t 5)), (.bin 11 .sub (.t 10) (.k (I 1))), (.mv 5 (.t 11))]⟩] [1, 2, 5]))))))
theorem form92 : formOf Try.prog Try.f92 [] = some G92 := by kernel_rfl
theorem res92 : resTmps Try.f92.results.toList = some [] := by kernel_rfl

/-- slices.Reverse[[]oxgall/api.StrokeMove,oxgall/api.StrokeMove] -/
def G94 : AC := (.seq (.rgn [⟨none, [(.mv 4 (.t 0)), (.len 5 (.t 4)), (.bin 6 .sub (.t 5) (.k (I 1))), (.mv 2 (.k (I 0))), (.mv 3 (.t 6))]⟩] [0, 2, 3]) (.block 0 (.loop (.seq (.seq (.rgn [⟨none, [(.mv 7 (.t 2)), (.mv 8 (.t 3)), (.bin 9 .lss (.t 7) (.t 8))]⟩] [0, 2, 3, 9]) (.cond (.t 9) .skip (.exit 0))) (.seq (.block 1 (.drw [⟨none, [(.mv 14 (.t 0)), (.mv 15 (.t 2)), (.mv 16 (.t 0)), (.mv 17 (.t 3)), (.mv 18 (.t 0)), (.mv 19 (.t 3)), (.ia 20 3 (.t 18) (.t 19)), (.ld 21 true 3 (.t 20)), (.mv 22 (.t 0)), (.mv 23 (.t 2)), (.ia 24 3 (.t 22) (.t 23)), (.ld 25 true 3 (.t 24)), (.ia 26 3 (.t 14) (.t 15)), (.st 3 (.t 26) (.t 21)), (.ia 27 3 (.t 16) (.t 17)), (.st 3 (.t 27) (.t 25))]⟩] [(7, 11)] [0, 2, 3])) (.rgn [⟨none, [(.mv 10 (.t 2)), (.bin 11 .add (.t 10) (.k (I 1))), (.mv 12 (.t 3)), (.bin 13 .sub (.t 12) (.k (I 1))), (.mv 2 (.t 11)), (.mv 3 (.t 13))]⟩] [0, 2, 3]))))))
theorem form94 : formOf Try.prog Try.f94 [] = some G94 := by kernel_rfl
theorem res94 : resTmps Try.f94.results.toList = some [] := by kernel_rfl

/-- (*oxgall/stroke.pile).lay -/
def G97 : AC := (.seq (.rgn [⟨none, [(.mv 8 (.t 1)), (.call 9 100 [(.t 8)]), (.mv 4 (.t 9))]⟩] [0, 1, 4]) (.seq (.rgn [⟨none, [(.mv 10 (.t 0)), (.mv 11 (.t 4)), (.nilc 12 (.t 10)), (.fa 13 (.t 12) 1), (.iaa 14 8 1 (.t 13) (.t 11)), (.ld 15 false 1 (.t 14)), (.len 16 (.t 15)), (.mv 5 (.t 16))]⟩] [0, 1, 4, 5]) (.seq (.rgn [⟨none, [(.mv 17 (.t 5)), (.bin 18 .gtr (.t 17) (.k (I 0))), (.mv 19 (.t 18))]⟩, ⟨(some (19, true)), [(.mv 20 (.t 0)), (.mv 21 (.t 4)), (.nilc 22 (.t 20)), (.fa 23 (.t 22) 1), (.iaa 24 8 1 (.t 23) (.t 21)), (.ld 25 false 1 (.t 24)), (.mv 26 (.t 5)), (.bin 27 .sub (.t 26) (.k (I 1))), (.ia 28 1 (.t 25) (.t 27)), (.ld 29 false 1 (.t 28)), (.mv 30 (.t 1)), (.un 31 .neg (.t 30)), (.bin 32 .eql (.t 29) (.t 31))]⟩, ⟨none, [(.pick 33 (.t 19) (.t 32) (.k (B false))), (.mv 6 (.t 33))]⟩] [0, 1, 4, 6]) (.seq (.rgn [⟨none, [(.mv 34 (.k (I 0)))]⟩] [0, 1, 4, 6, 34]) (.block 0 (.loop (.seq (.rgn [⟨none, [(.bin 35 .lss (.t 34) (.k (I 8)))]⟩] [0, 1, 4, 6, 34, 35]) (.seq (.cond (.t 35) .skip (.exit 0)) (.seq (.block 1 (.seq (.rgn [⟨none, [(.mv 36 (.t 34)), (.mv 7 (.t 36))]⟩] [0, 1, 4, 6, 7, 34]) (.block 2 (.seq (.rgn [⟨none, [(.mv 51 (.t 7)), (.mv 52 (.t 4)), (.bin 53 .neq (.t 51) (.t 52)), (.mv 54 (.t 53))]⟩, ⟨(some (54, true)), [(.mv 55 (.t 0)), (.nilc 56 (.t 55)), (.fa 57 (.t 56) 0), (.ld 58 false 1 (.t 57)), (.mv 59 (.t 4)), (.mv 60 (.t 7)), (.nilc 61 (.t 58)), (.fa 62 (.t 61) 2), (.iaa 63 8 8 (.t 62) (.t 59)), (.iaa 64 8 1 (.t 63) (.t 60)), (.ld 65 false 1 (.t 64)), (.bin 66 .eql (.t 65) (.k (I 0)))]⟩, ⟨none, [(.pick 67 (.t 54) (.t 66) (.k (B false))), (.mv 50 (.t 67))]⟩] [0, 1, 4, 6, 7, 34, 50]) (.cond (.t 50) .skip (.seq (.rgn [⟨none, [(.mv 69 (.t 6)), (.mv 68 (.t 69))]⟩] [0, 1, 4, 6, 7, 34, 68]) (.cond (.t 68) (.drw [⟨none, [(.mv 70 (.t 0)), (.mv 71 (.t 7)), (.mv 72 (.t 0)), (.mv 73 (.t 7)), (.nilc 74 (.t 72)), (.fa 75 (.t 74) 1), (.iaa 76 8 1 (.t 75) (.t 73)), (.ld 77 false 1 (.t 76)), (.mv 78 (.t 0)), (.mv 79 (.t 7)), (.nilc 80 (.t 78)), (.fa 81 (.t 80) 1), (.iaa 82 8 1 (.t 81) (.t 79)), (.ld 83 false 1 (.t 82)), (.len 84 (.t 83)), (.bin 85 .sub (.t 84) (.k (I 1))), (.slc 86 1 (.t 77) none (some (.t 85)) none), (.nilc 87 (.t 70)), (.fa 88 (.t 87) 1), (.iaa 89 8 1 (.t 88) (.t 71)), (.st 1 (.t 89) (.t 86))]⟩] [(7, 13)] [0, 1, 4, 6, 34]) (.seq (.rgn [⟨none, [(.mv 91 (.t 7)), (.mv 92 (.t 4)), (.bin 93 .eql (.t 91) (.t 92)), (.mv 90 (.t 93))]⟩] [0, 1, 4, 6, 7, 34, 90]) (.cond (.t 90) (.drw [⟨none, [(.mv 94 (.t 0)), (.mv 95 (.t 7)), (.mv 96 (.t 0)), (.mv 97 (.t 7)), (.nilc 98 (.t 96)), (.fa 99 (.t 98) 1), (.iaa 100 8 1 (.t 99) (.t 97)), (.ld 101 false 1 (.t 100)), (.mv 102 (.t 1)), (.bsl 103 1 1 [(I 0)] [(0, (.t 102))]), (.app 104 1 8 (.t 101) (.t 103)), (.nilc 105 (.t 94)), (.fa 106 (.t 105) 1), (.iaa 107 8 1 (.t 106) (.t 95)), (.st 1 (.t 107) (.t 104))]⟩] [(7, 9)] [0, 1, 4, 6, 34]) (.drw [⟨none, [(.mv 37 (.t 0)), (.mv 38 (.t 7)), (.mv 39 (.t 0)), (.mv 40 (.t 7)), (.nilc 41 (.t 39)), (.fa 42 (.t 41) 1), (.iaa 43 8 1 (.t 42) (.t 40)), (.ld 44 false 1 (.t 43)), (.bsl 45 1 1 [(I 0)] [(0, (.k (I 0)))]), (.app 46 1 8 (.t 44) (.t 45)), (.nilc 47 (.t 37)), (.fa 48 (.t 47) 1), (.iaa 49 8 1 (.t 48) (.t 38)), (.st 1 (.t 49) (.t 46))]⟩] [(7, 8)] [0, 1, 4, 6, 34])))))))))) (.rgn [⟨none, [(.bin 108 .add (.t 34) (.k (I 1))), (.mv 34 (.t 108))]⟩] [0, 1, 4, 6, 34]))))))))))
theorem form97 : formOf Try.prog Try.f97 [] = some G97 := by kernel_rfl
theorem res97 : resTmps Try.f97.results.toList = some [] := by kernel_rfl

/-- (*oxgall/stroke.pile).fronts$1 -/
def G98 : AC := (.seq (.rgn [⟨none, [(.ld 5 false 1 (.t 1)), (.nilc 6 (.t 5)), (.fa 7 (.t 6) 1), (.ld 8 true 8 (.t 7)), (.mv 9 (.k (I 0)))]⟩] [0, 8, 9]) (.block 0 (.loop (.seq (.rgn [⟨none, [(.bin 10 .lss (.t 9) (.k (I 8)))]⟩] [0, 8, 9, 10]) (.seq (.cond (.t 10) .skip (.exit 0)) (.seq (.block 1 (.seq (.rgn [⟨none, [(.idx 11 8 false 1 (.t 8) (.t 9)), (.mv 4 (.t 11))]⟩] [0, 4, 8, 9]) (.seq (.rgn [⟨none, [(.mv 12 (.t 4)), (.len 13 (.t 12)), (.bin 14 .gtr (.t 13) (.k (I 0))), (.mv 15 (.t 14))]⟩, ⟨(some (15, true)), [(.mv 16 (.t 4)), (.ia 17 1 (.t 16) (.k (I 0))), (.ld 18 false 1 (.t 17)), (.bin 19 .neq (.t 18) (.k (I 0)))]⟩, ⟨none, [(.pick 20 (.t 15) (.t 19) (.k (B false))), (.mv 21 (.t 20))]⟩, ⟨(some (21, true)), [(.mv 22 (.t 0)), (.mv 23 (.t 4)), (.ia 24 1 (.t 23) (.k (I 0))), (.ld 25 false 1 (.t 24)), (.callv 26 (.t 22) [(.t 25)]), (.un 27 .not (.t 26))]⟩, ⟨none, [(.pick 28 (.t 21) (.t 27) (.k (B false)))]⟩] [0, 8, 9, 28]) (.cond (.t 28) .ret .skip)))) (.rgn [⟨none, [(.bin 29 .add (.t 9) (.k (I 1))), (.mv 9 (.t 29))]⟩] [0, 8, 9])))))))
theorem form98 : formOf Try.prog Try.f98 [] = some G98 := by kernel_rfl
theorem res98 : resTmps Try.f98.results.toList = some [] := by kernel_rfl

/-- oxgall/oxgallref02.undone -/
def G101 : AC := (.seq (.rgn [⟨none, [(.box 2 2 (.t 0)), (.mv 4 (.k (I 0))), (.mv 5 (.k (I 0)))]⟩] [1, 2]) (.seq (.seq (.rgn [⟨none, [(.mv 6 (.k (I 0)))]⟩] [1, 2, 6]) (.block 0 (.loop (.seq (.seq (.rgn [⟨none, [(.mv 8 (.t 6)), (.mv 9 (.t 1)), (.len 10 (.t 9)), (.bin 11 .lss (.t 8) (.t 10))]⟩] [1, 2, 6, 11]) (.cond (.t 11) .skip (.exit 0))) (.seq (.block 1 (.seq (.rgn [⟨none, [(.mv 14 (.t 6)), (.bin 15 .add (.t 14) (.k (I 1))), (.mv 7 (.t 15))]⟩] [1, 2, 6, 7]) (.block 2 (.loop (.seq (.seq (.drw [⟨none, [(.mv 16 (.t 7)), (.mv 17 (.t 1)), (.len 18 (.t 17)), (.bin 19 .lss (.t 16) (.t 18)), (.mv 20 (.t 19))]⟩, ⟨(some (20, true)), [(.mv 21 (.t 1)), (.mv 22 (.t 7)), (.ia 23 1 (.t 21) (.t 22)), (.ld 24 false 1 (.t 23)), (.mv 25 (.t 1)), (.mv 26 (.t 6)), (.ia 27 1 (.t 25) (.t 26)), (.ld 28 false 1 (.t 27)), (.un 29 .neg (.t 28)), (.bin 30 .eql (.t 24) (.t 29)), (.mv 31 (.t 30))]⟩, ⟨(some (31, false)), [(.ld 32 true 2 (.t 2)), (.mv 33 (.t 1)), (.mv 34 (.t 6)), (.ia 35 1 (.t 33) (.t 34)), (.ld 36 false 1 (.t 35)), (.mv 37 (.t 1)), (.mv 38 (.t 7)), (.ia 39 1 (.t 37) (.t 38)), (.ld 40 false 1 (.t 39)), (.call 41 52 [(.t 32), (.t 36), (.t 40)])]⟩, ⟨(some (20, true)), [(.pick 42 (.t 31) (.k (B true)) (.t 41))]⟩, ⟨none, [(.pick 43 (.t 20) (.t 42) (.k (B false)))]⟩] [(8, 12), (16, 20), (16, 24), (20, 24)] [1, 2, 6, 7, 43]) (.cond (.t 43) .skip (.exit 2))) (.seq (.block 3 (.seq (.drw [⟨none, [(.mv 46 (.t 1)), (.mv 47 (.t 7)), (.ia 48 1 (.t 46) (.t 47)), (.ld 49 false 1 (.t 48)), (.mv 50 (.t 1)), (.mv 51 (.t 6)), (.ia 52 1 (.t 50) (.t 51)), (.ld 53 false 1 (.t 52)), (.un 54 .neg (.t 53)), (.bin 55 .eql (.t 49) (.t 54))]⟩] [(3, 7)] [1, 2, 6, 7, 55]) (.cond (.t 55) (.seq (.rgn [⟨none, [(.mv 56 (.t 6)), (.mv 57 (.t 7)), (.mv 4 (.t 56)), (.mv 5 (.t 57))]⟩] [4, 5]) .ret) .skip))) (.rgn [⟨none, [(.mv 44 (.t 7)), (.bin 45 .add (.t 44) (.k (I 1))), (.mv 7 (.t 45))]⟩] [1, 2, 6, 7]))))))) (.rgn [⟨none, [(.mv 12 (.t 6)), (.bin 13 .add (.t 12) (.k (I 1))), (.mv 6 (.t 13))]⟩] [1, 2, 6])))))) (.seq (.rgn [⟨none, [(.mv 4 (.k (I (-1)))), (.mv 5 (.k (I (-1))))]⟩] [4, 5]) .ret)))
theorem form101 : formOf Try.prog Try.f101 [4, 5] = some G101 := by kernel_rfl
theorem res101 : resTmps Try.f101.results.toList = some [4, 5] := by kernel_rfl

/-- slices.rotateRight[int] -/
def G106 : AC := (.rgn [⟨none, [(.mv 4 (.t 0)), (.mv 5 (.t 0)), (.len 6 (.t 5)), (.mv 7 (.t 1)), (.bin 8 .sub (.t 6) (.t 7)), (.call 9 107 [(.t 4), (.t 8)])]⟩] [])
theorem form106 : formOf Try.prog Try.f106 [] = some G106 := by kernel_rfl
theorem res106 : resTmps Try.f106.results.toList = some [] := by kernel_rfl

/-- slices.rotateLeft[int] -/
def G107 : AC := (.seq (.rgn [⟨none, [(.mv 4 (.t 0)), (.mv 5 (.t 1)), (.slc 6 1 (.t 4) none (some (.t 5)) none), (.call 7 76 [(.t 6)])]⟩] [0, 1]) (.seq (.rgn [⟨none, [(.mv 8 (.t 0)), (.mv 9 (.t 1)), (.slc 10 1 (.t 8) (some (.t 9)) none none), (.call 11 76 [(.t 10)])]⟩] [0]) (.rgn [⟨none, [(.mv 12 (.t 0)), (.call 13 76 [(.t 12)])]⟩] [])))
theorem form107 : formOf Try.prog Try.f107 [] = some G107 := by kernel_rfl
theorem res107 : resTmps Try.f107.results.toList = some [] := by kernel_rfl

end Go.AM

/- CONTRACTS, PART 4: short forms as the specification makes them. Own work. -/
set_option linter.unusedSimpArgs false
set_option linter.unusedVariables false
namespace Go.AM
open Go.RowKit Go.Proofs

@[simp high] theorem ls_isPC (l : List Int) : (l.map fun n => I n).all AV.isPC = true := by simp [List.all_eq_true]
@[simp high] theorem ls_isPure (l : List Int) : (l.map fun n => I n).all AV.isPure = true := by simp [List.all_eq_true]

theorem out_ls {id n : Nat} {l : List Int} {hp : List HObj} (h : nthH hp id = some (.cells (l.map fun n => I n))) (hn : n = l.length) : Out (Ls false l) (.ms id 0 n 1) hp := by
  subst hn
  rw [nthH_eq] at h
  refine out_of (is := [id]) ?_
  simp only [purify, purify1, hpf, h]
  rw [if_pos ⟨by simp, ls_isPure l⟩]
  simp only [view, List.drop_zero, Nat.mul_one]
  rw [List.take_of_length_le (by simp)]

theorem two_ok (f g h : Bool) (b : Bch) (l m : List Int) (hb : b.c.length ≤ 1000000) (hl : l.length ≤ 1000000) (hm : m.length ≤ 1000000) :
    PureOK Try.prog 62 [Bn f b, Ls g l, Ls h m] (I (if chkL b l ≠ 0 then chkL b l else chkL b m)) := by
  refine pure_of (walk Try.func62 form62 res62 (by show 3 ≤ _; decide) ?_)
  simp (disch := omega) [G62, wrap_id]
  refine callW_pure rfl (refList_ok f g b l hb hl) ?_
  simp (disch := omega) [wrap_id]
  refine c_split (fun h0 => ?_) (fun h0 => ?_)
  · simp at h0
    simp (disch := omega) [wrap_id]
    refine callW_pure rfl (refList_ok f g b l hb hl) ?_
    simp [h0]
  · simp at h0
    simp (disch := omega) [wrap_id]
    refine callW_pure rfl (refList_ok f h b m hb hm) ?_
    simp [h0]

/-- Whether a stroke and its stroke back can be brought beside each other: how far from i on the strokes can be exchanged with that at i. -/
theorem int_neg_ok (n : Int) (h : -1000000 ≤ n ∧ n ≤ 1000000) : IntKind.i64.wrap (0 - n) = -n := by rw [wrap_id (by omega)]; omega

theorem without_ok (f : Bool) (l : List Int) (hl : l.length ≤ 1000000) (i : Nat) (hi : i < l.length) : PureOK Try.prog 74 [Ls f l, I i] (Ls false (l.eraseIdx i)) := by
  refine pure_of (walk Try.func74 form74 res74 (by show 2 ≤ _; decide) ?_)
  simp (disch := omega) [G74, wrap_id]
  refine bsl_of rfl rfl ?_
  simp (disch := omega) [wrap_id, zrep, ← List.map_take, ← List.map_drop, ← List.map_append]
  refine ⟨by omega, ⟨by omega, by omega⟩, by omega, ⟨by omega, by omega⟩, ?_⟩
  have e : List.take i (List.take i l) ++ List.take (l.length - (i + 1)) (List.drop (i + 1) l) = l.eraseIdx i := by
    rw [List.eraseIdx_eq_take_drop_succ, List.take_take, Nat.min_self, List.take_of_length_le (l := List.drop (i + 1) l) (by simp)]
  rw [e]
  exact out_ls (by simp) (by rw [List.length_eraseIdx]; simp [hi]; omega)

end Go.AM

/- CONTRACTS, PART 5: strokes that undo one another. Own work. -/
set_option linter.unusedSimpArgs false
set_option linter.unusedVariables false
namespace Go.AM
open Go.RowKit Go.Proofs

/-- How far on the stroke back of s stands, if it can be brought to s. -/
def reach (b : Bch) (s : Int) : List Int → Option Nat
  | [] => none
  | x :: r => if x = -s then some 0 else if canB b s x = true then (reach b s r).map (· + 1) else none

/-- The first pair that can be undone. -/
def undo (b : Bch) : List Int → Option (Nat × Nat)
  | [] => none
  | s :: r => match reach b s r with
    | some k => some (0, k + 1)
    | none => (undo b r).map fun p => (p.1 + 1, p.2 + 1)

def uI : Option (Nat × Nat) → Int
  | some p => p.1
  | none => -1
def uK : Option (Nat × Nat) → Int
  | some p => p.2
  | none => -1
abbrev undoAV (o : Option (Nat × Nat)) : AV := .tup [I (uI o), I (uK o)]

/-- All numbers small. -/
def Small (l : List Int) : Prop := ∀ x ∈ l, -1000000 ≤ x ∧ x ≤ 1000000

theorem Small.at {l : List Int} (h : Small l) {i : Nat} (hi : i < l.length) : -1000000 ≤ l[i] ∧ l[i] ≤ 1000000 := h _ (List.getElem_mem hi)

theorem undone_ok (f g : Bool) (b : Bch) (l : List Int) (hb : b.c.length ≤ 1000000) (hl : l.length ≤ 1000000) (hs : Small l) : PureOK Try.prog 101 [Bn f b, Ls g l] (undoAV (undo b l)) := by
  refine pure_of (walk Try.func101 form101 res101 (by show 2 ≤ _; decide) ?_)
  simp (disch := omega) [G101, wrap_id]
  refine loop_eq (fun i : Nat => ⟨[(1, Ls g l), (2, .ref 0 0), (6, I i)], [.cells [I b.L, Ps f b.c]]⟩) (fun i => i ≤ l.length ∧ undo b l = (undo b (l.drop i)).map fun p => (p.1 + i, p.2 + i)) (fun i => l.length - i) 0 ⟨by omega, by simp⟩ rfl ?_
  intro i ⟨hi1, hi2⟩
  simp (disch := omega) [wrap_id]
  refine c_split (fun h => ?_) (fun h => ?_)
  · simp at h
    have hsi := hs.at h
    simp (disch := omega) [wrap_id]
    refine loop_eq (fun k : Nat => ⟨[(1, Ls g l), (2, .ref 0 0), (6, I i), (7, I k)], [.cells [I b.L, Ps f b.c]]⟩) (fun k => i + 1 ≤ k ∧ k ≤ l.length ∧ reach b l[i] (l.drop (i + 1)) = (reach b l[i] (l.drop k)).map (· + (k - (i + 1)))) (fun k => l.length - k) (i + 1) ⟨by omega, by omega, by simp⟩ (by simp) ?_
    intro k ⟨hk1, hk2, hk3⟩
    simp (disch := omega) [wrap_id]
    have fail : reach b l[i] (l.drop k) = none → undo b l = (undo b (l.drop (i + 1))).map fun p => (p.1 + (i + 1), p.2 + (i + 1)) := fun hn => by
      rw [hi2, List.drop_eq_getElem_cons h]
      simp only [undo, hk3, hn, Option.map_none]
      rw [Option.map_map]
      congr 1
      funext p
      simp only [Function.comp]
      congr 1 <;> omega
    by_cases hk : k < l.length
    · have hsk := hs.at hk
      by_cases hx : l[k] = -l[i]
      · simp (disch := omega) [wrap_id, cells_ls, h, hk, hx]
        have e : undo b l = some (i, k) := by
          rw [hi2, List.drop_eq_getElem_cons h]
          simp only [undo, hk3]
          rw [List.drop_eq_getElem_cons hk]
          simp only [reach, if_pos hx, Option.map_some]
          have : 0 + (k - (i + 1)) + 1 + i = k := by omega
          rw [this, Nat.zero_add]
        rw [e]
        exact ⟨[], rfl⟩
      · have hx' : (l[k] == -l[i]) = false := by simpa using hx
        simp (disch := omega) [wrap_id, cells_ls, h, hk, hx']
        refine pureW_of rfl (refCan_ok f b hb l[i] l[k] hsi hsk) ?_
        simp (disch := omega) [wrap_id, cells_ls, h, hk, hx']
        cases hc : canB b l[i] l[k] with
        | true =>
          simp (disch := omega) [wrap_id, cells_ls, h, hk, hx']
          refine next_eq (k + 1) ⟨by omega, by omega, ?_⟩ (by omega) (by simp)
          rw [hk3, List.drop_eq_getElem_cons hk]
          simp only [reach]
          rw [if_neg hx, if_pos hc, Option.map_map]
          congr 1
          funext p
          simp only [Function.comp]
          omega
        | false =>
          simp (disch := omega) [wrap_id, cells_ls, h, hk, hx']
          refine next_eq (i + 1) ⟨by omega, fail ?_⟩ (by omega) (by simp)
          rw [List.drop_eq_getElem_cons hk]
          simp only [reach]
          rw [if_neg hx, if_neg (by simp [hc])]
    · simp (disch := omega) [wrap_id, hk]
      refine next_eq (i + 1) ⟨by omega, fail ?_⟩ (by omega) (by simp)
      rw [List.drop_of_length_le (by omega)]
      rfl
  · simp at h
    have e : l.drop i = [] := List.drop_of_length_le h
    rw [hi2, e]
    simp [undo, undoAV]
    exact ⟨[], rfl⟩

end Go.AM

/- CONTRACTS, PART 6: shortest lists, and which stroke comes first. Own work. -/
set_option linter.unusedSimpArgs false
set_option linter.unusedVariables false
namespace Go.AM
open Go.RowKit Go.Proofs

theorem purifyAll2 {hp : Hp} {a x a' y : AV} {i1 i2 : List Nat} (h1 : purify hp a = some (a', i1)) (h2 : purify hp x = some (y, i2)) : purifyAll hp [a, x] = some ([a', y], i1 ++ i2) := by
  simp [purifyAll, h1, h2]

/-- A variable holds a list, by value or as a made one, and not the object 0. -/
def Holds (hp : List HObj) (x : AV) (l : List Int) : Prop := ∃ ids, purify (hpf hp) x = some (Ls false l, ids) ∧ 0 ∉ ids

theorem nthH_gones {hp : List HObj} {ids : List Nat} (h : ∀ i ∈ ids, i < hp.length) (h0 : 0 ∉ ids) : nthH (writeL hp (gones ids)) 0 = nthH hp 0 := by
  have h1 : ∀ p ∈ gones ids, p.1 ≤ hp.length := fun p hp' => by
    simp only [gones, List.mem_map] at hp'
    obtain ⟨i, hi, rfl⟩ := hp'
    exact Nat.le_of_lt (h i hi)
  have h2 := congrFun (hpf_write h1) 0
  rw [write_gones, if_neg h0] at h2
  rw [nthH_eq, nthH_eq]
  exact h2

/-- A shortest list. -/
def redF (b : Bch) : Nat → List Int → List Int
  | 0, l => l
  | n + 1, l => match undo b l with
    | some (i, k) => redF b n ((l.eraseIdx k).eraseIdx i)
    | none => l
def red (b : Bch) (l : List Int) : List Int := redF b l.length l

theorem reach_lt {b : Bch} {s : Int} : ∀ {l : List Int} {k}, reach b s l = some k → k < l.length
  | [], k, h => by cases h
  | x :: r, k, h => by
    simp only [reach] at h
    split at h
    · cases h; simp
    · split at h
      · simp only [Option.map_eq_some_iff] at h
        obtain ⟨j, hj, rfl⟩ := h
        have := reach_lt hj
        simp; omega
      · cases h

theorem undo_lt {b : Bch} : ∀ {l : List Int} {i k}, undo b l = some (i, k) → i < k ∧ k < l.length
  | [], i, k, h => by cases h
  | s :: r, i, k, h => by
    simp only [undo] at h
    split at h
    · rename_i j hj
      cases h
      have := reach_lt hj
      simp; omega
    · simp only [Option.map_eq_some_iff] at h
      obtain ⟨⟨i', k'⟩, h', e⟩ := h
      cases e
      have := undo_lt h'
      simp; omega

theorem redF_more (b : Bch) : ∀ (n m : Nat) (l : List Int), l.length ≤ n → l.length ≤ m → redF b n l = redF b m l
  | 0, m, l, h, _ => by
    have : l = [] := List.eq_nil_of_length_eq_zero (by omega)
    subst this
    cases m <;> rfl
  | n + 1, 0, l, _, h => by
    have : l = [] := List.eq_nil_of_length_eq_zero (by omega)
    subst this; rfl
  | n + 1, m + 1, l, h1, h2 => by
    simp only [redF]
    split
    · rename_i i k hu
      have := undo_lt hu
      refine redF_more b n m _ ?_ ?_
      · rw [List.length_eraseIdx, List.length_eraseIdx]; (repeat' split) <;> omega
      · rw [List.length_eraseIdx, List.length_eraseIdx]; (repeat' split) <;> omega
    · rfl

theorem Small.erase {l : List Int} (h : Small l) (i : Nat) : Small (l.eraseIdx i) := fun x hx => h x (List.mem_of_mem_eraseIdx hx)

theorem reduced_ok (f g : Bool) (b : Bch) (l : List Int) (hb : b.c.length ≤ 1000000) (hl : l.length ≤ 1000000) (hs : Small l) : PureOK Try.prog 77 [Bn f b, Ls g l] (Ls false (red b l)) := by
  refine pure_of (walk Try.func77 form77 res77 (by show 2 ≤ _; decide) ?_)
  simp (disch := omega) [G77, wrap_id]
  refine bsl_of rfl rfl ?_
  simp (disch := omega) [wrap_id, zrep]
  refine ⟨⟨by omega, by omega⟩, ?_⟩
  have hp1 : purify (hpf [.cells [I b.L, Ps f b.c], .cells (l.map fun n => I n)]) (.ms 1 0 l.length 1) = some (Ls false l, [1]) := by
    have e : hpf [.cells [I b.L, Ps f b.c], .cells (l.map fun n => I n)] 1 = some (.cells (l.map fun n => I n)) := rfl
    simp only [purify, purify1, e]
    rw [if_pos ⟨by simp, ls_isPure l⟩]
    simp only [view, List.drop_zero, Nat.mul_one]
    rw [List.take_of_length_le (by simp)]
  refine callW_pure (purifyAll2 rfl hp1) (undone_ok f false b l hb hl hs) ?_
  simp (disch := omega) [wrap_id]
  refine loop_eq (fun p : AV × List HObj × List Int => ⟨[(2, .ref 0 0), (5, p.1), (6, I (uI (undo b p.2.2))), (7, I (uK (undo b p.2.2)))], p.2.1⟩)
    (fun p => nthH p.2.1 0 = some (.cells [I b.L, Ps f b.c]) ∧ Holds p.2.1 p.1 p.2.2 ∧ p.2.2.length ≤ 1000000 ∧ Small p.2.2 ∧ red b l = red b p.2.2) (fun p => p.2.2.length)
    (.ms 1 0 l.length 1, [.cells [I b.L, Ps f b.c], .cells (l.map fun n => I n)], l) ⟨rfl, ⟨[1], hp1, by simp⟩, hl, hs, rfl⟩ rfl ?_
  rintro ⟨x, hp, m⟩ ⟨c1, ⟨ids, c2, c3⟩, c4, c5, c6⟩
  simp only at c1 c2 c3 c4 c5 c6
  have hlt : ∀ i ∈ ids, i < hp.length := fun i hi => by
    obtain ⟨cs, hcs⟩ := purify_ids c2 i hi
    exact hpf_lt hcs
  simp (disch := omega) [wrap_id]
  cases hu : undo b m with
  | none =>
    simp [uI]
    have e : red b m = m := by
      unfold red
      cases hm : m.length with
      | zero => rfl
      | succ n => simp only [redF, hu]
    rw [c6, e]
    exact out_of c2
  | some q =>
    obtain ⟨i, k⟩ := q
    obtain ⟨u1, u2⟩ := undo_lt hu
    simp (disch := omega) [uI, uK, wrap_id]
    refine callW_pure (purifyAll2 c2 rfl) (without_ok false m c4 k u2) ?_
    simp (disch := omega) [wrap_id]
    refine callW_pure rfl (without_ok false (m.eraseIdx k) (by rw [List.length_eraseIdx]; split <;> omega) i (by rw [List.length_eraseIdx]; split <;> omega)) ?_
    have hm1 : ((m.eraseIdx k).eraseIdx i).length + 2 = m.length := by rw [List.length_eraseIdx, List.length_eraseIdx]; (repeat' split) <;> omega
    simp (disch := omega) [wrap_id, nthH_gones hlt c3, c1]
    refine callW_pure rfl (undone_ok f false b ((m.eraseIdx k).eraseIdx i) hb (by omega) ((c5.erase k).erase i)) ?_
    simp (disch := omega) [wrap_id]
    refine next_eq (Ls false ((m.eraseIdx k).eraseIdx i), writeL hp (gones ids), (m.eraseIdx k).eraseIdx i) ⟨by rw [nthH_gones hlt c3]; exact c1, ⟨[], rfl, by simp⟩, by simp only; omega, (c5.erase k).erase i, ?_⟩ (by simp only; omega) rfl
    rw [c6]
    unfold red
    have e : m.length = (m.length - 1) + 1 := by omega
    rw [e]
    simp only [redF, hu]
    exact redF_more b _ _ _ (by omega) (by omega)

end Go.AM

/- CONTRACTS, PART 7: the stroke that comes first; short forms. Own work. -/
set_option linter.unusedSimpArgs false
set_option linter.unusedVariables false
namespace Go.AM
open Go.RowKit Go.Proofs

def keyR (n : Int) : Int := if n < 0 then 2 * lineI n + 1 else 2 * lineI n

theorem refKey_ok (n : Int) (h : -1000000 ≤ n ∧ n ≤ 1000000) : PureOK Try.prog 99 [I n] (I (keyR n)) := by
  refine pure_of (walk Try.func99 form99 res99 (by show 1 ≤ _; decide) ?_)
  simp (disch := omega) [G99, wrap_id]
  by_cases h1 : n < 0
  · simp (disch := omega) [wrap_id, h1]
    refine callW_pure rfl (refLine_ok n h) ?_
    simp (disch := omega) [wrap_id, h1, keyR, lineI]
  · simp (disch := omega) [wrap_id, h1]
    refine callW_pure rfl (refLine_ok n h) ?_
    simp (disch := omega) [wrap_id, h1, keyR, lineI]

/-- Whether a stroke of a list can be brought to its front. -/
def freeTo (b : Bch) (l : List Int) (i k : Nat) : Bool := (List.range k).all fun k => canB b (l.getD k 0) (l.getD i 0)
def freeB (b : Bch) (l : List Int) (i : Nat) : Bool := freeTo b l i i
theorem freeTo_zero (b : Bch) (l : List Int) (i : Nat) : freeTo b l i 0 = true := rfl
theorem freeTo_succ {b : Bch} {l : List Int} {i k : Nat} (hi : i < l.length) (hk : k < l.length) : freeTo b l i (k + 1) = (freeTo b l i k && canB b l[k] l[i]) := by
  simp [freeTo, List.range_succ, List.all_append, hi, hk]

def bestStep (b : Bch) (l : List Int) (best : Int) (i : Nat) : Int :=
  if freeB b l i = true ∧ (best < 0 ∨ keyR (l.getD i 0) < keyR (l.getD best.toNat 0)) then i else best

def firstI (b : Bch) (l : List Int) (n : Nat) : Int := (List.range n).foldl (bestStep b l) (-1)

theorem firstI_succ (b : Bch) (l : List Int) (n : Nat) : firstI b l (n + 1) = bestStep b l (firstI b l n) n := by
  simp [firstI, List.range_succ]

theorem firstI_lt (b : Bch) (l : List Int) : ∀ n, -1 ≤ firstI b l n ∧ firstI b l n < n
  | 0 => by simp [firstI]
  | n + 1 => by
    rw [firstI_succ]
    have := firstI_lt b l n
    unfold bestStep
    split <;> omega

theorem range_all_succ {p : Nat → Bool} (n : Nat) : (List.range (n + 1)).all p = ((List.range n).all p && p n) := by
  simp [List.range_succ, List.all_append]

theorem first_ok (f g : Bool) (b : Bch) (l : List Int) (hb : b.c.length ≤ 1000000) (hl : l.length ≤ 1000000) (hs : Small l) : PureOK Try.prog 78 [Bn f b, Ls g l] (I (firstI b l l.length)) := by
  refine pure_of (walk Try.func78 form78 res78 (by show 2 ≤ _; decide) ?_)
  simp (disch := omega) [G78, wrap_id]
  refine loop_eq (fun i : Nat => ⟨[(1, Ls g l), (2, .ref 0 0), (5, I (firstI b l i)), (6, I i)], [.cells [I b.L, Ps f b.c]]⟩) (fun i => i ≤ l.length) (fun i => l.length - i) 0 (by omega) rfl ?_
  intro i hi
  simp (disch := omega) [wrap_id]
  by_cases h : i < l.length
  · simp (disch := omega) [wrap_id, h]
    refine loop_eq (fun k : Nat => ⟨[(1, Ls g l), (2, .ref 0 0), (5, I (firstI b l i)), (6, I i), (7, B (freeTo b l i k)), (8, I k)], [.cells [I b.L, Ps f b.c]]⟩) (fun k => k ≤ i) (fun k => i - k) 0 (by omega) rfl ?_
    intro k hk
    simp (disch := omega) [wrap_id]
    by_cases hk1 : k < i
    · have hk2 : k < l.length := by omega
      simp (disch := omega) [wrap_id, hk1]
      cases hf : freeTo b l i k with
      | false =>
        simp (disch := omega) [wrap_id]
        exact next_eq (k + 1) (by omega) (by omega) (by simp [freeTo_succ h hk2, hf])
      | true =>
        simp (disch := omega) [wrap_id, cells_ls, h, hk2]
        refine pureW_of rfl (refCan_ok f b hb l[k] l[i] (hs.at hk2) (hs.at h)) ?_
        simp (disch := omega) [wrap_id]
        exact next_eq (k + 1) (by omega) (by omega) (by simp [freeTo_succ h hk2, hf])
    · have hki : k = i := by omega
      subst hki
      simp (disch := omega) [wrap_id]
      have hb1 := firstI_lt b l k
      have hstep : firstI b l (k + 1) = bestStep b l (firstI b l k) k := firstI_succ b l k
      have hsk := hs.at h
      cases hf : freeTo b l k k with
      | false =>
        simp (disch := omega) [wrap_id]
        exact next_eq (k + 1) (by omega) (by omega) (by simp [hstep, bestStep, freeB, hf])
      | true =>
        by_cases hn : firstI b l k < 0
        · simp (disch := omega) [wrap_id, hn]
          exact next_eq (k + 1) (by omega) (by omega) (by simp [hstep, bestStep, freeB, hf, hn])
        · have hj : (firstI b l k).toNat < l.length := by omega
          have hsj := hs.at hj
          simp (disch := omega) [wrap_id, hn, cells_ls, h, hj]
          refine pureW_of rfl (refKey_ok l[k] hsk) ?_
          simp (disch := omega) [wrap_id, hn, cells_ls, h, hj]
          refine ⟨by omega, ?_⟩
          refine pureW_of rfl (refKey_ok _ hsj) ?_
          simp (disch := omega) [wrap_id]
          refine c_split (fun e => ?_) (fun e => ?_)
          · simp at e
            simp (disch := omega) [wrap_id]
            exact next_eq (k + 1) (by omega) (by omega) (by simp [hstep, bestStep, freeB, hf, hn, h, hj, e])
          · simp at e
            simp (disch := omega) [wrap_id]
            exact next_eq (k + 1) (by omega) (by omega) (by
              have : ¬ keyR l[k] < keyR l[(firstI b l k).toNat] := by omega
              simp [hstep, bestStep, freeB, hf, hn, h, hj, this])
  · have e : i = l.length := by omega
    subst e
    simp

end Go.AM

/- CONTRACTS, PART 8: lists that grow; short forms. Own work. -/
set_option linter.unusedSimpArgs false
set_option linter.unusedVariables false
namespace Go.AM
open Go.RowKit Go.Proofs

/-- A variable holds a list that grows: none yet, or a made one, not at 0. -/
def Acc (hp : List HObj) (x : AV) (acc : List Int) : Prop := (x = .sl true 0 [] ∧ acc = []) ∨ ∃ id, x = .ms id 0 acc.length 1 ∧ 0 < id ∧ acc ≠ [] ∧ nthH hp id = some (.cells (acc.map fun n => I n))

theorem nthH_writeL {hp : List HObj} {ws : List (Nat × HObj)} (h : ∀ p ∈ ws, p.1 ≤ hp.length) (i : Nat) : nthH (writeL hp ws) i = Hp.write (hpf hp) ws i := by
  rw [nthH_eq]; exact congrFun (hpf_write h) i

theorem app_acc {hp : List HObj} {x : AV} {acc : List Int} {v : Int} {K : AV → List (Nat × HObj) → Prop} (hA : Acc hp x acc) (h0 : 0 < hp.length) (hl : acc.length ≤ 1000000)
    (hK : ∀ ws, nthH (writeL hp ws) 0 = nthH hp 0 → 0 < (writeL hp ws).length → Acc (writeL hp ws) (.ms hp.length 0 (acc.length + 1) 1) (acc ++ [v]) → K (.ms hp.length 0 (acc.length + 1) 1) ws) :
    AppW hp 1 8 x (.sl true 1 [I v]) K := by
  have pos : ∀ ws, 0 < (writeL hp ws).length := fun ws => Nat.lt_of_lt_of_le h0 (writeL_len ws hp)
  rcases hA with ⟨rfl, rfl⟩ | ⟨id, rfl, hid, hne, hc⟩
  · rw [app_sl]
    refine ⟨by simp, ?_⟩
    refine hK _ ?_ (pos _) (.inr ⟨hp.length, by simp, h0, by simp, ?_⟩)
    · rw [nthH_writeL (by simp), nthH_eq]
      simp only [Hp.write]
      rw [Hp.set_other _ _ (by omega)]; rfl
    · rw [nthH_writeL (by simp)]
      simp [Hp.write, Hp.set_same]
  · have hlt : id < hp.length := by rw [nthH_eq] at hc; exact hpf_lt hc
    rw [app_ms, hc, appr_some]
    refine ⟨by simp; omega, ?_⟩
    refine hK _ ?_ (pos _) (.inr ⟨hp.length, by simp, h0, by simp, ?_⟩)
    · rw [nthH_writeL (by simp; omega), nthH_eq]
      simp only [Hp.write]
      rw [Hp.set_other _ _ (by omega), Hp.set_other _ _ (by omega)]; rfl
    · rw [nthH_writeL (by simp; omega)]
      simp [Hp.write, Hp.set_same]
      rw [List.take_of_length_le (by simp)]

/-- Nothing said of spare room. -/
def weak1 : AV → AV
  | .sl _ n cs => .sl false n cs
  | x => x
def weak : AV → AV
  | .tup vs => .tup (vs.map weak1)
  | .agg vs => .agg (vs.map weak1)
  | x => weak1 x

theorem weak1_rep {w g p x v} (h : Rep w g p x v) : Rep w g p (weak1 x) v := by
  cases x with
  | sl f n cs =>
    cases h with
    | sl _ _ _ _ a cap vs hn hf hc hr => exact .sl _ false n cs a cap vs hn (fun e => by cases e) hc hr
  | _ => exact h

theorem weak_rep {w g p x v} (h : Rep w g p x v) : Rep w g p (weak x) v := by
  cases x with
  | tup us =>
    cases h with
    | tup _ _ vs hl hr => exact .tup _ _ vs (by simp [hl]) (fun i hi => by simpa using weak1_rep (hr i (by simpa using hi)))
  | agg us =>
    cases h with
    | agg _ _ vs hl hr => exact .agg _ _ vs (by simp [hl]) (fun i hi => by simpa using weak1_rep (hr i (by simpa using hi)))
  | _ => exact weak1_rep h

theorem pure_weak {P : Program} {f : FuncId} {xs : List AV} {r : AV} (h : PureOK P f xs r) : PureOK P f xs (weak r) := fun ro n w g vs h1 h2 h3 =>
  (h ro n w g vs h1 h2 h3).mono fun e w' ⟨v, g', e1, e2, e3⟩ => ⟨v, g', e1, weak_rep e2, e3⟩

/-- Taking out the first ones, again and again. -/
def formF (b : Bch) : Nat → List Int → List Int
  | 0, _ => []
  | n + 1, l => match l with
    | [] => []
    | x :: r => (x :: r).getD (firstI b (x :: r) (r.length + 1)).toNat 0 :: formF b n ((x :: r).eraseIdx (firstI b (x :: r) (r.length + 1)).toNat)
def form (b : Bch) (l : List Int) : List Int := formF b (red b l).length (red b l)

end Go.AM

/- CONTRACTS, PART 9: the short form as the specification makes it. Own work. -/
set_option linter.unusedSimpArgs false
set_option linter.unusedVariables false
namespace Go.AM
open Go.RowKit Go.Proofs

theorem redF_len (b : Bch) : ∀ (n : Nat) (l : List Int), (redF b n l).length ≤ l.length
  | 0, l => Nat.le_refl _
  | n + 1, l => by
    simp only [redF]
    split
    · refine Nat.le_trans (redF_len b n _) ?_
      rw [List.length_eraseIdx, List.length_eraseIdx]; (repeat' split) <;> omega
    · exact Nat.le_refl _

theorem redF_small (b : Bch) : ∀ (n : Nat) (l : List Int), Small l → Small (redF b n l)
  | 0, l, h => h
  | n + 1, l, h => by
    simp only [redF]
    split
    · exact redF_small b n _ ((h.erase _).erase _)
    · exact h

theorem firstI_pos (b : Bch) (l : List Int) : ∀ n, 0 < n → 0 ≤ firstI b l n
  | 0, h => by omega
  | n + 1, _ => by
    rw [firstI_succ]
    by_cases h : n = 0
    · subst h; simp [bestStep, firstI, freeB, freeTo]
    · have := firstI_pos b l n (by omega)
      unfold bestStep
      split <;> omega

theorem formF_step (b : Bch) (l : List Int) (h : 0 < l.length) : formF b l.length l = l.getD (firstI b l l.length).toNat 0 :: formF b (l.length - 1) (l.eraseIdx (firstI b l l.length).toNat) := by
  cases l with
  | nil => simp at h
  | cons x r => rfl

theorem form_ok (f g : Bool) (b : Bch) (l : List Int) (hb : b.c.length ≤ 1000000) (hl : l.length ≤ 1000) (hs : Small l) : PureOK Try.prog 40 [Bn f b, Ls g l] (Ls (form b l).isEmpty (form b l)) := by
  refine pure_of (walk Try.func40 form40 res40 (by show 2 ≤ _; decide) ?_)
  simp (disch := omega) [G40, wrap_id]
  refine callW_pure rfl (reduced_ok f g b l hb (by omega) hs) ?_
  simp (disch := omega) [wrap_id]
  have hr1 := redF_len b l.length l
  refine loop_eq (fun p : List Int × AV × List HObj × List Int => ⟨[(2, .ref 0 0), (5, Ls false p.1), (6, p.2.1)], p.2.2.1⟩)
    (fun p => nthH p.2.2.1 0 = some (.cells [I b.L, Ps f b.c]) ∧ 0 < p.2.2.1.length ∧ Acc p.2.2.1 p.2.1 p.2.2.2 ∧ p.1.length + p.2.2.2.length ≤ 1000 ∧ Small p.1 ∧ form b l = p.2.2.2 ++ formF b p.1.length p.1) (fun p => p.1.length)
    (red b l, .sl true 0 [], [.cells [I b.L, Ps f b.c]], []) ⟨rfl, by simp, .inl ⟨rfl, rfl⟩, by simp [red]; omega, redF_small b _ _ hs, rfl⟩ rfl ?_
  rintro ⟨m, x, hp, acc⟩ ⟨c1, c2, c3, c4, c5, c6⟩
  simp only at c1 c2 c3 c4 c5 c6
  simp (disch := omega) [wrap_id]
  refine c_split (fun h => ?_) (fun h => ?_)
  · simp at h
    have hj1 := firstI_lt b m m.length
    have hj2 := firstI_pos b m m.length h
    obtain ⟨j, hj⟩ : ∃ j : Nat, firstI b m m.length = j := ⟨(firstI b m m.length).toNat, by omega⟩
    have hjl : j < m.length := by omega
    simp (disch := omega) [wrap_id, c1]
    refine callW_pure rfl (first_ok f false b m hb (by omega) c5) ?_
    rw [hj]
    simp (disch := omega) [wrap_id, cells_ls, hjl]
    refine bsl_of rfl rfl ?_
    simp (disch := omega) [wrap_id, zrep]
    refine app_acc c3 c2 (by omega) fun ws h0 hp' hA => ?_
    simp (disch := omega) [wrap_id]
    refine callW_pure rfl (without_ok false m (by omega) j hjl) ?_
    simp (disch := omega) [wrap_id]
    have hm1 : (m.eraseIdx j).length = m.length - 1 := by rw [List.length_eraseIdx, if_pos hjl]
    refine next_eq (m.eraseIdx j, .ms hp.length 0 (acc.length + 1) 1, writeL hp ws, acc ++ [m[j]]) ⟨by rw [h0]; exact c1, hp', hA, by simp only [List.length_append, List.length_singleton]; omega, c5.erase j, ?_⟩ (by simp only; omega) rfl
    simp only
    rw [c6, formF_step b m h, hj, hm1]
    simp [hjl]
  · simp at h
    subst h
    simp
    have e : form b l = acc := by rw [c6]; simp [formF]
    rw [e]
    rcases c3 with ⟨rfl, rfl⟩ | ⟨id, rfl, hid, hne, hc⟩
    · exact ⟨[], rfl⟩
    · have e2 : acc.isEmpty = false := by simpa using hne
      rw [e2]
      exact out_ls hc rfl

end Go.AM

/- CONTRACTS, PART 10: what the specification answers. Own work. -/
set_option linter.unusedSimpArgs false
set_option linter.unusedVariables false
namespace Go.AM
open Go.RowKit Go.Proofs

theorem chkL_zero {b : Bch} {l : List Int} (h : chkL b l = 0) : chkB b = 0 ∧ l.length ≤ 60 ∧ ∀ x ∈ l, strokeB b x = true := by
  simp only [chkL] at h
  split at h
  · rename_i h1; exact absurd h h1
  · rename_i h1
    split at h
    · omega
    · split at h
      · rename_i h2 h3; exact ⟨by simpa using h1, by omega, List.all_eq_true.1 h3⟩
      · omega

theorem strokeB_abs {b : Bch} (hb : chkB b = 0) {x : Int} (h : strokeB b x = true) : -8 ≤ x ∧ x ≤ 8 ∧ x ≠ 0 := by
  obtain ⟨k1, k2, _⟩ := chkB_zero hb
  simp [strokeB] at h
  omega

theorem chkL_small {b : Bch} {l : List Int} (h : chkL b l = 0) : Small l := fun x hx => by
  obtain ⟨h1, _, h3⟩ := chkL_zero h
  have := strokeB_abs h1 (h3 x hx)
  omega

def shortR (b : Bch) (l : List Int) : List Int := if chkL b l ≠ 0 then [] else form b l

theorem refShort_ok (f g : Bool) (b : Bch) (l : List Int) (hb : b.c.length ≤ 1000000) (hl : l.length ≤ 1000000) : PureOK Try.prog 25 [Bn f b, Ls g l] (.tup [Ls (shortR b l).isEmpty (shortR b l), I (chkL b l)]) := by
  refine pure_of (walk Try.func25 form25 res25 (by show 2 ≤ _; decide) ?_)
  simp (disch := omega) [G25, wrap_id]
  refine callW_pure rfl (refList_ok f g b l hb hl) ?_
  simp (disch := omega) [wrap_id]
  refine c_split (fun h0 => ?_) (fun h0 => ?_)
  · simp at h0
    simp (disch := omega) [wrap_id]
    refine callW_pure rfl (refList_ok f g b l hb hl) ?_
    simp [shortR, h0]
    exact ⟨[], rfl⟩
  · simp at h0
    simp (disch := omega) [wrap_id]
    obtain ⟨k1, k2, k3⟩ := chkL_zero h0
    refine callW_pure rfl (form_ok f g b l hb (by omega) (chkL_small h0)) ?_
    simp [shortR, h0]
    exact ⟨[], rfl⟩

def twoR (b : Bch) (l m : List Int) : Int := if chkL b l ≠ 0 then chkL b l else chkL b m
def sameR (b : Bch) (l m : List Int) : Int := if twoR b l m ≠ 0 then twoR b l m else if form b l = form b m then 0 else 18

theorem twoR_zero {b : Bch} {l m : List Int} (h : twoR b l m = 0) : chkL b l = 0 ∧ chkL b m = 0 := by
  simp only [twoR] at h
  split at h
  · rename_i h1; exact absurd h h1
  · rename_i h1; exact ⟨by simpa using h1, h⟩

theorem form_len (b : Bch) (l : List Int) : (form b l).length ≤ l.length := by
  have : ∀ (n : Nat) (l : List Int), (formF b n l).length ≤ n := fun n => by
    induction n with
    | zero => intro l; simp [formF]
    | succ n ih =>
      intro l
      cases l with
      | nil => simp [formF]
      | cons x r => simp only [formF, List.length_cons]; have := ih ((x :: r).eraseIdx (firstI b (x :: r) (r.length + 1)).toNat); omega
  exact Nat.le_trans (this _ _) (redF_len b _ _)

theorem refSame_ok (f g h : Bool) (b : Bch) (l m : List Int) (hb : b.c.length ≤ 1000000) (hl : l.length ≤ 1000000) (hm : m.length ≤ 1000000) : PureOK Try.prog 28 [Bn f b, Ls g l, Ls h m] (I (sameR b l m)) := by
  refine pure_of (walk Try.func28 form28 res28 (by show 3 ≤ _; decide) ?_)
  simp (disch := omega) [G28, wrap_id]
  refine callW_pure rfl (two_ok f g h b l m hb hl hm) ?_
  rw [show (if chkL b l ≠ 0 then chkL b l else chkL b m) = twoR b l m from rfl]
  simp (disch := omega) [wrap_id]
  refine c_split (fun h0 => ?_) (fun h0 => ?_)
  · simp at h0
    simp (disch := omega) [wrap_id]
    refine callW_pure rfl (two_ok f g h b l m hb hl hm) ?_
    rw [show (if chkL b l ≠ 0 then chkL b l else chkL b m) = twoR b l m from rfl]
    simp [sameR, h0]
  · simp at h0
    obtain ⟨z1, z2⟩ := twoR_zero h0
    obtain ⟨_, a2, _⟩ := chkL_zero z1
    obtain ⟨_, b2, _⟩ := chkL_zero z2
    have f1 := form_len b l
    have f2 := form_len b m
    simp (disch := omega) [wrap_id]
    refine pureW_of rfl (form_ok f g b l hb (by omega) (chkL_small z1)) ?_
    simp (disch := omega) [wrap_id]
    refine pureW_of rfl (form_ok f h b m hb (by omega) (chkL_small z2)) ?_
    simp (disch := omega) [wrap_id]
    refine pureW_of rfl (equal_ok _ _ (form b l) (form b m) (by omega) (by omega)) ?_
    simp (disch := omega) [wrap_id]
    refine c_split (fun e => ?_) (fun e => ?_)
    · simp at e
      simp (disch := omega) [wrap_id, sameR, h0, e]
    · simp at e
      simp (disch := omega) [wrap_id, sameR, h0, e]

end Go.AM

/- CONTRACTS, PART 11: which strokes can be first. Own work. -/
set_option linter.unusedSimpArgs false
set_option linter.unusedVariables false
namespace Go.AM
open Go.RowKit Go.Proofs

/-- A stroke brought from behind to its place in the order. -/
def insK (v : Int) (l : List Int) : Nat → List Int
  | 0 => v :: l
  | k + 1 => if keyR v < keyR (l.getD k 0) then insK v l k else l.take (k + 1) ++ v :: l.drop (k + 1)
def insR (l : List Int) (v : Int) : List Int := insK v l l.length

def firstsTo (b : Bch) (l : List Int) : Nat → List Int
  | 0 => []
  | i + 1 => if freeB b l i = true then insR (firstsTo b l i) (l.getD i 0) else firstsTo b l i
def firstsR (b : Bch) (l : List Int) : List Int := firstsTo b l l.length

theorem splice_ls {l : List Int} {k : Nat} {v : Int} (h : k < l.length) : splice (l.map fun n => I n) k [I v] = (l.set k v).map fun n => I n := by
  simp only [splice, List.length_singleton]
  rw [List.set_eq_take_append_cons_drop, if_pos h]
  simp [List.map_take, List.map_drop]

theorem insK_len (v : Int) (l : List Int) : ∀ k, k ≤ l.length → (insK v l k).length = l.length + 1
  | 0, _ => by simp [insK]
  | k + 1, h => by
    simp only [insK]
    split
    · exact insK_len v l k (by omega)
    · simp; omega

theorem nthH_set_same {hp : List HObj} {id : Nat} {o : HObj} (h : id < hp.length) : nthH (hp.set id o) id = some o := by
  rw [nthH_eq, List.getElem?_set_self h]
theorem nthH_set_ne {hp : List HObj} {id j : Nat} {o : HObj} (h : id ≠ j) : nthH (hp.set id o) j = nthH hp j := by
  rw [nthH_eq, nthH_eq, List.getElem?_set_ne h]

/-- One step of a stroke towards the front, in the cells. -/
theorem ins_swap {l : List Int} {v : Int} {k : Nat} (h : k < l.length) :
    ((l.take (k + 1) ++ v :: l.drop (k + 1)).set (k + 1) (l.getD k 0)).set k v = l.take k ++ v :: l.drop k := by
  apply List.ext_getElem
  · simp; omega
  · intro i h1 h2
    simp only [List.length_set, List.length_append, List.length_take, List.length_cons, List.length_drop] at h1
    by_cases e1 : i = k
    · subst e1
      rw [List.getElem_set_self, List.getElem_append_right (by simp; omega)]
      simp [Nat.min_eq_left (Nat.le_of_lt h)]
    · rw [List.getElem_set_ne (fun e => e1 e.symm)]
      by_cases e2 : i = k + 1
      · subst e2
        rw [List.getElem_set_self, List.getElem_append_right (by simp; omega)]
        have : k + 1 - (l.take k).length = 1 := by simp; omega
        simp only [this]
        simp [h]
      · rw [List.getElem_set_ne (fun e => e2 e.symm)]
        by_cases e3 : i < k
        · rw [List.getElem_append_left (by simp; omega), List.getElem_append_left (by simp; omega)]
          simp
        · rw [List.getElem_append_right (by simp; omega), List.getElem_append_right (by simp; omega)]
          obtain ⟨d, rfl⟩ : ∃ d, i = k + 2 + d := ⟨i - (k + 2), by omega⟩
          have a1 : k + 2 + d - (l.take (k + 1)).length = d + 1 := by simp; omega
          have a2 : k + 2 + d - (l.take k).length = d + 1 + 1 := by simp; omega
          simp only [a1, a2, List.getElem_cons_succ, List.getElem_drop]
          congr 1; omega

end Go.AM

/- CONTRACTS, PART 12: which strokes can be first: the function. Own work. -/
set_option linter.unusedSimpArgs false
set_option linter.unusedVariables false
namespace Go.AM
open Go.RowKit Go.Proofs

theorem firstsTo_len (b : Bch) (l : List Int) : ∀ i, (firstsTo b l i).length ≤ i
  | 0 => by simp [firstsTo]
  | i + 1 => by
    have := firstsTo_len b l i
    simp only [firstsTo]
    split
    · rw [insR, insK_len _ _ _ (Nat.le_refl _)]; omega
    · omega

theorem insK_mem {v : Int} {l : List Int} {x : Int} : ∀ k, x ∈ insK v l k → x = v ∨ x ∈ l
  | 0, h => by simpa [insK] using h
  | k + 1, h => by
    simp only [insK] at h
    split at h
    · exact insK_mem k h
    · rcases List.mem_append.1 h with h | h
      · exact .inr (List.mem_of_mem_take h)
      · rcases List.mem_cons.1 h with h | h
        · exact .inl h
        · exact .inr (List.mem_of_mem_drop h)

theorem firstsTo_small {b : Bch} {l : List Int} (hs : Small l) : ∀ i, i ≤ l.length → Small (firstsTo b l i)
  | 0, _ => by intro x hx; simp [firstsTo] at hx
  | i + 1, h => by
    have ih := firstsTo_small (b := b) hs i (by omega)
    simp only [firstsTo]
    split
    · intro x hx
      rcases insK_mem _ hx with e | h'
      · rw [e]
        have hi : i < l.length := by omega
        have : l.getD i 0 = l[i] := by simp [hi]
        rw [this]; exact hs.at hi
      · exact ih x h'
    · exact ih

theorem firsts_ok (f g : Bool) (b : Bch) (l : List Int) (hb : b.c.length ≤ 1000000) (hl : l.length ≤ 1000) (hs : Small l) : PureOK Try.prog 72 [Bn f b, Ls g l] (Ls (firstsR b l).isEmpty (firstsR b l)) := by
  refine pure_of (walk Try.func72 form72 res72 (by show 2 ≤ _; decide) ?_)
  simp (disch := omega) [G72, wrap_id]
  refine loop_eq (fun p : Nat × AV × List HObj => ⟨[(1, Ls g l), (2, .ref 0 0), (5, p.2.1), (6, I p.1)], p.2.2⟩)
    (fun p => p.1 ≤ l.length ∧ nthH p.2.2 0 = some (.cells [I b.L, Ps f b.c]) ∧ 0 < p.2.2.length ∧ Acc p.2.2 p.2.1 (firstsTo b l p.1)) (fun p => l.length - p.1)
    (0, .sl true 0 [], [.cells [I b.L, Ps f b.c]]) ⟨by simp, rfl, by simp, .inl ⟨rfl, rfl⟩⟩ rfl ?_
  rintro ⟨i, x, hp⟩ ⟨c0, c1, c2, c3⟩
  simp only at c0 c1 c2 c3
  simp (disch := omega) [wrap_id]
  by_cases h : i < l.length
  · simp (disch := omega) [wrap_id, h]
    refine loop_eq (fun k : Nat => ⟨[(1, Ls g l), (2, .ref 0 0), (5, x), (6, I i), (7, B (freeTo b l i k)), (8, I k)], hp⟩) (fun k => k ≤ i) (fun k => i - k) 0 (by omega) rfl ?_
    intro k hk
    simp (disch := omega) [wrap_id]
    by_cases hk1 : k < i
    · have hk2 : k < l.length := by omega
      simp (disch := omega) [wrap_id, hk1]
      cases hf : freeTo b l i k with
      | false =>
        simp (disch := omega) [wrap_id]
        exact next_eq (k + 1) (by omega) (by omega) (by simp [freeTo_succ h hk2, hf])
      | true =>
        simp (disch := omega) [wrap_id, cells_ls, h, hk2, c1]
        refine pureW_of rfl (refCan_ok f b hb l[k] l[i] (hs.at hk2) (hs.at h)) ?_
        simp (disch := omega) [wrap_id]
        exact next_eq (k + 1) (by omega) (by omega) (by simp [freeTo_succ h hk2, hf])
    · have hki : k = i := by omega
      subst hki
      simp (disch := omega) [wrap_id]
      have hlen := firstsTo_len b l k
      cases hf : freeTo b l k k with
      | false =>
        simp (disch := omega) [wrap_id]
        have e : firstsTo b l (k + 1) = firstsTo b l k := by simp [firstsTo, freeB, hf]
        exact next_eq (k + 1, x, hp) ⟨by simp only; omega, c1, c2, by simp only [e]; exact c3⟩ (by simp only; omega) (by simp)
      | true =>
        simp (disch := omega) [wrap_id, cells_ls, h]
        refine bsl_of rfl rfl ?_
        simp (disch := omega) [wrap_id, zrep]
        refine app_acc c3 c2 (by omega) fun ws h0 hp' hA => ?_
        simp (disch := omega) [wrap_id]
        rcases hA with ⟨e, _⟩ | ⟨id, e, hid, _, hA⟩
        · cases e
        injection e with e1 _ _ _
        subst e1
        have hidl : hp.length < (writeL hp ws).length := by rw [nthH_eq] at hA; exact hpf_lt hA
        generalize hH : writeL hp ws = H at *
        generalize hAcc : firstsTo b l k = acc at *
        generalize hid' : hp.length = id at *
        refine loop_eq (fun p : Nat × List HObj => ⟨[(1, Ls g l), (2, .ref 0 0), (5, .ms id 0 (acc.length + 1) 1), (6, I k), (9, I p.1)], p.2⟩)
          (fun p => p.1 ≤ acc.length ∧ nthH p.2 0 = some (.cells [I b.L, Ps f b.c]) ∧ id < p.2.length ∧ nthH p.2 id = some (.cells ((acc.take p.1 ++ l[k] :: acc.drop p.1).map fun n => I n)) ∧ insK l[k] acc p.1 = insR acc l[k]) (fun p => p.1)
          (acc.length, H) ⟨by simp, by rw [h0]; exact c1, hidl, by simpa using hA, rfl⟩ (by simp) ?_
        rintro ⟨j, H'⟩ ⟨d1, d2, d3, d4, d5⟩
        simp only at d1 d2 d3 d4 d5
        simp (disch := omega) [wrap_id]
        have done : insR acc l[k] = acc.take j ++ l[k] :: acc.drop j → Next (fun p : Nat × AV × List HObj => (⟨[(1, Ls g l), (2, .ref 0 0), (5, p.2.1), (6, I p.1)], p.2.2⟩ : St))
            (fun p => p.1 ≤ l.length ∧ nthH p.2.2 0 = some (.cells [I b.L, Ps f b.c]) ∧ 0 < p.2.2.length ∧ Acc p.2.2 p.2.1 (firstsTo b l p.1)) (fun p => l.length - p.1) (k, x, hp)
            ⟨[(1, Ls g l), (2, .ref 0 0), (5, .ms id 0 (acc.length + 1) 1), (6, I ((k : Int) + 1))], H'⟩ := fun e => by
          have e2 : firstsTo b l (k + 1) = insR acc l[k] := by simp [firstsTo, freeB, hf, hAcc, h]
          have e3 : (insR acc l[k]).length = acc.length + 1 := insK_len _ _ _ (Nat.le_refl _)
          refine next_eq (k + 1, .ms id 0 (acc.length + 1) 1, H') ⟨by simp only; omega, d2, by simp only; omega, .inr ⟨id, by simp only [e2, e3], hid, ?_, ?_⟩⟩ (by simp only; omega) (by simp)
          · simp only [e2]; intro e4; rw [e4] at e3; simp at e3
          · simp only [e2]; rw [e]; exact d4
        cases j with
        | zero =>
          simp (disch := omega) [wrap_id]
          exact done (by rw [← d5]; simp [insK])
        | succ j =>
          obtain ⟨arr, harr⟩ : ∃ arr, arr = acc.take (j + 1) ++ l[k] :: acc.drop (j + 1) := ⟨_, rfl⟩
          rw [← harr] at d4 done
          have ha1 : arr.length = acc.length + 1 := by rw [harr]; simp; omega
          have hj1 : j + 1 < arr.length := by omega
          have hj0 : j < arr.length := by omega
          have ha2 : arr[j + 1] = l[k] := by
            simp only [harr]; rw [List.getElem_append_right (by simp; omega)]
            have : j + 1 - (acc.take (j + 1)).length = 0 := by simp; omega
            simp only [this, List.getElem_cons_zero]
          have ha3 : arr[j] = acc[j] := by
            simp only [harr]; rw [List.getElem_append_left (by simp; omega)]; simp
          simp (disch := omega) [wrap_id, d4, cells_ls, ha1, ha2, ha3, hj1, hj0]
          have hsa : Small acc := by rw [← hAcc]; exact firstsTo_small hs k c0
          have hja : j < acc.length := by omega
          refine ⟨by omega, pureW_of rfl (refKey_ok l[k] (hs.at h)) ?_⟩
          simp (disch := omega) [wrap_id, d4, cells_ls, ha1, ha2, ha3, hj1, hj0]
          refine ⟨by omega, pureW_of rfl (refKey_ok acc[j] (hsa.at hja)) ?_⟩
          simp (disch := omega) [wrap_id]
          refine c_split (fun e => ?_) (fun e => ?_)
          · simp at e
            have sp : ∀ (m : List Int) (q : Nat) (y : Int), q < m.length → List.take q (m.map fun n => I n) ++ I y :: List.drop (q + 1) (m.map fun n => I n) = (m.set q y).map fun n => I n := fun m q y hq => by
              have := splice_ls (v := y) hq
              simpa [splice] using this
            simp (disch := omega) [wrap_id, d4, cells_ls, ha1, ha2, ha3, hj1, hj0, d3, sp, nthH_set_same]
            refine ⟨by omega, ⟨by omega, hja⟩, by omega, by omega, by omega, ?_⟩
            have e1 : acc.getD j 0 = acc[j] := by simp [hja]
            refine next_eq (j, _) ⟨by simp only; omega, ?_, ?_, ?_, ?_⟩ (by simp) (by simp; rfl)
            · simp only; rw [nthH_set_ne (by omega)]; exact d2
            · simp only [List.length_set]; exact d3
            · simp only
              rw [nthH_set_same d3]
              have := ins_swap (v := l[k]) hja
              rw [e1, ← harr] at this
              have mk : (List.map (fun n => I n) arr).set (j + 1) (I acc[j]) = (arr.set (j + 1) acc[j]).map fun n => I n := by rw [List.map_set]
              rw [mk, sp _ j l[k] (by simp; omega), this]
              simp
            · simp only
              rw [← d5]
              simp only [insK]
              rw [e1, if_pos e]
          · simp at e
            simp (disch := omega) [wrap_id]
            refine done ?_
            rw [harr, ← d5]
            simp only [insK]
            have e1 : acc.getD j 0 = acc[j] := by simp [hja]
            rw [e1, if_neg (by omega)]
  · have e : i = l.length := by omega
    subst e
    simp
    rcases c3 with ⟨rfl, e⟩ | ⟨id, rfl, hid, hne, hc⟩
    · rw [firstsR, e]; exact ⟨[], rfl⟩
    · have e2 : (firstsTo b l l.length).isEmpty = false := by simpa using hne
      rw [firstsR, e2]
      exact out_ls hc rfl

end Go.AM

/- ARGUMENTS OF THE STROKE LAYER, read. Own work. -/
set_option linter.unusedSimpArgs false
set_option linter.unusedVariables false
namespace Go.AM
open Go.RowKit Go.Proofs

def In64 (n : Int) : Prop := -9223372036854775808 ≤ n ∧ n ≤ 9223372036854775807
theorem in64_of {n : Int} (h : (Lit.int .i64 n).wf = true) : In64 n := by
  simp [Lit.wf, IntKind.min, IntKind.max, IntKind.signed, IntKind.bits] at h
  exact ⟨by omega, by omega⟩
theorem in8_of {n : Int} (h : (Lit.int .u8 n).wf = true) : 0 ≤ n ∧ n ≤ 255 := by
  simp [Lit.wf, IntKind.min, IntKind.max, IntKind.signed, IntKind.bits] at h
  omega

variable {w : World}

theorem rd3 : Rd Try.prog w 3 fun xs => ∃ n, xs = [I n] ∧ In64 n := rd_mono (rd_int Try.underlying3 (by kernel_rfl)) fun xs ⟨n, h1, h2⟩ => ⟨n, h1, in64_of h2⟩
theorem rd5 : Rd Try.prog w 5 fun xs => ∃ n, xs = [.v (.int .u8 n)] ∧ 0 ≤ n ∧ n ≤ 255 := rd_mono (rd_int Try.underlying5 (by kernel_rfl)) fun xs ⟨n, h1, h2⟩ => ⟨n, h1, in8_of h2⟩

theorem ints_of : ∀ {els : List (List AV)}, (∀ x ∈ els, x.length = 1 ∧ ∃ n, x = [I n] ∧ In64 n) → ∃ l : List Int, l.length = els.length ∧ els.flatten = l.map (fun n => I n) ∧ ∀ n ∈ l, In64 n
  | [], _ => ⟨[], rfl, rfl, fun n h => by simp at h⟩
  | x :: els, h => by
    obtain ⟨l, h1, h2, h3⟩ := ints_of (els := els) (fun y hy => h y (by simp [hy]))
    obtain ⟨_, n, rfl, hn⟩ := h x (by simp)
    exact ⟨n :: l, by simp [h1], by simp [h2], fun m hm => by
      rcases List.mem_cons.1 hm with rfl | hm
      · exact hn
      · exact h3 m hm⟩

theorem rd25 : Rd Try.prog w 25 fun xs => ∃ l : List Int, xs = [Ls false l] ∧ l.length ≤ 9223372036854775807 ∧ ∀ n ∈ l, In64 n :=
  rd_mono (rd_slice Try.underlying25 (by kernel_rfl) (sz := 1) (by kernel_rfl) (by omega) rd3) fun xs ⟨els, h1, h2, h3⟩ => by
    obtain ⟨l, k1, k2, k3⟩ := ints_of h1
    refine ⟨l, ?_, ?_, k3⟩
    · rw [h2, k2, ← k1]
    · rw [k1]; simpa [maxLen] using h3

theorem rd66 : Rd Try.prog w 66 fun xs => ∃ p : Int × Int, xs = [I p.1, I p.2] ∧ In64 p.1 ∧ In64 p.2 :=
  rd_mono (rd_array Try.underlying66 (sz := 1) (by kernel_rfl) (by kernel_rfl) (by omega) rd3) fun xs ⟨els, h0, h1, h2⟩ => by
    match els, h0 with
    | [a, b], _ =>
      obtain ⟨_, m, rfl, hm⟩ := h1 a (by simp)
      obtain ⟨_, n, rfl, hn⟩ := h1 b (by simp)
      exact ⟨(m, n), by simp [h2], hm, hn⟩

theorem pairs_of : ∀ {els : List (List AV)}, (∀ x ∈ els, x.length = 2 ∧ ∃ p : Int × Int, x = [I p.1, I p.2] ∧ In64 p.1 ∧ In64 p.2) → ∃ c : List (Int × Int), c.length = els.length ∧ els.flatten = flat2 c ∧ ∀ p ∈ c, In64 p.1 ∧ In64 p.2
  | [], _ => ⟨[], rfl, rfl, fun n h => by simp at h⟩
  | x :: els, h => by
    obtain ⟨l, h1, h2, h3⟩ := pairs_of (els := els) (fun y hy => h y (by simp [hy]))
    obtain ⟨_, n, rfl, hn⟩ := h x (by simp)
    exact ⟨n :: l, by simp [h1], by rw [List.flatten_cons, h2]; rfl, fun m hm => by
      rcases List.mem_cons.1 hm with rfl | hm
      · exact hn
      · exact h3 m hm⟩

theorem rd22 : Rd Try.prog w 22 fun xs => ∃ c : List (Int × Int), xs = [Ps false c] ∧ c.length ≤ 9223372036854775807 ∧ ∀ p ∈ c, In64 p.1 ∧ In64 p.2 :=
  rd_mono (rd_slice Try.underlying22 (by kernel_rfl) (sz := 2) (by kernel_rfl) (by omega) rd66) fun xs ⟨els, h1, h2, h3⟩ => by
    obtain ⟨l, k1, k2, k3⟩ := pairs_of h1
    refine ⟨l, ?_, ?_, k3⟩
    · rw [h2, k2, ← k1]
    · rw [k1]; simpa [maxLen] using h3

/-- A bench as it came in. -/
structure BOK (b : Bch) : Prop where
  L : In64 b.L
  len : b.c.length ≤ 9223372036854775807
  c : ∀ p ∈ b.c, In64 p.1 ∧ In64 p.2

theorem rd24 : Rd Try.prog w 24 fun xs => ∃ b : Bch, xs = [I b.L, Ps false b.c] ∧ BOK b :=
  rd_mono (rd_struct2 Try.underlying24 (c0 := 1) (c1 := 1) (by kernel_rfl) rfl rfl (by kernel_rfl) (by kernel_rfl) rd3 rd22) fun xs ⟨a0, a1, _, _, h, ⟨n, h1, h2⟩, ⟨c, h3, h4, h5⟩⟩ => ⟨⟨n, c⟩, by rw [h, h1, h3]; rfl, h2, h4, h5⟩

/-- A list as it came in. -/
def LOK (l : List Int) : Prop := l.length ≤ 9223372036854775807 ∧ ∀ n ∈ l, In64 n

/-- Moves, laid flat. -/
abbrev Mv := Int × Int × Int
def flat3 (c : List Mv) : List AV := c.flatMap fun p => [I p.1, I p.2.1, I p.2.2]
abbrev Ms (f : Bool) (c : List Mv) : AV := .sl f c.length (flat3 c)
def MOK (c : List Mv) : Prop := c.length ≤ 9223372036854775807 ∧ ∀ p ∈ c, In64 p.1 ∧ In64 p.2.1 ∧ In64 p.2.2

theorem rd70 : Rd Try.prog w 70 fun xs => ∃ p : Mv, xs = [I p.1, I p.2.1, I p.2.2] ∧ In64 p.1 ∧ In64 p.2.1 ∧ In64 p.2.2 :=
  rd_mono (rd_struct3 Try.underlying70 (c0 := 1) (c1 := 1) (c2 := 1) (by kernel_rfl) rfl rfl rfl (by kernel_rfl) (by kernel_rfl) (by kernel_rfl) rd3 rd3 rd3) fun xs ⟨a0, a1, a2, _, _, _, h, ⟨n, h1, h2⟩, ⟨m, h3, h4⟩, ⟨k, h5, h6⟩⟩ => ⟨(n, m, k), by rw [h, h1, h3, h5]; rfl, h2, h4, h6⟩

theorem moves_of : ∀ {els : List (List AV)}, (∀ x ∈ els, x.length = 3 ∧ ∃ p : Mv, x = [I p.1, I p.2.1, I p.2.2] ∧ In64 p.1 ∧ In64 p.2.1 ∧ In64 p.2.2) → ∃ c : List Mv, c.length = els.length ∧ els.flatten = flat3 c ∧ ∀ p ∈ c, In64 p.1 ∧ In64 p.2.1 ∧ In64 p.2.2
  | [], _ => ⟨[], rfl, rfl, fun n h => by simp at h⟩
  | x :: els, h => by
    obtain ⟨l, h1, h2, h3⟩ := moves_of (els := els) (fun y hy => h y (by simp [hy]))
    obtain ⟨_, n, rfl, hn⟩ := h x (by simp)
    exact ⟨n :: l, by simp [h1], by rw [List.flatten_cons, h2]; rfl, fun m hm => by
      rcases List.mem_cons.1 hm with rfl | hm
      · exact hn
      · exact h3 m hm⟩

theorem rd37 : Rd Try.prog w 37 fun xs => ∃ c : List Mv, xs = [Ms false c] ∧ MOK c :=
  rd_mono (rd_slice Try.underlying37 (by kernel_rfl) (sz := 3) (by kernel_rfl) (by omega) rd70) fun xs ⟨els, h1, h2, h3⟩ => by
    obtain ⟨l, k1, k2, k3⟩ := moves_of h1
    refine ⟨l, ?_, ?_, k3⟩
    · rw [h2, k2, ← k1]
    · rw [k1]; simpa [maxLen] using h3

/-- Numbers of one byte. -/
abbrev U (n : Int) : AV := .v (.int .u8 n)
abbrev Us (f : Bool) (l : List Int) : AV := .sl f l.length (l.map fun n => U n)
def UOK (l : List Int) : Prop := l.length ≤ 9223372036854775807 ∧ ∀ n ∈ l, 0 ≤ n ∧ n ≤ 255

theorem bytes_of : ∀ {els : List (List AV)}, (∀ x ∈ els, x.length = 1 ∧ ∃ n, x = [U n] ∧ 0 ≤ n ∧ n ≤ 255) → ∃ l : List Int, l.length = els.length ∧ els.flatten = l.map (fun n => U n) ∧ ∀ n ∈ l, 0 ≤ n ∧ n ≤ 255
  | [], _ => ⟨[], rfl, rfl, fun n h => by simp at h⟩
  | x :: els, h => by
    obtain ⟨l, h1, h2, h3⟩ := bytes_of (els := els) (fun y hy => h y (by simp [hy]))
    obtain ⟨_, n, rfl, hn⟩ := h x (by simp)
    exact ⟨n :: l, by simp [h1], by simp [h2], fun m hm => by
      rcases List.mem_cons.1 hm with rfl | hm
      · exact hn
      · exact h3 m hm⟩

theorem rd52 : Rd Try.prog w 52 fun xs => ∃ l : List Int, xs = [Us false l] ∧ UOK l :=
  rd_mono (rd_slice Try.underlying52 (by kernel_rfl) (sz := 1) (by kernel_rfl) (by omega) rd5) fun xs ⟨els, h1, h2, h3⟩ => by
    obtain ⟨l, k1, k2, k3⟩ := bytes_of h1
    refine ⟨l, ?_, ?_, k3⟩
    · rw [h2, k2, ← k1]
    · rw [k1]; simpa [maxLen] using h3

theorem rd65 : Rd Try.prog w 65 fun xs => ∃ m n : Int, xs = [U m, U n] ∧ (0 ≤ m ∧ m ≤ 255) ∧ 0 ≤ n ∧ n ≤ 255 :=
  rd_mono (rd_array Try.underlying65 (sz := 1) (by kernel_rfl) (by kernel_rfl) (by omega) rd5) fun xs ⟨els, h0, h1, h2⟩ => by
    match els, h0 with
    | [a, b], _ =>
      obtain ⟨_, m, rfl, hm⟩ := h1 a (by simp)
      obtain ⟨_, n, rfl, hn⟩ := h1 b (by simp)
      exact ⟨m, n, by simp [h2], hm, hn⟩

end Go.AM

/- THE COMPILED FORMS of functions of the program, each held against its body by the kernel. Own work (printed by a program of this claim). -/
set_option maxRecDepth 100000
namespace Go.AM
open Go.RowKit Go.Proofs

/-- oxgall/oxgalllaw02.StrokeBenches -/
def G3 : AC := (.seq (.rgn [⟨none, [(.box 2 2 (.t 0)), (.mv 4 (.k (B false)))]⟩] [1, 2]) (.seq (.seq (.rgn [⟨none, [(.ld 5 true 2 (.t 2)), (.call 6 18 [(.t 5)]), (.mv 7 (.t 6))]⟩, ⟨(some (7, false)), [(.mv 8 (.t 1)), (.len 9 (.t 8)), (.bin 10 .gtr (.t 9) (.k (I 70)))]⟩, ⟨none, [(.pick 11 (.t 7) (.k (B true)) (.t 10))]⟩] [1, 2, 11]) (.cond (.t 11) (.seq (.rgn [⟨none, [(.call 12 19 []), (.mv 4 (.t 12))]⟩] [4]) .ret) .skip)) (.seq (.drw [⟨none, [(.ld 13 true 2 (.t 2)), (.call 14 20 [(.t 13)]), (.ld 15 true 2 (.t 2)), (.call 16 21 [(.t 15)]), (.bin 17 .eql (.t 14) (.t 16)), (.mv 18 (.t 17))]⟩, ⟨(some (18, true)), [(.ld 19 true 2 (.t 2)), (.mv 20 (.t 1)), (.call 21 22 [(.t 19), (.t 20)]), (.ld 22 true 2 (.t 2)), (.mv 23 (.t 1)), (.call 24 23 [(.t 22), (.t 23)]), (.bin 25 .eql (.t 21) (.t 24))]⟩, ⟨none, [(.pick 26 (.t 18) (.t 25) (.k (B false))), (.mv 27 (.t 26))]⟩, ⟨(some (27, true)), [(.call 28 19 [])]⟩, ⟨none, [(.pick 29 (.t 27) (.t 28) (.k (B false))), (.mv 4 (.t 29))]⟩] [(0, 2), (1, 2), (6, 9), (8, 9)] [4]) .ret)))
theorem form3 : formOf Try.prog Try.f3 [4] = some G3 := by kernel_rfl
theorem res3 : resTmps Try.f3.results.toList = some [4] := by kernel_rfl

/-- oxgall/oxgalllaw02.StrokeShorts -/
def G4 : AC := (.seq (.rgn [⟨none, [(.box 3 2 (.t 0)), (.mv 6 (.k (B false)))]⟩] [1, 2, 3]) (.seq (.seq (.rgn [⟨none, [(.ld 11 true 2 (.t 3)), (.call 12 18 [(.t 11)]), (.mv 13 (.t 12))]⟩, ⟨(some (13, false)), [(.mv 14 (.t 1)), (.len 15 (.t 14)), (.bin 16 .gtr (.t 15) (.k (I 70)))]⟩, ⟨none, [(.pick 17 (.t 13) (.k (B true)) (.t 16)), (.mv 18 (.t 17))]⟩, ⟨(some (18, false)), [(.mv 19 (.t 2)), (.len 20 (.t 19)), (.bin 21 .gtr (.t 20) (.k (I 70)))]⟩, ⟨none, [(.pick 22 (.t 18) (.k (B true)) (.t 21))]⟩] [1, 2, 3, 22]) (.cond (.t 22) (.seq (.rgn [⟨none, [(.call 23 19 []), (.mv 6 (.t 23))]⟩] [6]) .ret) .skip)) (.seq (.rgn [⟨none, [(.ld 25 true 2 (.t 3)), (.mv 26 (.t 1)), (.call 27 24 [(.t 25), (.t 26)]), (.mv 24 (.t 27)), (.ext 28 (.t 24) 0), (.ext 29 (.t 24) 1), (.mv 7 (.t 28)), (.mv 8 (.t 29))]⟩] [1, 2, 3, 7, 8]) (.seq (.rgn [⟨none, [(.ld 31 true 2 (.t 3)), (.mv 32 (.t 1)), (.call 33 25 [(.t 31), (.t 32)]), (.mv 30 (.t 33)), (.ext 34 (.t 30) 0), (.ext 35 (.t 30) 1), (.mv 9 (.t 34)), (.mv 10 (.t 35))]⟩] [1, 2, 3, 7, 8, 9, 10]) (.seq (.drw [⟨none, [(.mv 36 (.t 7)), (.mv 37 (.t 9)), (.call 38 26 [(.t 36), (.t 37)]), (.mv 39 (.t 38))]⟩, ⟨(some (39, true)), [(.mv 40 (.t 8)), (.mv 41 (.t 10)), (.bin 42 .eql (.t 40) (.t 41))]⟩, ⟨none, [(.pick 43 (.t 39) (.t 42) (.k (B false))), (.mv 44 (.t 43))]⟩, ⟨(some (44, true)), [(.ld 45 true 2 (.t 3)), (.mv 46 (.t 1)), (.mv 47 (.t 2)), (.call 48 27 [(.t 45), (.t 46), (.t 47)]), (.ld 49 true 2 (.t 3)), (.mv 50 (.t 1)), (.mv 51 (.t 2)), (.call 52 28 [(.t 49), (.t 50), (.t 51)]), (.bin 53 .eql (.t 48) (.t 52))]⟩, ⟨none, [(.pick 54 (.t 44) (.t 53) (.k (B false))), (.mv 55 (.t 54))]⟩, ⟨(some (55, true)), [(.call 56 19 [])]⟩, ⟨none, [(.pick 57 (.t 55) (.t 56) (.k (B false))), (.mv 6 (.t 57))]⟩] [(9, 13), (12, 13)] [6]) .ret)))))
theorem form4 : formOf Try.prog Try.f4 [6] = some G4 := by kernel_rfl
theorem res4 : resTmps Try.f4.results.toList = some [6] := by kernel_rfl

/-- oxgall/oxgalllaw02.StrokeChains -/
def G5 : AC := (.seq (.rgn [⟨none, [(.box 4 2 (.t 0)), (.mv 8 (.k (B false)))]⟩] [1, 2, 3, 4]) (.seq (.seq (.rgn [⟨none, [(.ld 12 true 2 (.t 4)), (.call 13 18 [(.t 12)]), (.mv 14 (.t 13))]⟩, ⟨(some (14, false)), [(.mv 15 (.t 1)), (.len 16 (.t 15)), (.bin 17 .gtr (.t 16) (.k (I 70)))]⟩, ⟨none, [(.pick 18 (.t 14) (.k (B true)) (.t 17)), (.mv 19 (.t 18))]⟩, ⟨(some (19, false)), [(.mv 20 (.t 2)), (.len 21 (.t 20)), (.bin 22 .gtr (.t 21) (.k (I 70)))]⟩, ⟨none, [(.pick 23 (.t 19) (.k (B true)) (.t 22)), (.mv 24 (.t 23))]⟩, ⟨(some (24, false)), [(.mv 25 (.t 3)), (.len 26 (.t 25)), (.bin 27 .gtr (.t 26) (.k (I 200))), (.mv 28 (.t 27))]⟩, ⟨(some (28, true)), [(.mv 29 (.t 3)), (.len 30 (.t 29)), (.bin 31 .leq (.t 30) (.k (I 8192)))]⟩, ⟨(some (24, false)), [(.pick 32 (.t 28) (.t 31) (.k (B false)))]⟩, ⟨none, [(.pick 33 (.t 24) (.k (B true)) (.t 32)), (.mv 34 (.t 33))]⟩, ⟨(some (34, false)), [(.mv 35 (.t 3)), (.len 36 (.t 35)), (.bin 37 .gtr (.t 36) (.k (I 8200)))]⟩, ⟨none, [(.pick 38 (.t 34) (.k (B true)) (.t 37))]⟩] [1, 2, 3, 4, 38]) (.cond (.t 38) (.seq (.rgn [⟨none, [(.call 39 19 []), (.mv 8 (.t 39))]⟩] [8]) .ret) .skip)) (.seq (.rgn [⟨none, [(.ld 41 true 2 (.t 4)), (.mv 42 (.t 1)), (.mv 43 (.t 2)), (.call 44 29 [(.t 41), (.t 42), (.t 43)]), (.mv 40 (.t 44)), (.ext 45 (.t 40) 0), (.ext 46 (.t 40) 1), (.mv 9 (.t 45)), (.mv 10 (.t 46))]⟩] [1, 2, 3, 4, 9, 10]) (.seq (.rgn [⟨none, [(.ld 47 true 2 (.t 4)), (.mv 48 (.t 1)), (.mv 49 (.t 2)), (.call 50 28 [(.t 47), (.t 48), (.t 49)]), (.mv 11 (.t 50))]⟩] [1, 2, 3, 4, 9, 10, 11]) (.seq (.seq (.drw [⟨none, [(.mv 51 (.t 10)), (.mv 52 (.t 11)), (.bin 53 .neq (.t 51) (.t 52)), (.mv 54 (.t 53))]⟩, ⟨(some (54, false)), [(.ld 55 true 2 (.t 4)), (.mv 56 (.t 1)), (.mv 57 (.t 2)), (.mv 58 (.t 3)), (.call 59 30 [(.t 55), (.t 56), (.t 57), (.t 58)]), (.ld 60 true 2 (.t 4)), (.mv 61 (.t 1)), (.mv 62 (.t 2)), (.mv 63 (.t 3)), (.call 64 31 [(.t 60), (.t 61), (.t 62), (.t 63)]), (.bin 65 .neq (.t 59) (.t 64))]⟩, ⟨none, [(.pick 66 (.t 54) (.k (B true)) (.t 65))]⟩] [(4, 9), (8, 9)] [1, 2, 4, 9, 11, 66]) (.cond (.t 66) (.seq (.rgn [⟨none, [(.mv 8 (.k (B false)))]⟩] [8]) .ret) .skip)) (.seq (.seq (.rgn [⟨none, [(.mv 67 (.t 11)), (.bin 68 .neq (.t 67) (.k (I 0)))]⟩] [1, 2, 4, 9, 68]) (.cond (.t 68) (.seq (.rgn [⟨none, [(.mv 69 (.t 9)), (.len 70 (.t 69)), (.bin 71 .eql (.t 70) (.k (I 0))), (.mv 72 (.t 71))]⟩, ⟨(some (72, true)), [(.call 73 19 [])]⟩, ⟨none, [(.pick 74 (.t 72) (.t 73) (.k (B false))), (.mv 8 (.t 74))]⟩] [8]) .ret) .skip)) (.seq (.rgn [⟨none, [(.ld 75 true 2 (.t 4)), (.mv 76 (.t 1)), (.mv 77 (.t 2)), (.mv 78 (.t 9)), (.call 79 31 [(.t 75), (.t 76), (.t 77), (.t 78)]), (.bin 80 .eql (.t 79) (.k (I 0))), (.mv 81 (.t 80))]⟩, ⟨(some (81, true)), [(.call 82 19 [])]⟩, ⟨none, [(.pick 83 (.t 81) (.t 82) (.k (B false))), (.mv 8 (.t 83))]⟩] [8]) .ret)))))))
theorem form5 : formOf Try.prog Try.f5 [8] = some G5 := by kernel_rfl
theorem res5 : resTmps Try.f5.results.toList = some [8] := by kernel_rfl

/-- oxgall/oxgalllaw02.StrokeRounds -/
def G6 : AC := (.seq (.rgn [⟨none, [(.box 3 2 (.t 0)), (.mv 6 (.k (B false)))]⟩] [1, 2, 3]) (.seq (.seq (.rgn [⟨none, [(.ld 23 true 2 (.t 3)), (.call 24 18 [(.t 23)]), (.mv 25 (.t 24))]⟩, ⟨(some (25, false)), [(.mv 26 (.t 1)), (.len 27 (.t 26)), (.bin 28 .gtr (.t 27) (.k (I 70)))]⟩, ⟨none, [(.pick 29 (.t 25) (.k (B true)) (.t 28)), (.mv 30 (.t 29))]⟩, ⟨(some (30, false)), [(.mv 31 (.t 2)), (.len 32 (.t 31)), (.bin 33 .gtr (.t 32) (.k (I 70)))]⟩, ⟨none, [(.pick 34 (.t 30) (.k (B true)) (.t 33))]⟩] [1, 2, 3, 34]) (.cond (.t 34) (.seq (.rgn [⟨none, [(.call 35 19 []), (.mv 6 (.t 35))]⟩] [6]) .ret) .skip)) (.seq (.rgn [⟨none, [(.ld 37 true 2 (.t 3)), (.mv 38 (.t 1)), (.call 39 32 [(.t 37), (.t 38)]), (.mv 36 (.t 39)), (.ext 40 (.t 36) 0), (.ext 41 (.t 36) 1), (.mv 7 (.t 40)), (.mv 8 (.t 41))]⟩] [1, 2, 3, 7, 8]) (.seq (.rgn [⟨none, [(.ld 43 true 2 (.t 3)), (.mv 44 (.t 1)), (.call 45 33 [(.t 43), (.t 44)]), (.mv 42 (.t 45)), (.ext 46 (.t 42) 0), (.ext 47 (.t 42) 1), (.mv 9 (.t 46)), (.mv 10 (.t 47))]⟩] [1, 2, 3, 7, 8, 9, 10]) (.seq (.rgn [⟨none, [(.ld 49 true 2 (.t 3)), (.mv 50 (.t 1)), (.call 51 34 [(.t 49), (.t 50)]), (.mv 48 (.t 51)), (.ext 52 (.t 48) 0), (.ext 53 (.t 48) 1), (.mv 11 (.t 52)), (.mv 12 (.t 53))]⟩] [1, 2, 3, 7, 8, 9, 10, 11, 12]) (.seq (.rgn [⟨none, [(.ld 55 true 2 (.t 3)), (.mv 56 (.t 1)), (.call 57 35 [(.t 55), (.t 56)]), (.mv 54 (.t 57)), (.ext 58 (.t 54) 0), (.ext 59 (.t 54) 1), (.mv 13 (.t 58)), (.mv 14 (.t 59))]⟩] [1, 2, 3, 7, 8, 9, 10, 11, 12, 13, 14]) (.seq (.rgn [⟨none, [(.ld 61 true 2 (.t 3)), (.mv 62 (.t 1)), (.mv 63 (.t 2)), (.call 64 36 [(.t 61), (.t 62), (.t 63)]), (.mv 60 (.t 64)), (.ext 65 (.t 60) 0), (.ext 66 (.t 60) 1), (.mv 15 (.t 65)), (.mv 16 (.t 66))]⟩] [1, 2, 3, 7, 8, 9, 10, 11, 12, 13, 14, 15, 16]) (.seq (.rgn [⟨none, [(.ld 68 true 2 (.t 3)), (.mv 69 (.t 1)), (.mv 70 (.t 2)), (.call 71 37 [(.t 68), (.t 69), (.t 70)]), (.mv 67 (.t 71)), (.ext 72 (.t 67) 0), (.ext 73 (.t 67) 1), (.mv 17 (.t 72)), (.mv 18 (.t 73))]⟩] [1, 3, 7, 8, 9, 10, 11, 12, 13, 14, 15, 16, 17, 18]) (.seq (.rgn [⟨none, [(.ld 75 true 2 (.t 3)), (.mv 76 (.t 1)), (.call 77 38 [(.t 75), (.t 76)]), (.mv 74 (.t 77)), (.ext 78 (.t 74) 0), (.ext 79 (.t 74) 1), (.mv 19 (.t 78)), (.mv 20 (.t 79))]⟩] [1, 3, 7, 8, 9, 10, 11, 12, 13, 14, 15, 16, 17, 18, 19, 20]) (.seq (.seq (.rgn [⟨none, [(.mv 80 (.t 7)), (.mv 81 (.t 9)), (.call 82 26 [(.t 80), (.t 81)]), (.un 83 .not (.t 82)), (.mv 84 (.t 83))]⟩, ⟨(some (84, false)), [(.mv 85 (.t 8)), (.mv 86 (.t 10)), (.bin 87 .neq (.t 85) (.t 86))]⟩, ⟨none, [(.pick 88 (.t 84) (.k (B true)) (.t 87)), (.mv 89 (.t 88))]⟩, ⟨(some (89, false)), [(.mv 90 (.t 11)), (.mv 91 (.t 13)), (.call 92 39 [(.t 90), (.t 91)]), (.un 93 .not (.t 92))]⟩, ⟨none, [(.pick 94 (.t 89) (.k (B true)) (.t 93)), (.mv 95 (.t 94))]⟩, ⟨(some (95, false)), [(.mv 96 (.t 12)), (.mv 97 (.t 14)), (.bin 98 .neq (.t 96) (.t 97))]⟩, ⟨none, [(.pick 99 (.t 95) (.k (B true)) (.t 98)), (.mv 100 (.t 99))]⟩, ⟨(some (100, false)), [(.mv 101 (.t 15)), (.mv 102 (.t 17)), (.bin 103 .neq (.t 101) (.t 102))]⟩, ⟨none, [(.pick 104 (.t 100) (.k (B true)) (.t 103)), (.mv 105 (.t 104))]⟩, ⟨(some (105, false)), [(.mv 106 (.t 16)), (.mv 107 (.t 18)), (.bin 108 .neq (.t 106) (.t 107))]⟩, ⟨none, [(.pick 109 (.t 105) (.k (B true)) (.t 108)), (.mv 110 (.t 109))]⟩, ⟨(some (110, false)), [(.mv 111 (.t 20)), (.mv 112 (.t 14)), (.bin 113 .neq (.t 111) (.t 112))]⟩, ⟨none, [(.pick 114 (.t 110) (.k (B true)) (.t 113))]⟩] [1, 3, 13, 14, 19, 114]) (.cond (.t 114) (.seq (.rgn [⟨none, [(.mv 6 (.k (B false)))]⟩] [6]) .ret) .skip)) (.seq (.seq (.rgn [⟨none, [(.mv 115 (.t 14)), (.bin 116 .neq (.t 115) (.k (I 0)))]⟩] [1, 3, 13, 19, 116]) (.cond (.t 116) (.seq (.rgn [⟨none, [(.mv 117 (.t 19)), (.len 118 (.t 117)), (.bin 119 .eql (.t 118) (.k (I 0))), (.mv 120 (.t 119))]⟩, ⟨(some (120, true)), [(.call 121 19 [])]⟩, ⟨none, [(.pick 122 (.t 120) (.t 121) (.k (B false))), (.mv 6 (.t 122))]⟩] [6]) .ret) .skip)) (.seq (.rgn [⟨none, [(.ld 124 true 2 (.t 3)), (.mv 125 (.t 1)), (.mv 126 (.t 19)), (.call 127 37 [(.t 124), (.t 125), (.t 126)]), (.mv 123 (.t 127)), (.ext 128 (.t 123) 0), (.ext 129 (.t 123) 1), (.mv 21 (.t 128)), (.mv 22 (.t 129))]⟩] [13, 21, 22]) (.seq (.rgn [⟨none, [(.mv 130 (.t 22)), (.bin 131 .eql (.t 130) (.k (I 0))), (.mv 132 (.t 131))]⟩, ⟨(some (132, true)), [(.mv 133 (.t 21)), (.mv 134 (.t 13)), (.len 135 (.t 134)), (.bin 136 .eql (.t 133) (.t 135))]⟩, ⟨none, [(.pick 137 (.t 132) (.t 136) (.k (B false))), (.mv 138 (.t 137))]⟩, ⟨(some (138, true)), [(.call 139 19 [])]⟩, ⟨none, [(.pick 140 (.t 138) (.t 139) (.k (B false))), (.mv 6 (.t 140))]⟩] [6]) .ret)))))))))))))
theorem form6 : formOf Try.prog Try.f6 [6] = some G6 := by kernel_rfl
theorem res6 : resTmps Try.f6.results.toList = some [6] := by kernel_rfl

/-- oxgall/oxgalllaw02.StrokeCounts -/
def G7 : AC := (.seq (.rgn [⟨none, [(.box 2 2 (.t 0)), (.mv 4 (.k (B false)))]⟩] [1, 2]) (.seq (.seq (.rgn [⟨none, [(.ld 10 true 2 (.t 2)), (.call 11 18 [(.t 10)]), (.mv 12 (.t 11))]⟩, ⟨(some (12, false)), [(.mv 13 (.t 1)), (.len 14 (.t 13)), (.bin 15 .gtr (.t 14) (.k (I 70)))]⟩, ⟨none, [(.pick 16 (.t 12) (.k (B true)) (.t 15))]⟩] [1, 2, 16]) (.cond (.t 16) (.seq (.rgn [⟨none, [(.call 17 19 []), (.mv 4 (.t 17))]⟩] [4]) .ret) .skip)) (.seq (.seq (.rgn [⟨none, [(.ld 18 true 2 (.t 2)), (.mv 19 (.t 1)), (.call 20 23 [(.t 18), (.t 19)]), (.bin 21 .eql (.t 20) (.k (I 0)))]⟩] [1, 2, 21]) (.cond (.t 21) (.seq (.rgn [⟨none, [(.ld 22 true 2 (.t 2)), (.mv 23 (.t 1)), (.call 24 40 [(.t 22), (.t 23)]), (.len 25 (.t 24)), (.mv 5 (.t 25))]⟩] [1, 2, 5]) (.seq (.rgn [⟨none, [(.mv 26 (.t 5)), (.bin 27 .gtr (.t 26) (.k (I 12))), (.mv 28 (.t 27))]⟩, ⟨(some (28, true)), [(.mv 29 (.t 5)), (.bin 30 .leq (.t 29) (.k (I 16)))]⟩, ⟨none, [(.pick 31 (.t 28) (.t 30) (.k (B false)))]⟩] [1, 2, 31]) (.cond (.t 31) (.seq (.rgn [⟨none, [(.call 32 19 []), (.mv 4 (.t 32))]⟩] [4]) .ret) .skip))) .skip)) (.seq (.rgn [⟨none, [(.ld 34 true 2 (.t 2)), (.mv 35 (.t 1)), (.call 36 41 [(.t 34), (.t 35)]), (.mv 33 (.t 36)), (.ext 37 (.t 33) 0), (.ext 38 (.t 33) 1), (.mv 6 (.t 37)), (.mv 7 (.t 38))]⟩] [1, 2, 6, 7]) (.seq (.rgn [⟨none, [(.ld 40 true 2 (.t 2)), (.mv 41 (.t 1)), (.call 42 42 [(.t 40), (.t 41)]), (.mv 39 (.t 42)), (.ext 43 (.t 39) 0), (.ext 44 (.t 39) 1), (.mv 8 (.t 43)), (.mv 9 (.t 44))]⟩] [6, 7, 8, 9]) (.seq (.rgn [⟨none, [(.mv 45 (.t 6)), (.mv 46 (.t 8)), (.bin 47 .eql (.t 45) (.t 46)), (.mv 48 (.t 47))]⟩, ⟨(some (48, true)), [(.mv 49 (.t 7)), (.mv 50 (.t 9)), (.bin 51 .eql (.t 49) (.t 50))]⟩, ⟨none, [(.pick 52 (.t 48) (.t 51) (.k (B false))), (.mv 53 (.t 52))]⟩, ⟨(some (53, true)), [(.call 54 19 [])]⟩, ⟨none, [(.pick 55 (.t 53) (.t 54) (.k (B false))), (.mv 4 (.t 55))]⟩] [4]) .ret))))))
theorem form7 : formOf Try.prog Try.f7 [4] = some G7 := by kernel_rfl
theorem res7 : resTmps Try.f7.results.toList = some [4] := by kernel_rfl

/-- oxgall/oxgalllaw02.StrokeWays -/
def G8 : AC := (.seq (.rgn [⟨none, [(.box 3 2 (.t 0)), (.mv 6 (.k (B false)))]⟩] [1, 2, 3]) (.seq (.seq (.rgn [⟨none, [(.ld 15 true 2 (.t 3)), (.call 16 18 [(.t 15)]), (.mv 17 (.t 16))]⟩, ⟨(some (17, false)), [(.mv 18 (.t 1)), (.len 19 (.t 18)), (.bin 20 .gtr (.t 19) (.k (I 70)))]⟩, ⟨none, [(.pick 21 (.t 17) (.k (B true)) (.t 20)), (.mv 22 (.t 21))]⟩, ⟨(some (22, false)), [(.mv 23 (.t 2)), (.len 24 (.t 23)), (.bin 25 .gtr (.t 24) (.k (I 70)))]⟩, ⟨none, [(.pick 26 (.t 22) (.k (B true)) (.t 25))]⟩] [1, 2, 3, 26]) (.cond (.t 26) (.seq (.rgn [⟨none, [(.call 27 19 []), (.mv 6 (.t 27))]⟩] [6]) .ret) .skip)) (.seq (.rgn [⟨none, [(.ld 29 true 2 (.t 3)), (.mv 30 (.t 1)), (.mv 31 (.t 2)), (.call 32 43 [(.t 29), (.t 30), (.t 31)]), (.mv 28 (.t 32)), (.ext 33 (.t 28) 0), (.ext 34 (.t 28) 1), (.mv 7 (.t 33)), (.mv 8 (.t 34))]⟩] [1, 2, 3, 7, 8]) (.seq (.rgn [⟨none, [(.ld 36 true 2 (.t 3)), (.mv 37 (.t 1)), (.mv 38 (.t 2)), (.call 39 44 [(.t 36), (.t 37), (.t 38)]), (.mv 35 (.t 39)), (.ext 40 (.t 35) 0), (.ext 41 (.t 35) 1), (.mv 9 (.t 40)), (.mv 10 (.t 41))]⟩] [1, 2, 3, 7, 8, 9, 10]) (.seq (.rgn [⟨none, [(.ld 43 true 2 (.t 3)), (.mv 44 (.t 1)), (.mv 45 (.t 2)), (.call 46 45 [(.t 43), (.t 44), (.t 45)]), (.mv 42 (.t 46)), (.ext 47 (.t 42) 0), (.ext 48 (.t 42) 1), (.mv 11 (.t 47)), (.mv 12 (.t 48))]⟩] [1, 2, 3, 7, 8, 9, 10, 11, 12]) (.seq (.rgn [⟨none, [(.ld 50 true 2 (.t 3)), (.mv 51 (.t 1)), (.mv 52 (.t 2)), (.call 53 46 [(.t 50), (.t 51), (.t 52)]), (.mv 49 (.t 53)), (.ext 54 (.t 49) 0), (.ext 55 (.t 49) 1), (.mv 13 (.t 54)), (.mv 14 (.t 55))]⟩] [7, 8, 9, 10, 11, 12, 13, 14]) (.seq (.rgn [⟨none, [(.mv 56 (.t 7)), (.mv 57 (.t 9)), (.call 58 26 [(.t 56), (.t 57)]), (.mv 59 (.t 58))]⟩, ⟨(some (59, true)), [(.mv 60 (.t 8)), (.mv 61 (.t 10)), (.bin 62 .eql (.t 60) (.t 61))]⟩, ⟨none, [(.pick 63 (.t 59) (.t 62) (.k (B false))), (.mv 64 (.t 63))]⟩, ⟨(some (64, true)), [(.mv 65 (.t 11)), (.mv 66 (.t 13)), (.call 67 26 [(.t 65), (.t 66)])]⟩, ⟨none, [(.pick 68 (.t 64) (.t 67) (.k (B false))), (.mv 69 (.t 68))]⟩, ⟨(some (69, true)), [(.mv 70 (.t 12)), (.mv 71 (.t 14)), (.bin 72 .eql (.t 70) (.t 71))]⟩, ⟨none, [(.pick 73 (.t 69) (.t 72) (.k (B false))), (.mv 74 (.t 73))]⟩, ⟨(some (74, true)), [(.call 75 19 [])]⟩, ⟨none, [(.pick 76 (.t 74) (.t 75) (.k (B false))), (.mv 6 (.t 76))]⟩] [6]) .ret)))))))
theorem form8 : formOf Try.prog Try.f8 [6] = some G8 := by kernel_rfl
theorem res8 : resTmps Try.f8.results.toList = some [6] := by kernel_rfl

/-- oxgall/oxgalllaw02.StrokeExchanged -/
def G9 : AC := (.seq (.rgn [⟨none, [(.box 5 2 (.t 0)), (.mv 10 (.k (B false)))]⟩] [1, 2, 3, 4, 5]) (.seq (.seq (.rgn [⟨none, [(.ld 24 true 2 (.t 5)), (.mv 25 (.t 1)), (.call 26 47 [(.t 24), (.t 25)]), (.un 27 .not (.t 26)), (.mv 28 (.t 27))]⟩, ⟨(some (28, false)), [(.ld 29 true 2 (.t 5)), (.mv 30 (.t 2)), (.call 31 47 [(.t 29), (.t 30)]), (.un 32 .not (.t 31))]⟩, ⟨none, [(.pick 33 (.t 28) (.k (B true)) (.t 32)), (.mv 34 (.t 33))]⟩, ⟨(some (34, false)), [(.mv 35 (.t 1)), (.len 36 (.t 35)), (.bin 37 .gtr (.t 36) (.k (I 50)))]⟩, ⟨none, [(.pick 38 (.t 34) (.k (B true)) (.t 37)), (.mv 39 (.t 38))]⟩, ⟨(some (39, false)), [(.mv 40 (.t 3)), (.len 41 (.t 40)), (.bin 42 .gtr (.t 41) (.k (I 60)))]⟩, ⟨none, [(.pick 43 (.t 39) (.k (B true)) (.t 42)), (.mv 44 (.t 43))]⟩, ⟨(some (44, false)), [(.mv 45 (.t 4)), (.len 46 (.t 45)), (.bin 47 .gtr (.t 46) (.k (I 200)))]⟩, ⟨none, [(.pick 48 (.t 44) (.k (B true)) (.t 47))]⟩] [1, 2, 3, 4, 5, 48]) (.cond (.t 48) (.seq (.rgn [⟨none, [(.call 49 19 []), (.mv 10 (.t 49))]⟩] [10]) .ret) .skip)) (.seq (.rgn [⟨none, [(.ld 51 true 2 (.t 5)), (.mv 52 (.t 1)), (.mv 53 (.t 3)), (.call 54 48 [(.t 51), (.t 52), (.t 53)]), (.mv 50 (.t 54)), (.ext 55 (.t 50) 0), (.ext 56 (.t 50) 1), (.mv 11 (.t 55)), (.mv 12 (.t 56))]⟩] [1, 2, 4, 5, 11, 12]) (.seq (.rgn [⟨none, [(.ld 58 true 2 (.t 5)), (.mv 59 (.t 1)), (.call 60 24 [(.t 58), (.t 59)]), (.mv 57 (.t 60)), (.ext 61 (.t 57) 0), (.ext 62 (.t 57) 1), (.mv 13 (.t 61)), (.mv 14 (.t 62))]⟩] [1, 2, 4, 5, 11, 12, 13, 14]) (.seq (.rgn [⟨none, [(.ld 64 true 2 (.t 5)), (.mv 65 (.t 11)), (.call 66 24 [(.t 64), (.t 65)]), (.mv 63 (.t 66)), (.ext 67 (.t 63) 0), (.ext 68 (.t 63) 1), (.mv 15 (.t 67)), (.mv 16 (.t 68))]⟩] [1, 2, 4, 5, 11, 12, 13, 14, 15, 16]) (.seq (.rgn [⟨none, [(.ld 70 true 2 (.t 5)), (.mv 71 (.t 2)), (.call 72 24 [(.t 70), (.t 71)]), (.mv 69 (.t 72)), (.ext 73 (.t 69) 0), (.ext 74 (.t 69) 1), (.mv 17 (.t 73)), (.mv 18 (.t 74))]⟩] [1, 2, 4, 5, 11, 12, 13, 14, 15, 16, 17, 18]) (.seq (.rgn [⟨none, [(.ld 76 true 2 (.t 5)), (.mv 77 (.t 1)), (.mv 78 (.t 11)), (.call 79 29 [(.t 76), (.t 77), (.t 78)]), (.mv 75 (.t 79)), (.ext 80 (.t 75) 0), (.ext 81 (.t 75) 1), (.mv 19 (.t 80)), (.mv 20 (.t 81))]⟩] [1, 2, 4, 5, 11, 12, 13, 14, 15, 16, 17, 18, 19, 20]) (.seq (.seq (.rgn [⟨none, [(.mv 82 (.t 14)), (.bin 83 .neq (.t 82) (.k (I 0))), (.mv 84 (.t 83))]⟩, ⟨(some (84, false)), [(.mv 85 (.t 16)), (.bin 86 .neq (.t 85) (.k (I 0)))]⟩, ⟨none, [(.pick 87 (.t 84) (.k (B true)) (.t 86)), (.mv 88 (.t 87))]⟩, ⟨(some (88, false)), [(.mv 89 (.t 18)), (.bin 90 .neq (.t 89) (.k (I 0)))]⟩, ⟨none, [(.pick 91 (.t 88) (.k (B true)) (.t 90)), (.mv 92 (.t 91))]⟩, ⟨(some (92, false)), [(.mv 93 (.t 20)), (.bin 94 .neq (.t 93) (.k (I 0)))]⟩, ⟨none, [(.pick 95 (.t 92) (.k (B true)) (.t 94)), (.mv 96 (.t 95))]⟩, ⟨(some (96, false)), [(.mv 97 (.t 13)), (.mv 98 (.t 15)), (.call 99 26 [(.t 97), (.t 98)]), (.un 100 .not (.t 99))]⟩, ⟨none, [(.pick 101 (.t 96) (.k (B true)) (.t 100)), (.mv 102 (.t 101))]⟩, ⟨(some (102, false)), [(.ld 103 true 2 (.t 5)), (.mv 104 (.t 1)), (.mv 105 (.t 11)), (.call 106 27 [(.t 103), (.t 104), (.t 105)]), (.bin 107 .neq (.t 106) (.k (I 0)))]⟩, ⟨none, [(.pick 108 (.t 102) (.k (B true)) (.t 107)), (.mv 109 (.t 108))]⟩, ⟨(some (109, false)), [(.ld 110 true 2 (.t 5)), (.mv 111 (.t 1)), (.mv 112 (.t 11)), (.mv 113 (.t 12)), (.call 114 30 [(.t 110), (.t 111), (.t 112), (.t 113)]), (.bin 115 .neq (.t 114) (.k (I 0)))]⟩, ⟨none, [(.pick 116 (.t 109) (.k (B true)) (.t 115)), (.mv 117 (.t 116))]⟩, ⟨(some (117, false)), [(.ld 118 true 2 (.t 5)), (.mv 119 (.t 1)), (.mv 120 (.t 11)), (.mv 121 (.t 19)), (.call 122 30 [(.t 118), (.t 119), (.t 120), (.t 121)]), (.bin 123 .neq (.t 122) (.k (I 0)))]⟩, ⟨none, [(.pick 124 (.t 117) (.k (B true)) (.t 123)), (.mv 125 (.t 124))]⟩, ⟨(some (125, false)), [(.ld 126 true 2 (.t 5)), (.mv 127 (.t 1)), (.mv 128 (.t 11)), (.mv 129 (.t 19)), (.call 130 31 [(.t 126), (.t 127), (.t 128), (.t 129)]), (.bin 131 .neq (.t 130) (.k (I 0)))]⟩, ⟨none, [(.pick 132 (.t 125) (.k (B true)) (.t 131))]⟩] [1, 2, 4, 5, 13, 17, 132]) (.cond (.t 132) (.seq (.rgn [⟨none, [(.mv 10 (.k (B false)))]⟩] [10]) .ret) .skip)) (.seq (.rgn [⟨none, [(.ld 133 true 2 (.t 5)), (.mv 134 (.t 1)), (.mv 135 (.t 2)), (.call 136 27 [(.t 133), (.t 134), (.t 135)]), (.mv 21 (.t 136))]⟩] [1, 2, 4, 5, 13, 17, 21]) (.seq (.rgn [⟨none, [(.ld 138 true 2 (.t 5)), (.mv 139 (.t 1)), (.mv 140 (.t 2)), (.call 141 29 [(.t 138), (.t 139), (.t 140)]), (.mv 137 (.t 141)), (.ext 142 (.t 137) 0), (.ext 143 (.t 137) 1), (.mv 22 (.t 142)), (.mv 23 (.t 143))]⟩] [1, 2, 4, 5, 13, 17, 21, 22, 23]) (.seq (.seq (.rgn [⟨none, [(.mv 144 (.t 21)), (.bin 145 .eql (.t 144) (.k (I 0))), (.mv 146 (.t 13)), (.mv 147 (.t 17)), (.call 148 26 [(.t 146), (.t 147)]), (.eqk 149 true (false, [.bool]) (.t 145) (.t 148)), (.mv 150 (.t 149))]⟩, ⟨(some (150, false)), [(.mv 151 (.t 21)), (.mv 152 (.t 23)), (.bin 153 .neq (.t 151) (.t 152))]⟩, ⟨none, [(.pick 154 (.t 150) (.k (B true)) (.t 153)), (.mv 155 (.t 154))]⟩, ⟨(some (155, false)), [(.mv 156 (.t 21)), (.bin 157 .neq (.t 156) (.k (I 0))), (.mv 158 (.t 157))]⟩, ⟨(some (158, true)), [(.mv 159 (.t 21)), (.bin 160 .neq (.t 159) (.k (I 18)))]⟩, ⟨(some (155, false)), [(.pick 161 (.t 158) (.t 160) (.k (B false)))]⟩, ⟨none, [(.pick 162 (.t 155) (.k (B true)) (.t 161))]⟩] [1, 2, 4, 5, 21, 22, 162]) (.cond (.t 162) (.seq (.rgn [⟨none, [(.mv 10 (.k (B false)))]⟩] [10]) .ret) .skip)) (.seq (.seq (.rgn [⟨none, [(.mv 163 (.t 21)), (.bin 164 .neq (.t 163) (.k (I 0)))]⟩] [1, 2, 4, 5, 22, 164]) (.cond (.t 164) (.seq (.rgn [⟨none, [(.mv 165 (.t 22)), (.len 166 (.t 165)), (.bin 167 .eql (.t 166) (.k (I 0))), (.mv 168 (.t 167))]⟩, ⟨(some (168, true)), [(.ld 169 true 2 (.t 5)), (.mv 170 (.t 1)), (.mv 171 (.t 2)), (.mv 172 (.t 4)), (.call 173 30 [(.t 169), (.t 170), (.t 171), (.t 172)]), (.bin 174 .neq (.t 173) (.k (I 0)))]⟩, ⟨none, [(.pick 175 (.t 168) (.t 174) (.k (B false))), (.mv 176 (.t 175))]⟩, ⟨(some (176, true)), [(.call 177 19 [])]⟩, ⟨none, [(.pick 178 (.t 176) (.t 177) (.k (B false))), (.mv 10 (.t 178))]⟩] [10]) .ret) .skip)) (.seq (.rgn [⟨none, [(.ld 179 true 2 (.t 5)), (.mv 180 (.t 1)), (.mv 181 (.t 2)), (.mv 182 (.t 22)), (.call 183 30 [(.t 179), (.t 180), (.t 181), (.t 182)]), (.bin 184 .eql (.t 183) (.k (I 0))), (.mv 185 (.t 184))]⟩, ⟨(some (185, true)), [(.ld 186 true 2 (.t 5)), (.mv 187 (.t 1)), (.mv 188 (.t 2)), (.mv 189 (.t 22)), (.call 190 31 [(.t 186), (.t 187), (.t 188), (.t 189)]), (.bin 191 .eql (.t 190) (.k (I 0)))]⟩, ⟨none, [(.pick 192 (.t 185) (.t 191) (.k (B false))), (.mv 193 (.t 192))]⟩, ⟨(some (193, true)), [(.call 194 19 [])]⟩, ⟨none, [(.pick 195 (.t 193) (.t 194) (.k (B false))), (.mv 10 (.t 195))]⟩] [10]) .ret)))))))))))))
theorem form9 : formOf Try.prog Try.f9 [10] = some G9 := by kernel_rfl
theorem res9 : resTmps Try.f9.results.toList = some [10] := by kernel_rfl

/-- oxgall/oxgalllaw02.StrokeShortest -/
def G10 : AC := (.seq (.rgn [⟨none, [(.box 4 2 (.t 0)), (.mv 8 (.k (B false)))]⟩] [1, 2, 3, 4]) (.seq (.seq (.rgn [⟨none, [(.ld 19 true 2 (.t 4)), (.mv 20 (.t 1)), (.call 21 47 [(.t 19), (.t 20)]), (.un 22 .not (.t 21)), (.mv 23 (.t 22))]⟩, ⟨(some (23, false)), [(.ld 24 true 2 (.t 4)), (.mv 25 (.t 2)), (.call 26 47 [(.t 24), (.t 25)]), (.un 27 .not (.t 26))]⟩, ⟨none, [(.pick 28 (.t 23) (.k (B true)) (.t 27)), (.mv 29 (.t 28))]⟩, ⟨(some (29, false)), [(.mv 30 (.t 1)), (.len 31 (.t 30)), (.mv 32 (.t 2)), (.len 33 (.t 32)), (.bin 34 .add (.t 31) (.t 33)), (.bin 35 .gtr (.t 34) (.k (I 60)))]⟩, ⟨none, [(.pick 36 (.t 29) (.k (B true)) (.t 35)), (.mv 37 (.t 36))]⟩, ⟨(some (37, false)), [(.mv 38 (.t 1)), (.len 39 (.t 38)), (.bin 40 .gtr (.t 39) (.k (I 50)))]⟩, ⟨none, [(.pick 41 (.t 37) (.k (B true)) (.t 40)), (.mv 42 (.t 41))]⟩, ⟨(some (42, false)), [(.mv 43 (.t 3)), (.len 44 (.t 43)), (.bin 45 .gtr (.t 44) (.k (I 60)))]⟩, ⟨none, [(.pick 46 (.t 42) (.k (B true)) (.t 45))]⟩] [1, 2, 3, 4, 46]) (.cond (.t 46) (.seq (.rgn [⟨none, [(.call 47 19 []), (.mv 8 (.t 47))]⟩] [8]) .ret) .skip)) (.seq (.rgn [⟨none, [(.ld 49 true 2 (.t 4)), (.mv 50 (.t 1)), (.call 51 24 [(.t 49), (.t 50)]), (.mv 48 (.t 51)), (.ext 52 (.t 48) 0), (.ext 53 (.t 48) 1), (.mv 9 (.t 52)), (.mv 10 (.t 53))]⟩] [1, 2, 3, 4, 9, 10]) (.seq (.rgn [⟨none, [(.ld 55 true 2 (.t 4)), (.mv 56 (.t 2)), (.call 57 24 [(.t 55), (.t 56)]), (.mv 54 (.t 57)), (.ext 58 (.t 54) 0), (.ext 59 (.t 54) 1), (.mv 11 (.t 58)), (.mv 12 (.t 59))]⟩] [1, 2, 3, 4, 9, 10, 11, 12]) (.seq (.seq (.rgn [⟨none, [(.mv 60 (.t 10)), (.bin 61 .neq (.t 60) (.k (I 0))), (.mv 62 (.t 61))]⟩, ⟨(some (62, false)), [(.mv 63 (.t 12)), (.bin 64 .neq (.t 63) (.k (I 0)))]⟩, ⟨none, [(.pick 65 (.t 62) (.k (B true)) (.t 64)), (.mv 66 (.t 65))]⟩, ⟨(some (66, false)), [(.mv 67 (.t 9)), (.len 68 (.t 67)), (.mv 69 (.t 1)), (.len 70 (.t 69)), (.bin 71 .gtr (.t 68) (.t 70))]⟩, ⟨none, [(.pick 72 (.t 66) (.k (B true)) (.t 71)), (.mv 73 (.t 72))]⟩, ⟨(some (73, false)), [(.mv 74 (.t 1)), (.len 75 (.t 74)), (.mv 76 (.t 9)), (.len 77 (.t 76)), (.bin 78 .sub (.t 75) (.t 77)), (.bin 79 .rem (.t 78) (.k (I 2))), (.bin 80 .neq (.t 79) (.k (I 0)))]⟩, ⟨none, [(.pick 81 (.t 73) (.k (B true)) (.t 80)), (.mv 82 (.t 81))]⟩, ⟨(some (82, false)), [(.mv 83 (.t 11)), (.len 84 (.t 83)), (.mv 85 (.t 2)), (.len 86 (.t 85)), (.bin 87 .gtr (.t 84) (.t 86))]⟩, ⟨none, [(.pick 88 (.t 82) (.k (B true)) (.t 87)), (.mv 89 (.t 88))]⟩, ⟨(some (89, false)), [(.ld 90 true 2 (.t 4)), (.mv 91 (.t 9)), (.call 92 47 [(.t 90), (.t 91)]), (.un 93 .not (.t 92))]⟩, ⟨none, [(.pick 94 (.t 89) (.k (B true)) (.t 93)), (.mv 95 (.t 94))]⟩, ⟨(some (95, false)), [(.ld 96 true 2 (.t 4)), (.mv 97 (.t 11)), (.call 98 47 [(.t 96), (.t 97)]), (.un 99 .not (.t 98))]⟩, ⟨none, [(.pick 100 (.t 95) (.k (B true)) (.t 99))]⟩] [1, 2, 3, 4, 9, 11, 100]) (.cond (.t 100) (.seq (.rgn [⟨none, [(.mv 8 (.k (B false)))]⟩] [8]) .ret) .skip)) (.seq (.rgn [⟨none, [(.ld 102 true 2 (.t 4)), (.mv 103 (.t 9)), (.call 104 24 [(.t 102), (.t 103)]), (.mv 101 (.t 104)), (.ext 105 (.t 101) 0), (.ext 106 (.t 101) 1), (.mv 13 (.t 105)), (.mv 10 (.t 106))]⟩] [1, 2, 3, 4, 9, 10, 11, 13]) (.seq (.drw [⟨none, [(.ld 108 true 2 (.t 4)), (.bsl 109 0 1 [(I 0)] []), (.mv 110 (.t 1)), (.app 111 1 8 (.t 109) (.t 110)), (.mv 112 (.t 2)), (.app 113 1 8 (.t 111) (.t 112)), (.call 114 24 [(.t 108), (.t 113)]), (.mv 107 (.t 114)), (.ext 115 (.t 107) 0), (.ext 116 (.t 107) 1), (.mv 14 (.t 115)), (.mv 12 (.t 116))]⟩] [(0, 1), (0, 3), (0, 5)] [1, 3, 4, 9, 10, 11, 12, 13, 14]) (.seq (.drw [⟨none, [(.ld 118 true 2 (.t 4)), (.bsl 119 0 1 [(I 0)] []), (.mv 120 (.t 9)), (.app 121 1 8 (.t 119) (.t 120)), (.mv 122 (.t 11)), (.app 123 1 8 (.t 121) (.t 122)), (.call 124 24 [(.t 118), (.t 123)]), (.mv 117 (.t 124)), (.ext 125 (.t 117) 0), (.ext 126 (.t 117) 1), (.mv 15 (.t 125)), (.mv 16 (.t 126))]⟩] [(0, 1), (0, 3), (0, 5)] [1, 3, 4, 9, 10, 12, 13, 14, 15, 16]) (.seq (.rgn [⟨none, [(.ld 128 true 2 (.t 4)), (.mv 129 (.t 1)), (.mv 130 (.t 3)), (.call 131 48 [(.t 128), (.t 129), (.t 130)]), (.mv 127 (.t 131)), (.ext 132 (.t 127) 0), (.ext 133 (.t 127) 1), (.mv 17 (.t 132)), (.mv 18 (.t 133))]⟩] [9, 10, 12, 13, 14, 15, 16, 17]) (.seq (.rgn [⟨none, [(.mv 134 (.t 10)), (.bin 135 .eql (.t 134) (.k (I 0))), (.mv 136 (.t 135))]⟩, ⟨(some (136, true)), [(.mv 137 (.t 12)), (.bin 138 .eql (.t 137) (.k (I 0)))]⟩, ⟨none, [(.pick 139 (.t 136) (.t 138) (.k (B false))), (.mv 140 (.t 139))]⟩, ⟨(some (140, true)), [(.mv 141 (.t 16)), (.bin 142 .eql (.t 141) (.k (I 0)))]⟩, ⟨none, [(.pick 143 (.t 140) (.t 142) (.k (B false))), (.mv 144 (.t 143))]⟩, ⟨(some (144, true)), [(.mv 145 (.t 9)), (.mv 146 (.t 13)), (.call 147 26 [(.t 145), (.t 146)])]⟩, ⟨none, [(.pick 148 (.t 144) (.t 147) (.k (B false))), (.mv 149 (.t 148))]⟩, ⟨(some (149, true)), [(.mv 150 (.t 14)), (.mv 151 (.t 15)), (.call 152 26 [(.t 150), (.t 151)])]⟩, ⟨none, [(.pick 153 (.t 149) (.t 152) (.k (B false))), (.mv 154 (.t 153))]⟩, ⟨(some (154, true)), [(.mv 155 (.t 17)), (.len 156 (.t 155)), (.mv 157 (.t 9)), (.len 158 (.t 157)), (.bin 159 .geq (.t 156) (.t 158))]⟩, ⟨none, [(.pick 160 (.t 154) (.t 159) (.k (B false))), (.mv 161 (.t 160))]⟩, ⟨(some (161, true)), [(.call 162 19 [])]⟩, ⟨none, [(.pick 163 (.t 161) (.t 162) (.k (B false))), (.mv 8 (.t 163))]⟩] [8]) .ret))))))))))
theorem form10 : formOf Try.prog Try.f10 [8] = some G10 := by kernel_rfl
theorem res10 : resTmps Try.f10.results.toList = some [8] := by kernel_rfl

/-- oxgall/oxgalllaw02.StrokeBack -/
def G11 : AC := (.seq (.rgn [⟨none, [(.box 3 2 (.t 0)), (.mv 6 (.k (B false)))]⟩] [1, 2, 3]) (.seq (.seq (.rgn [⟨none, [(.ld 15 true 2 (.t 3)), (.mv 16 (.t 1)), (.call 17 47 [(.t 15), (.t 16)]), (.un 18 .not (.t 17)), (.mv 19 (.t 18))]⟩, ⟨(some (19, false)), [(.ld 20 true 2 (.t 3)), (.mv 21 (.t 2)), (.call 22 47 [(.t 20), (.t 21)]), (.un 23 .not (.t 22))]⟩, ⟨none, [(.pick 24 (.t 19) (.k (B true)) (.t 23)), (.mv 25 (.t 24))]⟩, ⟨(some (25, false)), [(.mv 26 (.t 1)), (.len 27 (.t 26)), (.bin 28 .gtr (.t 27) (.k (I 30)))]⟩, ⟨none, [(.pick 29 (.t 25) (.k (B true)) (.t 28)), (.mv 30 (.t 29))]⟩, ⟨(some (30, false)), [(.mv 31 (.t 2)), (.len 32 (.t 31)), (.bin 33 .gtr (.t 32) (.k (I 15)))]⟩, ⟨none, [(.pick 34 (.t 30) (.k (B true)) (.t 33))]⟩] [1, 2, 3, 34]) (.cond (.t 34) (.seq (.rgn [⟨none, [(.call 35 19 []), (.mv 6 (.t 35))]⟩] [6]) .ret) .skip)) (.seq (.rgn [⟨none, [(.mv 36 (.t 1)), (.call 37 49 [(.t 36)]), (.mv 7 (.t 37))]⟩] [1, 2, 3, 7]) (.seq (.drw [⟨none, [(.ld 39 true 2 (.t 3)), (.bsl 40 0 1 [(I 0)] []), (.mv 41 (.t 1)), (.app 42 1 8 (.t 40) (.t 41)), (.mv 43 (.t 7)), (.app 44 1 8 (.t 42) (.t 43)), (.call 45 24 [(.t 39), (.t 44)]), (.mv 38 (.t 45)), (.ext 46 (.t 38) 0), (.ext 47 (.t 38) 1), (.mv 8 (.t 46)), (.mv 9 (.t 47))]⟩] [(0, 1), (0, 3), (0, 5)] [1, 2, 3, 7, 8, 9]) (.seq (.rgn [⟨none, [(.ld 49 true 2 (.t 3)), (.mv 50 (.t 7)), (.call 51 24 [(.t 49), (.t 50)]), (.mv 48 (.t 51)), (.ext 52 (.t 48) 0), (.ext 53 (.t 48) 1), (.mv 10 (.t 52)), (.mv 11 (.t 53))]⟩] [1, 2, 3, 8, 9, 10, 11]) (.seq (.rgn [⟨none, [(.ld 55 true 2 (.t 3)), (.mv 56 (.t 1)), (.call 57 24 [(.t 55), (.t 56)]), (.mv 54 (.t 57)), (.ext 58 (.t 54) 0), (.ext 59 (.t 54) 1), (.mv 12 (.t 58)), (.mv 13 (.t 59))]⟩] [1, 2, 3, 8, 9, 10, 11, 12, 13]) (.seq (.rgn [⟨none, [(.bsl 60 0 1 [(I 0)] []), (.mv 61 (.t 1)), (.app 62 1 8 (.t 60) (.t 61)), (.mv 63 (.t 2)), (.app 64 1 8 (.t 62) (.t 63)), (.mv 65 (.t 2)), (.call 66 49 [(.t 65)]), (.app 67 1 8 (.t 64) (.t 66)), (.mv 14 (.t 67))]⟩] [1, 3, 8, 9, 10, 11, 12, 13, 14]) (.seq (.rgn [⟨none, [(.mv 68 (.t 9)), (.bin 69 .eql (.t 68) (.k (I 0))), (.mv 70 (.t 69))]⟩, ⟨(some (70, true)), [(.mv 71 (.t 11)), (.bin 72 .eql (.t 71) (.k (I 0)))]⟩, ⟨none, [(.pick 73 (.t 70) (.t 72) (.k (B false))), (.mv 74 (.t 73))]⟩, ⟨(some (74, true)), [(.mv 75 (.t 13)), (.bin 76 .eql (.t 75) (.k (I 0)))]⟩, ⟨none, [(.pick 77 (.t 74) (.t 76) (.k (B false))), (.mv 78 (.t 77))]⟩, ⟨(some (78, true)), [(.mv 79 (.t 8)), (.len 80 (.t 79)), (.bin 81 .eql (.t 80) (.k (I 0)))]⟩, ⟨none, [(.pick 82 (.t 78) (.t 81) (.k (B false))), (.mv 83 (.t 82))]⟩, ⟨(some (83, true)), [(.mv 84 (.t 10)), (.len 85 (.t 84)), (.mv 86 (.t 12)), (.len 87 (.t 86)), (.bin 88 .eql (.t 85) (.t 87))]⟩, ⟨none, [(.pick 89 (.t 83) (.t 88) (.k (B false))), (.mv 90 (.t 89))]⟩, ⟨(some (90, true)), [(.ld 91 true 2 (.t 3)), (.mv 92 (.t 1)), (.mv 93 (.t 14)), (.call 94 27 [(.t 91), (.t 92), (.t 93)]), (.bin 95 .eql (.t 94) (.k (I 0)))]⟩, ⟨none, [(.pick 96 (.t 90) (.t 95) (.k (B false))), (.mv 97 (.t 96))]⟩, ⟨(some (97, true)), [(.call 98 19 [])]⟩, ⟨none, [(.pick 99 (.t 97) (.t 98) (.k (B false))), (.mv 6 (.t 99))]⟩] [6]) .ret))))))))
theorem form11 : formOf Try.prog Try.f11 [6] = some G11 := by kernel_rfl
theorem res11 : resTmps Try.f11.results.toList = some [6] := by kernel_rfl

/-- oxgall/oxgalllaw02.StrokeSeen -/
def G12 : AC := (.seq (.rgn [⟨none, [(.box 4 2 (.t 0)), (.mv 8 (.k (B false)))]⟩] [1, 2, 3, 4]) (.seq (.seq (.rgn [⟨none, [(.ld 21 true 2 (.t 4)), (.mv 22 (.t 1)), (.call 23 47 [(.t 21), (.t 22)]), (.un 24 .not (.t 23)), (.mv 25 (.t 24))]⟩, ⟨(some (25, false)), [(.ld 26 true 2 (.t 4)), (.mv 27 (.t 2)), (.call 28 47 [(.t 26), (.t 27)]), (.un 29 .not (.t 28))]⟩, ⟨none, [(.pick 30 (.t 25) (.k (B true)) (.t 29)), (.mv 31 (.t 30))]⟩, ⟨(some (31, false)), [(.mv 32 (.t 1)), (.len 33 (.t 32)), (.bin 34 .gtr (.t 33) (.k (I 40)))]⟩, ⟨none, [(.pick 35 (.t 31) (.k (B true)) (.t 34)), (.mv 36 (.t 35))]⟩, ⟨(some (36, false)), [(.mv 37 (.t 2)), (.len 38 (.t 37)), (.bin 39 .gtr (.t 38) (.k (I 40)))]⟩, ⟨none, [(.pick 40 (.t 36) (.k (B true)) (.t 39)), (.mv 41 (.t 40))]⟩, ⟨(some (41, false)), [(.mv 42 (.t 3)), (.len 43 (.t 42)), (.bin 44 .gtr (.t 43) (.k (I 60)))]⟩, ⟨none, [(.pick 45 (.t 41) (.k (B true)) (.t 44))]⟩] [1, 2, 3, 4, 45]) (.cond (.t 45) (.seq (.rgn [⟨none, [(.call 46 19 []), (.mv 8 (.t 46))]⟩] [8]) .ret) .skip)) (.seq (.rgn [⟨none, [(.ld 48 true 2 (.t 4)), (.mv 49 (.t 1)), (.mv 50 (.t 3)), (.call 51 48 [(.t 48), (.t 49), (.t 50)]), (.mv 47 (.t 51)), (.ext 52 (.t 47) 0), (.ext 53 (.t 47) 1), (.mv 9 (.t 52)), (.mv 10 (.t 53))]⟩] [1, 2, 4, 9]) (.seq (.rgn [⟨none, [(.mv 54 (.t 9)), (.mv 55 (.t 2)), (.bsl 56 2 1 [(.sl true 0 [])] [(0, (.t 54)), (1, (.t 55))]), (.mv 11 (.t 56))]⟩] [1, 4, 11]) (.seq (.seq (.rgn [⟨none, [(.mv 12 (.k (I 0)))]⟩] [1, 4, 11, 12]) (.block 0 (.loop (.seq (.seq (.rgn [⟨none, [(.mv 57 (.t 12)), (.bin 58 .lss (.t 57) (.k (I 2)))]⟩] [1, 4, 11, 12, 58]) (.cond (.t 58) .skip (.exit 0))) (.seq (.block 1 (.seq (.drw [⟨none, [(.ld 61 true 2 (.t 4)), (.mv 62 (.t 1)), (.mv 63 (.t 11)), (.mv 64 (.t 12)), (.ia 65 1 (.t 63) (.t 64)), (.ld 66 false 1 (.t 65)), (.call 67 27 [(.t 61), (.t 62), (.t 66)]), (.mv 13 (.t 67))]⟩] [(0, 5)] [1, 4, 11, 12, 13]) (.seq (.seq (.rgn [⟨none, [(.mv 68 (.t 13)), (.bin 69 .neq (.t 68) (.k (I 0))), (.mv 70 (.t 69))]⟩, ⟨(some (70, true)), [(.mv 71 (.t 12)), (.bin 72 .eql (.t 71) (.k (I 0))), (.mv 73 (.t 72))]⟩, ⟨(some (73, false)), [(.mv 74 (.t 13)), (.bin 75 .neq (.t 74) (.k (I 18)))]⟩, ⟨(some (70, true)), [(.pick 76 (.t 73) (.k (B true)) (.t 75))]⟩, ⟨none, [(.pick 77 (.t 70) (.t 76) (.k (B false)))]⟩] [1, 4, 11, 12, 13, 77]) (.cond (.t 77) (.seq (.rgn [⟨none, [(.mv 8 (.k (B false)))]⟩] [8]) .ret) .skip)) (.seq (.rgn [⟨none, [(.mv 14 (.k (B true))), (.mv 15 (.k (B false)))]⟩] [1, 4, 11, 12, 13, 14, 15]) (.seq (.seq (.rgn [⟨none, [(.mv 16 (.k (I 0)))]⟩] [1, 4, 11, 12, 13, 14, 15, 16]) (.block 2 (.loop (.seq (.seq (.rgn [⟨none, [(.mv 78 (.t 16)), (.fa 79 (.t 4) 0), (.ld 80 false 1 (.t 79)), (.bin 81 .lss (.t 78) (.t 80))]⟩] [1, 4, 11, 12, 13, 14, 15, 16, 81]) (.cond (.t 81) .skip (.exit 2))) (.seq (.block 3 (.seq (.rgn [⟨none, [(.mv 84 (.t 16)), (.mv 17 (.t 84))]⟩] [1, 4, 11, 12, 13, 14, 15, 16, 17]) (.block 4 (.loop (.seq (.seq (.rgn [⟨none, [(.mv 85 (.t 17)), (.fa 86 (.t 4) 0), (.ld 87 false 1 (.t 86)), (.bin 88 .lss (.t 85) (.t 87))]⟩] [1, 4, 11, 12, 13, 14, 15, 16, 17, 88]) (.cond (.t 88) .skip (.exit 4))) (.seq (.block 5 (.seq (.drw [⟨none, [(.ld 91 true 2 (.t 4)), (.mv 92 (.t 1)), (.mv 93 (.t 16)), (.mv 94 (.t 17)), (.call 95 50 [(.t 92), (.t 93), (.t 94)]), (.mv 96 (.t 11)), (.mv 97 (.t 12)), (.ia 98 1 (.t 96) (.t 97)), (.ld 99 false 1 (.t 98)), (.mv 100 (.t 16)), (.mv 101 (.t 17)), (.call 102 50 [(.t 99), (.t 100), (.t 101)]), (.call 103 27 [(.t 91), (.t 95), (.t 102)]), (.mv 18 (.t 103))]⟩] [(0, 4), (0, 8), (4, 8), (0, 11)] [1, 4, 11, 12, 13, 14, 15, 16, 17, 18]) (.seq (.seq (.rgn [⟨none, [(.mv 104 (.t 18)), (.bin 105 .neq (.t 104) (.k (I 0))), (.mv 106 (.t 105))]⟩, ⟨(some (106, true)), [(.mv 107 (.t 18)), (.bin 108 .neq (.t 107) (.k (I 18)))]⟩, ⟨none, [(.pick 109 (.t 106) (.t 108) (.k (B false)))]⟩] [1, 4, 11, 12, 13, 14, 15, 16, 17, 18, 109]) (.cond (.t 109) (.seq (.rgn [⟨none, [(.mv 8 (.k (B false)))]⟩] [8]) .ret) .skip)) (.rgn [⟨none, [(.mv 110 (.t 14)), (.mv 111 (.t 110))]⟩, ⟨(some (111, true)), [(.mv 112 (.t 18)), (.bin 113 .eql (.t 112) (.k (I 0)))]⟩, ⟨none, [(.pick 114 (.t 111) (.t 113) (.k (B false))), (.mv 14 (.t 114))]⟩] [1, 4, 11, 12, 13, 14, 15, 16, 17])))) (.rgn [⟨none, [(.mv 89 (.t 17)), (.bin 90 .add (.t 89) (.k (I 1))), (.mv 17 (.t 90))]⟩] [1, 4, 11, 12, 13, 14, 15, 16, 17]))))))) (.rgn [⟨none, [(.mv 82 (.t 16)), (.bin 83 .add (.t 82) (.k (I 1))), (.mv 16 (.t 83))]⟩] [1, 4, 11, 12, 13, 14, 15, 16])))))) (.seq (.seq (.rgn [⟨none, [(.mv 19 (.k (I 0)))]⟩] [1, 4, 11, 12, 13, 14, 15, 19]) (.block 6 (.loop (.seq (.seq (.rgn [⟨none, [(.mv 115 (.t 19)), (.mv 116 (.t 1)), (.len 117 (.t 116)), (.bin 118 .lss (.t 115) (.t 117))]⟩] [1, 4, 11, 12, 13, 14, 15, 19, 118]) (.cond (.t 118) .skip (.exit 6))) (.seq (.block 7 (.rgn [⟨none, [(.mv 121 (.t 15)), (.mv 122 (.t 121))]⟩, ⟨(some (122, false)), [(.mv 123 (.t 1)), (.mv 124 (.t 19)), (.ia 125 1 (.t 123) (.t 124)), (.ld 126 false 1 (.t 125)), (.bin 127 .lss (.t 126) (.k (I 0)))]⟩, ⟨none, [(.pick 128 (.t 122) (.k (B true)) (.t 127)), (.mv 15 (.t 128))]⟩] [1, 4, 11, 12, 13, 14, 15, 19])) (.rgn [⟨none, [(.mv 119 (.t 19)), (.bin 120 .add (.t 119) (.k (I 1))), (.mv 19 (.t 120))]⟩] [1, 4, 11, 12, 13, 14, 15, 19])))))) (.seq (.seq (.rgn [⟨none, [(.mv 20 (.k (I 0)))]⟩] [1, 4, 11, 12, 13, 14, 15, 20]) (.block 8 (.loop (.seq (.seq (.rgn [⟨none, [(.mv 129 (.t 20)), (.mv 130 (.t 11)), (.mv 131 (.t 12)), (.ia 132 1 (.t 130) (.t 131)), (.ld 133 false 1 (.t 132)), (.len 134 (.t 133)), (.bin 135 .lss (.t 129) (.t 134))]⟩] [1, 4, 11, 12, 13, 14, 15, 20, 135]) (.cond (.t 135) .skip (.exit 8))) (.seq (.block 9 (.rgn [⟨none, [(.mv 138 (.t 15)), (.mv 139 (.t 138))]⟩, ⟨(some (139, false)), [(.mv 140 (.t 11)), (.mv 141 (.t 12)), (.ia 142 1 (.t 140) (.t 141)), (.ld 143 false 1 (.t 142)), (.mv 144 (.t 20)), (.ia 145 1 (.t 143) (.t 144)), (.ld 146 false 1 (.t 145)), (.bin 147 .lss (.t 146) (.k (I 0)))]⟩, ⟨none, [(.pick 148 (.t 139) (.k (B true)) (.t 147)), (.mv 15 (.t 148))]⟩] [1, 4, 11, 12, 13, 14, 15, 20])) (.rgn [⟨none, [(.mv 136 (.t 20)), (.bin 137 .add (.t 136) (.k (I 1))), (.mv 20 (.t 137))]⟩] [1, 4, 11, 12, 13, 14, 15, 20])))))) (.seq (.rgn [⟨none, [(.mv 149 (.t 13)), (.bin 150 .eql (.t 149) (.k (I 0))), (.mv 151 (.t 150))]⟩, ⟨(some (151, true)), [(.mv 152 (.t 14)), (.un 153 .not (.t 152))]⟩, ⟨none, [(.pick 154 (.t 151) (.t 153) (.k (B false))), (.mv 155 (.t 154))]⟩, ⟨(some (155, false)), [(.mv 156 (.t 15)), (.un 157 .not (.t 156)), (.mv 158 (.t 157))]⟩, ⟨(some (158, true)), [(.mv 159 (.t 14))]⟩, ⟨(some (155, false)), [(.pick 160 (.t 158) (.t 159) (.k (B false))), (.mv 161 (.t 160))]⟩, ⟨(some (161, true)), [(.mv 162 (.t 13)), (.bin 163 .neq (.t 162) (.k (I 0)))]⟩, ⟨(some (155, false)), [(.pick 164 (.t 161) (.t 163) (.k (B false)))]⟩, ⟨none, [(.pick 165 (.t 155) (.k (B true)) (.t 164))]⟩] [1, 4, 11, 12, 165]) (.cond (.t 165) (.seq (.rgn [⟨none, [(.mv 8 (.k (B false)))]⟩] [8]) .ret) .skip))))))))) (.rgn [⟨none, [(.mv 59 (.t 12)), (.bin 60 .add (.t 59) (.k (I 1))), (.mv 12 (.t 60))]⟩] [1, 4, 11, 12])))))) (.seq (.rgn [⟨none, [(.call 166 19 []), (.mv 8 (.t 166))]⟩] [8]) .ret))))))
theorem form12 : formOf Try.prog Try.f12 [8] = some G12 := by kernel_rfl
theorem res12 : resTmps Try.f12.results.toList = some [8] := by kernel_rfl

/-- oxgall/oxgalllaw02.StrokeRounded -/
def G13 : AC := (.seq (.rgn [⟨none, [(.box 4 2 (.t 0)), (.mv 8 (.k (B false)))]⟩] [1, 2, 3, 4]) (.seq (.seq (.rgn [⟨none, [(.ld 27 true 2 (.t 4)), (.mv 28 (.t 1)), (.call 29 47 [(.t 27), (.t 28)]), (.un 30 .not (.t 29)), (.mv 31 (.t 30))]⟩, ⟨(some (31, false)), [(.mv 32 (.t 1)), (.len 33 (.t 32)), (.bin 34 .gtr (.t 33) (.k (I 50)))]⟩, ⟨none, [(.pick 35 (.t 31) (.k (B true)) (.t 34)), (.mv 36 (.t 35))]⟩, ⟨(some (36, false)), [(.mv 37 (.t 2)), (.len 38 (.t 37)), (.bin 39 .gtr (.t 38) (.k (I 60)))]⟩, ⟨none, [(.pick 40 (.t 36) (.k (B true)) (.t 39)), (.mv 41 (.t 40))]⟩, ⟨(some (41, false)), [(.mv 42 (.t 3)), (.len 43 (.t 42)), (.bin 44 .gtr (.t 43) (.k (I 60)))]⟩, ⟨none, [(.pick 45 (.t 41) (.k (B true)) (.t 44))]⟩] [1, 2, 3, 4, 45]) (.cond (.t 45) (.seq (.rgn [⟨none, [(.call 46 19 []), (.mv 8 (.t 46))]⟩] [8]) .ret) .skip)) (.seq (.rgn [⟨none, [(.ld 48 true 2 (.t 4)), (.mv 49 (.t 1)), (.call 50 34 [(.t 48), (.t 49)]), (.mv 47 (.t 50)), (.ext 51 (.t 47) 0), (.ext 52 (.t 47) 1), (.mv 9 (.t 51)), (.mv 10 (.t 52))]⟩] [1, 2, 3, 4, 9, 10]) (.seq (.rgn [⟨none, [(.ld 54 true 2 (.t 4)), (.mv 55 (.t 1)), (.call 56 38 [(.t 54), (.t 55)]), (.mv 53 (.t 56)), (.ext 57 (.t 53) 0), (.ext 58 (.t 53) 1), (.mv 11 (.t 57)), (.mv 12 (.t 58))]⟩] [1, 2, 3, 4, 9, 10, 11, 12]) (.seq (.rgn [⟨none, [(.ld 60 true 2 (.t 4)), (.mv 61 (.t 1)), (.call 62 32 [(.t 60), (.t 61)]), (.mv 59 (.t 62)), (.ext 63 (.t 59) 0), (.ext 64 (.t 59) 1), (.mv 13 (.t 63)), (.mv 14 (.t 64))]⟩] [1, 2, 3, 4, 9, 10, 11, 12, 13, 14]) (.seq (.seq (.rgn [⟨none, [(.mv 65 (.t 10)), (.bin 66 .neq (.t 65) (.k (I 0))), (.mv 67 (.t 66))]⟩, ⟨(some (67, false)), [(.mv 68 (.t 12)), (.bin 69 .neq (.t 68) (.k (I 0)))]⟩, ⟨none, [(.pick 70 (.t 67) (.k (B true)) (.t 69)), (.mv 71 (.t 70))]⟩, ⟨(some (71, false)), [(.mv 72 (.t 14)), (.bin 73 .neq (.t 72) (.k (I 0)))]⟩, ⟨none, [(.pick 74 (.t 71) (.k (B true)) (.t 73)), (.mv 75 (.t 74))]⟩, ⟨(some (75, false)), [(.mv 76 (.t 11)), (.len 77 (.t 76)), (.mv 78 (.t 9)), (.len 79 (.t 78)), (.bin 80 .neq (.t 77) (.t 79))]⟩, ⟨none, [(.pick 81 (.t 75) (.k (B true)) (.t 80)), (.mv 82 (.t 81))]⟩, ⟨(some (82, false)), [(.mv 83 (.t 9)), (.len 84 (.t 83)), (.mv 85 (.t 1)), (.len 86 (.t 85)), (.bin 87 .gtr (.t 84) (.t 86))]⟩, ⟨none, [(.pick 88 (.t 82) (.k (B true)) (.t 87))]⟩] [1, 2, 3, 4, 9, 11, 13, 88]) (.cond (.t 88) (.seq (.rgn [⟨none, [(.mv 8 (.k (B false)))]⟩] [8]) .ret) .skip)) (.seq (.rgn [⟨none, [(.mv 15 (.k (.sl true 0 [])))]⟩] [1, 2, 3, 4, 9, 11, 13, 15]) (.seq (.seq (.rgn [⟨none, [(.mv 16 (.k (I 0)))]⟩] [1, 2, 3, 4, 9, 11, 13, 15, 16]) (.block 0 (.loop (.seq (.seq (.rgn [⟨none, [(.mv 89 (.t 16)), (.mv 90 (.t 9)), (.len 91 (.t 90)), (.bin 92 .lss (.t 89) (.t 91))]⟩] [1, 2, 3, 4, 9, 11, 13, 15, 16, 92]) (.cond (.t 92) .skip (.exit 0))) (.seq (.block 1 (.seq (.seq (.drw [⟨none, [(.mv 95 (.t 9)), (.mv 96 (.t 16)), (.ia 97 1 (.t 95) (.t 96)), (.ld 98 false 1 (.t 97)), (.len 99 (.t 98)), (.bin 100 .lss (.t 99) (.k (I 1))), (.mv 101 (.t 100))]⟩, ⟨(some (101, false)), [(.mv 102 (.t 9)), (.mv 103 (.t 16)), (.ia 104 1 (.t 102) (.t 103)), (.ld 105 false 1 (.t 104)), (.len 106 (.t 105)), (.fa 107 (.t 4) 0), (.ld 108 false 1 (.t 107)), (.bin 109 .gtr (.t 106) (.t 108))]⟩, ⟨none, [(.pick 110 (.t 101) (.k (B true)) (.t 109))]⟩] [(10, 13)] [1, 2, 3, 4, 9, 11, 13, 15, 16, 110]) (.cond (.t 110) (.seq (.rgn [⟨none, [(.mv 8 (.k (B false)))]⟩] [8]) .ret) .skip)) (.seq (.seq (.rgn [⟨none, [(.mv 17 (.k (I 0)))]⟩] [1, 2, 3, 4, 9, 11, 13, 15, 16, 17]) (.block 2 (.loop (.seq (.seq (.rgn [⟨none, [(.mv 111 (.t 17)), (.mv 112 (.t 9)), (.mv 113 (.t 16)), (.ia 114 1 (.t 112) (.t 113)), (.ld 115 false 1 (.t 114)), (.len 116 (.t 115)), (.bin 117 .lss (.t 111) (.t 116))]⟩] [1, 2, 3, 4, 9, 11, 13, 15, 16, 17, 117]) (.cond (.t 117) .skip (.exit 2))) (.seq (.block 3 (.seq (.seq (.drw [⟨none, [(.ld 120 true 2 (.t 4)), (.mv 121 (.t 9)), (.mv 122 (.t 16)), (.ia 123 1 (.t 121) (.t 122)), (.ld 124 false 1 (.t 123)), (.mv 125 (.t 17)), (.ia 126 1 (.t 124) (.t 125)), (.ld 127 false 1 (.t 126)), (.call 128 51 [(.t 120), (.t 127)]), (.un 129 .not (.t 128))]⟩] [(0, 4), (0, 7)] [1, 2, 3, 4, 9, 11, 13, 15, 16, 17, 129]) (.cond (.t 129) (.seq (.rgn [⟨none, [(.mv 8 (.k (B false)))]⟩] [8]) .ret) .skip)) (.seq (.rgn [⟨none, [(.mv 18 (.k (I 0)))]⟩] [1, 2, 3, 4, 9, 11, 13, 15, 16, 17, 18]) (.block 4 (.loop (.seq (.seq (.rgn [⟨none, [(.mv 130 (.t 18)), (.mv 131 (.t 17)), (.bin 132 .lss (.t 130) (.t 131))]⟩] [1, 2, 3, 4, 9, 11, 13, 15, 16, 17, 18, 132]) (.cond (.t 132) .skip (.exit 4))) (.seq (.block 5 (.seq (.drw [⟨none, [(.ld 135 true 2 (.t 4)), (.mv 136 (.t 9)), (.mv 137 (.t 16)), (.ia 138 1 (.t 136) (.t 137)), (.ld 139 false 1 (.t 138)), (.mv 140 (.t 18)), (.ia 141 1 (.t 139) (.t 140)), (.ld 142 false 1 (.t 141)), (.mv 143 (.t 9)), (.mv 144 (.t 16)), (.ia 145 1 (.t 143) (.t 144)), (.ld 146 false 1 (.t 145)), (.mv 147 (.t 17)), (.ia 148 1 (.t 146) (.t 147)), (.ld 149 false 1 (.t 148)), (.call 150 52 [(.t 135), (.t 142), (.t 149)]), (.un 151 .not (.t 150))]⟩] [(0, 4), (0, 7), (0, 11), (4, 11), (7, 11), (0, 14), (4, 14), (7, 14)] [1, 2, 3, 4, 9, 11, 13, 15, 16, 17, 18, 151]) (.cond (.t 151) (.seq (.rgn [⟨none, [(.mv 8 (.k (B false)))]⟩] [8]) .ret) .skip))) (.rgn [⟨none, [(.mv 133 (.t 18)), (.bin 134 .add (.t 133) (.k (I 1))), (.mv 18 (.t 134))]⟩] [1, 2, 3, 4, 9, 11, 13, 15, 16, 17, 18])))))))) (.rgn [⟨none, [(.mv 118 (.t 17)), (.bin 119 .add (.t 118) (.k (I 1))), (.mv 17 (.t 119))]⟩] [1, 2, 3, 4, 9, 11, 13, 15, 16, 17])))))) (.rgn [⟨none, [(.mv 152 (.t 15)), (.mv 153 (.t 9)), (.mv 154 (.t 16)), (.ia 155 1 (.t 153) (.t 154)), (.ld 156 false 1 (.t 155)), (.app 157 1 8 (.t 152) (.t 156)), (.mv 15 (.t 157))]⟩] [1, 2, 3, 4, 9, 11, 13, 15, 16])))) (.rgn [⟨none, [(.mv 93 (.t 16)), (.bin 94 .add (.t 93) (.k (I 1))), (.mv 16 (.t 94))]⟩] [1, 2, 3, 4, 9, 11, 13, 15, 16])))))) (.seq (.seq (.rgn [⟨none, [(.mv 158 (.t 15)), (.len 159 (.t 158)), (.mv 160 (.t 1)), (.len 161 (.t 160)), (.bin 162 .gtr (.t 159) (.t 161)), (.mv 163 (.t 162))]⟩, ⟨(some (163, false)), [(.ld 164 true 2 (.t 4)), (.mv 165 (.t 1)), (.mv 166 (.t 15)), (.call 167 27 [(.t 164), (.t 165), (.t 166)]), (.bin 168 .neq (.t 167) (.k (I 0)))]⟩, ⟨none, [(.pick 169 (.t 163) (.k (B true)) (.t 168)), (.mv 170 (.t 169))]⟩, ⟨(some (170, false)), [(.mv 171 (.t 9)), (.len 172 (.t 171)), (.bin 173 .gtr (.t 172) (.k (I 0))), (.mv 174 (.t 173))]⟩, ⟨(some (174, true)), [(.mv 175 (.t 9)), (.ia 176 1 (.t 175) (.k (I 0))), (.ld 177 false 1 (.t 176)), (.mv 178 (.t 13)), (.call 179 26 [(.t 177), (.t 178)]), (.un 180 .not (.t 179))]⟩, ⟨(some (170, false)), [(.pick 181 (.t 174) (.t 180) (.k (B false)))]⟩, ⟨none, [(.pick 182 (.t 170) (.k (B true)) (.t 181)), (.mv 183 (.t 182))]⟩, ⟨(some (183, false)), [(.mv 184 (.t 9)), (.len 185 (.t 184)), (.bin 186 .eql (.t 185) (.k (I 0))), (.mv 187 (.t 186))]⟩, ⟨(some (187, true)), [(.mv 188 (.t 13)), (.len 189 (.t 188)), (.bin 190 .neq (.t 189) (.k (I 0)))]⟩, ⟨(some (183, false)), [(.pick 191 (.t 187) (.t 190) (.k (B false)))]⟩, ⟨none, [(.pick 192 (.t 183) (.k (B true)) (.t 191))]⟩] [1, 2, 3, 4, 9, 11, 192]) (.cond (.t 192) (.seq (.rgn [⟨none, [(.mv 8 (.k (B false)))]⟩] [8]) .ret) .skip)) (.seq (.rgn [⟨none, [(.ld 194 true 2 (.t 4)), (.mv 195 (.t 1)), (.mv 196 (.t 11)), (.call 197 36 [(.t 194), (.t 195), (.t 196)]), (.mv 193 (.t 197)), (.ext 198 (.t 193) 0), (.ext 199 (.t 193) 1), (.mv 19 (.t 198)), (.mv 20 (.t 199))]⟩] [1, 2, 3, 4, 9, 19, 20]) (.seq (.seq (.rgn [⟨none, [(.mv 200 (.t 20)), (.bin 201 .neq (.t 200) (.k (I 0))), (.mv 202 (.t 201))]⟩, ⟨(some (202, false)), [(.mv 203 (.t 19)), (.mv 204 (.t 9)), (.len 205 (.t 204)), (.bin 206 .neq (.t 203) (.t 205))]⟩, ⟨none, [(.pick 207 (.t 202) (.k (B true)) (.t 206))]⟩] [1, 2, 3, 4, 19, 207]) (.cond (.t 207) (.seq (.rgn [⟨none, [(.mv 8 (.k (B false)))]⟩] [8]) .ret) .skip)) (.seq (.rgn [⟨none, [(.ld 209 true 2 (.t 4)), (.mv 210 (.t 1)), (.mv 211 (.t 2)), (.call 212 48 [(.t 209), (.t 210), (.t 211)]), (.mv 208 (.t 212)), (.ext 213 (.t 208) 0), (.ext 214 (.t 208) 1), (.mv 21 (.t 213)), (.mv 22 (.t 214))]⟩] [1, 3, 4, 19, 21]) (.seq (.rgn [⟨none, [(.mv 23 (.k (I 0)))]⟩] [1, 3, 4, 19, 21, 23]) (.seq (.seq (.rgn [⟨none, [(.mv 24 (.k (I 0)))]⟩] [1, 3, 4, 19, 21, 23, 24]) (.block 6 (.loop (.seq (.seq (.rgn [⟨none, [(.mv 215 (.t 24)), (.mv 216 (.t 21)), (.len 217 (.t 216)), (.bin 218 .lss (.t 215) (.t 217))]⟩] [1, 3, 4, 19, 21, 23, 24, 218]) (.cond (.t 218) .skip (.exit 6))) (.block 7 (.seq (.rgn [⟨none, [(.mv 219 (.t 24)), (.bin 220 .add (.t 219) (.k (I 1))), (.mv 25 (.t 220))]⟩] [1, 3, 4, 19, 21, 23, 24, 25]) (.seq (.block 8 (.loop (.seq (.seq (.drw [⟨none, [(.mv 221 (.t 25)), (.mv 222 (.t 21)), (.len 223 (.t 222)), (.bin 224 .lss (.t 221) (.t 223)), (.mv 225 (.t 224))]⟩, ⟨(some (225, true)), [(.ld 226 true 2 (.t 4)), (.mv 227 (.t 21)), (.mv 228 (.t 24)), (.mv 229 (.t 25)), (.slc 230 1 (.t 227) (some (.t 228)) (some (.t 229)) none), (.mv 231 (.t 21)), (.mv 232 (.t 25)), (.ia 233 1 (.t 231) (.t 232)), (.ld 234 false 1 (.t 233)), (.call 235 53 [(.t 226), (.t 230), (.t 234)])]⟩, ⟨none, [(.pick 236 (.t 225) (.t 235) (.k (B false)))]⟩] [(5, 13)] [1, 3, 4, 19, 21, 23, 24, 25, 236]) (.cond (.t 236) .skip (.exit 8))) (.block 9 (.rgn [⟨none, [(.mv 237 (.t 25)), (.bin 238 .add (.t 237) (.k (I 1))), (.mv 25 (.t 238))]⟩] [1, 3, 4, 19, 21, 23, 24, 25]))))) (.seq (.rgn [⟨none, [(.mv 239 (.t 23)), (.bin 240 .add (.t 239) (.k (I 1))), (.mv 23 (.t 240))]⟩] [1, 3, 4, 19, 21, 23, 25]) (.rgn [⟨none, [(.mv 241 (.t 25)), (.mv 24 (.t 241))]⟩] [1, 3, 4, 19, 21, 23, 24]))))))))) (.seq (.rgn [⟨none, [(.ld 243 true 2 (.t 4)), (.mv 244 (.t 1)), (.mv 245 (.t 3)), (.call 246 36 [(.t 243), (.t 244), (.t 245)]), (.mv 242 (.t 246)), (.ext 247 (.t 242) 0), (.ext 248 (.t 242) 1), (.mv 26 (.t 247)), (.mv 20 (.t 248))]⟩] [19, 20, 23, 26]) (.seq (.rgn [⟨none, [(.mv 249 (.t 23)), (.mv 250 (.t 19)), (.bin 251 .geq (.t 249) (.t 250)), (.mv 252 (.t 251))]⟩, ⟨(some (252, true)), [(.mv 253 (.t 20)), (.bin 254 .neq (.t 253) (.k (I 0))), (.mv 255 (.t 254))]⟩, ⟨(some (255, false)), [(.mv 256 (.t 26)), (.mv 257 (.t 19)), (.bin 258 .leq (.t 256) (.t 257))]⟩, ⟨(some (252, true)), [(.pick 259 (.t 255) (.k (B true)) (.t 258))]⟩, ⟨none, [(.pick 260 (.t 252) (.t 259) (.k (B false))), (.mv 261 (.t 260))]⟩, ⟨(some (261, true)), [(.call 262 19 [])]⟩, ⟨none, [(.pick 263 (.t 261) (.t 262) (.k (B false))), (.mv 8 (.t 263))]⟩] [8]) .ret))))))))))))))))
theorem form13 : formOf Try.prog Try.f13 [8] = some G13 := by kernel_rfl
theorem res13 : resTmps Try.f13.results.toList = some [8] := by kernel_rfl

/-- oxgall/oxgalllaw02.StrokeFar -/
def G14 : AC := (.seq (.rgn [⟨none, [(.box 5 2 (.t 0)), (.mv 10 (.k (B false)))]⟩] [1, 2, 3, 4, 5]) (.seq (.seq (.rgn [⟨none, [(.ld 22 true 2 (.t 5)), (.mv 23 (.t 1)), (.call 24 47 [(.t 22), (.t 23)]), (.un 25 .not (.t 24)), (.mv 26 (.t 25))]⟩, ⟨(some (26, false)), [(.ld 27 true 2 (.t 5)), (.mv 28 (.t 2)), (.call 29 47 [(.t 27), (.t 28)]), (.un 30 .not (.t 29))]⟩, ⟨none, [(.pick 31 (.t 26) (.k (B true)) (.t 30)), (.mv 32 (.t 31))]⟩, ⟨(some (32, false)), [(.ld 33 true 2 (.t 5)), (.mv 34 (.t 3)), (.call 35 47 [(.t 33), (.t 34)]), (.un 36 .not (.t 35))]⟩, ⟨none, [(.pick 37 (.t 32) (.k (B true)) (.t 36)), (.mv 38 (.t 37))]⟩, ⟨(some (38, false)), [(.mv 39 (.t 1)), (.len 40 (.t 39)), (.bin 41 .gtr (.t 40) (.k (I 25)))]⟩, ⟨none, [(.pick 42 (.t 38) (.k (B true)) (.t 41)), (.mv 43 (.t 42))]⟩, ⟨(some (43, false)), [(.mv 44 (.t 2)), (.len 45 (.t 44)), (.bin 46 .gtr (.t 45) (.k (I 25)))]⟩, ⟨none, [(.pick 47 (.t 43) (.k (B true)) (.t 46)), (.mv 48 (.t 47))]⟩, ⟨(some (48, false)), [(.mv 49 (.t 3)), (.len 50 (.t 49)), (.bin 51 .gtr (.t 50) (.k (I 25)))]⟩, ⟨none, [(.pick 52 (.t 48) (.k (B true)) (.t 51))]⟩] [1, 2, 3, 4, 5, 52]) (.cond (.t 52) (.seq (.rgn [⟨none, [(.call 53 19 []), (.mv 10 (.t 53))]⟩] [10]) .ret) .skip)) (.seq (.rgn [⟨none, [(.ld 55 true 2 (.t 5)), (.mv 56 (.t 1)), (.mv 57 (.t 2)), (.call 58 43 [(.t 55), (.t 56), (.t 57)]), (.mv 54 (.t 58)), (.ext 59 (.t 54) 0), (.ext 60 (.t 54) 1), (.mv 11 (.t 59)), (.mv 12 (.t 60))]⟩] [1, 2, 3, 4, 5, 11, 12]) (.seq (.rgn [⟨none, [(.ld 62 true 2 (.t 5)), (.mv 63 (.t 2)), (.mv 64 (.t 1)), (.call 65 43 [(.t 62), (.t 63), (.t 64)]), (.mv 61 (.t 65)), (.ext 66 (.t 61) 0), (.ext 67 (.t 61) 1), (.mv 13 (.t 66)), (.mv 14 (.t 67))]⟩] [1, 2, 3, 4, 5, 11, 12, 13, 14]) (.seq (.rgn [⟨none, [(.ld 69 true 2 (.t 5)), (.mv 70 (.t 2)), (.mv 71 (.t 3)), (.call 72 43 [(.t 69), (.t 70), (.t 71)]), (.mv 68 (.t 72)), (.ext 73 (.t 68) 0), (.ext 74 (.t 68) 1), (.mv 15 (.t 73)), (.mv 16 (.t 74))]⟩] [1, 2, 3, 4, 5, 11, 12, 13, 14, 15, 16]) (.seq (.rgn [⟨none, [(.ld 76 true 2 (.t 5)), (.mv 77 (.t 1)), (.mv 78 (.t 3)), (.call 79 43 [(.t 76), (.t 77), (.t 78)]), (.mv 75 (.t 79)), (.ext 80 (.t 75) 0), (.ext 81 (.t 75) 1), (.mv 17 (.t 80)), (.mv 18 (.t 81))]⟩] [1, 2, 4, 5, 11, 12, 13, 14, 15, 16, 17, 18]) (.seq (.seq (.rgn [⟨none, [(.mv 82 (.t 12)), (.bin 83 .neq (.t 82) (.k (I 0))), (.mv 84 (.t 83))]⟩, ⟨(some (84, false)), [(.mv 85 (.t 14)), (.bin 86 .neq (.t 85) (.k (I 0)))]⟩, ⟨none, [(.pick 87 (.t 84) (.k (B true)) (.t 86)), (.mv 88 (.t 87))]⟩, ⟨(some (88, false)), [(.mv 89 (.t 16)), (.bin 90 .neq (.t 89) (.k (I 0)))]⟩, ⟨none, [(.pick 91 (.t 88) (.k (B true)) (.t 90)), (.mv 92 (.t 91))]⟩, ⟨(some (92, false)), [(.mv 93 (.t 18)), (.bin 94 .neq (.t 93) (.k (I 0)))]⟩, ⟨none, [(.pick 95 (.t 92) (.k (B true)) (.t 94)), (.mv 96 (.t 95))]⟩, ⟨(some (96, false)), [(.mv 97 (.t 11)), (.len 98 (.t 97)), (.mv 99 (.t 13)), (.len 100 (.t 99)), (.bin 101 .neq (.t 98) (.t 100))]⟩, ⟨none, [(.pick 102 (.t 96) (.k (B true)) (.t 101)), (.mv 103 (.t 102))]⟩, ⟨(some (103, false)), [(.mv 104 (.t 17)), (.len 105 (.t 104)), (.mv 106 (.t 11)), (.len 107 (.t 106)), (.mv 108 (.t 15)), (.len 109 (.t 108)), (.bin 110 .add (.t 107) (.t 109)), (.bin 111 .gtr (.t 105) (.t 110))]⟩, ⟨none, [(.pick 112 (.t 103) (.k (B true)) (.t 111)), (.mv 113 (.t 112))]⟩, ⟨(some (113, false)), [(.mv 114 (.t 11)), (.len 115 (.t 114)), (.mv 116 (.t 1)), (.len 117 (.t 116)), (.mv 118 (.t 2)), (.len 119 (.t 118)), (.bin 120 .add (.t 117) (.t 119)), (.bin 121 .gtr (.t 115) (.t 120))]⟩, ⟨none, [(.pick 122 (.t 113) (.k (B true)) (.t 121)), (.mv 123 (.t 122))]⟩, ⟨(some (123, false)), [(.ld 124 true 2 (.t 5)), (.mv 125 (.t 11)), (.call 126 47 [(.t 124), (.t 125)]), (.un 127 .not (.t 126))]⟩, ⟨none, [(.pick 128 (.t 123) (.k (B true)) (.t 127))]⟩] [1, 2, 4, 5, 11, 128]) (.cond (.t 128) (.seq (.rgn [⟨none, [(.mv 10 (.k (B false)))]⟩] [10]) .ret) .skip)) (.seq (.seq (.drw [⟨none, [(.mv 129 (.t 11)), (.len 130 (.t 129)), (.bin 131 .eql (.t 130) (.k (I 0))), (.ld 132 true 2 (.t 5)), (.mv 133 (.t 1)), (.mv 134 (.t 2)), (.call 135 27 [(.t 132), (.t 133), (.t 134)]), (.bin 136 .eql (.t 135) (.k (I 0))), (.eqk 137 true (false, [.bool]) (.t 131) (.t 136)), (.mv 138 (.t 137))]⟩, ⟨(some (138, false)), [(.mv 139 (.t 1)), (.len 140 (.t 139)), (.mv 141 (.t 11)), (.len 142 (.t 141)), (.bin 143 .add (.t 140) (.t 142)), (.bin 144 .leq (.t 143) (.k (I 60))), (.mv 145 (.t 144))]⟩, ⟨(some (145, true)), [(.ld 146 true 2 (.t 5)), (.bsl 147 0 1 [(I 0)] []), (.mv 148 (.t 1)), (.app 149 1 8 (.t 147) (.t 148)), (.mv 150 (.t 11)), (.app 151 1 8 (.t 149) (.t 150)), (.mv 152 (.t 2)), (.call 153 27 [(.t 146), (.t 151), (.t 152)]), (.bin 154 .neq (.t 153) (.k (I 0)))]⟩, ⟨(some (138, false)), [(.pick 155 (.t 145) (.t 154) (.k (B false)))]⟩, ⟨none, [(.pick 156 (.t 138) (.k (B true)) (.t 155))]⟩] [(17, 18), (17, 20), (17, 22)] [1, 4, 5, 156]) (.cond (.t 156) (.seq (.rgn [⟨none, [(.mv 10 (.k (B false)))]⟩] [10]) .ret) .skip)) (.seq (.rgn [⟨none, [(.mv 157 (.t 4)), (.cnv 158 .i64 (.t 157)), (.fa 159 (.t 5) 0), (.ld 160 false 1 (.t 159)), (.bin 161 .rem (.t 158) (.t 160)), (.bin 162 .add (.k (I 1)) (.t 161)), (.mv 19 (.t 162))]⟩] [1, 4, 5, 19]) (.seq (.seq (.rgn [⟨none, [(.mv 163 (.t 4)), (.bin 164 .geq (.t 163) (.k (.v (.int .u8 128))))]⟩] [1, 5, 19, 164]) (.cond (.t 164) (.rgn [⟨none, [(.mv 165 (.t 19)), (.un 166 .neg (.t 165)), (.mv 19 (.t 166))]⟩] [1, 5, 19]) .skip)) (.seq (.rgn [⟨none, [(.ld 168 true 2 (.t 5)), (.mv 169 (.t 1)), (.call 170 24 [(.t 168), (.t 169)]), (.mv 167 (.t 170)), (.ext 171 (.t 167) 0), (.ext 172 (.t 167) 1), (.mv 20 (.t 171)), (.mv 12 (.t 172))]⟩] [1, 5, 12, 19, 20]) (.seq (.drw [⟨none, [(.ld 174 true 2 (.t 5)), (.bsl 175 0 1 [(I 0)] []), (.mv 176 (.t 1)), (.app 177 1 8 (.t 175) (.t 176)), (.mv 178 (.t 19)), (.bsl 179 1 1 [(I 0)] [(0, (.t 178))]), (.app 180 1 8 (.t 177) (.t 179)), (.call 181 24 [(.t 174), (.t 180)]), (.mv 173 (.t 181)), (.ext 182 (.t 173) 0), (.ext 183 (.t 173) 1), (.mv 21 (.t 182)), (.mv 14 (.t 183))]⟩] [(0, 1), (0, 3), (0, 5), (1, 5), (3, 5), (0, 6)] [12, 14, 20, 21]) (.seq (.rgn [⟨none, [(.mv 184 (.t 12)), (.bin 185 .eql (.t 184) (.k (I 0))), (.mv 186 (.t 185))]⟩, ⟨(some (186, true)), [(.mv 187 (.t 14)), (.bin 188 .eql (.t 187) (.k (I 0)))]⟩, ⟨none, [(.pick 189 (.t 186) (.t 188) (.k (B false))), (.mv 190 (.t 189))]⟩, ⟨(some (190, true)), [(.mv 191 (.t 21)), (.len 192 (.t 191)), (.mv 193 (.t 20)), (.len 194 (.t 193)), (.bin 195 .add (.t 194) (.k (I 1))), (.bin 196 .eql (.t 192) (.t 195)), (.mv 197 (.t 196))]⟩, ⟨(some (197, false)), [(.mv 198 (.t 21)), (.len 199 (.t 198)), (.mv 200 (.t 20)), (.len 201 (.t 200)), (.bin 202 .sub (.t 201) (.k (I 1))), (.bin 203 .eql (.t 199) (.t 202))]⟩, ⟨(some (190, true)), [(.pick 204 (.t 197) (.k (B true)) (.t 203))]⟩, ⟨none, [(.pick 205 (.t 190) (.t 204) (.k (B false))), (.mv 206 (.t 205))]⟩, ⟨(some (206, true)), [(.call 207 19 [])]⟩, ⟨none, [(.pick 208 (.t 206) (.t 207) (.k (B false))), (.mv 10 (.t 208))]⟩] [10]) .ret)))))))))))))
theorem form14 : formOf Try.prog Try.f14 [10] = some G14 := by kernel_rfl
theorem res14 : resTmps Try.f14.results.toList = some [10] := by kernel_rfl

/-- oxgall/oxgalllaw02.StrokeMeet -/
def G15 : AC := (.seq (.rgn [⟨none, [(.box 4 2 (.t 0)), (.mv 8 (.k (B false)))]⟩] [1, 2, 3, 4]) (.seq (.seq (.rgn [⟨none, [(.ld 29 true 2 (.t 4)), (.mv 30 (.t 1)), (.call 31 47 [(.t 29), (.t 30)]), (.un 32 .not (.t 31)), (.mv 33 (.t 32))]⟩, ⟨(some (33, false)), [(.ld 34 true 2 (.t 4)), (.mv 35 (.t 2)), (.call 36 47 [(.t 34), (.t 35)]), (.un 37 .not (.t 36))]⟩, ⟨none, [(.pick 38 (.t 33) (.k (B true)) (.t 37)), (.mv 39 (.t 38))]⟩, ⟨(some (39, false)), [(.ld 40 true 2 (.t 4)), (.mv 41 (.t 3)), (.call 42 47 [(.t 40), (.t 41)]), (.un 43 .not (.t 42))]⟩, ⟨none, [(.pick 44 (.t 39) (.k (B true)) (.t 43)), (.mv 45 (.t 44))]⟩, ⟨(some (45, false)), [(.mv 46 (.t 1)), (.len 47 (.t 46)), (.bin 48 .gtr (.t 47) (.k (I 20)))]⟩, ⟨none, [(.pick 49 (.t 45) (.k (B true)) (.t 48)), (.mv 50 (.t 49))]⟩, ⟨(some (50, false)), [(.mv 51 (.t 2)), (.len 52 (.t 51)), (.bin 53 .gtr (.t 52) (.k (I 20)))]⟩, ⟨none, [(.pick 54 (.t 50) (.k (B true)) (.t 53)), (.mv 55 (.t 54))]⟩, ⟨(some (55, false)), [(.mv 56 (.t 3)), (.len 57 (.t 56)), (.bin 58 .gtr (.t 57) (.k (I 20)))]⟩, ⟨none, [(.pick 59 (.t 55) (.k (B true)) (.t 58))]⟩] [1, 2, 3, 4, 59]) (.cond (.t 59) (.seq (.rgn [⟨none, [(.call 60 19 []), (.mv 8 (.t 60))]⟩] [8]) .ret) .skip)) (.seq (.rgn [⟨none, [(.ld 62 true 2 (.t 4)), (.mv 63 (.t 1)), (.call 64 24 [(.t 62), (.t 63)]), (.mv 61 (.t 64)), (.ext 65 (.t 61) 0), (.ext 66 (.t 61) 1), (.mv 9 (.t 65)), (.mv 10 (.t 66))]⟩] [1, 2, 3, 4, 9, 10]) (.seq (.rgn [⟨none, [(.ld 68 true 2 (.t 4)), (.mv 69 (.t 2)), (.call 70 24 [(.t 68), (.t 69)]), (.mv 67 (.t 70)), (.ext 71 (.t 67) 0), (.ext 72 (.t 67) 1), (.mv 11 (.t 71)), (.mv 12 (.t 72))]⟩] [1, 2, 3, 4, 9, 10, 11, 12]) (.seq (.rgn [⟨none, [(.ld 74 true 2 (.t 4)), (.mv 75 (.t 1)), (.mv 76 (.t 2)), (.call 77 45 [(.t 74), (.t 75), (.t 76)]), (.mv 73 (.t 77)), (.ext 78 (.t 73) 0), (.ext 79 (.t 73) 1), (.mv 13 (.t 78)), (.mv 14 (.t 79))]⟩] [1, 2, 3, 4, 9, 10, 11, 12, 13, 14]) (.seq (.rgn [⟨none, [(.ld 81 true 2 (.t 4)), (.mv 82 (.t 2)), (.mv 83 (.t 1)), (.call 84 45 [(.t 81), (.t 82), (.t 83)]), (.mv 80 (.t 84)), (.ext 85 (.t 80) 0), (.ext 86 (.t 80) 1), (.mv 15 (.t 85)), (.mv 16 (.t 86))]⟩] [1, 2, 3, 4, 9, 10, 11, 12, 13, 14, 15, 16]) (.seq (.rgn [⟨none, [(.ld 88 true 2 (.t 4)), (.mv 89 (.t 1)), (.mv 90 (.t 2)), (.call 91 43 [(.t 88), (.t 89), (.t 90)]), (.mv 87 (.t 91)), (.ext 92 (.t 87) 0), (.ext 93 (.t 87) 1), (.mv 17 (.t 92)), (.mv 18 (.t 93))]⟩] [1, 2, 3, 4, 9, 10, 11, 12, 13, 14, 15, 16, 17, 18]) (.seq (.seq (.rgn [⟨none, [(.mv 94 (.t 10)), (.bin 95 .neq (.t 94) (.k (I 0))), (.mv 96 (.t 95))]⟩, ⟨(some (96, false)), [(.mv 97 (.t 12)), (.bin 98 .neq (.t 97) (.k (I 0)))]⟩, ⟨none, [(.pick 99 (.t 96) (.k (B true)) (.t 98)), (.mv 100 (.t 99))]⟩, ⟨(some (100, false)), [(.mv 101 (.t 14)), (.bin 102 .neq (.t 101) (.k (I 0)))]⟩, ⟨none, [(.pick 103 (.t 100) (.k (B true)) (.t 102)), (.mv 104 (.t 103))]⟩, ⟨(some (104, false)), [(.mv 105 (.t 16)), (.bin 106 .neq (.t 105) (.k (I 0)))]⟩, ⟨none, [(.pick 107 (.t 104) (.k (B true)) (.t 106)), (.mv 108 (.t 107))]⟩, ⟨(some (108, false)), [(.mv 109 (.t 18)), (.bin 110 .neq (.t 109) (.k (I 0)))]⟩, ⟨none, [(.pick 111 (.t 108) (.k (B true)) (.t 110)), (.mv 112 (.t 111))]⟩, ⟨(some (112, false)), [(.ld 113 true 2 (.t 4)), (.mv 114 (.t 13)), (.call 115 47 [(.t 113), (.t 114)]), (.un 116 .not (.t 115))]⟩, ⟨none, [(.pick 117 (.t 112) (.k (B true)) (.t 116)), (.mv 118 (.t 117))]⟩, ⟨(some (118, false)), [(.mv 119 (.t 13)), (.mv 120 (.t 15)), (.call 121 26 [(.t 119), (.t 120)]), (.un 122 .not (.t 121))]⟩, ⟨none, [(.pick 123 (.t 118) (.k (B true)) (.t 122)), (.mv 124 (.t 123))]⟩, ⟨(some (124, false)), [(.mv 125 (.t 9)), (.len 126 (.t 125)), (.mv 127 (.t 11)), (.len 128 (.t 127)), (.bin 129 .add (.t 126) (.t 128)), (.mv 130 (.t 17)), (.len 131 (.t 130)), (.mv 132 (.t 13)), (.len 133 (.t 132)), (.bin 134 .mul (.k (I 2)) (.t 133)), (.bin 135 .add (.t 131) (.t 134)), (.bin 136 .neq (.t 129) (.t 135))]⟩, ⟨none, [(.pick 137 (.t 124) (.k (B true)) (.t 136))]⟩] [1, 2, 3, 4, 9, 11, 13, 137]) (.cond (.t 137) (.seq (.rgn [⟨none, [(.mv 8 (.k (B false)))]⟩] [8]) .ret) .skip)) (.seq (.rgn [⟨none, [(.ld 139 true 2 (.t 4)), (.mv 140 (.t 13)), (.mv 141 (.t 1)), (.call 142 43 [(.t 139), (.t 140), (.t 141)]), (.mv 138 (.t 142)), (.ext 143 (.t 138) 0), (.ext 144 (.t 138) 1), (.mv 19 (.t 143)), (.mv 10 (.t 144))]⟩] [1, 2, 3, 4, 9, 10, 11, 13, 19]) (.seq (.rgn [⟨none, [(.ld 146 true 2 (.t 4)), (.mv 147 (.t 13)), (.mv 148 (.t 2)), (.call 149 43 [(.t 146), (.t 147), (.t 148)]), (.mv 145 (.t 149)), (.ext 150 (.t 145) 0), (.ext 151 (.t 145) 1), (.mv 20 (.t 150)), (.mv 12 (.t 151))]⟩] [1, 2, 3, 4, 9, 10, 11, 12, 13, 19, 20]) (.seq (.seq (.rgn [⟨none, [(.mv 152 (.t 10)), (.bin 153 .neq (.t 152) (.k (I 0))), (.mv 154 (.t 153))]⟩, ⟨(some (154, false)), [(.mv 155 (.t 12)), (.bin 156 .neq (.t 155) (.k (I 0)))]⟩, ⟨none, [(.pick 157 (.t 154) (.k (B true)) (.t 156)), (.mv 158 (.t 157))]⟩, ⟨(some (158, false)), [(.mv 159 (.t 13)), (.len 160 (.t 159)), (.mv 161 (.t 19)), (.len 162 (.t 161)), (.bin 163 .add (.t 160) (.t 162)), (.mv 164 (.t 9)), (.len 165 (.t 164)), (.bin 166 .neq (.t 163) (.t 165))]⟩, ⟨none, [(.pick 167 (.t 158) (.k (B true)) (.t 166)), (.mv 168 (.t 167))]⟩, ⟨(some (168, false)), [(.mv 169 (.t 13)), (.len 170 (.t 169)), (.mv 171 (.t 20)), (.len 172 (.t 171)), (.bin 173 .add (.t 170) (.t 172)), (.mv 174 (.t 11)), (.len 175 (.t 174)), (.bin 176 .neq (.t 173) (.t 175))]⟩, ⟨none, [(.pick 177 (.t 168) (.k (B true)) (.t 176))]⟩] [1, 2, 3, 4, 9, 11, 177]) (.cond (.t 177) (.seq (.rgn [⟨none, [(.mv 8 (.k (B false)))]⟩] [8]) .ret) .skip)) (.seq (.rgn [⟨none, [(.bsl 178 0 1 [(I 0)] []), (.mv 179 (.t 3)), (.app 180 1 8 (.t 178) (.t 179)), (.mv 181 (.t 1)), (.app 182 1 8 (.t 180) (.t 181)), (.bsl 183 0 1 [(I 0)] []), (.mv 184 (.t 3)), (.app 185 1 8 (.t 183) (.t 184)), (.mv 186 (.t 2)), (.app 187 1 8 (.t 185) (.t 186)), (.mv 21 (.t 182)), (.mv 22 (.t 187))]⟩] [3, 4, 9, 11, 21, 22]) (.seq (.rgn [⟨none, [(.ld 189 true 2 (.t 4)), (.mv 190 (.t 3)), (.call 191 24 [(.t 189), (.t 190)]), (.mv 188 (.t 191)), (.ext 192 (.t 188) 0), (.ext 193 (.t 188) 1), (.mv 23 (.t 192)), (.mv 10 (.t 193))]⟩] [3, 4, 9, 10, 11, 21, 22, 23]) (.seq (.rgn [⟨none, [(.ld 195 true 2 (.t 4)), (.mv 196 (.t 21)), (.call 197 24 [(.t 195), (.t 196)]), (.mv 194 (.t 197)), (.ext 198 (.t 194) 0), (.ext 199 (.t 194) 1), (.mv 24 (.t 198)), (.mv 12 (.t 199))]⟩] [3, 4, 9, 10, 11, 12, 21, 22, 23, 24]) (.seq (.rgn [⟨none, [(.ld 201 true 2 (.t 4)), (.mv 202 (.t 22)), (.call 203 24 [(.t 201), (.t 202)]), (.mv 200 (.t 203)), (.ext 204 (.t 200) 0), (.ext 205 (.t 200) 1), (.mv 25 (.t 204)), (.mv 14 (.t 205))]⟩] [3, 4, 9, 10, 11, 12, 14, 21, 22, 23, 24, 25]) (.seq (.rgn [⟨none, [(.ld 207 true 2 (.t 4)), (.mv 208 (.t 21)), (.mv 209 (.t 22)), (.call 210 45 [(.t 207), (.t 208), (.t 209)]), (.mv 206 (.t 210)), (.ext 211 (.t 206) 0), (.ext 212 (.t 206) 1), (.mv 26 (.t 211)), (.mv 16 (.t 212))]⟩] [3, 4, 9, 10, 11, 12, 14, 16, 23, 24, 25, 26]) (.seq (.seq (.rgn [⟨none, [(.mv 213 (.t 10)), (.bin 214 .neq (.t 213) (.k (I 0))), (.mv 215 (.t 214))]⟩, ⟨(some (215, false)), [(.mv 216 (.t 12)), (.bin 217 .neq (.t 216) (.k (I 0)))]⟩, ⟨none, [(.pick 218 (.t 215) (.k (B true)) (.t 217)), (.mv 219 (.t 218))]⟩, ⟨(some (219, false)), [(.mv 220 (.t 14)), (.bin 221 .neq (.t 220) (.k (I 0)))]⟩, ⟨none, [(.pick 222 (.t 219) (.k (B true)) (.t 221)), (.mv 223 (.t 222))]⟩, ⟨(some (223, false)), [(.mv 224 (.t 16)), (.bin 225 .neq (.t 224) (.k (I 0)))]⟩, ⟨none, [(.pick 226 (.t 223) (.k (B true)) (.t 225)), (.mv 227 (.t 226))]⟩, ⟨(some (227, false)), [(.ld 228 true 2 (.t 4)), (.mv 229 (.t 26)), (.call 230 47 [(.t 228), (.t 229)]), (.un 231 .not (.t 230))]⟩, ⟨none, [(.pick 232 (.t 227) (.k (B true)) (.t 231))]⟩] [3, 4, 9, 11, 23, 24, 25, 26, 232]) (.cond (.t 232) (.seq (.rgn [⟨none, [(.mv 8 (.k (B false)))]⟩] [8]) .ret) .skip)) (.seq (.seq (.rgn [⟨none, [(.mv 233 (.t 24)), (.len 234 (.t 233)), (.mv 235 (.t 23)), (.len 236 (.t 235)), (.mv 237 (.t 9)), (.len 238 (.t 237)), (.bin 239 .add (.t 236) (.t 238)), (.bin 240 .neq (.t 234) (.t 239)), (.mv 241 (.t 240))]⟩, ⟨(some (241, false)), [(.mv 242 (.t 25)), (.len 243 (.t 242)), (.mv 244 (.t 23)), (.len 245 (.t 244)), (.mv 246 (.t 11)), (.len 247 (.t 246)), (.bin 248 .add (.t 245) (.t 247)), (.bin 249 .neq (.t 243) (.t 248))]⟩, ⟨none, [(.pick 250 (.t 241) (.k (B true)) (.t 249))]⟩] [3, 4, 23, 26, 250]) (.cond (.t 250) (.seq (.rgn [⟨none, [(.call 251 19 []), (.mv 8 (.t 251))]⟩] [8]) .ret) .skip)) (.seq (.rgn [⟨none, [(.ld 253 true 2 (.t 4)), (.mv 254 (.t 3)), (.mv 255 (.t 26)), (.call 256 43 [(.t 253), (.t 254), (.t 255)]), (.mv 252 (.t 256)), (.ext 257 (.t 252) 0), (.ext 258 (.t 252) 1), (.mv 27 (.t 257)), (.mv 28 (.t 258))]⟩] [23, 26, 27, 28]) (.seq (.rgn [⟨none, [(.mv 259 (.t 28)), (.bin 260 .eql (.t 259) (.k (I 0))), (.mv 261 (.t 260))]⟩, ⟨(some (261, true)), [(.mv 262 (.t 23)), (.len 263 (.t 262)), (.mv 264 (.t 27)), (.len 265 (.t 264)), (.bin 266 .add (.t 263) (.t 265)), (.mv 267 (.t 26)), (.len 268 (.t 267)), (.bin 269 .eql (.t 266) (.t 268))]⟩, ⟨none, [(.pick 270 (.t 261) (.t 269) (.k (B false))), (.mv 271 (.t 270))]⟩, ⟨(some (271, true)), [(.call 272 19 [])]⟩, ⟨none, [(.pick 273 (.t 271) (.t 272) (.k (B false))), (.mv 8 (.t 273))]⟩] [8]) .ret))))))))))))))))))))
theorem form15 : formOf Try.prog Try.f15 [8] = some G15 := by kernel_rfl
theorem res15 : resTmps Try.f15.results.toList = some [8] := by kernel_rfl

/-- oxgall/oxgalllaw02.StrokeCrossed -/
def G16 : AC := (.seq (.rgn [⟨none, [(.box 5 2 (.t 0)), (.box 9 2 (.t 4)), (.mv 10 (.k (B false)))]⟩] [1, 2, 3, 5, 9]) (.seq (.seq (.rgn [⟨none, [(.ld 20 true 2 (.t 5)), (.mv 21 (.t 1)), (.call 22 47 [(.t 20), (.t 21)]), (.un 23 .not (.t 22)), (.mv 24 (.t 23))]⟩, ⟨(some (24, false)), [(.ld 25 true 2 (.t 5)), (.mv 26 (.t 2)), (.call 27 47 [(.t 25), (.t 26)]), (.un 28 .not (.t 27))]⟩, ⟨none, [(.pick 29 (.t 24) (.k (B true)) (.t 28)), (.mv 30 (.t 29))]⟩, ⟨(some (30, false)), [(.mv 31 (.t 1)), (.len 32 (.t 31)), (.bin 33 .gtr (.t 32) (.k (I 50)))]⟩, ⟨none, [(.pick 34 (.t 30) (.k (B true)) (.t 33)), (.mv 35 (.t 34))]⟩, ⟨(some (35, false)), [(.mv 36 (.t 3)), (.len 37 (.t 36)), (.bin 38 .gtr (.t 37) (.k (I 60)))]⟩, ⟨none, [(.pick 39 (.t 35) (.k (B true)) (.t 38))]⟩] [1, 2, 3, 5, 9, 39]) (.cond (.t 39) (.seq (.rgn [⟨none, [(.call 40 19 []), (.mv 10 (.t 40))]⟩] [10]) .ret) .skip)) (.seq (.drw [⟨none, [(.iaa 41 2 1 (.t 9) (.k (I 0))), (.ld 42 false 1 (.t 41)), (.cnv 43 .i64 (.t 42)), (.fa 44 (.t 5) 0), (.ld 45 false 1 (.t 44)), (.bin 46 .rem (.t 43) (.t 45)), (.iaa 47 2 1 (.t 9) (.k (I 1))), (.ld 48 false 1 (.t 47)), (.cnv 49 .i64 (.t 48)), (.fa 50 (.t 5) 0), (.ld 51 false 1 (.t 50)), (.bin 52 .rem (.t 49) (.t 51)), (.mv 11 (.t 46)), (.mv 12 (.t 52))]⟩] [(1, 4), (1, 7), (4, 7), (1, 10), (4, 10), (7, 10)] [1, 2, 3, 5, 11, 12]) (.seq (.drw [⟨none, [(.fa 53 (.t 5) 0), (.ld 54 false 1 (.t 53)), (.bsl 55 0 2 [(I 0), (I 0)] []), (.fa 56 (.t 5) 1), (.ld 57 false 1 (.t 56)), (.app 58 2 16 (.t 55) (.t 57)), (.mv 59 (.t 11)), (.mv 60 (.t 12)), (.mx 61 false (.t 59) (.t 60)), (.mv 62 (.t 11)), (.mv 63 (.t 12)), (.mx 64 true (.t 62) (.t 63)), (.bld 65 [(I 0), (I 0)] [(0, 1, (.t 61)), (1, 1, (.t 64))]), (.bsl 66 1 2 [(I 0), (I 0)] [(0, (.t 65))]), (.app 67 2 16 (.t 58) (.t 66)), (.bld 68 [(I 0), (.sl true 0 [])] [(0, 1, (.t 54)), (1, 1, (.t 67))]), (.al 13 [(I 0), (.sl true 0 [])]), (.st 2 (.t 13) (.t 68))]⟩] [(1, 2), (1, 4), (2, 4), (1, 5), (1, 13), (2, 13), (4, 13), (5, 13), (1, 14), (1, 16), (2, 16), (4, 16), (5, 16), (13, 16), (14, 16)] [1, 2, 3, 5, 13]) (.seq (.seq (.rgn [⟨none, [(.ld 69 true 2 (.t 13)), (.call 70 21 [(.t 69)]), (.bin 71 .neq (.t 70) (.k (I 0)))]⟩] [1, 2, 3, 5, 13, 71]) (.cond (.t 71) (.seq (.rgn [⟨none, [(.call 72 19 []), (.mv 10 (.t 72))]⟩] [10]) .ret) .skip)) (.seq (.rgn [⟨none, [(.ld 74 true 2 (.t 13)), (.mv 75 (.t 1)), (.mv 76 (.t 3)), (.call 77 48 [(.t 74), (.t 75), (.t 76)]), (.mv 73 (.t 77)), (.ext 78 (.t 73) 0), (.ext 79 (.t 73) 1), (.mv 14 (.t 78)), (.mv 15 (.t 79))]⟩] [1, 2, 5, 13, 14]) (.seq (.rgn [⟨none, [(.ld 81 true 2 (.t 5)), (.mv 82 (.t 1)), (.call 83 24 [(.t 81), (.t 82)]), (.mv 80 (.t 83)), (.ext 84 (.t 80) 0), (.ext 85 (.t 80) 1), (.mv 16 (.t 84)), (.mv 17 (.t 85))]⟩] [1, 2, 5, 13, 14, 16, 17]) (.seq (.rgn [⟨none, [(.ld 87 true 2 (.t 13)), (.mv 88 (.t 1)), (.call 89 24 [(.t 87), (.t 88)]), (.mv 86 (.t 89)), (.ext 90 (.t 86) 0), (.ext 91 (.t 86) 1), (.mv 18 (.t 90)), (.mv 19 (.t 91))]⟩] [1, 2, 5, 13, 14, 16, 17, 18, 19]) (.seq (.rgn [⟨none, [(.mv 92 (.t 17)), (.bin 93 .eql (.t 92) (.k (I 0))), (.mv 94 (.t 93))]⟩, ⟨(some (94, true)), [(.mv 95 (.t 19)), (.bin 96 .eql (.t 95) (.k (I 0)))]⟩, ⟨none, [(.pick 97 (.t 94) (.t 96) (.k (B false))), (.mv 98 (.t 97))]⟩, ⟨(some (98, true)), [(.mv 99 (.t 18)), (.len 100 (.t 99)), (.mv 101 (.t 16)), (.len 102 (.t 101)), (.bin 103 .geq (.t 100) (.t 102))]⟩, ⟨none, [(.pick 104 (.t 98) (.t 103) (.k (B false))), (.mv 105 (.t 104))]⟩, ⟨(some (105, true)), [(.ld 106 true 2 (.t 13)), (.mv 107 (.t 1)), (.mv 108 (.t 14)), (.call 109 27 [(.t 106), (.t 107), (.t 108)]), (.bin 110 .eql (.t 109) (.k (I 0)))]⟩, ⟨none, [(.pick 111 (.t 105) (.t 110) (.k (B false))), (.mv 112 (.t 111))]⟩, ⟨(some (112, true)), [(.ld 113 true 2 (.t 5)), (.mv 114 (.t 1)), (.mv 115 (.t 14)), (.call 116 27 [(.t 113), (.t 114), (.t 115)]), (.bin 117 .eql (.t 116) (.k (I 0)))]⟩, ⟨none, [(.pick 118 (.t 112) (.t 117) (.k (B false))), (.mv 119 (.t 118))]⟩, ⟨(some (119, true)), [(.ld 120 true 2 (.t 13)), (.mv 121 (.t 1)), (.mv 122 (.t 2)), (.call 123 27 [(.t 120), (.t 121), (.t 122)]), (.bin 124 .neq (.t 123) (.k (I 0))), (.mv 125 (.t 124))]⟩, ⟨(some (125, false)), [(.ld 126 true 2 (.t 5)), (.mv 127 (.t 1)), (.mv 128 (.t 2)), (.call 129 27 [(.t 126), (.t 127), (.t 128)]), (.bin 130 .eql (.t 129) (.k (I 0)))]⟩, ⟨(some (119, true)), [(.pick 131 (.t 125) (.k (B true)) (.t 130))]⟩, ⟨none, [(.pick 132 (.t 119) (.t 131) (.k (B false))), (.mv 133 (.t 132))]⟩, ⟨(some (133, true)), [(.call 134 19 [])]⟩, ⟨none, [(.pick 135 (.t 133) (.t 134) (.k (B false))), (.mv 10 (.t 135))]⟩] [10]) .ret)))))))))
theorem form16 : formOf Try.prog Try.f16 [10] = some G16 := by kernel_rfl
theorem res16 : resTmps Try.f16.results.toList = some [10] := by kernel_rfl

/-- oxgall/oxgalllaw02.StrokeKnown -/
def G17 : AC := (.seq (.rgn [⟨none, [(.mv 0 (.k (B false)))]⟩] []) (.seq (.rgn [⟨none, [(.call 11 54 []), (.al 1 [(I 0), (.sl true 0 [])]), (.st 2 (.t 1) (.t 11))]⟩] [1]) (.seq (.rgn [⟨none, [(.ld 13 true 2 (.t 1)), (.bsl 14 3 1 [(I 0)] [(0, (.k (I 1))), (1, (.k (I 2))), (2, (.k (I (-1))))]), (.call 15 24 [(.t 13), (.t 14)]), (.mv 12 (.t 15)), (.ext 16 (.t 12) 0), (.ext 17 (.t 12) 1), (.mv 2 (.t 16)), (.mv 3 (.t 17))]⟩] [1, 2, 3]) (.seq (.rgn [⟨none, [(.ld 19 true 2 (.t 1)), (.bsl 20 4 1 [(I 0)] [(0, (.k (I 4))), (1, (.k (I 1))), (2, (.k (I 3))), (3, (.k (I 2)))]), (.bsl 21 3 1 [(I 0)] [(0, (.k (I 0))), (1, (.k (I 2))), (2, (.k (I 3)))]), (.call 22 36 [(.t 19), (.t 20), (.t 21)]), (.mv 18 (.t 22)), (.ext 23 (.t 18) 0), (.ext 24 (.t 18) 1), (.mv 4 (.t 23)), (.mv 5 (.t 24))]⟩] [1, 2, 3, 5]) (.seq (.rgn [⟨none, [(.ld 26 true 2 (.t 1)), (.bsl 27 4 1 [(I 0)] [(0, (.k (I 4))), (1, (.k (I 1))), (2, (.k (I 3))), (3, (.k (I 2)))]), (.bsl 28 3 1 [(I 0)] [(0, (.k (I 1))), (1, (.k (I 2))), (2, (.k (I 4)))]), (.call 29 36 [(.t 26), (.t 27), (.t 28)]), (.mv 25 (.t 29)), (.ext 30 (.t 25) 0), (.ext 31 (.t 25) 1), (.mv 6 (.t 30)), (.mv 7 (.t 31))]⟩] [1, 2, 3, 5, 7]) (.seq (.rgn [⟨none, [(.ld 33 true 2 (.t 1)), (.call 34 41 [(.t 33), (.k (.sl true 0 []))]), (.mv 32 (.t 34)), (.ext 35 (.t 32) 0), (.ext 36 (.t 32) 1), (.mv 8 (.t 35)), (.mv 9 (.t 36))]⟩] [1, 2, 3, 5, 7, 8, 9]) (.seq (.rgn [⟨none, [(.ld 37 true 2 (.t 1)), (.bsl 38 1 1 [(I 0)] [(0, (.k (I 5)))]), (.call 39 22 [(.t 37), (.t 38)]), (.mv 10 (.t 39))]⟩] [2, 3, 5, 7, 8, 9, 10]) (.seq (.rgn [⟨none, [(.mv 40 (.t 3)), (.bin 41 .eql (.t 40) (.k (I 0))), (.mv 42 (.t 41))]⟩, ⟨(some (42, true)), [(.mv 43 (.t 5)), (.bin 44 .eql (.t 43) (.k (I 16)))]⟩, ⟨none, [(.pick 45 (.t 42) (.t 44) (.k (B false))), (.mv 46 (.t 45))]⟩, ⟨(some (46, true)), [(.mv 47 (.t 7)), (.bin 48 .eql (.t 47) (.k (I 3)))]⟩, ⟨none, [(.pick 49 (.t 46) (.t 48) (.k (B false))), (.mv 50 (.t 49))]⟩, ⟨(some (50, true)), [(.mv 51 (.t 9)), (.bin 52 .eql (.t 51) (.k (I 0)))]⟩, ⟨none, [(.pick 53 (.t 50) (.t 52) (.k (B false))), (.mv 54 (.t 53))]⟩, ⟨(some (54, true)), [(.mv 55 (.t 10)), (.bin 56 .eql (.t 55) (.k (I 3)))]⟩, ⟨none, [(.pick 57 (.t 54) (.t 56) (.k (B false))), (.mv 58 (.t 57))]⟩, ⟨(some (58, true)), [(.mv 59 (.t 2)), (.bsl 60 3 1 [(I 0)] [(0, (.k (I 1))), (1, (.k (I 2))), (2, (.k (I (-1))))]), (.call 61 26 [(.t 59), (.t 60)])]⟩, ⟨none, [(.pick 62 (.t 58) (.t 61) (.k (B false))), (.mv 63 (.t 62))]⟩, ⟨(some (63, true)), [(.mv 64 (.t 8)), (.bin 65 .eql (.t 64) (.k (I 1)))]⟩, ⟨none, [(.pick 66 (.t 63) (.t 65) (.k (B false))), (.mv 67 (.t 66))]⟩, ⟨(some (67, true)), [(.call 68 19 [])]⟩, ⟨none, [(.pick 69 (.t 67) (.t 68) (.k (B false))), (.mv 0 (.t 69))]⟩] [0]) .ret))))))))
theorem form17 : formOf Try.prog Try.f17 [0] = some G17 := by kernel_rfl
theorem res17 : resTmps Try.f17.results.toList = some [0] := by kernel_rfl

/-- oxgall/oxgalllaw02.Works -/
def G19 : AC := (.seq (.rgn [⟨none, [(.mv 0 (.k (B false)))]⟩] []) (.seq (.rgn [⟨none, [(.call 25 54 []), (.al 1 [(I 0), (.sl true 0 [])]), (.st 2 (.t 1) (.t 25))]⟩] [1]) (.seq (.rgn [⟨none, [(.ld 27 true 2 (.t 1)), (.bsl 28 5 1 [(I 0)] [(0, (.k (I 3))), (1, (.k (I 1))), (2, (.k (I 2))), (3, (.k (I (-2)))), (4, (.k (I 1)))]), (.call 29 24 [(.t 27), (.t 28)]), (.mv 26 (.t 29)), (.ext 30 (.t 26) 0), (.ext 31 (.t 26) 1), (.mv 2 (.t 30)), (.mv 3 (.t 31))]⟩] [1, 2, 3]) (.seq (.rgn [⟨none, [(.ld 33 true 2 (.t 1)), (.bsl 34 3 1 [(I 0)] [(0, (.k (I 2))), (1, (.k (I 4))), (2, (.k (I (-2))))]), (.call 35 24 [(.t 33), (.t 34)]), (.mv 32 (.t 35)), (.ext 36 (.t 32) 0), (.ext 37 (.t 32) 1), (.mv 4 (.t 36)), (.mv 5 (.t 37))]⟩] [1, 2, 3, 4, 5]) (.seq (.rgn [⟨none, [(.ld 38 true 2 (.t 1)), (.bsl 39 5 1 [(I 0)] [(0, (.k (I 3))), (1, (.k (I 1))), (2, (.k (I 2))), (3, (.k (I (-2)))), (4, (.k (I 1)))]), (.bsl 40 3 1 [(I 0)] [(0, (.k (I 1))), (1, (.k (I 3))), (2, (.k (I 1)))]), (.call 41 27 [(.t 38), (.t 39), (.t 40)]), (.mv 6 (.t 41))]⟩] [1, 2, 3, 4, 5, 6]) (.seq (.rgn [⟨none, [(.ld 42 true 2 (.t 1)), (.bsl 43 2 1 [(I 0)] [(0, (.k (I 1))), (1, (.k (I 2)))]), (.bsl 44 2 1 [(I 0)] [(0, (.k (I 2))), (1, (.k (I 1)))]), (.call 45 27 [(.t 42), (.t 43), (.t 44)]), (.mv 7 (.t 45))]⟩] [1, 2, 3, 4, 5, 6, 7]) (.seq (.drw [⟨none, [(.ld 46 true 2 (.t 1)), (.bsl 47 3 1 [(I 0)] [(0, (.k (I 2))), (1, (.k (I 4))), (2, (.k (I (-2))))]), (.bsl 48 1 1 [(I 0)] [(0, (.k (I 4)))]), (.call 49 55 [(.k (I 1)), (.k (I 1)), (.k (I 0))]), (.call 50 55 [(.k (I 2)), (.k (I 0)), (.k (I 0))]), (.bsl 51 2 3 [(I 0), (I 0), (I 0)] [(0, (.t 49)), (1, (.t 50))]), (.call 52 30 [(.t 46), (.t 47), (.t 48), (.t 51)]), (.mv 8 (.t 52))]⟩] [(0, 1), (0, 2), (1, 2), (0, 3), (1, 3), (2, 3), (0, 4), (1, 4), (2, 4), (0, 5), (1, 5), (2, 5)] [1, 2, 3, 4, 5, 6, 7, 8]) (.seq (.drw [⟨none, [(.ld 53 true 2 (.t 1)), (.bsl 54 3 1 [(I 0)] [(0, (.k (I 2))), (1, (.k (I 4))), (2, (.k (I (-2))))]), (.bsl 55 1 1 [(I 0)] [(0, (.k (I 4)))]), (.call 56 55 [(.k (I 2)), (.k (I 0)), (.k (I 0))]), (.bsl 57 1 3 [(I 0), (I 0), (I 0)] [(0, (.t 56))]), (.call 58 30 [(.t 53), (.t 54), (.t 55), (.t 57)]), (.mv 9 (.t 58))]⟩] [(0, 1), (0, 2), (1, 2), (0, 3), (1, 3), (2, 3), (0, 4), (1, 4), (2, 4)] [1, 2, 3, 4, 5, 6, 7, 8, 9]) (.seq (.rgn [⟨none, [(.bsl 59 4 1 [(I 0)] [(0, (.k (I 4))), (1, (.k (I 1))), (2, (.k (I 3))), (3, (.k (I 2)))]), (.mv 10 (.t 59))]⟩] [1, 2, 3, 4, 5, 6, 7, 8, 9, 10]) (.seq (.rgn [⟨none, [(.ld 61 true 2 (.t 1)), (.mv 62 (.t 10)), (.call 63 32 [(.t 61), (.t 62)]), (.mv 60 (.t 63)), (.ext 64 (.t 60) 0), (.ext 65 (.t 60) 1), (.mv 11 (.t 64)), (.mv 12 (.t 65))]⟩] [1, 2, 3, 4, 5, 6, 7, 8, 9, 10, 11, 12]) (.seq (.rgn [⟨none, [(.ld 67 true 2 (.t 1)), (.mv 68 (.t 10)), (.call 69 34 [(.t 67), (.t 68)]), (.mv 66 (.t 69)), (.ext 70 (.t 66) 0), (.ext 71 (.t 66) 1), (.mv 13 (.t 70)), (.mv 14 (.t 71))]⟩] [1, 2, 3, 4, 5, 6, 7, 8, 9, 10, 11, 12, 13, 14]) (.seq (.rgn [⟨none, [(.ld 73 true 2 (.t 1)), (.mv 74 (.t 10)), (.bsl 75 3 1 [(I 0)] [(0, (.k (I 1))), (1, (.k (I 2))), (2, (.k (I 3)))]), (.call 76 36 [(.t 73), (.t 74), (.t 75)]), (.mv 72 (.t 76)), (.ext 77 (.t 72) 0), (.ext 78 (.t 72) 1), (.mv 15 (.t 77)), (.mv 16 (.t 78))]⟩] [1, 2, 3, 4, 5, 6, 7, 8, 9, 10, 11, 12, 13, 14, 15, 16]) (.seq (.rgn [⟨none, [(.ld 80 true 2 (.t 1)), (.mv 81 (.t 10)), (.call 82 38 [(.t 80), (.t 81)]), (.mv 79 (.t 82)), (.ext 83 (.t 79) 0), (.ext 84 (.t 79) 1), (.mv 17 (.t 83)), (.mv 18 (.t 84))]⟩] [1, 2, 3, 4, 5, 6, 7, 8, 9, 10, 11, 12, 13, 14, 15, 16, 17, 18]) (.seq (.rgn [⟨none, [(.ld 86 true 2 (.t 1)), (.mv 87 (.t 10)), (.call 88 41 [(.t 86), (.t 87)]), (.mv 85 (.t 88)), (.ext 89 (.t 85) 0), (.ext 90 (.t 85) 1), (.mv 19 (.t 89)), (.mv 20 (.t 90))]⟩] [1, 2, 3, 4, 5, 6, 7, 8, 9, 11, 12, 13, 14, 15, 16, 17, 18, 19, 20]) (.seq (.rgn [⟨none, [(.ld 92 true 2 (.t 1)), (.bsl 93 4 1 [(I 0)] [(0, (.k (I 1))), (1, (.k (I 4))), (2, (.k (I 3))), (3, (.k (I 2)))]), (.bsl 94 3 1 [(I 0)] [(0, (.k (I 4))), (1, (.k (I 1))), (2, (.k (I 2)))]), (.call 95 43 [(.t 92), (.t 93), (.t 94)]), (.mv 91 (.t 95)), (.ext 96 (.t 91) 0), (.ext 97 (.t 91) 1), (.mv 21 (.t 96)), (.mv 22 (.t 97))]⟩] [1, 2, 3, 4, 5, 6, 7, 8, 9, 11, 12, 13, 14, 15, 16, 17, 18, 19, 20, 21, 22]) (.seq (.seq (.rgn [⟨none, [(.mv 98 (.t 3)), (.bin 99 .neq (.t 98) (.k (I 0))), (.mv 100 (.t 99))]⟩, ⟨(some (100, false)), [(.mv 101 (.t 5)), (.bin 102 .neq (.t 101) (.k (I 0)))]⟩, ⟨none, [(.pick 103 (.t 100) (.k (B true)) (.t 102)), (.mv 104 (.t 103))]⟩, ⟨(some (104, false)), [(.mv 105 (.t 6)), (.bin 106 .neq (.t 105) (.k (I 0)))]⟩, ⟨none, [(.pick 107 (.t 104) (.k (B true)) (.t 106)), (.mv 108 (.t 107))]⟩, ⟨(some (108, false)), [(.mv 109 (.t 7)), (.bin 110 .neq (.t 109) (.k (I 18)))]⟩, ⟨none, [(.pick 111 (.t 108) (.k (B true)) (.t 110)), (.mv 112 (.t 111))]⟩, ⟨(some (112, false)), [(.mv 113 (.t 8)), (.bin 114 .neq (.t 113) (.k (I 0)))]⟩, ⟨none, [(.pick 115 (.t 112) (.k (B true)) (.t 114)), (.mv 116 (.t 115))]⟩, ⟨(some (116, false)), [(.mv 117 (.t 9)), (.bin 118 .neq (.t 117) (.k (I 16)))]⟩, ⟨none, [(.pick 119 (.t 116) (.k (B true)) (.t 118)), (.mv 120 (.t 119))]⟩, ⟨(some (120, false)), [(.mv 121 (.t 12)), (.bin 122 .neq (.t 121) (.k (I 0)))]⟩, ⟨none, [(.pick 123 (.t 120) (.k (B true)) (.t 122)), (.mv 124 (.t 123))]⟩, ⟨(some (124, false)), [(.mv 125 (.t 14)), (.bin 126 .neq (.t 125) (.k (I 0)))]⟩, ⟨none, [(.pick 127 (.t 124) (.k (B true)) (.t 126)), (.mv 128 (.t 127))]⟩, ⟨(some (128, false)), [(.mv 129 (.t 16)), (.bin 130 .neq (.t 129) (.k (I 0)))]⟩, ⟨none, [(.pick 131 (.t 128) (.k (B true)) (.t 130)), (.mv 132 (.t 131))]⟩, ⟨(some (132, false)), [(.mv 133 (.t 18)), (.bin 134 .neq (.t 133) (.k (I 0)))]⟩, ⟨none, [(.pick 135 (.t 132) (.k (B true)) (.t 134)), (.mv 136 (.t 135))]⟩, ⟨(some (136, false)), [(.mv 137 (.t 20)), (.bin 138 .neq (.t 137) (.k (I 0)))]⟩, ⟨none, [(.pick 139 (.t 136) (.k (B true)) (.t 138)), (.mv 140 (.t 139))]⟩, ⟨(some (140, false)), [(.mv 141 (.t 22)), (.bin 142 .neq (.t 141) (.k (I 0)))]⟩, ⟨none, [(.pick 143 (.t 140) (.k (B true)) (.t 142))]⟩] [1, 2, 4, 11, 13, 15, 17, 19, 21, 143]) (.cond (.t 143) (.seq (.rgn [⟨none, [(.mv 0 (.k (B false)))]⟩] [0]) .ret) .skip)) (.seq (.rgn [⟨none, [(.ld 145 true 2 (.t 1)), (.bsl 146 4 1 [(I 0)] [(0, (.k (I 1))), (1, (.k (I 4))), (2, (.k (I 3))), (3, (.k (I 2)))]), (.bsl 147 3 1 [(I 0)] [(0, (.k (I 4))), (1, (.k (I 1))), (2, (.k (I 2)))]), (.call 148 45 [(.t 145), (.t 146), (.t 147)]), (.mv 144 (.t 148)), (.ext 149 (.t 144) 0), (.ext 150 (.t 144) 1), (.mv 23 (.t 149)), (.mv 3 (.t 150))]⟩] [1, 2, 3, 4, 11, 13, 15, 17, 19, 21, 23]) (.seq (.rgn [⟨none, [(.ld 152 true 2 (.t 1)), (.bsl 153 5 1 [(I 0)] [(0, (.k (I 3))), (1, (.k (I 1))), (2, (.k (I 2))), (3, (.k (I (-2)))), (4, (.k (I 1)))]), (.bsl 154 3 1 [(I 0)] [(0, (.k (I 1))), (1, (.k (I 3))), (2, (.k (I 1)))]), (.call 155 29 [(.t 152), (.t 153), (.t 154)]), (.mv 151 (.t 155)), (.ext 156 (.t 151) 0), (.ext 157 (.t 151) 1), (.mv 24 (.t 156)), (.mv 5 (.t 157))]⟩] [1, 2, 3, 4, 5, 11, 13, 15, 17, 19, 21, 23, 24]) (.seq (.rgn [⟨none, [(.mv 158 (.t 3)), (.bin 159 .eql (.t 158) (.k (I 0))), (.mv 160 (.t 159))]⟩, ⟨(some (160, true)), [(.mv 161 (.t 5)), (.bin 162 .eql (.t 161) (.k (I 0)))]⟩, ⟨none, [(.pick 163 (.t 160) (.t 162) (.k (B false))), (.mv 164 (.t 163))]⟩, ⟨(some (164, true)), [(.ld 165 true 2 (.t 1)), (.bsl 166 5 1 [(I 0)] [(0, (.k (I 3))), (1, (.k (I 1))), (2, (.k (I 2))), (3, (.k (I (-2)))), (4, (.k (I 1)))]), (.bsl 167 3 1 [(I 0)] [(0, (.k (I 1))), (1, (.k (I 3))), (2, (.k (I 1)))]), (.mv 168 (.t 24)), (.call 169 31 [(.t 165), (.t 166), (.t 167), (.t 168)]), (.bin 170 .eql (.t 169) (.k (I 0)))]⟩, ⟨none, [(.pick 171 (.t 164) (.t 170) (.k (B false))), (.mv 172 (.t 171))]⟩, ⟨(some (172, true)), [(.mv 173 (.t 2)), (.bsl 174 3 1 [(I 0)] [(0, (.k (I 1))), (1, (.k (I 1))), (2, (.k (I 3)))]), (.call 175 26 [(.t 173), (.t 174)])]⟩, ⟨none, [(.pick 176 (.t 172) (.t 175) (.k (B false))), (.mv 177 (.t 176))]⟩, ⟨(some (177, true)), [(.mv 178 (.t 4)), (.bsl 179 1 1 [(I 0)] [(0, (.k (I 4)))]), (.call 180 26 [(.t 178), (.t 179)])]⟩, ⟨none, [(.pick 181 (.t 177) (.t 180) (.k (B false))), (.mv 182 (.t 181))]⟩, ⟨(some (182, true)), [(.mv 183 (.t 11)), (.bsl 184 2 1 [(I 0)] [(0, (.k (I 1))), (1, (.k (I 4)))]), (.call 185 26 [(.t 183), (.t 184)])]⟩, ⟨none, [(.pick 186 (.t 182) (.t 185) (.k (B false))), (.mv 187 (.t 186))]⟩, ⟨(some (187, true)), [(.mv 188 (.t 13)), (.bsl 189 2 1 [(I 0)] [(0, (.k (I 1))), (1, (.k (I 4)))]), (.bsl 190 1 1 [(I 0)] [(0, (.k (I 3)))]), (.bsl 191 1 1 [(I 0)] [(0, (.k (I 2)))]), (.bsl 192 3 1 [(.sl true 0 [])] [(0, (.t 189)), (1, (.t 190)), (2, (.t 191))]), (.call 193 39 [(.t 188), (.t 192)])]⟩, ⟨none, [(.pick 194 (.t 187) (.t 193) (.k (B false))), (.mv 195 (.t 194))]⟩, ⟨(some (195, true)), [(.mv 196 (.t 15)), (.bin 197 .eql (.t 196) (.k (I 3)))]⟩, ⟨none, [(.pick 198 (.t 195) (.t 197) (.k (B false))), (.mv 199 (.t 198))]⟩, ⟨(some (199, true)), [(.mv 200 (.t 17)), (.bsl 201 3 1 [(I 0)] [(0, (.k (I 1))), (1, (.k (I 2))), (2, (.k (I 3)))]), (.call 202 26 [(.t 200), (.t 201)])]⟩, ⟨none, [(.pick 203 (.t 199) (.t 202) (.k (B false))), (.mv 204 (.t 203))]⟩, ⟨(some (204, true)), [(.mv 205 (.t 19)), (.bin 206 .eql (.t 205) (.k (I 3)))]⟩, ⟨none, [(.pick 207 (.t 204) (.t 206) (.k (B false))), (.mv 208 (.t 207))]⟩, ⟨(some (208, true)), [(.mv 209 (.t 21)), (.bsl 210 3 1 [(I 0)] [(0, (.k (I (-2)))), (1, (.k (I (-3)))), (2, (.k (I 2)))]), (.call 211 26 [(.t 209), (.t 210)])]⟩, ⟨none, [(.pick 212 (.t 208) (.t 211) (.k (B false))), (.mv 213 (.t 212))]⟩, ⟨(some (213, true)), [(.mv 214 (.t 23)), (.bsl 215 2 1 [(I 0)] [(0, (.k (I 1))), (1, (.k (I 4)))]), (.call 216 26 [(.t 214), (.t 215)])]⟩, ⟨none, [(.pick 217 (.t 213) (.t 216) (.k (B false))), (.mv 0 (.t 217))]⟩] [0]) .ret)))))))))))))))))))
theorem form19 : formOf Try.prog Try.f19 [0] = some G19 := by kernel_rfl
theorem res19 : resTmps Try.f19.results.toList = some [0] := by kernel_rfl

/-- slices.Concat[[]int,int] -/
def G80 : AC := (.seq (.rgn [⟨none, [(.mv 2 (.k (.sl true 0 [])))]⟩] [0]) (.seq (.rgn [⟨none, [(.mv 3 (.k (I 0)))]⟩] [0, 3]) (.seq (.seq (.rgn [⟨none, [(.mv 9 (.t 0)), (.len 10 (.t 9)), (.mv 11 (.k (I 0)))]⟩] [0, 3, 9, 10, 11]) (.block 0 (.loop (.seq (.rgn [⟨none, [(.bin 12 .lss (.t 11) (.t 10))]⟩] [0, 3, 9, 10, 11, 12]) (.seq (.cond (.t 12) .skip (.exit 0)) (.seq (.block 1 (.seq (.rgn [⟨none, [(.ia 13 1 (.t 9) (.t 11)), (.ld 14 false 1 (.t 13)), (.mv 5 (.t 14))]⟩] [0, 3, 5, 9, 10, 11]) (.seq (.rgn [⟨none, [(.mv 15 (.t 3)), (.mv 16 (.t 5)), (.len 17 (.t 16)), (.bin 18 .add (.t 15) (.t 17)), (.mv 3 (.t 18))]⟩] [0, 3, 9, 10, 11]) (.seq (.rgn [⟨none, [(.mv 19 (.t 3)), (.bin 20 .lss (.t 19) (.k (I 0)))]⟩] [0, 3, 9, 10, 11, 20]) (.cond (.t 20) .dead .skip))))) (.rgn [⟨none, [(.bin 22 .add (.t 11) (.k (I 1))), (.mv 11 (.t 22))]⟩] [0, 3, 9, 10, 11]))))))) (.seq (.rgn [⟨none, [(.mv 23 (.t 3)), (.call 24 103 [(.k (.sl true 0 [])), (.t 23)]), (.mv 6 (.t 24))]⟩] [0, 6]) (.seq (.seq (.rgn [⟨none, [(.mv 25 (.t 0)), (.len 26 (.t 25)), (.mv 27 (.k (I 0)))]⟩] [6, 25, 26, 27]) (.block 2 (.loop (.seq (.rgn [⟨none, [(.bin 28 .lss (.t 27) (.t 26))]⟩] [6, 25, 26, 27, 28]) (.seq (.cond (.t 28) .skip (.exit 2)) (.seq (.block 3 (.seq (.rgn [⟨none, [(.ia 29 1 (.t 25) (.t 27)), (.ld 30 false 1 (.t 29)), (.mv 8 (.t 30))]⟩] [6, 8, 25, 26, 27]) (.rgn [⟨none, [(.mv 31 (.t 6)), (.mv 32 (.t 8)), (.app 33 1 8 (.t 31) (.t 32)), (.mv 6 (.t 33))]⟩] [6, 25, 26, 27]))) (.rgn [⟨none, [(.bin 34 .add (.t 27) (.k (I 1))), (.mv 27 (.t 34))]⟩] [6, 25, 26, 27]))))))) (.seq (.rgn [⟨none, [(.mv 35 (.t 6)), (.mv 2 (.t 35))]⟩] [2]) .ret))))))
theorem form80 : formOf Try.prog Try.f80 [2] = some G80 := by kernel_rfl
theorem res80 : resTmps Try.f80.results.toList = some [2] := by kernel_rfl

end Go.AM
