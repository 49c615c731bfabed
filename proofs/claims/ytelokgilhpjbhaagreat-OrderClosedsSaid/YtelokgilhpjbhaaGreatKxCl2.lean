/-
  KxCl2: texts joined: FmOF Co1 Co2 Co3 Co7 Co8 Co12 Co13 Co15 Co16 Co17 FmOL Lo1 Lo5 Lo7. Own work.
-/
import Derived.Test.YtelokgilhpjbhaaGreatKxCl1
import Derived.Test.YtelokgilhpjbhaaGreatProg

set_option maxRecDepth 100000
namespace Go.AM
open Go.RowKit Go.Proofs
abbrev n_r_CheckBench : Nat := 24
def G_r_CheckBench : AC := (.seq (.rgn [⟨none, [(.box 1 2 (.t 0)), (.mv 2 (.k (I 0)))]⟩] [1]) (.seq (.seq (.rgn [⟨none, [(.fa 4 (.t 1) 0), (.ld 5 false 1 (.t 4)), (.bin 6 .lss (.t 5) (.k (I 2))), (.mv 7 (.t 6))]⟩, ⟨(some (7, false)), [(.fa 8 (.t 1) 0), (.ld 9 false 1 (.t 8)), (.bin 10 .gtr (.t 9) (.k (I 6)))]⟩, ⟨none, [(.pick 11 (.t 7) (.k (B true)) (.t 10))]⟩] [1, 11]) (.cond (.t 11) (.seq (.rgn [⟨none, [(.mv 2 (.k (I 2)))]⟩] [2]) .ret) .skip)) (.seq (.seq (.rgn [⟨none, [(.fa 12 (.t 1) 1), (.ld 13 false 1 (.t 12)), (.len 14 (.t 13)), (.bin 15 .gtr (.t 14) (.k (I 6)))]⟩] [1, 15]) (.cond (.t 15) (.seq (.rgn [⟨none, [(.mv 2 (.k (I 6)))]⟩] [2]) .ret) .skip)) (.seq (.seq (.rgn [⟨none, [(.mv 3 (.k (I 0)))]⟩] [1, 3]) (.block 0 (.loop (.seq (.seq (.rgn [⟨none, [(.mv 16 (.t 3)), (.fa 17 (.t 1) 1), (.ld 18 false 1 (.t 17)), (.len 19 (.t 18)), (.bin 20 .lss (.t 16) (.t 19))]⟩] [1, 3, 20]) (.cond (.t 20) .skip (.exit 0))) (.seq (.block 1 (.seq (.drw [⟨none, [(.fa 23 (.t 1) 1), (.ld 24 false 1 (.t 23)), (.mv 25 (.t 3)), (.ia 26 1 (.t 24) (.t 25)), (.ld 27 false 1 (.t 26)), (.fa 28 (.t 1) 0), (.ld 29 false 1 (.t 28)), (.call 30 77 [(.t 27), (.t 29)]), (.un 31 .not (.t 30))]⟩] [(1, 6), (4, 6)] [1, 3, 31]) (.cond (.t 31) (.seq (.rgn [⟨none, [(.mv 2 (.k (I 15)))]⟩] [2]) .ret) .skip))) (.rgn [⟨none, [(.mv 21 (.t 3)), (.bin 22 .add (.t 21) (.k (I 1))), (.mv 3 (.t 22))]⟩] [1, 3])))))) (.seq (.rgn [⟨none, [(.mv 2 (.k (I 0)))]⟩] [2]) .ret)))))
theorem func_r_CheckBench : Tryz.prog.funcs[n_r_CheckBench]? = some Tryz.f24 := Tryz.func24
theorem form_r_CheckBench : formOf Tryz.prog Tryz.f24 [2] = some G_r_CheckBench := by kernel_rfl
theorem res_r_CheckBench : resTmps Tryz.f24.results.toList = some [2] := by kernel_rfl
abbrev n_r_Closed : Nat := 36
def G_r_Closed : AC := (.seq (.rgn [⟨none, [(.box 3 2 (.t 0)), (.mv 6 (.k (.sl true 0 []))), (.mv 7 (.k (I 0)))]⟩] [1, 2, 3]) (.seq (.seq (.rgn [⟨none, [(.ld 14 true 2 (.t 3)), (.mv 15 (.t 1)), (.mv 16 (.t 2)), (.call 17 79 [(.t 14), (.t 15), (.t 16)]), (.bin 18 .neq (.t 17) (.k (I 0)))]⟩] [1, 2, 3, 18]) (.cond (.t 18) (.seq (.rgn [⟨none, [(.ld 19 true 2 (.t 3)), (.mv 20 (.t 1)), (.mv 21 (.t 2)), (.call 22 79 [(.t 19), (.t 20), (.t 21)]), (.mv 6 (.k (.sl true 0 []))), (.mv 7 (.t 22))]⟩] [6, 7]) .ret) .skip)) (.seq (.rgn [⟨none, [(.ld 24 true 2 (.t 3)), (.mv 25 (.t 1)), (.call 26 80 [(.t 24), (.t 25)]), (.mv 23 (.t 26)), (.ext 27 (.t 23) 0), (.ext 28 (.t 23) 1), (.ext 29 (.t 23) 2), (.ext 30 (.t 23) 3), (.mv 8 (.t 27)), (.mv 9 (.t 28)), (.mv 10 (.t 29)), (.mv 11 (.t 30))]⟩] [2, 8]) (.seq (.seq (.rgn [⟨none, [(.mv 31 (.t 8)), (.mv 32 (.t 2)), (.call 33 81 [(.t 31), (.t 32)]), (.bin 34 .geq (.t 33) (.k (I 0)))]⟩] [8, 34]) (.cond (.t 34) (.seq (.rgn [⟨none, [(.mv 6 (.k (.sl true 0 []))), (.mv 7 (.k (I 11)))]⟩] [6, 7]) .ret) .skip)) (.seq (.seq (.rgn [⟨none, [(.mv 12 (.k (I 0)))]⟩] [8, 12]) (.block 0 (.loop (.seq (.seq (.rgn [⟨none, [(.mv 35 (.t 12)), (.mv 36 (.t 8)), (.len 37 (.t 36)), (.bin 38 .lss (.t 35) (.t 37))]⟩] [8, 12, 38]) (.cond (.t 38) .skip (.exit 0))) (.seq (.block 1 (.seq (.rgn [⟨none, [(.mv 41 (.t 12)), (.mv 13 (.t 41))]⟩] [8, 12, 13]) (.block 2 (.loop (.seq (.seq (.drw [⟨none, [(.mv 42 (.t 13)), (.bin 43 .gtr (.t 42) (.k (I 0))), (.mv 44 (.t 43))]⟩, ⟨(some (44, true)), [(.mv 45 (.t 8)), (.mv 46 (.t 13)), (.ia 47 1 (.t 45) (.t 46)), (.ld 48 false 1 (.t 47)), (.mv 49 (.t 8)), (.mv 50 (.t 13)), (.bin 51 .sub (.t 50) (.k (I 1))), (.ia 52 1 (.t 49) (.t 51)), (.ld 53 false 1 (.t 52)), (.call 54 90 [(.t 48), (.t 53)])]⟩, ⟨none, [(.pick 55 (.t 44) (.t 54) (.k (B false)))]⟩] [(6, 11)] [8, 12, 13, 55]) (.cond (.t 55) .skip (.exit 2))) (.seq (.block 3 (.drw [⟨none, [(.mv 58 (.t 8)), (.mv 59 (.t 13)), (.mv 60 (.t 8)), (.mv 61 (.t 13)), (.bin 62 .sub (.t 61) (.k (I 1))), (.mv 63 (.t 8)), (.mv 64 (.t 13)), (.bin 65 .sub (.t 64) (.k (I 1))), (.ia 66 1 (.t 63) (.t 65)), (.ld 67 false 1 (.t 66)), (.mv 68 (.t 8)), (.mv 69 (.t 13)), (.ia 70 1 (.t 68) (.t 69)), (.ld 71 false 1 (.t 70)), (.ia 72 1 (.t 58) (.t 59)), (.st 1 (.t 72) (.t 67)), (.ia 73 1 (.t 60) (.t 62)), (.st 1 (.t 73) (.t 71))]⟩] [(9, 13)] [8, 12, 13])) (.rgn [⟨none, [(.mv 56 (.t 13)), (.bin 57 .sub (.t 56) (.k (I 1))), (.mv 13 (.t 57))]⟩] [8, 12, 13]))))))) (.rgn [⟨none, [(.mv 39 (.t 12)), (.bin 40 .add (.t 39) (.k (I 1))), (.mv 12 (.t 40))]⟩] [8, 12])))))) (.seq (.rgn [⟨none, [(.mv 74 (.t 8)), (.mv 6 (.t 74)), (.mv 7 (.k (I 0)))]⟩] [6, 7]) .ret))))))
theorem func_r_Closed : Tryz.prog.funcs[n_r_Closed]? = some Tryz.f36 := Tryz.func36
theorem form_r_Closed : formOf Tryz.prog Tryz.f36 [6, 7] = some G_r_Closed := by kernel_rfl
theorem res_r_Closed : resTmps Tryz.f36.results.toList = some [6, 7] := by kernel_rfl
abbrev n_r_CheckClosed : Nat := 39
def G_r_CheckClosed : AC := (.seq (.rgn [⟨none, [(.box 4 2 (.t 0)), (.mv 8 (.k (I 0)))]⟩] [1, 2, 3, 4]) (.seq (.seq (.rgn [⟨none, [(.ld 13 true 2 (.t 4)), (.mv 14 (.t 1)), (.mv 15 (.t 2)), (.call 16 79 [(.t 13), (.t 14), (.t 15)]), (.bin 17 .neq (.t 16) (.k (I 0)))]⟩] [1, 2, 3, 4, 17]) (.cond (.t 17) (.seq (.rgn [⟨none, [(.ld 18 true 2 (.t 4)), (.mv 19 (.t 1)), (.mv 20 (.t 2)), (.call 21 79 [(.t 18), (.t 19), (.t 20)]), (.mv 8 (.t 21))]⟩] [8]) .ret) .skip)) (.seq (.seq (.rgn [⟨none, [(.mv 22 (.t 3)), (.len 23 (.t 22)), (.bin 24 .gtr (.t 23) (.k (I 720)))]⟩] [1, 2, 3, 4, 24]) (.cond (.t 24) (.seq (.rgn [⟨none, [(.mv 8 (.k (I 6)))]⟩] [8]) .ret) .skip)) (.seq (.seq (.rgn [⟨none, [(.mv 9 (.k (I 0)))]⟩] [1, 2, 3, 4, 9]) (.block 0 (.loop (.seq (.seq (.rgn [⟨none, [(.mv 25 (.t 9)), (.mv 26 (.t 3)), (.len 27 (.t 26)), (.bin 28 .lss (.t 25) (.t 27))]⟩] [1, 2, 3, 4, 9, 28]) (.cond (.t 28) .skip (.exit 0))) (.seq (.block 1 (.seq (.drw [⟨none, [(.ld 31 true 2 (.t 4)), (.mv 32 (.t 3)), (.mv 33 (.t 9)), (.ia 34 1 (.t 32) (.t 33)), (.ld 35 false 1 (.t 34)), (.call 36 67 [(.t 31), (.t 35)]), (.un 37 .not (.t 36))]⟩] [(0, 4)] [1, 2, 3, 4, 9, 37]) (.cond (.t 37) (.seq (.rgn [⟨none, [(.mv 8 (.k (I 3)))]⟩] [8]) .ret) .skip))) (.rgn [⟨none, [(.mv 29 (.t 9)), (.bin 30 .add (.t 29) (.k (I 1))), (.mv 9 (.t 30))]⟩] [1, 2, 3, 4, 9])))))) (.seq (.seq (.rgn [⟨none, [(.mv 10 (.k (I 1)))]⟩] [1, 2, 3, 4, 10]) (.block 2 (.loop (.seq (.seq (.rgn [⟨none, [(.mv 38 (.t 10)), (.mv 39 (.t 3)), (.len 40 (.t 39)), (.bin 41 .lss (.t 38) (.t 40))]⟩] [1, 2, 3, 4, 10, 41]) (.cond (.t 41) .skip (.exit 2))) (.seq (.block 3 (.seq (.drw [⟨none, [(.mv 44 (.t 3)), (.mv 45 (.t 10)), (.bin 46 .sub (.t 45) (.k (I 1))), (.ia 47 1 (.t 44) (.t 46)), (.ld 48 false 1 (.t 47)), (.mv 49 (.t 3)), (.mv 50 (.t 10)), (.ia 51 1 (.t 49) (.t 50)), (.ld 52 false 1 (.t 51)), (.call 53 90 [(.t 48), (.t 52)]), (.un 54 .not (.t 53))]⟩] [(4, 8)] [1, 2, 3, 4, 10, 54]) (.cond (.t 54) (.seq (.rgn [⟨none, [(.mv 8 (.k (I 3)))]⟩] [8]) .ret) .skip))) (.rgn [⟨none, [(.mv 42 (.t 10)), (.bin 43 .add (.t 42) (.k (I 1))), (.mv 10 (.t 43))]⟩] [1, 2, 3, 4, 10])))))) (.seq (.seq (.rgn [⟨none, [(.mv 55 (.t 3)), (.mv 56 (.t 1)), (.call 57 81 [(.t 55), (.t 56)]), (.bin 58 .lss (.t 57) (.k (I 0))), (.mv 59 (.t 58))]⟩, ⟨(some (59, false)), [(.mv 60 (.t 3)), (.mv 61 (.t 2)), (.call 62 81 [(.t 60), (.t 61)]), (.bin 63 .geq (.t 62) (.k (I 0)))]⟩, ⟨none, [(.pick 64 (.t 59) (.k (B true)) (.t 63))]⟩] [3, 4, 64]) (.cond (.t 64) (.seq (.rgn [⟨none, [(.mv 8 (.k (I 14)))]⟩] [8]) .ret) .skip)) (.seq (.seq (.rgn [⟨none, [(.mv 11 (.k (I 0)))]⟩] [3, 4, 11]) (.block 4 (.loop (.seq (.seq (.rgn [⟨none, [(.mv 65 (.t 11)), (.mv 66 (.t 3)), (.len 67 (.t 66)), (.bin 68 .lss (.t 65) (.t 67))]⟩] [3, 4, 11, 68]) (.cond (.t 68) .skip (.exit 4))) (.seq (.block 5 (.seq (.rgn [⟨none, [(.mv 12 (.k (I 0)))]⟩] [3, 4, 11, 12]) (.block 6 (.loop (.seq (.seq (.rgn [⟨none, [(.mv 71 (.t 12)), (.fa 72 (.t 4) 1), (.ld 73 false 1 (.t 72)), (.len 74 (.t 73)), (.bin 75 .lss (.t 71) (.t 74))]⟩] [3, 4, 11, 12, 75]) (.cond (.t 75) .skip (.exit 6))) (.seq (.block 7 (.seq (.drw [⟨none, [(.mv 78 (.t 3)), (.fa 79 (.t 4) 1), (.ld 80 false 1 (.t 79)), (.mv 81 (.t 12)), (.ia 82 1 (.t 80) (.t 81)), (.ld 83 false 1 (.t 82)), (.mv 84 (.t 3)), (.mv 85 (.t 11)), (.ia 86 1 (.t 84) (.t 85)), (.ld 87 false 1 (.t 86)), (.call 88 55 [(.t 83), (.t 87)]), (.call 89 81 [(.t 78), (.t 88)]), (.bin 90 .lss (.t 89) (.k (I 0)))]⟩] [(2, 9), (5, 9)] [3, 4, 11, 12, 90]) (.cond (.t 90) (.seq (.rgn [⟨none, [(.mv 8 (.k (I 14)))]⟩] [8]) .ret) .skip))) (.rgn [⟨none, [(.mv 76 (.t 12)), (.bin 77 .add (.t 76) (.k (I 1))), (.mv 12 (.t 77))]⟩] [3, 4, 11, 12]))))))) (.rgn [⟨none, [(.mv 69 (.t 11)), (.bin 70 .add (.t 69) (.k (I 1))), (.mv 11 (.t 70))]⟩] [3, 4, 11])))))) (.seq (.rgn [⟨none, [(.mv 8 (.k (I 0)))]⟩] [8]) .ret))))))))
theorem func_r_CheckClosed : Tryz.prog.funcs[n_r_CheckClosed]? = some Tryz.f39 := Tryz.func39
theorem form_r_CheckClosed : formOf Tryz.prog Tryz.f39 [8] = some G_r_CheckClosed := by kernel_rfl
theorem res_r_CheckClosed : resTmps Tryz.f39.results.toList = some [8] := by kernel_rfl
abbrev n_r_After : Nat := 55
def G_r_After : AC := (.seq (.rgn [⟨none, [(.mv 4 (.k (.sl true 0 [])))]⟩] [0, 1]) (.seq (.rgn [⟨none, [(.mv 5 (.k (.sl true 0 [])))]⟩] [0, 1, 5]) (.seq (.seq (.rgn [⟨none, [(.mv 6 (.k (I 0)))]⟩] [0, 1, 5, 6]) (.block 0 (.loop (.seq (.seq (.rgn [⟨none, [(.mv 7 (.t 6)), (.mv 8 (.t 1)), (.len 9 (.t 8)), (.bin 10 .lss (.t 7) (.t 9))]⟩] [0, 1, 5, 6, 10]) (.cond (.t 10) .skip (.exit 0))) (.seq (.block 1 (.rgn [⟨none, [(.mv 13 (.t 5)), (.mv 14 (.t 1)), (.mv 15 (.t 0)), (.mv 16 (.t 6)), (.ia 17 1 (.t 15) (.t 16)), (.ld 18 false 1 (.t 17)), (.ia 19 1 (.t 14) (.t 18)), (.ld 20 false 1 (.t 19)), (.bsl 21 1 1 [(I 0)] [(0, (.t 20))]), (.app 22 1 8 (.t 13) (.t 21)), (.mv 5 (.t 22))]⟩] [0, 1, 5, 6])) (.rgn [⟨none, [(.mv 11 (.t 6)), (.bin 12 .add (.t 11) (.k (I 1))), (.mv 6 (.t 12))]⟩] [0, 1, 5, 6])))))) (.seq (.rgn [⟨none, [(.mv 23 (.t 5)), (.mv 4 (.t 23))]⟩] [4]) .ret))))
theorem func_r_After : Tryz.prog.funcs[n_r_After]? = some Tryz.f55 := Tryz.func55
theorem form_r_After : formOf Tryz.prog Tryz.f55 [4] = some G_r_After := by kernel_rfl
theorem res_r_After : resTmps Tryz.f55.results.toList = some [4] := by kernel_rfl
abbrev n_r_IsRow : Nat := 67
def G_r_IsRow : AC := (.seq (.rgn [⟨none, [(.box 2 2 (.t 0)), (.mv 4 (.k (B false)))]⟩] [1, 2]) (.seq (.seq (.rgn [⟨none, [(.mv 6 (.t 1)), (.len 7 (.t 6)), (.fa 8 (.t 2) 0), (.ld 9 false 1 (.t 8)), (.bin 10 .neq (.t 7) (.t 9))]⟩] [1, 10]) (.cond (.t 10) (.seq (.rgn [⟨none, [(.mv 4 (.k (B false)))]⟩] [4]) .ret) .skip)) (.seq (.seq (.rgn [⟨none, [(.mv 5 (.k (I 0)))]⟩] [1, 5]) (.block 0 (.loop (.seq (.seq (.rgn [⟨none, [(.mv 11 (.t 5)), (.mv 12 (.t 1)), (.len 13 (.t 12)), (.bin 14 .lss (.t 11) (.t 13))]⟩] [1, 5, 14]) (.cond (.t 14) .skip (.exit 0))) (.seq (.block 1 (.seq (.rgn [⟨none, [(.mv 17 (.t 1)), (.mv 18 (.t 5)), (.ia 19 1 (.t 17) (.t 18)), (.ld 20 false 1 (.t 19)), (.bin 21 .lss (.t 20) (.k (I 0))), (.mv 22 (.t 21))]⟩, ⟨(some (22, false)), [(.mv 23 (.t 1)), (.mv 24 (.t 5)), (.ia 25 1 (.t 23) (.t 24)), (.ld 26 false 1 (.t 25)), (.bin 27 .gtr (.t 26) (.k (I 5)))]⟩, ⟨none, [(.pick 28 (.t 22) (.k (B true)) (.t 27))]⟩] [1, 5, 28]) (.cond (.t 28) (.seq (.rgn [⟨none, [(.mv 4 (.k (B false)))]⟩] [4]) .ret) .skip))) (.rgn [⟨none, [(.mv 15 (.t 5)), (.bin 16 .add (.t 15) (.k (I 1))), (.mv 5 (.t 16))]⟩] [1, 5])))))) (.seq (.rgn [⟨none, [(.mv 4 (.k (B true)))]⟩] [4]) .ret))))
theorem func_r_IsRow : Tryz.prog.funcs[n_r_IsRow]? = some Tryz.f67 := Tryz.func67
theorem form_r_IsRow : formOf Tryz.prog Tryz.f67 [4] = some G_r_IsRow := by kernel_rfl
theorem res_r_IsRow : resTmps Tryz.f67.results.toList = some [4] := by kernel_rfl
abbrev n_r_Equal : Nat := 70
def G_r_Equal : AC := (.seq (.rgn [⟨none, [(.mv 4 (.k (B false)))]⟩] [0, 1]) (.seq (.seq (.rgn [⟨none, [(.mv 6 (.t 0)), (.len 7 (.t 6)), (.mv 8 (.t 1)), (.len 9 (.t 8)), (.bin 10 .neq (.t 7) (.t 9))]⟩] [0, 1, 10]) (.cond (.t 10) (.seq (.rgn [⟨none, [(.mv 4 (.k (B false)))]⟩] [4]) .ret) .skip)) (.seq (.seq (.rgn [⟨none, [(.mv 5 (.k (I 0)))]⟩] [0, 1, 5]) (.block 0 (.loop (.seq (.seq (.rgn [⟨none, [(.mv 11 (.t 5)), (.mv 12 (.t 0)), (.len 13 (.t 12)), (.bin 14 .lss (.t 11) (.t 13))]⟩] [0, 1, 5, 14]) (.cond (.t 14) .skip (.exit 0))) (.seq (.block 1 (.seq (.drw [⟨none, [(.mv 17 (.t 0)), (.mv 18 (.t 5)), (.ia 19 1 (.t 17) (.t 18)), (.ld 20 false 1 (.t 19)), (.mv 21 (.t 1)), (.mv 22 (.t 5)), (.ia 23 1 (.t 21) (.t 22)), (.ld 24 false 1 (.t 23)), (.bin 25 .neq (.t 20) (.t 24))]⟩] [(3, 7)] [0, 1, 5, 25]) (.cond (.t 25) (.seq (.rgn [⟨none, [(.mv 4 (.k (B false)))]⟩] [4]) .ret) .skip))) (.rgn [⟨none, [(.mv 15 (.t 5)), (.bin 16 .add (.t 15) (.k (I 1))), (.mv 5 (.t 16))]⟩] [0, 1, 5])))))) (.seq (.rgn [⟨none, [(.mv 4 (.k (B true)))]⟩] [4]) .ret))))
theorem func_r_Equal : Tryz.prog.funcs[n_r_Equal]? = some Tryz.f70 := Tryz.func70
theorem form_r_Equal : formOf Tryz.prog Tryz.f70 [4] = some G_r_Equal := by kernel_rfl
theorem res_r_Equal : resTmps Tryz.f70.results.toList = some [4] := by kernel_rfl
abbrev n_r_isStroke : Nat := 77
def G_r_isStroke : AC := (.seq (.rgn [⟨none, [(.mv 4 (.k (B false)))]⟩] [0, 1]) (.seq (.seq (.rgn [⟨none, [(.mv 8 (.t 0)), (.len 9 (.t 8)), (.mv 10 (.t 1)), (.bin 11 .neq (.t 9) (.t 10))]⟩] [0, 1, 11]) (.cond (.t 11) (.seq (.rgn [⟨none, [(.mv 4 (.k (B false)))]⟩] [4]) .ret) .skip)) (.seq (.seq (.rgn [⟨none, [(.mv 5 (.k (I 0)))]⟩] [0, 1, 5]) (.block 0 (.loop (.seq (.seq (.rgn [⟨none, [(.mv 12 (.t 5)), (.mv 13 (.t 1)), (.bin 14 .lss (.t 12) (.t 13))]⟩] [0, 1, 5, 14]) (.cond (.t 14) .skip (.exit 0))) (.seq (.block 1 (.seq (.rgn [⟨none, [(.mv 6 (.k (I 0)))]⟩] [0, 1, 5, 6]) (.seq (.seq (.rgn [⟨none, [(.mv 7 (.k (I 0)))]⟩] [0, 1, 5, 6, 7]) (.block 2 (.loop (.seq (.seq (.rgn [⟨none, [(.mv 17 (.t 7)), (.mv 18 (.t 0)), (.len 19 (.t 18)), (.bin 20 .lss (.t 17) (.t 19))]⟩] [0, 1, 5, 6, 7, 20]) (.cond (.t 20) .skip (.exit 2))) (.seq (.block 3 (.seq (.rgn [⟨none, [(.mv 23 (.t 0)), (.mv 24 (.t 7)), (.ia 25 1 (.t 23) (.t 24)), (.ld 26 false 1 (.t 25)), (.mv 27 (.t 5)), (.bin 28 .eql (.t 26) (.t 27))]⟩] [0, 1, 5, 6, 7, 28]) (.cond (.t 28) (.rgn [⟨none, [(.mv 29 (.t 6)), (.bin 30 .add (.t 29) (.k (I 1))), (.mv 6 (.t 30))]⟩] [0, 1, 5, 6, 7]) .skip))) (.rgn [⟨none, [(.mv 21 (.t 7)), (.bin 22 .add (.t 21) (.k (I 1))), (.mv 7 (.t 22))]⟩] [0, 1, 5, 6, 7])))))) (.seq (.rgn [⟨none, [(.mv 31 (.t 6)), (.bin 32 .neq (.t 31) (.k (I 1)))]⟩] [0, 1, 5, 32]) (.cond (.t 32) (.seq (.rgn [⟨none, [(.mv 4 (.k (B false)))]⟩] [4]) .ret) .skip))))) (.rgn [⟨none, [(.mv 15 (.t 5)), (.bin 16 .add (.t 15) (.k (I 1))), (.mv 5 (.t 16))]⟩] [0, 1, 5])))))) (.seq (.rgn [⟨none, [(.mv 4 (.k (B true)))]⟩] [4]) .ret))))
theorem func_r_isStroke : Tryz.prog.funcs[n_r_isStroke]? = some Tryz.f77 := Tryz.func77
theorem form_r_isStroke : formOf Tryz.prog Tryz.f77 [4] = some G_r_isStroke := by kernel_rfl
theorem res_r_isStroke : resTmps Tryz.f77.results.toList = some [4] := by kernel_rfl
abbrev n_r_Rows : Nat := 79
def G_r_Rows : AC := (.seq (.rgn [⟨none, [(.box 3 2 (.t 0)), (.mv 6 (.k (I 0)))]⟩] [1, 2, 3]) (.seq (.seq (.rgn [⟨none, [(.ld 7 true 2 (.t 3)), (.call 8 24 [(.t 7)]), (.bin 9 .neq (.t 8) (.k (I 0)))]⟩] [1, 2, 3, 9]) (.cond (.t 9) (.seq (.rgn [⟨none, [(.ld 10 true 2 (.t 3)), (.call 11 24 [(.t 10)]), (.mv 6 (.t 11))]⟩] [6]) .ret) .skip)) (.seq (.seq (.rgn [⟨none, [(.ld 12 true 2 (.t 3)), (.mv 13 (.t 1)), (.call 14 67 [(.t 12), (.t 13)]), (.un 15 .not (.t 14)), (.mv 16 (.t 15))]⟩, ⟨(some (16, false)), [(.ld 17 true 2 (.t 3)), (.mv 18 (.t 2)), (.call 19 67 [(.t 17), (.t 18)]), (.un 20 .not (.t 19))]⟩, ⟨none, [(.pick 21 (.t 16) (.k (B true)) (.t 20))]⟩] [21]) (.cond (.t 21) (.seq (.rgn [⟨none, [(.mv 6 (.k (I 2)))]⟩] [6]) .ret) .skip)) (.seq (.rgn [⟨none, [(.mv 6 (.k (I 0)))]⟩] [6]) .ret))))
theorem func_r_Rows : Tryz.prog.funcs[n_r_Rows]? = some Tryz.f79 := Tryz.func79
theorem form_r_Rows : formOf Tryz.prog Tryz.f79 [6] = some G_r_Rows := by kernel_rfl
theorem res_r_Rows : resTmps Tryz.f79.results.toList = some [6] := by kernel_rfl
abbrev n_r_Reached : Nat := 80
def G_r_Reached : AC := (.seq (.rgn [⟨none, [(.box 2 2 (.t 0)), (.mv 4 (.k (.sl true 0 []))), (.mv 5 (.k (.sl true 0 []))), (.mv 6 (.k (.sl true 0 []))), (.mv 7 (.k (.sl true 0 [])))]⟩] [1, 2]) (.seq (.rgn [⟨none, [(.mv 17 (.t 1)), (.bsl 18 1 1 [(.sl true 0 [])] [(0, (.t 17))]), (.bsl 19 1 1 [(I 0)] [(0, (.k (I 0)))]), (.bsl 20 1 1 [(I 0)] [(0, (.k (I 1)))]), (.bsl 21 1 1 [(.sl true 0 [])] [(0, (.k (.sl true 0 [])))]), (.mv 8 (.t 18)), (.mv 9 (.t 19)), (.mv 10 (.t 20)), (.mv 11 (.t 21))]⟩] [2, 8, 9, 10, 11]) (.seq (.seq (.rgn [⟨none, [(.mv 12 (.k (I 0)))]⟩] [2, 8, 9, 10, 11, 12]) (.block 0 (.loop (.seq (.seq (.rgn [⟨none, [(.mv 22 (.t 12)), (.mv 23 (.t 8)), (.len 24 (.t 23)), (.bin 25 .lss (.t 22) (.t 24))]⟩] [2, 8, 9, 10, 11, 12, 25]) (.cond (.t 25) .skip (.exit 0))) (.seq (.block 1 (.seq (.rgn [⟨none, [(.mv 13 (.k (I 0)))]⟩] [2, 8, 9, 10, 11, 12, 13]) (.block 2 (.loop (.seq (.seq (.rgn [⟨none, [(.mv 28 (.t 13)), (.fa 29 (.t 2) 1), (.ld 30 false 1 (.t 29)), (.len 31 (.t 30)), (.bin 32 .lss (.t 28) (.t 31))]⟩] [2, 8, 9, 10, 11, 12, 13, 32]) (.cond (.t 32) .skip (.exit 2))) (.seq (.block 3 (.seq (.drw [⟨none, [(.fa 35 (.t 2) 1), (.ld 36 false 1 (.t 35)), (.mv 37 (.t 13)), (.ia 38 1 (.t 36) (.t 37)), (.ld 39 false 1 (.t 38)), (.mv 40 (.t 8)), (.mv 41 (.t 12)), (.ia 42 1 (.t 40) (.t 41)), (.ld 43 false 1 (.t 42)), (.call 44 55 [(.t 39), (.t 43)]), (.mv 14 (.t 44))]⟩] [(1, 8), (4, 8)] [2, 8, 9, 10, 11, 12, 13, 14]) (.seq (.rgn [⟨none, [(.bsl 45 0 1 [(I 0)] []), (.mv 46 (.t 11)), (.mv 47 (.t 12)), (.ia 48 1 (.t 46) (.t 47)), (.ld 49 false 1 (.t 48)), (.app 50 1 8 (.t 45) (.t 49)), (.mv 51 (.t 13)), (.bsl 52 1 1 [(I 0)] [(0, (.t 51))]), (.app 53 1 8 (.t 50) (.t 52)), (.mv 15 (.t 53))]⟩] [2, 8, 9, 10, 11, 12, 13, 14, 15]) (.seq (.rgn [⟨none, [(.mv 54 (.t 8)), (.mv 55 (.t 14)), (.call 56 81 [(.t 54), (.t 55)]), (.mv 16 (.t 56))]⟩] [2, 8, 9, 10, 11, 12, 13, 14, 15, 16]) (.seq (.seq (.rgn [⟨none, [(.mv 57 (.t 16)), (.bin 58 .lss (.t 57) (.k (I 0)))]⟩] [2, 8, 9, 10, 11, 12, 13, 14, 15, 16, 58]) (.cond (.t 58) (.seq (.drw [⟨none, [(.mv 59 (.t 8)), (.mv 60 (.t 14)), (.bsl 61 1 1 [(.sl true 0 [])] [(0, (.t 60))]), (.app 62 1 24 (.t 59) (.t 61)), (.mv 63 (.t 9)), (.mv 64 (.t 9)), (.mv 65 (.t 12)), (.ia 66 1 (.t 64) (.t 65)), (.ld 67 false 1 (.t 66)), (.bin 68 .add (.t 67) (.k (I 1))), (.bsl 69 1 1 [(I 0)] [(0, (.t 68))]), (.app 70 1 8 (.t 63) (.t 69)), (.mv 71 (.t 10)), (.mv 72 (.t 10)), (.mv 73 (.t 12)), (.ia 74 1 (.t 72) (.t 73)), (.ld 75 false 1 (.t 74)), (.bsl 76 1 1 [(I 0)] [(0, (.t 75))]), (.app 77 1 8 (.t 71) (.t 76)), (.mv 78 (.t 11)), (.mv 79 (.t 15)), (.bsl 80 1 1 [(.sl true 0 [])] [(0, (.t 79))]), (.app 81 1 24 (.t 78) (.t 80)), (.mv 8 (.t 62)), (.mv 9 (.t 70)), (.mv 10 (.t 77)), (.mv 11 (.t 81))]⟩] [(2, 8), (3, 8), (2, 10), (3, 10), (2, 16), (3, 16), (8, 16), (10, 16), (11, 16), (2, 17), (3, 17), (8, 17), (10, 17), (11, 17), (2, 21), (3, 21), (8, 21), (10, 21), (11, 21), (16, 21), (17, 21), (18, 21)] [2, 8, 9, 10, 11, 12, 13]) (.exit 3)) .skip)) (.seq (.seq (.drw [⟨none, [(.mv 82 (.t 9)), (.mv 83 (.t 16)), (.ia 84 1 (.t 82) (.t 83)), (.ld 85 false 1 (.t 84)), (.mv 86 (.t 9)), (.mv 87 (.t 12)), (.ia 88 1 (.t 86) (.t 87)), (.ld 89 false 1 (.t 88)), (.bin 90 .add (.t 89) (.k (I 1))), (.bin 91 .neq (.t 85) (.t 90))]⟩] [(3, 7)] [2, 8, 9, 10, 11, 12, 13, 15, 16, 91]) (.cond (.t 91) (.exit 3) .skip)) (.seq (.drw [⟨none, [(.mv 92 (.t 10)), (.mv 93 (.t 16)), (.mv 94 (.t 10)), (.mv 95 (.t 16)), (.ia 96 1 (.t 94) (.t 95)), (.ld 97 false 1 (.t 96)), (.mv 98 (.t 10)), (.mv 99 (.t 12)), (.ia 100 1 (.t 98) (.t 99)), (.ld 101 false 1 (.t 100)), (.bin 102 .add (.t 97) (.t 101)), (.mx 103 false (.k (I 1099511627777)) (.t 102)), (.ia 104 1 (.t 92) (.t 93)), (.st 1 (.t 104) (.t 103))]⟩] [(5, 9)] [2, 8, 9, 10, 11, 12, 13, 15, 16]) (.seq (.rgn [⟨none, [(.mv 105 (.t 15)), (.mv 106 (.t 11)), (.mv 107 (.t 16)), (.ia 108 1 (.t 106) (.t 107)), (.ld 109 false 1 (.t 108)), (.call 110 90 [(.t 105), (.t 109)])]⟩] [2, 8, 9, 10, 11, 12, 13, 15, 16, 110]) (.cond (.t 110) (.rgn [⟨none, [(.mv 111 (.t 11)), (.mv 112 (.t 16)), (.mv 113 (.t 15)), (.ia 114 1 (.t 111) (.t 112)), (.st 1 (.t 114) (.t 113))]⟩] [2, 8, 9, 10, 11, 12, 13]) .skip))))))))) (.rgn [⟨none, [(.mv 33 (.t 13)), (.bin 34 .add (.t 33) (.k (I 1))), (.mv 13 (.t 34))]⟩] [2, 8, 9, 10, 11, 12, 13]))))))) (.rgn [⟨none, [(.mv 26 (.t 12)), (.bin 27 .add (.t 26) (.k (I 1))), (.mv 12 (.t 27))]⟩] [2, 8, 9, 10, 11, 12])))))) (.seq (.rgn [⟨none, [(.mv 115 (.t 8)), (.mv 116 (.t 9)), (.mv 117 (.t 10)), (.mv 118 (.t 11)), (.mv 4 (.t 115)), (.mv 5 (.t 116)), (.mv 6 (.t 117)), (.mv 7 (.t 118))]⟩] [4, 5, 6, 7]) .ret))))
theorem func_r_Reached : Tryz.prog.funcs[n_r_Reached]? = some Tryz.f80 := Tryz.func80
theorem form_r_Reached : formOf Tryz.prog Tryz.f80 [4, 5, 6, 7] = some G_r_Reached := by kernel_rfl
theorem res_r_Reached : resTmps Tryz.f80.results.toList = some [4, 5, 6, 7] := by kernel_rfl
abbrev n_r_find : Nat := 81
def G_r_find : AC := (.seq (.rgn [⟨none, [(.mv 4 (.k (I 0)))]⟩] [0, 1]) (.seq (.seq (.rgn [⟨none, [(.mv 5 (.k (I 0)))]⟩] [0, 1, 5]) (.block 0 (.loop (.seq (.seq (.rgn [⟨none, [(.mv 6 (.t 5)), (.mv 7 (.t 0)), (.len 8 (.t 7)), (.bin 9 .lss (.t 6) (.t 8))]⟩] [0, 1, 5, 9]) (.cond (.t 9) .skip (.exit 0))) (.seq (.block 1 (.seq (.rgn [⟨none, [(.mv 12 (.t 0)), (.mv 13 (.t 5)), (.ia 14 1 (.t 12) (.t 13)), (.ld 15 false 1 (.t 14)), (.mv 16 (.t 1)), (.call 17 70 [(.t 15), (.t 16)])]⟩] [0, 1, 5, 17]) (.cond (.t 17) (.seq (.rgn [⟨none, [(.mv 18 (.t 5)), (.mv 4 (.t 18))]⟩] [4]) .ret) .skip))) (.rgn [⟨none, [(.mv 10 (.t 5)), (.bin 11 .add (.t 10) (.k (I 1))), (.mv 5 (.t 11))]⟩] [0, 1, 5])))))) (.seq (.rgn [⟨none, [(.mv 4 (.k (I (-1))))]⟩] [4]) .ret)))
theorem func_r_find : Tryz.prog.funcs[n_r_find]? = some Tryz.f81 := Tryz.func81
theorem form_r_find : formOf Tryz.prog Tryz.f81 [4] = some G_r_find := by kernel_rfl
theorem res_r_find : resTmps Tryz.f81.results.toList = some [4] := by kernel_rfl
abbrev n_r_First : Nat := 90
def G_r_First : AC := (.seq (.rgn [⟨none, [(.mv 4 (.k (B false)))]⟩] [0, 1]) (.seq (.seq (.rgn [⟨none, [(.mv 5 (.k (I 0)))]⟩] [0, 1, 5]) (.block 0 (.loop (.seq (.seq (.rgn [⟨none, [(.mv 6 (.t 5)), (.mv 7 (.t 0)), (.len 8 (.t 7)), (.bin 9 .lss (.t 6) (.t 8))]⟩] [0, 1, 5, 9]) (.cond (.t 9) .skip (.exit 0))) (.seq (.block 1 (.seq (.drw [⟨none, [(.mv 12 (.t 0)), (.mv 13 (.t 5)), (.ia 14 1 (.t 12) (.t 13)), (.ld 15 false 1 (.t 14)), (.mv 16 (.t 1)), (.mv 17 (.t 5)), (.ia 18 1 (.t 16) (.t 17)), (.ld 19 false 1 (.t 18)), (.bin 20 .neq (.t 15) (.t 19))]⟩] [(3, 7)] [0, 1, 5, 20]) (.cond (.t 20) (.seq (.drw [⟨none, [(.mv 21 (.t 0)), (.mv 22 (.t 5)), (.ia 23 1 (.t 21) (.t 22)), (.ld 24 false 1 (.t 23)), (.mv 25 (.t 1)), (.mv 26 (.t 5)), (.ia 27 1 (.t 25) (.t 26)), (.ld 28 false 1 (.t 27)), (.bin 29 .lss (.t 24) (.t 28)), (.mv 4 (.t 29))]⟩] [(3, 7)] [4]) .ret) .skip))) (.rgn [⟨none, [(.mv 10 (.t 5)), (.bin 11 .add (.t 10) (.k (I 1))), (.mv 5 (.t 11))]⟩] [0, 1, 5])))))) (.seq (.rgn [⟨none, [(.mv 4 (.k (B false)))]⟩] [4]) .ret)))
theorem func_r_First : Tryz.prog.funcs[n_r_First]? = some Tryz.f90 := Tryz.func90
theorem form_r_First : formOf Tryz.prog Tryz.f90 [4] = some G_r_First := by kernel_rfl
theorem res_r_First : resTmps Tryz.f90.results.toList = some [4] := by kernel_rfl
end Go.AM

set_option linter.unusedSimpArgs false
set_option linter.unusedVariables false
namespace Go.AM
open Go.RowKit Go.Proofs
theorem count_take {l : List Int} {i : Nat} {p : Int} (h : i < l.length) : (l.take (i + 1)).count p = (l.take i).count p + if l[i] = p then 1 else 0 := by
  rw [List.take_succ_eq_append_getElem h, List.count_append, List.count_singleton]
  by_cases e : l[i] = p
  · simp [e]
  · simp [e]
set_option maxHeartbeats 1000000 in
theorem r_isStroke_ok (f : Bool) (l : List Int) (P : Int) (hl : l.length ≤ 1000000) : PureOK Tryz.prog n_r_isStroke [Ls f l, I P] (B (strO P l)) := by
  refine pure_of (walk func_r_isStroke form_r_isStroke res_r_isStroke (by show 2 ≤ _; decide) ?_)
  simp -implicitDefEqProofs (disch := omega) [G_r_isStroke, wrap_id]
  by_cases hP : (l.length : Int) = P
  · subst hP
    simp -implicitDefEqProofs (disch := omega) [wrap_id]
    refine loop_eq (fun p : Nat => ⟨[(0, Ls f l), (1, I (l.length : Int)), (5, I (p : Int))], []⟩) (fun p => p ≤ l.length ∧ ((List.range p).all fun p => l.count (p : Int) == 1) = true) (fun p => l.length - p) 0 ⟨Nat.zero_le _, rfl⟩ rfl ?_
    rintro p ⟨hp, ha⟩
    refine hideK' fun K0 hK0 => ?_
    simp -implicitDefEqProofs (disch := omega) [wrap_id]
    refine c_split (fun h => ?_) (fun h => ?_)
    · have hp : p < l.length := by simp at h; omega
      have px : ((p : Int) + 1) = ((p + 1 : Nat) : Int) := by omega
      simp -implicitDefEqProofs (disch := omega) [wrap_id]
      refine loop_eq (fun i : Nat => ⟨[(0, Ls f l), (1, I (l.length : Int)), (5, I (p : Int)), (6, I ((l.take i).count (p : Int) : Nat)), (7, I (i : Int))], []⟩) (fun i => i ≤ l.length) (fun i => l.length - i) 0 (Nat.zero_le _) rfl ?_
      intro i hi
      refine hideK' fun K1 hK1 => ?_
      simp -implicitDefEqProofs (disch := omega) [wrap_id]
      refine c_split (fun h => ?_) (fun h => ?_)
      · have hi : i < l.length := by simp at h; omega
        have ix : ((i : Int) + 1) = ((i + 1 : Nat) : Int) := by omega
        have ct := count_take (p := (p : Int)) hi
        have cl : (l.take i).count (p : Int) ≤ l.length := Nat.le_trans List.count_le_length (by rw [List.length_take]; omega)
        generalize hc : (l.take i).count (p : Int) = c at *
        have cx : ((c : Int) + 1) = ((c + 1 : Nat) : Int) := by omega
        by_cases e : l[i] = (p : Int)
        · rw [if_pos e] at ct
          simp -implicitDefEqProofs (disch := omega) [wrap_id, cells_ls, hi, e]
          rw [hK1]
          exact next_eq (i + 1) (by omega) (by omega) (by simp only [ix, cx, ct])
        · rw [if_neg e] at ct
          have e' : (l[i] == (p : Int)) = false := by simpa using e
          simp -implicitDefEqProofs (disch := omega) [wrap_id, cells_ls, hi, e, e']
          rw [hK1]
          exact next_eq (i + 1) (by omega) (by omega) (by simp only [ix, ct]; rfl)
      · have hi : i = l.length := by simp at h; omega
        subst hi
        subst hK1
        have cl := List.count_le_length (a := (p : Int)) (l := l)
        have tk : l.take l.length = l := List.take_of_length_le (Nat.le_refl _)
        by_cases e : l.count (p : Int) = 1
        · simp -implicitDefEqProofs (disch := omega) [wrap_id, e, tk]
          rw [hK0]
          refine next_eq (p + 1) ⟨by omega, ?_⟩ (by omega) (by simp only [px])
          rw [range_all_succ, ha, e]; rfl
        · have e' : ((l.count (p : Int) : Int) != 1) = true := by simp only [bne_iff_ne, ne_eq]; omega
          have hf : strO (l.length : Int) l = false := by
            unfold strO
            have : ((List.range l.length).all fun p => l.count (p : Int) == 1) = false := by
              rw [List.all_eq_false]
              exact ⟨p, List.mem_range.2 hp, by simp [e]⟩
            rw [this, Bool.and_false]
          simp -implicitDefEqProofs (disch := omega) [wrap_id, e', tk]
          rw [hf] at hK0
          subst hK0
          simp -implicitDefEqProofs (disch := omega) [wrap_id]
    · have hp : p = l.length := by simp at h; omega
      subst hp
      have ht : strO (l.length : Int) l = true := by unfold strO; rw [ha]; simp
      rw [ht] at hK0
      subst hK0
      simp -implicitDefEqProofs (disch := omega) [wrap_id]
  · have hP' : ((l.length : Int) != P) = true := by simpa using hP
    have hf : strO P l = false := by unfold strO; rw [decide_eq_false hP]; rfl
    simp -implicitDefEqProofs (disch := omega) [wrap_id, hP', hf]
end Go.AM

set_option linter.unusedSimpArgs false
set_option linter.unusedVariables false
namespace Go.AM
open Go.RowKit Go.Proofs
theorem r_Equal_ok (f g : Bool) (l m : List Int) (hl : l.length ≤ 1000000) (hm : m.length ≤ 1000000) : PureOK Tryz.prog n_r_Equal [Ls f l, Ls g m] (B (decide (l = m))) := by
  refine pure_of (walk func_r_Equal form_r_Equal res_r_Equal (by show 2 ≤ _; decide) ?_)
  simp -implicitDefEqProofs (disch := omega) [G_r_Equal, wrap_id]
  refine c_split (fun h => ?_) (fun h => ?_)
  · simp at h; simp -implicitDefEqProofs (disch := omega) [wrap_id, h]
    intro e; subst e; exact h rfl
  · simp at h; simp -implicitDefEqProofs (disch := omega) [wrap_id, h]
    refine loop_eq (fun i : Nat => ⟨[(0, Ls f l), (1, Ls g m), (5, I i)], []⟩) (fun i => i ≤ l.length ∧ l.take i = m.take i) (fun i => l.length - i) 0 ⟨by omega, rfl⟩ rfl ?_
    intro i ⟨hi, he⟩
    simp -implicitDefEqProofs (disch := omega) [wrap_id]
    refine c_split (fun h => ?_) (fun h => ?_)
    · simp at h
      have h2 : i < m.length := by omega
      simp -implicitDefEqProofs (disch := omega) [wrap_id, cells_ls, h, h2]
      refine c_split (fun h3 => ?_) (fun h3 => ?_)
      · simp at h3; simp -implicitDefEqProofs (disch := omega) [wrap_id]
        intro e; subst e; exact h3 rfl
      · simp at h3; simp -implicitDefEqProofs (disch := omega) [wrap_id]
        refine next_eq (i + 1) ⟨by omega, ?_⟩ (by omega) (by simp)
        rw [List.take_add_one, List.take_add_one, he]; simp [h, h2, h3]
    · simp at h; simp -implicitDefEqProofs (disch := omega) [wrap_id]
      have e1 : l.take i = l := List.take_of_length_le h
      have e2 : m.take i = m := List.take_of_length_le (by omega)
      rw [← e1, he, e2]
set_option maxHeartbeats 1000000 in
theorem r_CheckBench_ok (g : Bool) (b : OB) (hb : b.s.length ≤ 1000000) (hs : ∀ p ∈ b.s, p.2.length ≤ 1000000) : PureOK Tryz.prog n_r_CheckBench [On g b] (I (chkO b)) := by
  refine pure_of (walk func_r_CheckBench form_r_CheckBench res_r_CheckBench (by show 1 ≤ _; decide) ?_)
  simp -implicitDefEqProofs (disch := omega) [G_r_CheckBench, wrap_id]
  by_cases h1 : b.P < 2
  · have e : chkO b = 2 := by unfold chkO; rw [if_pos (.inl h1)]
    simp -implicitDefEqProofs (disch := omega) [wrap_id, h1, e]
  by_cases h2 : 6 < b.P
  · have e : chkO b = 2 := by unfold chkO; rw [if_pos (.inr h2)]
    simp -implicitDefEqProofs (disch := omega) [wrap_id, h1, h2, e]
  by_cases h3 : 6 < b.s.length
  · have h3' : (6 : Int) < b.s.length := by omega
    have e : chkO b = 6 := by unfold chkO; rw [if_neg (by omega), if_pos h3]
    simp -implicitDefEqProofs (disch := omega) [wrap_id, h1, h2, h3', e]
  have h3' : ¬ (6 : Int) < b.s.length := by omega
  have e : chkO b = if b.s.all (fun p => strO b.P p.2) then 0 else 15 := by unfold chkO; rw [if_neg (by omega), if_neg h3]
  rw [e]
  simp -implicitDefEqProofs (disch := omega) [wrap_id, h1, h2, h3']
  refine loop_eq (fun i : Nat => ⟨[(1, .ref 0 0), (3, I (i : Int))], [.cells [I b.P, LLs g b.s]]⟩) (fun i => i ≤ b.s.length ∧ ∀ k (hk : k < b.s.length), k < i → strO b.P b.s[k].2 = true) (fun i => b.s.length - i) 0 ⟨Nat.zero_le _, fun k _ h => by omega⟩ rfl ?_
  rintro i ⟨hi, ha⟩
  refine hideK' fun K0 hK0 => ?_
  simp -implicitDefEqProofs (disch := omega) [wrap_id]
  refine c_split (fun h => ?_) (fun h => ?_)
  · have hi : i < b.s.length := by simp at h; omega
    have ix : ((i : Int) + 1) = ((i + 1 : Nat) : Int) := by omega
    simp -implicitDefEqProofs (disch := omega) [wrap_id, cells_lls, hi]
    refine pureW_of rfl (r_isStroke_ok _ _ b.P (hs _ (List.getElem_mem hi))) ?_
    cases hst : strO b.P b.s[i].2 with
    | true =>
      simp -implicitDefEqProofs (disch := omega) [wrap_id, cmp2, nthT]
      rw [hK0]
      refine next_eq (i + 1) ⟨by omega, fun k hk hki => ?_⟩ (by omega) (by simp only [ix])
      by_cases hk2 : k = i
      · subst hk2; exact hst
      · exact ha k hk (by omega)
    | false =>
      have hf : b.s.all (fun p => strO b.P p.2) = false := by
        rw [List.all_eq_false]
        exact ⟨b.s[i], List.getElem_mem hi, by simp [hst]⟩
      rw [hf] at hK0
      subst hK0
      simp -implicitDefEqProofs (disch := omega) [wrap_id, cmp2, nthT]
  · have hi : i = b.s.length := by simp at h; omega
    subst hi
    have ht : b.s.all (fun p => strO b.P p.2) = true := by
      rw [List.all_eq_true]
      intro p hp
      obtain ⟨k, hk, rfl⟩ := List.getElem_of_mem hp
      exact ha k hk hk
    rw [ht] at hK0
    subst hK0
    simp -implicitDefEqProofs (disch := omega) [wrap_id]
set_option maxHeartbeats 1000000 in
theorem r_IsRow_ok (g f : Bool) (b : OB) (l : List Int) (hl : l.length ≤ 1000000) : PureOK Tryz.prog n_r_IsRow [On g b, Ls f l] (B (rowO b l)) := by
  refine pure_of (walk func_r_IsRow form_r_IsRow res_r_IsRow (by show 2 ≤ _; decide) ?_)
  simp -implicitDefEqProofs (disch := omega) [G_r_IsRow, wrap_id]
  by_cases h1 : (l.length : Int) = b.P
  · have e : rowO b l = l.all fun n => decide (0 ≤ n) && decide (n ≤ 5) := by unfold rowO; rw [decide_eq_true h1]; rfl
    have h1' : ((l.length : Int) != b.P) = false := by simpa using h1
    rw [e]
    simp -implicitDefEqProofs (disch := omega) [wrap_id, h1']
    refine loop_eq (fun i : Nat => ⟨[(1, Ls f l), (5, I (i : Int))], [.cells [I b.P, LLs g b.s]]⟩) (fun i => i ≤ l.length ∧ ∀ k (hk : k < l.length), k < i → 0 ≤ l[k] ∧ l[k] ≤ 5) (fun i => l.length - i) 0 ⟨Nat.zero_le _, fun k _ h => by omega⟩ rfl ?_
    rintro i ⟨hi, ha⟩
    refine hideK' fun K0 hK0 => ?_
    simp -implicitDefEqProofs (disch := omega) [wrap_id]
    refine c_split (fun h => ?_) (fun h => ?_)
    · have hi : i < l.length := by simp at h; omega
      have ix : ((i : Int) + 1) = ((i + 1 : Nat) : Int) := by omega
      have bad : ¬ (0 ≤ l[i] ∧ l[i] ≤ 5) → (l.all fun n => decide (0 ≤ n) && decide (n ≤ 5)) = false := fun hn => by
        rw [List.all_eq_false]
        exact ⟨l[i], List.getElem_mem hi, by simpa using hn⟩
      by_cases q1 : l[i] < 0
      · rw [bad (by omega)] at hK0
        subst hK0
        simp -implicitDefEqProofs (disch := omega) [wrap_id, cells_ls, hi, q1]
      by_cases q2 : 5 < l[i]
      · rw [bad (by omega)] at hK0
        subst hK0
        simp -implicitDefEqProofs (disch := omega) [wrap_id, cells_ls, hi, q1, q2]
      simp -implicitDefEqProofs (disch := omega) [wrap_id, cells_ls, hi, q1, q2]
      rw [hK0]
      refine next_eq (i + 1) ⟨by omega, fun k hk hki => ?_⟩ (by omega) (by simp only [ix])
      by_cases hk2 : k = i
      · subst hk2; omega
      · exact ha k hk (by omega)
    · have hi : i = l.length := by simp at h; omega
      subst hi
      have ht : (l.all fun n => decide (0 ≤ n) && decide (n ≤ 5)) = true := by
        rw [List.all_eq_true]
        intro p hp
        obtain ⟨k, hk, rfl⟩ := List.getElem_of_mem hp
        simpa using ha k hk hk
      rw [ht] at hK0
      subst hK0
      simp -implicitDefEqProofs (disch := omega) [wrap_id]
  · have e : rowO b l = false := by unfold rowO; rw [decide_eq_false h1]; rfl
    have h1' : ((l.length : Int) != b.P) = true := by simpa using h1
    simp -implicitDefEqProofs (disch := omega) [wrap_id, h1', e]
end Go.AM

set_option linter.unusedSimpArgs false
set_option linter.unusedVariables false
namespace Go.AM
open Go.RowKit Go.Proofs
set_option maxHeartbeats 1000000 in
theorem r_After_ok (f g : Bool) (s r : List Int) (hl : r.length ≤ 1000) (hs : s.length = r.length) (hi : ∀ x ∈ s, 0 ≤ x ∧ x < r.length) : PureOK Tryz.prog n_r_After [Ls f s, Ls g r] (Ls (aft s r).isEmpty (aft s r)) := by
  refine pure_of (walk func_r_After form_r_After res_r_After (by show 2 ≤ _; decide) ?_)
  simp -implicitDefEqProofs (disch := omega) [G_r_After, wrap_id]
  have al : (aft s r).length = s.length := aft_len
  refine loop_eq (fun q : Nat × AV × List HObj => ⟨[(0, Ls f s), (1, Ls g r), (5, q.2.1), (6, I (q.1 : Int))], q.2.2⟩) (fun q => q.1 ≤ r.length ∧ AccR q.2.2 q.2.1 ((aft s r).take q.1)) (fun q => r.length - q.1) (0, .sl true 0 [], []) ⟨Nat.zero_le _, .inl ⟨rfl, by simp⟩⟩ rfl ?_
  rintro ⟨i, x, H⟩ ⟨c1, c2⟩
  simp only at c1 c2 ⊢
  refine hideK' fun K0 hK0 => ?_
  simp -implicitDefEqProofs (disch := omega) [wrap_id]
  refine c_split (fun h => ?_) (fun h => ?_)
  · have hir : i < r.length := by simp at h; omega
    have his : i < s.length := by omega
    have ix : ((i : Int) + 1) = ((i + 1 : Nat) : Int) := by omega
    obtain ⟨b1, b2⟩ := hi s[i] (List.getElem_mem his)
    obtain ⟨n, hn⟩ : ∃ n : Nat, s[i] = n := ⟨s[i].toNat, by omega⟩
    have hnr : n < r.length := by omega
    have tk : (aft s r).take (i + 1) = (aft s r).take i ++ [r[n]] := by
      rw [List.take_succ_eq_append_getElem (by omega), aft_get (by omega)]
      simp [hn, hnr]
    have tl : ((aft s r).take i).length = i := by rw [List.length_take]; omega
    simp -implicitDefEqProofs (disch := omega) [wrap_id, cells_ls, hir, his, hn, hnr]
    refine bsl_of (ys := [I r[n]]) rfl rfl ?_
    simp -implicitDefEqProofs (disch := omega) [wrap_id, zrep]
    refine app_row c2.row (by omega) fun ws w1 w2 w3 => ?_
    simp -implicitDefEqProofs (disch := omega) [wrap_id]
    rw [hK0]
    refine next_eq (i + 1, .ms H.length 0 (i + 1) 1, writeL H ws) ⟨by simp only; omega, .inr ⟨H.length, ?_, ?_, ?_⟩⟩ (by simp only; omega) (by simp only [ix, tl])
    · rw [List.length_take, Nat.min_eq_left (by omega)]
    · simp only [tk]; simp
    · simp only [tk]; exact w3
  · have hir : i = r.length := by simp at h; omega
    subst hir
    subst hK0
    have tk : (aft s r).take r.length = aft s r := List.take_of_length_le (by omega)
    rw [tk] at c2
    simp -implicitDefEqProofs (disch := omega) [wrap_id]
    exact out_acc c2
end Go.AM

set_option linter.unusedSimpArgs false
set_option linter.unusedVariables false
namespace Go.AM
open Go.RowKit Go.Proofs
set_option maxHeartbeats 1000000 in
theorem r_Rows_ok (g f h : Bool) (b : OB) (hz : SzO b) (r x : List Int) (hr : r.length ≤ 1000000) (hx : x.length ≤ 1000000) : PureOK Tryz.prog n_r_Rows [On g b, Ls f r, Ls h x] (I (rwsE b r x)) := by
  refine pure_of (walk func_r_Rows form_r_Rows res_r_Rows (by show 3 ≤ _; decide) ?_)
  simp -implicitDefEqProofs (disch := omega) [G_r_Rows, wrap_id]
  refine callW_pure rfl (r_CheckBench_ok g b hz.many hz.len) ?_
  by_cases h0 : chkO b = 0
  · simp -implicitDefEqProofs (disch := omega) [wrap_id, h0]
    refine callW_pure rfl (r_IsRow_ok g f b r hr) ?_
    cases h1 : rowO b r with
    | true =>
      simp -implicitDefEqProofs (disch := omega) [wrap_id, h1]
      refine callW_pure rfl (r_IsRow_ok g h b x hx) ?_
      cases h2 : rowO b x with
      | true =>
        have e : rwsE b r x = 0 := by unfold rwsE; rw [if_neg (by omega), if_neg (by simp [h1, h2])]
        simp -implicitDefEqProofs (disch := omega) [wrap_id, h2, e]
      | false =>
        have e : rwsE b r x = 2 := by unfold rwsE; rw [if_neg (by omega), if_pos (.inr h2)]
        simp -implicitDefEqProofs (disch := omega) [wrap_id, h2, e]
    | false =>
      have e : rwsE b r x = 2 := by unfold rwsE; rw [if_neg (by omega), if_pos (.inl h1)]
      simp -implicitDefEqProofs (disch := omega) [wrap_id, h1, e]
  · have e1 : rwsE b r x = chkO b := by unfold rwsE; rw [if_pos h0]
    have h0' : (chkO b != 0) = true := by simpa using h0
    simp -implicitDefEqProofs (disch := omega) [wrap_id, h0']
    refine callW_pure rfl (r_CheckBench_ok g b hz.many hz.len) ?_
    simp -implicitDefEqProofs (disch := omega) [wrap_id, e1]
end Go.AM

set_option linter.unusedSimpArgs false
set_option linter.unusedVariables false
namespace Go.AM
open Go.RowKit Go.Proofs
set_option maxHeartbeats 1000000 in
theorem r_First_ok (f g : Bool) (l m : List Int) (hl : l.length ≤ 1000000) (hm : m.length = l.length) : PureOK Tryz.prog n_r_First [Ls f l, Ls g m] (B (frst l m)) := by
  refine pure_of (walk func_r_First form_r_First res_r_First (by show 2 ≤ _; decide) ?_)
  simp -implicitDefEqProofs (disch := omega) [G_r_First, wrap_id]
  refine loop_eq (fun i : Nat => ⟨[(0, Ls f l), (1, Ls g m), (5, I (i : Int))], []⟩) (fun i => i ≤ l.length ∧ frst l m = frst (l.drop i) (m.drop i)) (fun i => l.length - i) 0 ⟨Nat.zero_le _, rfl⟩ rfl ?_
  rintro i ⟨hi, he⟩
  refine hideK' fun K0 hK0 => ?_
  simp -implicitDefEqProofs (disch := omega) [wrap_id]
  refine c_split (fun hc => ?_) (fun hc => ?_)
  · have hi : i < l.length := by simp at hc; omega
    have hi2 : i < m.length := by omega
    have ix : ((i : Int) + 1) = ((i + 1 : Nat) : Int) := by omega
    rw [List.drop_eq_getElem_cons hi, List.drop_eq_getElem_cons hi2] at he
    simp only [frst] at he
    by_cases e : l[i] = m[i]
    · rw [if_pos e] at he
      have e' : (l[i] != m[i]) = false := by simpa using e
      simp -implicitDefEqProofs (disch := omega) [wrap_id, cells_ls, hi, hi2, e', cmp2, nthT]
      rw [hK0]
      exact next_eq (i + 1) ⟨by omega, he⟩ (by omega) (by simp only [ix])
    · rw [if_neg e] at he
      have e' : (l[i] != m[i]) = true := by simpa using e
      rw [he] at hK0
      subst hK0
      simp -implicitDefEqProofs (disch := omega) [wrap_id, cells_ls, hi, hi2, e', cmp2, nthT]
  · have hi : i = l.length := by simp at hc; omega
    subst hi
    rw [List.drop_length] at he
    have : frst l m = false := by rw [he]; rfl
    rw [this] at hK0
    subst hK0
    simp -implicitDefEqProofs (disch := omega) [wrap_id]
def fnd (l : List (Bool × List Int)) (r : List Int) : Int := idxI (fun p => decide (p.2 = r)) l
set_option maxHeartbeats 1000000 in
theorem r_find_ok (g f : Bool) (l : List (Bool × List Int)) (r : List Int) (hl : l.length ≤ 1000000) (hz : ∀ p ∈ l, p.2.length ≤ 1000000) (hr : r.length ≤ 1000000) : PureOK Tryz.prog n_r_find [LLs g l, Ls f r] (I (fnd l r)) := by
  refine pure_of (walk func_r_find form_r_find res_r_find (by show 2 ≤ _; decide) ?_)
  simp -implicitDefEqProofs (disch := omega) [G_r_find, wrap_id]
  refine loop_eq (fun i : Nat => ⟨[(0, LLs g l), (1, Ls f r), (5, I (i : Int))], []⟩) (fun i => i ≤ l.length ∧ ∀ k (hk : k < l.length), k < i → l[k].2 ≠ r) (fun i => l.length - i) 0 ⟨Nat.zero_le _, fun k _ h => by omega⟩ rfl ?_
  rintro i ⟨hi, he⟩
  refine hideK' fun K0 hK0 => ?_
  simp -implicitDefEqProofs (disch := omega) [wrap_id]
  refine c_split (fun hc => ?_) (fun hc => ?_)
  · have hi : i < l.length := by simp at hc; omega
    have ix : ((i : Int) + 1) = ((i + 1 : Nat) : Int) := by omega
    simp -implicitDefEqProofs (disch := omega) [wrap_id, cells_lls, hi]
    refine callW_pure rfl (r_Equal_ok _ _ l[i].2 r (hz _ (List.getElem_mem hi)) hr) ?_
    by_cases e : l[i].2 = r
    · have : fnd l r = i := idxI_some hi (by simpa using e) (fun k hk h => by simpa using he k hk h)
      rw [this] at hK0
      subst hK0
      simp -implicitDefEqProofs (disch := omega) [wrap_id, e]
    · simp -implicitDefEqProofs (disch := omega) [wrap_id, e]
      rw [hK0]
      refine next_eq (i + 1) ⟨by omega, fun k hk h => ?_⟩ (by omega) (by simp only [ix])
      by_cases hk2 : k = i
      · subst hk2; exact e
      · exact he k hk (by omega)
  · have hi : i = l.length := by simp at hc; omega
    subst hi
    have : fnd l r = -1 := idxI_none fun k hk => by simpa using he k hk hk
    rw [this] at hK0
    subst hK0
    simp -implicitDefEqProofs (disch := omega) [wrap_id]
end Go.AM

set_option linter.unusedSimpArgs false
set_option linter.unusedVariables false
namespace Go.AM
open Go.RowKit Go.Proofs
theorem fnd_none {l : List (Bool × List Int)} {r : List Int} (h : r ∉ l.map (·.2)) : fnd l r = -1 := idxI_none fun k hk => by
  rw [decide_eq_false_iff_not]
  intro e
  exact h (List.mem_map.2 ⟨l[k], List.getElem_mem hk, e⟩)
theorem fnd_at {l : List (Bool × List Int)} {r : List Int} (hn : (l.map (·.2)).Nodup) {k : Nat} (hk : k < l.length) (e : l[k].2 = r) : fnd l r = k := idxI_some hk (decide_eq_true e) fun j hj hlt => by
  rw [decide_eq_false_iff_not]
  intro e2
  have := getD_inj (d := []) hn (i := j) (j := k) (by simpa using hj) (by simpa using hk) (by
    rw [List.getD_eq_getElem?_getD, List.getD_eq_getElem?_getD, List.getElem?_map, List.getElem?_map, List.getElem?_eq_getElem hj, List.getElem?_eq_getElem hk]
    exact e2.trans e.symm)
  omega
theorem set_app {H : List HObj} {a : Nat} {x o : HObj} (ha : a < H.length) : (∀ j, j < H.length → j ≠ a → nthH (H.set a x ++ [o]) j = nthH H j) ∧ nthH (H.set a x ++ [o]) H.length = some o ∧ (H.set a x ++ [o]).length = H.length + 1 := by
  refine ⟨fun j hj hne => ?_, ?_, by simp⟩
  · rw [nthH_front (by simpa using hj), nthH_set_ne (Ne.symm hne)]
  · rw [nthH_eq, List.getElem?_append_right (by simp)]; simp
theorem snoc_lls {l : List (Bool × List Int)} {f : Bool} {x : List Int} : llsC l ++ [Ls f x] = llsC (l ++ [(f, x)]) := by simp
theorem snoc_wI {F : List Nat} {v : Nat} : ((wI F).map fun n => I n) ++ [I (v : Int)] = (wI (F ++ [v])).map fun n => I n := by
  rw [wI_snoc, List.map_append]; rfl
theorem take_lls {l : List (Bool × List Int)} {f : Bool} {x : List Int} : List.take l.length (llsC l) ++ [Ls f x] = llsC (l ++ [(f, x)]) := by
  rw [List.take_of_length_le (by simp)]; simp
theorem take_wI {F : List Nat} {v : Nat} : List.take F.length ((wI F).map fun n => I n) ++ [I (v : Int)] = (wI (F ++ [v])).map fun n => I n := by
  rw [List.take_of_length_le (by simp [wI_len]), wI_snoc, List.map_append]; rfl
theorem purifyL_lls {hp : Hp} : ∀ (l : List (Bool × List Int)), purifyL hp (llsC l) = some (llsC l, [])
  | [] => rfl
  | p :: l => by
    have := purifyL_lls (hp := hp) l
    simp only [llsC, List.map_cons, purifyL, purify1, purify0] at this ⊢
    rw [this]; rfl
theorem purifyL_set {hp : Hp} {x : AV} {f : Bool} {v : List Int} {is : List Nat} (hx : purify1 hp x = some (Ls f v, is)) : ∀ (l : List (Bool × List Int)) (k : Nat), k < l.length → purifyL hp ((llsC l).set k x) = some (llsC (l.set k (f, v)), is)
  | [], k, h => by simp at h
  | p :: l, 0, _ => by
    have := purifyL_lls (hp := hp) l
    simp only [llsC, List.map_cons, List.set_cons_zero, purifyL] at this ⊢
    rw [hx, this]; simp
  | p :: l, k + 1, h => by
    have := purifyL_set hx l k (by simpa using h)
    simp only [llsC, List.map_cons, List.set_cons_succ, purifyL] at this ⊢
    rw [this]; rfl
structure Rnd (b : OB) (g : Bool) (r : List Int) (hp H : List HObj) (i s : Nat) (xr xf xm xl : AV) (RL : List (Bool × List Int)) (F M : List Nat) (LL : List (Bool × List Int)) (L : List (List Nat)) (G : List (List (List Nat))) : Prop where
  bfs : Bfs b.S r i s (RL.map (·.2)) F M L G
  words : LL.map (·.2) = L.map wI
  q : Qs H hp.length xr xf xm xl RL F M LL
  box : nthH H hp.length = some (.cells [I b.P, LLs g b.s])
  keep : ∀ j, j < hp.length → nthH H j = nthH hp j
  lt : hp.length < H.length
theorem reach_bound {b : OB} {n : Nat} (hb : Okb b n) {r : List Int} (hr : r.length = n) (hc : ∀ x ∈ r, 0 ≤ x ∧ x ≤ 5) {i s : Nat} {R : List (List Int)} {F M : List Nat} {L : List (List Nat)} {G : List (List (List Nat))} (h : Bfs b.S r i s R F M L G) :
    R.length ≤ 46656 ∧ (∀ k, k < R.length → F.getD k 0 < 46656) ∧ (∀ k, k < R.length → (R.getD k []).length = n) := by
  have hS : PmS n b.S := fun s hs => by
    obtain ⟨q, hq, rfl⟩ := List.mem_map.1 hs
    exact hb.pm q hq
  have hC : ∀ x ∈ r, x ∈ plcL 6 := fun x hx => plc_mem.2 (by have := hc x hx; omega)
  have p6 : (plcL 6).length ^ n ≤ 46656 := by
    rw [plcL_len]
    have : 6 ^ n ≤ 6 ^ 6 := Nat.pow_le_pow_right (by decide) hb.hi
    exact this
  have word : ∀ x ∈ R, ∃ w, Wd b.S r x w := fun x hx => by
    obtain ⟨k, hk, rfl⟩ := mem_getD (d := []) hx
    obtain ⟨⟨w, hw, _⟩, _⟩ := h.dist k hk
    exact ⟨w, hw⟩
  refine ⟨?_, fun k hk => ?_, fun k hk => ?_⟩
  · have sub : R ⊆ allRows (plcL 6) n := fun x hx => by
      obtain ⟨w, hw⟩ := word x hx
      refine mem_allRows (hw.len hS hr) ?_
      rw [← hw.2]
      exact allS_col hS hw.1 hr hC
    have := h.nd.length_le_of_subset sub
    rw [allRows_len] at this
    omega
  · have := dist_lt hS hr hC (h.dist k hk)
    omega
  · obtain ⟨w, hw⟩ := word _ (getD_mem (d := []) hk)
    exact hw.len hS hr
set_option maxHeartbeats 8000000 in
theorem r_Reached_w (g f : Bool) {b : OB} {n : Nat} (hb : Okb b n) {r : List Int} (hr : r.length = n) (hc : ∀ x ∈ r, 0 ≤ x ∧ x ≤ 5) {hp : List HObj} {K : AV → List HObj → Prop}
    (hK : ∀ H xr xf xm xl RL F M LL L G, Rnd b g r hp H RL.length 0 xr xf xm xl RL F M LL L G → K (.tup [xr, xf, xm, xl]) H) : CallW Tryz.prog n_r_Reached [On g b, Ls f r] hp K := by
  have h6 := hb.hi
  have h2 := hb.lo
  have hmany := hb.many
  refine walk func_r_Reached form_r_Reached res_r_Reached (by show 2 ≤ _; decide) ?_
  simp -implicitDefEqProofs (disch := omega) [G_r_Reached, wrap_id]
  refine bsl_of (ys := [Ls f r]) rfl rfl ?_
  simp -implicitDefEqProofs (disch := omega) [wrap_id, zrep]
  refine bsl_of (ys := [I 0]) rfl rfl ?_
  simp -implicitDefEqProofs (disch := omega) [wrap_id, zrep]
  refine bsl_of (ys := [I 1]) rfl rfl ?_
  simp -implicitDefEqProofs (disch := omega) [wrap_id, zrep]
  refine bsl_of (ys := [.sl true 0 []]) rfl rfl ?_
  simp -implicitDefEqProofs (disch := omega) [wrap_id, zrep]
  refine loop_eq (fun q : Nat × List HObj × AV × AV × AV × AV => ⟨[(2, .ref hp.length 0), (8, q.2.2.1), (9, q.2.2.2.1), (10, q.2.2.2.2.1), (11, q.2.2.2.2.2), (12, I (q.1 : Int))], q.2.1⟩)
    (fun q => ∃ RL F M LL L G, Rnd b g r hp q.2.1 q.1 0 q.2.2.1 q.2.2.2.1 q.2.2.2.2.1 q.2.2.2.2.2 RL F M LL L G) (fun q => 50000 - q.1)
    (0, hp ++ [.cells [I b.P, LLs g b.s]], LLs true [(f, r)], Ls true (wI [0]), Ls true (wI [1]), LLs true [(true, [])])
    ⟨[(f, r)], [0], [1], [(true, [])], [[]], [[[]]], ⟨Bfs.init, rfl, .inl ⟨rfl, rfl, rfl, rfl, rfl⟩, by simp [nthH_eq], fun j hj => nthH_front hj, by simp⟩⟩ rfl ?_
  rintro ⟨i, H, xr, xf, xm, xl⟩ ⟨RL, F, M, LL, L, G, c⟩
  simp only at c ⊢
  obtain ⟨B1, B2, B3⟩ := reach_bound hb hr hc c.bfs
  rw [List.length_map] at B1 B2 B3
  refine hideK' fun K0 hK0 => ?_
  have hlen : ∀ K : AV → List (Nat × HObj) → Prop, LenW xr K = K (I (RL.length : Int)) [] := fun K => by
    rcases c.q with ⟨_, rfl, _⟩ | ⟨a, _, _, _, _, _, _, _, _, _, _, _, _, _, rfl, _⟩ <;> rfl
  simp -implicitDefEqProofs (disch := omega) [wrap_id, hlen]
  refine c_split (fun h => ?_) (fun h => ?_)
  · have hi : i < RL.length := by simpa using h
    have ix : ((i : Int) + 1) = ((i + 1 : Nat) : Int) := by omega
    simp -implicitDefEqProofs (disch := omega) [wrap_id]
    refine loop_eq (fun q : Nat × List HObj × AV × AV × AV × AV => ⟨[(2, .ref hp.length 0), (8, q.2.2.1), (9, q.2.2.2.1), (10, q.2.2.2.2.1), (11, q.2.2.2.2.2), (12, I (i : Int)), (13, I (q.1 : Int))], q.2.1⟩)
      (fun q => ∃ RL F M LL L G, Rnd b g r hp q.2.1 i q.1 q.2.2.1 q.2.2.2.1 q.2.2.2.2.1 q.2.2.2.2.2 RL F M LL L G ∧ i < RL.length ∧ q.1 ≤ b.s.length) (fun q => b.s.length - q.1)
      (0, H, xr, xf, xm, xl) ⟨RL, F, M, LL, L, G, c, hi, by simp only; omega⟩ rfl ?_
    clear hlen B1 B2 B3
    rintro ⟨s, H1, yr, yf, ym, yl⟩ ⟨RL1, F1, M1, LL1, L1, G1, c1, hi1, hs1⟩
    simp only at c1 hi1 hs1 ⊢
    obtain ⟨B1, B2, B3⟩ := reach_bound hb hr hc c1.bfs
    rw [List.length_map] at B1 B2 B3
    refine hideK' fun K1 hK1 => ?_
    have bx := c1.box
    simp -implicitDefEqProofs (disch := omega) [wrap_id, bx]
    refine c_split (fun h => ?_) (fun h => ?_)
    · have hs : s < b.s.length := by simpa using h
      have sx : ((s : Int) + 1) = ((s + 1 : Nat) : Int) := by omega
      have len2 : (RL1[i]).2.length = n := by
        have := B3 i hi1
        rw [List.getD_eq_getElem?_getD, List.getElem?_map, List.getElem?_eq_getElem hi1] at this
        exact this
      have pk := hb.at hs
      have af := r_After_ok b.s[s].1 RL1[i].1 b.s[s].2 RL1[i].2 (by omega) (by rw [len2]; exact pk.len) (fun x hx => by rw [len2]; exact pk.rng x hx)
      have ln : (aft b.s[s].2 RL1[i].2).length = n := by rw [aft_len]; exact pk.len
      rw [ne_emp ln (by omega)] at af
      have lL : LL1.length = RL1.length := by
        have h1 := c1.bfs.lL
        have h2 := congrArg List.length c1.words
        simp only [List.length_map] at h1 h2
        omega
      have hiL : i < LL1.length := by omega
      rcases c1.q with ⟨q1, rfl, rfl, rfl, rfl⟩ | ⟨a, c, d, e, z1, z2, z3, z4, n1, n2, n3, n4, n5, n6, rfl, rfl, rfl, rfl, qa, qc, qd, qe⟩
      · have i0 : i = 0 := by omega
        have iR : i < (RL1.map (·.2)).length := by rw [List.length_map]; exact hi1
        have lF : F1.length = 1 := by have := c1.bfs.lF; rw [List.length_map] at this; omega
        have lM : M1.length = 1 := by have := c1.bfs.lM; rw [List.length_map] at this; omega
        have lL5 : L1.length = 1 := by have := c1.bfs.lL; rw [List.length_map] at this; omega
        have iF : i < F1.length := by omega
        have iM : i < M1.length := by omega
        have iFw : i < (wI F1).length := by rw [wI_len]; exact iF
        have iMw : i < (wI M1).length := by rw [wI_len]; exact iM
        have eF : (wI F1)[i] = ((F1.getD i 0 : Nat) : Int) := by
          rw [List.getD_eq_getElem?_getD, List.getElem?_eq_getElem iF]; simp [wI]
        have eM : (wI M1)[i] = ((M1.getD i 0 : Nat) : Int) := by
          rw [List.getD_eq_getElem?_getD, List.getElem?_eq_getElem iM]; simp [wI]
        have bF := B2 i hi1
        have bM : M1.getD i 0 ≤ mostN := by rw [c1.bfs.m i iR]; exact Nat.min_le_left _ _
        obtain ⟨fi, hfi⟩ : ∃ fi, F1.getD i 0 = fi := ⟨_, rfl⟩
        obtain ⟨mi, hmi⟩ : ∃ mi, M1.getD i 0 = mi := ⟨_, rfl⟩
        rw [hfi] at eF bF
        rw [hmi] at eM bM
        have hw : LL1[i].2 = wI (L1.getD i []) := by
          have := congrArg (fun l => l.getD i []) c1.words
          simp only [List.getD_eq_getElem?_getD, List.getElem?_map, List.getElem?_eq_getElem hiL] at this
          have hi5 : i < L1.length := by omega
          rw [List.getElem?_eq_getElem hi5] at this
          rw [List.getD_eq_getElem?_getD, List.getElem?_eq_getElem hi5]
          exact this
        have lw : LL1[i].2.length < 46656 := by
          rw [hw, wI_len, (c1.bfs.l i iR).1 |> fun h => ((c1.bfs.gi iR _).1 h).2]
          exact B2 i hi1
        have sS : s < b.S.length := by rw [S_len]; exact hs
        have gS : b.S.getD s [] = b.s[s].2 := S_getD hs
        have gR : (RL1.map (·.2)).getD i [] = RL1[i].2 := by rw [List.getD_eq_getElem?_getD, List.getElem?_map, List.getElem?_eq_getElem hi1]; rfl
        have lt1 := c1.lt
        simp -implicitDefEqProofs (disch := omega) [wrap_id, bx, hs, hi1, cells_lls]
        refine pureW_of rfl af ?_
        generalize hnx : aft b.s[s].2 RL1[i].2 = nx at *
        simp -implicitDefEqProofs (disch := omega) [wrap_id, cmp2, nthT]
        refine bsl_of rfl rfl ?_
        simp -implicitDefEqProofs (disch := omega) [wrap_id, hiL, cells_lls, zrep_zero]
        generalize hwd : LL1[i].2 = w at *
        refine ⟨⟨by omega, by omega⟩, ?_⟩
        refine bsl_of rfl rfl ?_
        simp -implicitDefEqProofs (disch := omega) [wrap_id, zrep]
        refine ⟨⟨by omega, by omega⟩, ?_⟩
        have tw : List.take w.length (w.map fun n => I n) ++ [AV.v (Value.int IntKind.i64 (s : Int))] = (w ++ [(s : Int)]).map fun n => I n := by
          rw [List.take_of_length_le (by simp)]; simp
        rw [tw]
        have fr : ∀ j, j < H1.length → nthH (H1 ++ [HObj.gone, HObj.cells ((w ++ [(s : Int)]).map fun n => I n)]) j = nthH H1 j := fun j hj => nthH_front hj
        have hl : nthH (H1 ++ [HObj.gone, HObj.cells ((w ++ [(s : Int)]).map fun n => I n)]) (H1.length + 1) = some (.cells ((w ++ [(s : Int)]).map fun n => I n)) := by
          rw [nthH_eq, List.getElem?_append_right (by omega)]; simp
        have l2 : (H1 ++ [HObj.gone, HObj.cells ((w ++ [(s : Int)]).map fun n => I n)]).length = H1.length + 2 := by simp
        generalize H1 ++ [HObj.gone, HObj.cells ((w ++ [(s : Int)]).map fun n => I n)] = H2 at fr hl l2 ⊢
        refine callW_pure rfl (r_find_ok true false RL1 nx (by omega) (fun p hp => ?_) (by omega)) ?_
        · obtain ⟨k, hk, rfl⟩ := List.getElem_of_mem hp
          have := B3 k hk
          rw [List.getD_eq_getElem?_getD, List.getElem?_map, List.getElem?_eq_getElem hk] at this
          have : RL1[k].2.length = n := this
          omega
        by_cases hin : nx ∈ RL1.map (·.2)
        · obtain ⟨k, hkR, ek⟩ := mem_getD (d := []) hin
          have hk : k < RL1.length := by rw [List.length_map] at hkR; exact hkR
          have ik : k = i := by omega
          subst ik
          have ek2 : RL1[k].2 = nx := by
            rw [← ek, List.getD_eq_getElem?_getD, List.getElem?_map, List.getElem?_eq_getElem hk]; rfl
          rw [fnd_at c1.bfs.nd hk ek2]
          have ekS : (RL1.map (·.2)).getD k [] = aft (b.S.getD s []) ((RL1.map (·.2)).getD k []) := by rw [gS, gR, hnx, ek2]
          have st := c1.bfs.skip iR sS hkR ekS (by omega)
          have kn : ((k : Int) < 0) = False := by simp only [eq_iff_iff, iff_false]; omega
          have hf' : ((fi : Int) != (fi : Int) + 1) = true := by simp only [bne_iff_ne, ne_eq]; omega
          simp -implicitDefEqProofs (disch := omega) [wrap_id, kn, iF, iFw, eF, cells_ls, cmp2, nthT, hf']
          rw [hK1]
          refine next_eq (s + 1, H2, LLs true RL1, Ls true (wI F1), Ls true (wI M1), LLs true LL1)
            ⟨RL1, F1, M1, LL1, L1, G1, ⟨st, c1.words, .inl ⟨q1, rfl, rfl, rfl, rfl⟩, (fr _ (by omega)).trans bx, fun j hj => (fr j (by omega)).trans (c1.keep j hj), by simp only; omega⟩, hi1, by simp only; omega⟩ (by simp only; omega) (by simp only [sx])
        · rw [fnd_none hin]
          have st := c1.bfs.push iR sS (by rw [gS, gR, hnx]; exact hin)
          rw [gS, gR, hnx, hfi, hmi] at st
          have fx : ((fi : Int) + 1) = ((fi + 1 : Nat) : Int) := by omega
          have ll2 : H1.length + 1 < H2.length := by omega
          simp -implicitDefEqProofs (disch := omega) [wrap_id]
          refine bsl_of (ys := [Ls false nx]) rfl rfl ?_
          simp -implicitDefEqProofs (disch := omega) [wrap_id, zrep, iF, iFw, eF, cells_ls]
          rw [snoc_lls]
          refine ⟨⟨by omega, by omega⟩, ?_⟩
          obtain ⟨u1, u2, u3⟩ := app_new (H := H2) (o := .cells (llsC (RL1 ++ [(false, nx)])))
          generalize H2 ++ [HObj.cells (llsC (RL1 ++ [(false, nx)]))] = H3 at u1 u2 u3 ⊢
          have sl := (u1 (H1.length + 1) (by omega)).trans hl
          refine bsl_of (ys := [I (fi + 1 : Int)]) rfl rfl ?_
          simp -implicitDefEqProofs (disch := omega) [wrap_id, zrep, iM, iMw, eM, cells_ls]
          rw [fx, snoc_wI]
          refine ⟨⟨by rw [wI_len]; omega, by rw [wI_len]; omega⟩, ?_⟩
          obtain ⟨v1, v2, v3⟩ := app_new (H := H3) (o := .cells ((wI (F1 ++ [fi + 1])).map fun n => I n))
          generalize H3 ++ [HObj.cells ((wI (F1 ++ [fi + 1])).map fun n => I n)] = H4 at v1 v2 v3 ⊢
          have tl := (v1 (H1.length + 1) (by omega)).trans sl
          have tr := (v1 H2.length (by omega)).trans u2
          refine bsl_of (ys := [I (mi : Int)]) rfl rfl ?_
          simp -implicitDefEqProofs (disch := omega) [wrap_id, zrep]
          rw [snoc_wI]
          refine ⟨⟨by rw [wI_len]; omega, by rw [wI_len]; omega⟩, ?_⟩
          obtain ⟨x1, x2, x3⟩ := app_new (H := H4) (o := .cells ((wI (M1 ++ [mi])).map fun n => I n))
          generalize H4 ++ [HObj.cells ((wI (M1 ++ [mi])).map fun n => I n)] = H5 at x1 x2 x3 ⊢
          have ul := (x1 (H1.length + 1) (by omega)).trans tl
          have ur := (x1 H2.length (by omega)).trans tr
          have uf := (x1 H3.length (by omega)).trans v2
          refine bsl_of (ys := [Ls false (w ++ [(s : Int)])]) (ids := [H1.length + 1]) ?_ rfl ?_
          · have := ms_pur ul (n := w.length + 1) (by simp)
            simp only [purifyAll, this]; rfl
          have ll5 : H1.length + 1 < H5.length := by omega
          simp -implicitDefEqProofs (disch := omega) [wrap_id, zrep, ll5]
          rw [snoc_lls]
          refine ⟨⟨by omega, by omega⟩, by omega, ?_⟩
          obtain ⟨y1, y2, y3⟩ := set_app (H := H5) (x := .gone) (o := .cells (llsC (LL1 ++ [(false, w ++ [(s : Int)])]))) ll5
          generalize H5.set (H1.length + 1) HObj.gone ++ [HObj.cells (llsC (LL1 ++ [(false, w ++ [(s : Int)])]))] = H6 at y1 y2 y3 ⊢
          have old : ∀ j, j < H1.length → nthH H6 j = nthH H1 j := fun j hj => by
            rw [y1 j (by omega) (by omega), x1 j (by omega), v1 j (by omega), u1 j (by omega), fr j hj]
          rw [hK1]
          refine next_eq (s + 1, H6, .ms H2.length 0 (RL1.length + 1) 1, .ms H3.length 0 ((wI F1).length + 1) 1, .ms H4.length 0 ((wI M1).length + 1) 1, .ms H5.length 0 (LL1.length + 1) 1)
            ⟨RL1 ++ [(false, nx)], F1 ++ [fi + 1], M1 ++ [mi], LL1 ++ [(false, w ++ [(s : Int)])], _, _, ⟨by rw [List.map_append]; exact st, ?_, .inr ⟨H2.length, H3.length, H4.length, H5.length, ?_⟩, ?_, ?_, by simp only; omega⟩, by rw [List.length_append]; omega, by simp only; omega⟩ (by simp only; omega) (by simp only [sx])
          · rw [List.map_append, List.map_append, c1.words]
            simp only [List.map_cons, List.map_nil, wI_snoc, hw]
          · refine ⟨by omega, by omega, by omega, by omega, by omega, by omega, by omega, by omega, by omega, by omega, ?_, ?_, ?_, ?_, ?_, ?_, ?_, ?_⟩
            · simp only [List.length_append, List.length_singleton]
            · simp only [List.length_append, List.length_singleton, wI_len]
            · simp only [List.length_append, List.length_singleton, wI_len]
            · simp only [List.length_append, List.length_singleton]
            · rw [y1 _ (by omega) (by omega)]; exact ur
            · rw [y1 _ (by omega) (by omega)]; exact uf
            · rw [y1 _ (by omega) (by omega)]; exact x2
            · exact y2
          · rw [old _ (by omega)]; exact bx
          · intro j hj
            rw [old _ (by omega)]; exact c1.keep j hj
      · have la := nthH_lt qa
        have lc := nthH_lt qc
        have ld := nthH_lt qd
        have le := nthH_lt qe
        simp -implicitDefEqProofs (disch := omega) [wrap_id, bx, qa, hs, hi1, cells_lls]
        refine pureW_of rfl af ?_
        generalize hnx : aft b.s[s].2 RL1[i].2 = nx at *
        simp -implicitDefEqProofs (disch := omega) [wrap_id, cmp2, nthT]
        refine bsl_of rfl rfl ?_
        have hw : LL1[i].2 = wI (L1.getD i []) := by
          have := congrArg (fun l => l.getD i []) c1.words
          simp only [List.getD_eq_getElem?_getD, List.getElem?_map, List.getElem?_eq_getElem hiL] at this
          have hi5 : i < L1.length := by have := c1.bfs.lL; rw [List.length_map] at this; omega
          rw [List.getElem?_eq_getElem hi5] at this
          rw [List.getD_eq_getElem?_getD, List.getElem?_eq_getElem hi5]
          exact this
        have iR : i < (RL1.map (·.2)).length := by rw [List.length_map]; exact hi1
        have lw : LL1[i].2.length < 46656 := by
          rw [hw, wI_len, (c1.bfs.l i iR).1 |> fun h => ((c1.bfs.gi iR _).1 h).2]
          exact B2 i hi1
        simp -implicitDefEqProofs (disch := omega) [wrap_id, qe, hiL, cells_lls, zrep_zero]
        generalize hwd : LL1[i].2 = w at *
        refine ⟨⟨by omega, by omega⟩, ?_⟩
        refine bsl_of rfl rfl ?_
        simp -implicitDefEqProofs (disch := omega) [wrap_id, zrep]
        refine ⟨⟨by omega, by omega⟩, ?_⟩
        have tw : List.take w.length (w.map fun n => I n) ++ [AV.v (Value.int IntKind.i64 (s : Int))] = (w ++ [(s : Int)]).map fun n => I n := by
          rw [List.take_of_length_le (by simp)]; simp
        rw [tw]
        have fr : ∀ j, j < H1.length → nthH (H1 ++ [HObj.gone, HObj.cells ((w ++ [(s : Int)]).map fun n => I n)]) j = nthH H1 j := fun j hj => nthH_front hj
        have hl : nthH (H1 ++ [HObj.gone, HObj.cells ((w ++ [(s : Int)]).map fun n => I n)]) (H1.length + 1) = some (.cells ((w ++ [(s : Int)]).map fun n => I n)) := by
          rw [nthH_eq, List.getElem?_append_right (by omega)]; simp
        have l2 : (H1 ++ [HObj.gone, HObj.cells ((w ++ [(s : Int)]).map fun n => I n)]).length = H1.length + 2 := by simp
        generalize H1 ++ [HObj.gone, HObj.cells ((w ++ [(s : Int)]).map fun n => I n)] = H2 at fr hl l2 ⊢
        have ra := (fr a la).trans qa
        have rc := (fr c lc).trans qc
        have rd := (fr d ld).trans qd
        have re := (fr e le).trans qe
        have lF : F1.length = RL1.length := by have := c1.bfs.lF; rw [List.length_map] at this; exact this
        have lM : M1.length = RL1.length := by have := c1.bfs.lM; rw [List.length_map] at this; exact this
        have iF : i < F1.length := by omega
        have iM : i < M1.length := by omega
        have iFw : i < (wI F1).length := by rw [wI_len]; exact iF
        have iMw : i < (wI M1).length := by rw [wI_len]; exact iM
        have eF : (wI F1)[i] = ((F1.getD i 0 : Nat) : Int) := by
          rw [List.getD_eq_getElem?_getD, List.getElem?_eq_getElem iF]; simp [wI]
        have eM : (wI M1)[i] = ((M1.getD i 0 : Nat) : Int) := by
          rw [List.getD_eq_getElem?_getD, List.getElem?_eq_getElem iM]; simp [wI]
        have bF := B2 i hi1
        have bM : M1.getD i 0 ≤ mostN := by rw [c1.bfs.m i iR]; exact Nat.min_le_left _ _
        obtain ⟨fi, hfi⟩ : ∃ fi, F1.getD i 0 = fi := ⟨_, rfl⟩
        obtain ⟨mi, hmi⟩ : ∃ mi, M1.getD i 0 = mi := ⟨_, rfl⟩
        rw [hfi] at eF bF
        rw [hmi] at eM bM
        have sS : s < b.S.length := by rw [S_len]; exact hs
        have gS : b.S.getD s [] = b.s[s].2 := S_getD hs
        have gR : (RL1.map (·.2)).getD i [] = RL1[i].2 := by rw [List.getD_eq_getElem?_getD, List.getElem?_map, List.getElem?_eq_getElem hi1]; rfl
        refine callW_pure (purifyAll2 (lls_pur ra rfl) ls_pur) (r_find_ok false false RL1 nx (by omega) (fun p hp => ?_) (by omega)) ?_
        · obtain ⟨k, hk, rfl⟩ := List.getElem_of_mem hp
          have := B3 k hk
          rw [List.getD_eq_getElem?_getD, List.getElem?_map, List.getElem?_eq_getElem hk] at this
          have : RL1[k].2.length = n := this
          omega
        by_cases hin : nx ∈ RL1.map (·.2)
        · obtain ⟨k, hkR, ek⟩ := mem_getD (d := []) hin
          have hk : k < RL1.length := by rw [List.length_map] at hkR; exact hkR
          have ek2 : RL1[k].2 = nx := by
            rw [← ek, List.getD_eq_getElem?_getD, List.getElem?_map, List.getElem?_eq_getElem hk]; rfl
          rw [fnd_at c1.bfs.nd hk ek2]
          have kF : k < F1.length := by omega
          have kM : k < M1.length := by omega
          have kFw : k < (wI F1).length := by rw [wI_len]; exact kF
          have kMw : k < (wI M1).length := by rw [wI_len]; exact kM
          have eFk : (wI F1)[k] = ((F1.getD k 0 : Nat) : Int) := by
            rw [List.getD_eq_getElem?_getD, List.getElem?_eq_getElem kF]; simp [wI]
          have eMk : (wI M1)[k] = ((M1.getD k 0 : Nat) : Int) := by
            rw [List.getD_eq_getElem?_getD, List.getElem?_eq_getElem kM]; simp [wI]
          have bFk := B2 k hk
          have bMk : M1.getD k 0 ≤ mostN := by rw [c1.bfs.m k hkR]; exact Nat.min_le_left _ _
          have ekS : (RL1.map (·.2)).getD k [] = aft (b.S.getD s []) ((RL1.map (·.2)).getD i []) := by rw [gS, gR, hnx, ek]
          have skip := fun hne => c1.bfs.skip iR sS hkR ekS hne
          have put := fun he => c1.bfs.put iR sS hkR ekS he
          rw [hfi] at skip put
          rw [hmi] at put
          obtain ⟨fk, hfk⟩ : ∃ fk, F1.getD k 0 = fk := ⟨_, rfl⟩
          obtain ⟨mk', hmk⟩ : ∃ mk, M1.getD k 0 = mk := ⟨_, rfl⟩
          rw [hfk] at eFk bFk skip put
          rw [hmk] at eMk bMk put
          have kn : ((k : Int) < 0) = False := by simp only [eq_iff_iff, iff_false]; omega
          simp -implicitDefEqProofs (disch := omega) [wrap_id, kn, rc, kF, iF, kFw, iFw, eF, eFk, cells_ls, cmp2, nthT]
          have lt1 := c1.lt
          by_cases hf : fk = fi + 1
          · have hf' : ((fk : Int) != (fi : Int) + 1) = false := by simp only [bne_eq_false_iff_eq]; omega
            have st := put hf
            have hkL : k < LL1.length := by omega
            have kL5 : k < L1.length := by have := c1.bfs.lL; rw [List.length_map] at this; omega
            have hv : LL1[k].2 = wI (L1.getD k []) := by
              have := congrArg (fun l => l.getD k []) c1.words
              simp only [List.getD_eq_getElem?_getD, List.getElem?_map, List.getElem?_eq_getElem hkL] at this
              rw [List.getElem?_eq_getElem kL5] at this
              rw [List.getD_eq_getElem?_getD, List.getElem?_eq_getElem kL5]
              exact this
            have lv : LL1[k].2.length = fk := by
              rw [hv, wI_len, ((c1.bfs.gmem k hkR _).1 (c1.bfs.l k hkR).1).2.1, hfk]
            have lw2 : w.length = fi := by
              rw [hw, wI_len, ((c1.bfs.gi iR _).1 (c1.bfs.l i iR).1).2, hfi]
            have nx1 : k < M1.length := kM
            have ld2 : d < H2.length := by omega
            have bM1 : mi ≤ 1099511627777 := bM
            have bM2 : mk' ≤ 1099511627777 := bMk
            obtain ⟨mm, hmm⟩ : ∃ mm : Nat, min mostN (mk' + mi) = mm := ⟨_, rfl⟩
            have wm : min (1099511627777 : Int) ((mk' : Int) + mi) = (mm : Int) := by rw [← hmm]; show _ = ((min 1099511627777 (mk' + mi) : Nat) : Int); omega
            rw [hmm] at st
            simp -implicitDefEqProofs (disch := omega) [wrap_id, hf', rd, kM, iM, kMw, iMw, eM, eMk, cells_ls, cmp2, nthT, ld2, wm]
            rw [put_ls kMw]
            refine ⟨by rw [wI_len]; omega, hkL, ?_⟩
            have ws : (wI M1).set k (mm : Int) = wI (M1.set k mm) := by unfold wI; rw [List.map_set]
            rw [ws]
            have f3 : ∀ j, j ≠ d → nthH (H2.set d (.cells ((wI (M1.set k mm)).map fun n => I n))) j = nthH H2 j := fun j hj => nthH_set_ne (Ne.symm hj)
            have d3 : nthH (H2.set d (.cells ((wI (M1.set k mm)).map fun n => I n))) d = some (.cells ((wI (M1.set k mm)).map fun n => I n)) := nthH_set_same ld2
            have l3 : (H2.set d (.cells ((wI (M1.set k mm)).map fun n => I n))).length = H1.length + 2 := by simpa using l2
            generalize H2.set d (.cells ((wI (M1.set k mm)).map fun n => I n)) = H3 at f3 d3 l3 ⊢
            have sa := (f3 a (by omega)).trans ra
            have sc := (f3 c (by omega)).trans rc
            have se := (f3 e (by omega)).trans re
            have sl := (f3 (H1.length + 1) (by omega)).trans hl
            have old : ∀ j, j < H1.length → j ≠ d → nthH H3 j = nthH H1 j := fun j hj hne => (f3 j hne).trans (fr j hj)
            simp -implicitDefEqProofs (disch := omega) [wrap_id, se, hkL, cells_lls]
            refine callW_pure (purifyAll2 (ms_pur sl (by simp)) ls_pur) (r_First_ok false LL1[k].1 (w ++ [(s : Int)]) LL1[k].2 (by simp; omega) (by rw [lv, List.length_append, List.length_singleton, lw2, hf])) ?_
            have eqf : frst (wI (L1.getD i [] ++ [s])) (wI (L1.getD k [])) = frst (w ++ [(s : Int)]) LL1[k].2 := by rw [wI_snoc, ← hw, ← hv]
            rw [eqf] at st
            cases hfr : frst (w ++ [(s : Int)]) LL1[k].2 with
            | true =>
              rw [hfr, if_pos rfl] at st
              have le2 : e < H1.length + 2 := by omega
              simp -implicitDefEqProofs (disch := omega) [wrap_id, se, hkL, l3, le2]
              refine ⟨by omega, ?_⟩
              rw [set_c2 (by simpa using hkL)]
              have le3 : e < H3.length := by omega
              have ne : H1.length + 1 ≠ e := by omega
              have f4 : ∀ j, j ≠ e → nthH (H3.set e (.cells ((llsC LL1).set k (.ms (H1.length + 1) 0 (w.length + 1) 1)))) j = nthH H3 j := fun j hj => nthH_set_ne (Ne.symm hj)
              have e4 : nthH (H3.set e (.cells ((llsC LL1).set k (.ms (H1.length + 1) 0 (w.length + 1) 1)))) e = some (.cells ((llsC LL1).set k (.ms (H1.length + 1) 0 (w.length + 1) 1))) := nthH_set_same le3
              have l4 : (H3.set e (.cells ((llsC LL1).set k (.ms (H1.length + 1) 0 (w.length + 1) 1)))).length = H1.length + 2 := by simpa using l3
              generalize H3.set e (.cells ((llsC LL1).set k (.ms (H1.length + 1) 0 (w.length + 1) 1))) = H4 at f4 e4 l4 ⊢
              have pu : purify1 (hpf H4) (.ms (H1.length + 1) 0 (w.length + 1) 1) = some (Ls false (w ++ [(s : Int)]), [H1.length + 1]) := ms_pur ((f4 _ ne).trans sl) (by simp)
              have wr : writeL H4 (gones [H1.length + 1] ++ [(e, .cells (llsC (LL1.set k (false, w ++ [(s : Int)]))))]) = (H4.set (H1.length + 1) .gone).set e (.cells (llsC (LL1.set k (false, w ++ [(s : Int)])))) := by
                have q1 : H1.length + 1 < H4.length := by omega
                have q2 : e < H4.length := by omega
                simp [writeL, setL, gones, q1, q2]
              have fl := le_freezeCell (fr := [(2, AV.ref hp.length 0), (8, AV.ms a 0 RL1.length 1), (9, AV.ms c 0 F1.length 1), (10, AV.ms d 0 M1.length 1), (11, AV.ms e 0 LL1.length 1), (12, I (i : Int)), (13, I ((s + 1 : Nat) : Int))]) e4 (purifyL_set pu LL1 k hkL) (by simp; omega) Fzn.refl
              rw [wr] at fl
              have q1 : H1.length + 1 < H4.length := by omega
              have q2 : e < (H4.set (H1.length + 1) .gone).length := by rw [List.length_set]; omega
              have f5 : ∀ j, j ≠ e → j ≠ H1.length + 1 → nthH ((H4.set (H1.length + 1) .gone).set e (.cells (llsC (LL1.set k (false, w ++ [(s : Int)]))))) j = nthH H4 j := fun j h1 h2 => by
                rw [nthH_set_ne (Ne.symm h1), nthH_set_ne (Ne.symm h2)]
              have e5 : nthH ((H4.set (H1.length + 1) .gone).set e (.cells (llsC (LL1.set k (false, w ++ [(s : Int)]))))) e = some (.cells (llsC (LL1.set k (false, w ++ [(s : Int)])))) := nthH_set_same q2
              have l5 : ((H4.set (H1.length + 1) .gone).set e (.cells (llsC (LL1.set k (false, w ++ [(s : Int)]))))).length = H1.length + 2 := by rw [List.length_set, List.length_set, l4]
              generalize (H4.set (H1.length + 1) .gone).set e (.cells (llsC (LL1.set k (false, w ++ [(s : Int)])))) = H5 at fl f5 e5 l5
              have old5 : ∀ j, j < H1.length → j ≠ d → j ≠ e → nthH H5 j = nthH H1 j := fun j hj h1 h2 => by
                rw [f5 j h2 (by omega), f4 j h2, old j hj h1]
              rw [hK1, sx]
              refine ⟨(s + 1, H5, .ms a 0 RL1.length 1, .ms c 0 F1.length 1, .ms d 0 M1.length 1, .ms e 0 LL1.length 1),
                ⟨RL1, F1, M1.set k mm, LL1.set k (false, w ++ [(s : Int)]), _, _, ⟨st, ?_, .inr ⟨a, c, d, e, z1, z2, z3, z4, n1, n2, n3, n4, n5, n6, rfl, rfl, by rw [List.length_set], by rw [List.length_set], ?_, ?_, ?_, e5⟩, (old5 _ (by omega) (by omega) (by omega)).trans bx, fun j hj => (old5 j (by omega) (by omega) (by omega)).trans (c1.keep j hj), by simp only; omega⟩, hi1, by simp only; omega⟩, (by simp only; omega), fl⟩
              · rw [List.map_set, c1.words, List.map_set]
                simp only [wI_snoc, hw]
              · rw [f5 a (by omega) (by omega), f4 a (by omega)]; exact sa
              · rw [f5 c (by omega) (by omega), f4 c (by omega)]; exact sc
              · rw [f5 d (by omega) (by omega), f4 d (by omega)]; exact d3
            | false =>
              rw [hfr, if_neg (by decide)] at st
              simp -implicitDefEqProofs (disch := omega) [wrap_id]
              rw [hK1]
              refine next_eq (s + 1, H3, .ms a 0 RL1.length 1, .ms c 0 F1.length 1, .ms d 0 M1.length 1, .ms e 0 LL1.length 1)
                ⟨RL1, F1, M1.set k mm, LL1, L1, _, ⟨st, c1.words, .inr ⟨a, c, d, e, z1, z2, z3, z4, n1, n2, n3, n4, n5, n6, rfl, rfl, by rw [List.length_set], rfl, sa, sc, d3, se⟩, (old _ (by omega) (by omega)).trans bx, fun j hj => (old j (by omega) (by omega)).trans (c1.keep j hj), by simp only; omega⟩, hi1, by simp only; omega⟩ (by simp only; omega) (by simp only [sx])
          · have hf' : ((fk : Int) != (fi : Int) + 1) = true := by simp only [bne_iff_ne, ne_eq]; omega
            simp -implicitDefEqProofs (disch := omega) [wrap_id, hf']
            rw [hK1]
            refine next_eq (s + 1, H2, .ms a 0 RL1.length 1, .ms c 0 F1.length 1, .ms d 0 M1.length 1, .ms e 0 LL1.length 1)
              ⟨RL1, F1, M1, LL1, L1, G1, ⟨skip hf, c1.words, .inr ⟨a, c, d, e, z1, z2, z3, z4, n1, n2, n3, n4, n5, n6, rfl, rfl, rfl, rfl, ra, rc, rd, re⟩, (fr _ (by omega)).trans bx, fun j hj => (fr j (by omega)).trans (c1.keep j hj), by simp only; omega⟩, hi1, by simp only; omega⟩ (by simp only; omega) (by simp only [sx])
        · rw [fnd_none hin]
          have st := c1.bfs.push iR sS (by rw [gS, gR, hnx]; exact hin)
          rw [gS, gR, hnx] at st
          simp -implicitDefEqProofs (disch := omega) [wrap_id]
          refine bsl_of (ys := [Ls false nx]) rfl rfl ?_
          have la2 : a < H2.length := by omega
          simp -implicitDefEqProofs (disch := omega) [wrap_id, zrep, ra, la2]
          rw [take_lls]
          refine ⟨⟨by omega, by omega⟩, iF, ?_⟩
          obtain ⟨u1, u2, u3⟩ := set_app (H := H2) (x := .gone) (o := .cells (llsC (RL1 ++ [(false, nx)]))) la2
          generalize H2.set a HObj.gone ++ [HObj.cells (llsC (RL1 ++ [(false, nx)]))] = H3 at u1 u2 u3 ⊢
          have sc := (u1 c (by omega) (Ne.symm n1)).trans rc
          have sd := (u1 d (by omega) (Ne.symm n2)).trans rd
          have se := (u1 e (by omega) (Ne.symm n3)).trans re
          have sl := (u1 (H1.length + 1) (by omega) (by omega)).trans hl
          rw [hfi, hmi] at st
          have fx : ((fi : Int) + 1) = ((fi + 1 : Nat) : Int) := by omega
          simp -implicitDefEqProofs (disch := omega) [wrap_id, zrep, sc, cells_ls, iFw, eF]
          refine bsl_of (ys := [I (fi + 1 : Int)]) rfl rfl ?_
          have lc3 : c < H3.length := by omega
          simp -implicitDefEqProofs (disch := omega) [wrap_id, zrep, sc, lc3]
          rw [fx, take_wI]
          refine ⟨⟨by rw [wI_len]; exact Nat.le_refl _, by omega, by omega⟩, iM, ?_⟩
          obtain ⟨v1, v2, v3⟩ := set_app (H := H3) (x := .gone) (o := .cells ((wI (F1 ++ [fi + 1])).map fun n => I n)) lc3
          generalize H3.set c HObj.gone ++ [HObj.cells ((wI (F1 ++ [fi + 1])).map fun n => I n)] = H4 at v1 v2 v3 ⊢
          have td := (v1 d (by omega) (Ne.symm n4)).trans sd
          have te := (v1 e (by omega) (Ne.symm n5)).trans se
          have tl := (v1 (H1.length + 1) (by omega) (by omega)).trans sl
          have tr := (v1 H2.length (by omega) (by omega)).trans u2
          simp -implicitDefEqProofs (disch := omega) [wrap_id, zrep, td, cells_ls, iMw, eM]
          refine bsl_of (ys := [I (mi : Int)]) rfl rfl ?_
          have ld4 : d < H4.length := by omega
          simp -implicitDefEqProofs (disch := omega) [wrap_id, zrep, td, ld4]
          rw [take_wI]
          refine ⟨⟨by rw [wI_len]; exact Nat.le_refl _, by omega, by omega⟩, ?_⟩
          obtain ⟨x1, x2, x3⟩ := set_app (H := H4) (x := .gone) (o := .cells ((wI (M1 ++ [mi])).map fun n => I n)) ld4
          generalize H4.set d HObj.gone ++ [HObj.cells ((wI (M1 ++ [mi])).map fun n => I n)] = H5 at x1 x2 x3 ⊢
          have ue := (x1 e (by omega) (Ne.symm n6)).trans te
          have ul := (x1 (H1.length + 1) (by omega) (by omega)).trans tl
          have ur := (x1 H2.length (by omega) (by omega)).trans tr
          have uf := (x1 H3.length (by omega) (by omega)).trans v2
          refine bsl_of (ys := [Ls false (w ++ [(s : Int)])]) (ids := [H1.length + 1]) ?_ rfl ?_
          · have := ms_pur ul (n := w.length + 1) (by simp)
            simp only [purifyAll, this]; rfl
          have ll5 : H1.length + 1 < H5.length := by omega
          have le5 : e < H5.length := by omega
          have ne1 : (H1.length + 1) ≠ e := by omega
          have ue2 : nthH (H5.set (H1.length + 1) HObj.gone) e = some (.cells (llsC LL1)) := by rw [nthH_set_ne ne1]; exact ue
          simp -implicitDefEqProofs (disch := omega) [wrap_id, zrep, ll5, le5, ue2]
          rw [take_lls]
          refine ⟨⟨by omega, by omega⟩, by omega, ?_⟩
          have le6 : e < (H5.set (H1.length + 1) HObj.gone).length := by rw [List.length_set]; omega
          obtain ⟨y1, y2, y3⟩ := set_app (H := H5.set (H1.length + 1) HObj.gone) (x := .gone) (o := .cells (llsC (LL1 ++ [(false, w ++ [(s : Int)])]))) le6
          generalize (H5.set (H1.length + 1) HObj.gone).set e HObj.gone ++ [HObj.cells (llsC (LL1 ++ [(false, w ++ [(s : Int)])]))] = H6 at y1 y2 y3 ⊢
          rw [List.length_set] at y1 y2 y3
          have y4 : ∀ j, j < H5.length → j ≠ e → j ≠ H1.length + 1 → nthH H6 j = nthH H5 j := fun j hj h1 h2 => by
            rw [y1 j hj h1, nthH_set_ne (Ne.symm h2)]
          have old : ∀ j, j < H1.length → j ≠ a → j ≠ c → j ≠ d → j ≠ e → nthH H6 j = nthH H1 j := fun j hj h1 h2 h3 h4 => by
            rw [y4 j (by omega) h4 (by omega), x1 j (by omega) h3, v1 j (by omega) h2, u1 j (by omega) h1, fr j hj]
          have lt1 := c1.lt
          rw [hK1]
          refine next_eq (s + 1, H6, .ms H2.length 0 (RL1.length + 1) 1, .ms H3.length 0 (F1.length + 1) 1, .ms H4.length 0 (M1.length + 1) 1, .ms H5.length 0 (LL1.length + 1) 1)
            ⟨RL1 ++ [(false, nx)], F1 ++ [fi + 1], M1 ++ [mi], LL1 ++ [(false, w ++ [(s : Int)])], _, _, ⟨by rw [List.map_append]; exact st, ?_, .inr ⟨H2.length, H3.length, H4.length, H5.length, ?_⟩, ?_, ?_, by simp only; omega⟩, by rw [List.length_append]; omega, by simp only; omega⟩ (by simp only; omega) (by simp only [sx])
          · rw [List.map_append, List.map_append, c1.words]
            simp only [List.map_cons, List.map_nil, wI_snoc, hw]
          · refine ⟨by omega, by omega, by omega, by omega, by omega, by omega, by omega, by omega, by omega, by omega, ?_, ?_, ?_, ?_, ?_, ?_, ?_, ?_⟩
            · simp only [List.length_append, List.length_singleton]
            · simp only [List.length_append, List.length_singleton]
            · simp only [List.length_append, List.length_singleton]
            · simp only [List.length_append, List.length_singleton]
            · rw [y4 _ (by omega) (by omega) (by omega)]; exact ur
            · rw [y4 _ (by omega) (by omega) (by omega)]; exact uf
            · rw [y4 _ (by omega) (by omega) (by omega)]; exact x2
            · exact y2
          · rw [old _ (by omega) (by omega) (by omega) (by omega) (by omega)]; exact bx
          · intro j hj
            rw [old _ (by omega) (by omega) (by omega) (by omega) (by omega)]; exact c1.keep j hj
    · have hs : s = b.s.length := by simp at h; omega
      subst hs
      subst hK1
      simp -implicitDefEqProofs (disch := omega) [wrap_id]
      rw [hK0]
      have cb := c1.bfs
      rw [← S_len] at cb
      exact next_eq (i + 1, H1, yr, yf, ym, yl) ⟨RL1, F1, M1, LL1, L1, G1, { c1 with bfs := cb.row (by rw [List.length_map]; exact hi1) }⟩ (by simp only; omega) (by simp only [ix])
  · have hi : i = RL.length := by have := c.bfs.ile; simp at h this; omega
    subst hi
    subst hK0
    simp -implicitDefEqProofs (disch := omega) [wrap_id]
    exact hK H xr xf xm xl RL F M LL L G c
end Go.AM

set_option linter.unusedSimpArgs false
set_option linter.unusedVariables false
namespace Go.AM
open Go.RowKit Go.Proofs
theorem fin_of {b : OB} {g : Bool} {r : List Int} {hp H : List HObj} {xr xf xm xl : AV} {RL : List (Bool × List Int)} {F M : List Nat} {LL : List (Bool × List Int)} {L : List (List Nat)} {G : List (List (List Nat))}
    (c : Rnd b g r hp H RL.length 0 xr xf xm xl RL F M LL L G) : FinR b.S r (RL.map (·.2)) F M L := by
  have := c.bfs
  rw [show RL.length = (RL.map (·.2)).length by rw [List.length_map]] at this
  exact this.fin
theorem q_rows {H : List HObj} {z : Nat} {xr xf xm xl : AV} {RL : List (Bool × List Int)} {F M : List Nat} {LL : List (Bool × List Int)} (h : Qs H z xr xf xm xl RL F M LL) : ∃ f ids, purify (hpf H) xr = some (LLs f RL, ids) := by
  rcases h with ⟨_, rfl, _⟩ | ⟨a, c, d, e, _, _, _, _, _, _, _, _, _, _, rfl, _, _, _, qa, _⟩
  · exact ⟨true, [], rfl⟩
  · exact ⟨false, [a], lls_pur qa rfl⟩
theorem q_find {H : List HObj} {z : Nat} {xr xf xm xl : AV} {RL : List (Bool × List Int)} {F M : List Nat} {LL : List (Bool × List Int)} (h : Qs H z xr xf xm xl RL F M LL) {f : Bool} {x : List Int} (hl : RL.length ≤ 1000000) (hz : ∀ p ∈ RL, p.2.length ≤ 1000000) (hx : x.length ≤ 1000000)
    {K : AV → List HObj → Prop} (hK : K (I (fnd RL x)) H) : CallW Tryz.prog n_r_find [xr, Ls f x] H K := by
  obtain ⟨fl, ids, hpu⟩ := q_rows h
  exact callW_pure (purifyAll2 hpu ls_pur) (r_find_ok fl f RL x hl hz hx) hK
theorem rows_small {RL : List (Bool × List Int)} {n : Nat} (h : ∀ k, k < RL.length → ((RL.map (·.2)).getD k []).length = n) : ∀ p ∈ RL, p.2.length = n := fun p hp => by
  obtain ⟨k, hk, rfl⟩ := List.getElem_of_mem hp
  have := h k hk
  rw [List.getD_eq_getElem?_getD, List.getElem?_map, List.getElem?_eq_getElem hk] at this
  exact this
theorem fin_fnd {S : List (List Int)} {r : List Int} {RL : List (Bool × List Int)} {F M : List Nat} {L : List (List Nat)} (h : FinR S r (RL.map (·.2)) F M L) {x : List Int} :
    (NoW S r x ∧ fnd RL x = -1) ∨ ∃ k, k < RL.length ∧ fnd RL x = k ∧ (RL.map (·.2)).getD k [] = x := by
  by_cases hin : x ∈ RL.map (·.2)
  · obtain ⟨k, hk, e⟩ := mem_getD (d := []) hin
    have hk2 : k < RL.length := by rw [List.length_map] at hk; exact hk
    refine .inr ⟨k, hk2, fnd_at h.nd hk2 ?_, e⟩
    rw [List.getD_eq_getElem?_getD, List.getElem?_map, List.getElem?_eq_getElem hk2] at e
    exact e
  · exact .inl ⟨fun w hw => hin (h.all x w hw), fnd_none hin⟩
end Go.AM

set_option linter.unusedSimpArgs false
set_option linter.unusedVariables false
namespace Go.AM
open Go.RowKit Go.Proofs
theorem getD_snd {l : List (Bool × List Int)} {k : Nat} (h : k < l.length) : (l.map (·.2)).getD k [] = l[k].2 := by
  rw [List.getD_eq_getElem?_getD, List.getElem?_map, List.getElem?_eq_getElem h]; rfl
end Go.AM

set_option linter.unusedSimpArgs false
set_option linter.unusedVariables false
namespace Go.AM
open Go.RowKit Go.Proofs
theorem fnd_con {l : List (Bool × List Int)} {r : List Int} : (0 ≤ fnd l r) ↔ (l.map (·.2)).contains r = true := by
  have := idxI_any (fun p : Bool × List Int => decide (p.2 = r)) l
  have e : (l.map (·.2)).contains r = l.any (fun p => decide (p.2 = r)) := by
    rw [Bool.eq_iff_iff]
    simp only [List.contains_eq_mem, decide_eq_true_eq, List.any_eq_true, List.mem_map]
  rw [e, ← this]
  simp [fnd]
set_option maxHeartbeats 8000000 in
theorem r_CheckClosed_ok (g f h q : Bool) (b : OB) (hz : SzO b) (r x : List Int) (rows : List (Bool × List Int)) (hr : r.length ≤ 1000000) (hx : x.length ≤ 1000000) (hl : rows.length ≤ 1000000) (hlz : ∀ p ∈ rows, p.2.length ≤ 1000000) :
    PureOK Tryz.prog n_r_CheckClosed [On g b, Ls f r, Ls h x, LLs q rows] (I (cclE b r x (rows.map (·.2)))) := by
  refine pure_of (walk func_r_CheckClosed form_r_CheckClosed res_r_CheckClosed (by show 4 ≤ _; decide) ?_)
  have hm : (rows.map (·.2)).length = rows.length := List.length_map _
  generalize hR : rows.map (·.2) = R at *
  simp -implicitDefEqProofs (disch := omega) [G_r_CheckClosed, wrap_id]
  refine callW_pure rfl (r_Rows_ok g f h b hz r x hr hx) ?_
  by_cases h0 : rwsE b r x = 0
  · obtain ⟨n, hb, lr, lx, o1, o2⟩ := rws_ok h0
    have h6 := hb.hi
    have hmany := hb.many
    simp -implicitDefEqProofs (disch := omega) [wrap_id, h0]
    by_cases h1 : 720 < rows.length
    · have h1' : (720 : Int) < rows.length := by omega
      have e : cclE b r x R = 6 := by unfold cclE; rw [if_neg (by omega), if_pos (by omega)]
      simp -implicitDefEqProofs (disch := omega) [wrap_id, h1', e]
    have h1' : ¬ (720 : Int) < rows.length := by omega
    have e1 : cclE b r x R = if (R.all (rowO b)) = false then 3 else if srtO R = false then 3 else if R.contains r = false ∨ R.contains x = true then 14 else if clsO b R = false then 14 else 0 := by
      unfold cclE; rw [if_neg (by omega), if_neg (by omega)]
    generalize cclE b r x R = E at e1 ⊢
    simp -implicitDefEqProofs (disch := omega) [wrap_id, h1']
    refine loop_eq (fun i : Nat => ⟨[(1, Ls f r), (2, Ls h x), (3, LLs q rows), (4, .ref 0 0), (9, I (i : Int))], [.cells [I b.P, LLs g b.s]]⟩) (fun i => i ≤ rows.length ∧ ∀ k (hk : k < rows.length), k < i → rowO b rows[k].2 = true) (fun i => rows.length - i) 0 ⟨Nat.zero_le _, fun k _ h => by omega⟩ rfl ?_
    rintro i ⟨c1, c2⟩
    refine hideK' fun K0 hK0 => ?_
    simp -implicitDefEqProofs (disch := omega) [wrap_id]
    refine c_split (fun hc => ?_) (fun hc => ?_)
    · have hi : i < rows.length := by simpa using hc
      have ix : ((i : Int) + 1) = ((i + 1 : Nat) : Int) := by omega
      simp -implicitDefEqProofs (disch := omega) [wrap_id, hi, cells_lls]
      refine pureW_of rfl (r_IsRow_ok g rows[i].1 b rows[i].2 (hlz _ (List.getElem_mem hi))) ?_
      cases ho : rowO b rows[i].2 with
      | true =>
        simp -implicitDefEqProofs (disch := omega) [wrap_id, cmp2, nthT]
        rw [hK0]
        refine next_eq (i + 1) ⟨by omega, fun k hk hlt => ?_⟩ (by omega) (by simp only [ix])
        by_cases ek : k = i
        · subst ek; exact ho
        · exact c2 k hk (by omega)
      | false =>
        have ha : (R.all (rowO b)) = false := by
          rw [List.all_eq_false]
          refine ⟨rows[i].2, ?_, by simp [ho]⟩
          rw [← hR]; exact List.mem_map.2 ⟨_, List.getElem_mem hi, rfl⟩
        rw [if_pos ha] at e1
        subst e1
        subst hK0
        simp -implicitDefEqProofs (disch := omega) [wrap_id, cmp2, nthT]
    · have hi : i = rows.length := by simp at hc; omega
      subst hi
      have ha : (R.all (rowO b)) = true := by
        rw [List.all_eq_true, ← hR]
        intro y hy
        obtain ⟨p, hp, rfl⟩ := List.mem_map.1 hy
        obtain ⟨k, hk, rfl⟩ := List.getElem_of_mem hp
        exact c2 k hk hk
      have len : ∀ p ∈ rows, p.2.length = n := fun p hp => by
        obtain ⟨k, hk, rfl⟩ := List.getElem_of_mem hp
        exact rowO_len hb (c2 k hk hk)
      rw [if_neg (by simp [ha])] at e1
      subst hK0
      simp -implicitDefEqProofs (disch := omega) [wrap_id]
      refine loop_eq (fun i : Nat => ⟨[(1, Ls f r), (2, Ls h x), (3, LLs q rows), (4, .ref 0 0), (10, I (i : Int))], [.cells [I b.P, LLs g b.s]]⟩) (fun i => 1 ≤ i ∧ i ≤ max 1 rows.length ∧ ∀ k, k + 1 < i → frst (R.getD k []) (R.getD (k + 1) []) = true) (fun i => rows.length + 1 - i) 1 ⟨Nat.le_refl _, by omega, fun k h => by omega⟩ rfl ?_
      clear c2 c1 hc
      rintro i ⟨d1, d2, d3⟩
      refine hideK' fun K1 hK1 => ?_
      simp -implicitDefEqProofs (disch := omega) [wrap_id]
      refine c_split (fun hc => ?_) (fun hc => ?_)
      · have hi : i < rows.length := by simpa using hc
        have ix : ((i : Int) + 1) = ((i + 1 : Nat) : Int) := by omega
        obtain ⟨j, rfl⟩ : ∃ j, i = j + 1 := ⟨i - 1, by omega⟩
        have hj : j < rows.length := by omega
        have jx : (((j + 1 : Nat) : Int) - 1) = (j : Int) := by omega
        have lj := len _ (List.getElem_mem hj)
        have li := len _ (List.getElem_mem hi)
        have gj : R.getD j [] = rows[j].2 := by rw [← hR]; exact getD_snd hj
        have gi : R.getD (j + 1) [] = rows[j + 1].2 := by rw [← hR]; exact getD_snd hi
        generalize hm1 : ((j + 1 : Nat) : Int) = m1 at *
        have m1n : m1.toNat = j + 1 := by omega
        simp -implicitDefEqProofs (disch := omega) [wrap_id, hi, hj, cells_lls, jx, m1n]
        refine ⟨⟨by omega, by omega⟩, pureW_of rfl (r_First_ok _ _ rows[j].2 rows[j + 1].2 (by omega) (by omega)) ?_⟩
        cases hf : frst rows[j].2 rows[j + 1].2 with
        | true =>
          simp -implicitDefEqProofs (disch := omega) [wrap_id, cmp2, nthT]
          rw [hK1]
          refine next_eq (j + 1 + 1) ⟨by omega, by omega, fun k hk => ?_⟩ (by omega) (by rw [← hm1] at ix; simp only [← hm1, ix])
          by_cases ek : k = j
          · subst ek; rw [gj, gi]; exact hf
          · exact d3 k (by omega)
        | false =>
          have hs : srtO R = false := by
            unfold srtO
            rw [List.all_eq_false]
            refine ⟨j, List.mem_range.2 (by omega), by rw [gj, gi]; simp [hf]⟩
          rw [if_pos hs] at e1
          subst e1
          subst hK1
          simp -implicitDefEqProofs (disch := omega) [wrap_id, cmp2, nthT]
      · have hi : max 1 rows.length = i := by simp at hc; omega
        have hs : srtO R = true := by
          unfold srtO
          rw [List.all_eq_true]
          intro k hk
          have := List.mem_range.1 hk
          exact d3 k (by omega)
        rw [if_neg (by simp [hs])] at e1
        subst hK1
        have fz : ∀ y : List Int, y.length ≤ 1000000 → ∀ fy, PureOK Tryz.prog n_r_find [LLs q rows, Ls fy y] (I (fnd rows y)) := fun y hy fy => r_find_ok q fy rows y hl hlz hy
        have fr := fnd_con (l := rows) (r := r)
        have fx := fnd_con (l := rows) (r := x)
        rw [hR] at fr fx
        simp -implicitDefEqProofs (disch := omega) [wrap_id]
        refine callW_pure rfl (fz r hr f) ?_
        by_cases q1 : fnd rows r < 0
        · have c1 : R.contains r = false := by cases e : R.contains r with
            | false => rfl
            | true => have := fr.2 e; omega
          rw [if_pos (.inl c1)] at e1
          subst e1
          simp -implicitDefEqProofs (disch := omega) [wrap_id, q1]
        simp -implicitDefEqProofs (disch := omega) [wrap_id, q1]
        refine callW_pure rfl (fz x hx h) ?_
        by_cases q2 : 0 ≤ fnd rows x
        · rw [if_pos (.inr (fx.1 q2))] at e1
          subst e1
          simp -implicitDefEqProofs (disch := omega) [wrap_id, q2]
        have c1 : R.contains r = true := fr.1 (by omega)
        have c2 : R.contains x = false := by cases e : R.contains x with
          | false => rfl
          | true => have := fx.2 e; omega
        rw [if_neg (fun h => h.elim (fun h => by rw [c1] at h; cases h) (fun h => by rw [c2] at h; cases h))] at e1
        simp -implicitDefEqProofs (disch := omega) [wrap_id, q2]
        refine loop_eq (fun i : Nat => ⟨[(3, LLs q rows), (4, .ref 0 0), (11, I (i : Int))], [.cells [I b.P, LLs g b.s]]⟩) (fun i => i ≤ rows.length ∧ ∀ k, k < i → ∀ s, s < b.s.length → R.contains (aft (b.S.getD s []) (R.getD k [])) = true) (fun i => rows.length - i) 0 ⟨Nat.zero_le _, fun k h => by omega⟩ rfl ?_
        clear d1 d2 d3 hc hi
        rintro i ⟨d1, d2⟩
        refine hideK' fun K2 hK2 => ?_
        simp -implicitDefEqProofs (disch := omega) [wrap_id]
        refine c_split (fun hc => ?_) (fun hc => ?_)
        · have hi : i < rows.length := by simpa using hc
          have ix : ((i : Int) + 1) = ((i + 1 : Nat) : Int) := by omega
          have li := len _ (List.getElem_mem hi)
          have gi : R.getD i [] = rows[i].2 := by rw [← hR]; exact getD_snd hi
          simp -implicitDefEqProofs (disch := omega) [wrap_id]
          refine loop_eq (fun s : Nat => ⟨[(3, LLs q rows), (4, .ref 0 0), (11, I (i : Int)), (12, I (s : Int))], [.cells [I b.P, LLs g b.s]]⟩) (fun s => s ≤ b.s.length ∧ ∀ t, t < s → R.contains (aft (b.S.getD t []) (R.getD i [])) = true) (fun s => b.s.length - s) 0 ⟨Nat.zero_le _, fun k h => by omega⟩ rfl ?_
          rintro s ⟨g1, g2⟩
          refine hideK' fun K3 hK3 => ?_
          simp -implicitDefEqProofs (disch := omega) [wrap_id]
          refine c_split (fun hc => ?_) (fun hc => ?_)
          · have hs2 : s < b.s.length := by simpa using hc
            have sx : ((s : Int) + 1) = ((s + 1 : Nat) : Int) := by omega
            have pk := hb.at hs2
            have gS := S_getD hs2
            have af := r_After_ok b.s[s].1 rows[i].1 b.s[s].2 rows[i].2 (by omega) (by rw [li]; exact pk.len) (fun x hx => by rw [li]; exact pk.rng x hx)
            have ln : (aft b.s[s].2 rows[i].2).length = n := by rw [aft_len]; exact pk.len
            have lo := hb.lo
            rw [ne_emp ln (by omega)] at af
            have fc := fnd_con (l := rows) (r := aft b.s[s].2 rows[i].2)
            rw [hR] at fc
            simp -implicitDefEqProofs (disch := omega) [wrap_id, hs2, hi, cells_lls]
            refine pureW_of rfl af ?_
            simp -implicitDefEqProofs (disch := omega) [wrap_id]
            refine pureW_of rfl (fz _ (by omega) false) ?_
            by_cases q3 : fnd rows (aft b.s[s].2 rows[i].2) < 0
            · have c3 : R.contains (aft b.s[s].2 rows[i].2) = false := by cases e : R.contains (aft b.s[s].2 rows[i].2) with
                | false => rfl
                | true => have := fc.2 e; omega
              have cl : clsO b R = false := by
                unfold clsO
                rw [List.all_eq_false]
                refine ⟨rows[i].2, by rw [← hR]; exact List.mem_map.2 ⟨_, List.getElem_mem hi, rfl⟩, ?_⟩
                simp only [Bool.not_eq_true]
                rw [List.all_eq_false]
                exact ⟨b.s[s].2, List.mem_map.2 ⟨_, List.getElem_mem hs2, rfl⟩, by simp only [Bool.not_eq_true]; exact c3⟩
              rw [if_pos cl] at e1
              subst e1
              subst hK3
              subst hK2
              simp -implicitDefEqProofs (disch := omega) [wrap_id, cmp2, nthT, q3]
            · have c3 := fc.1 (by omega)
              simp -implicitDefEqProofs (disch := omega) [wrap_id, cmp2, nthT, q3]
              rw [hK3]
              refine next_eq (s + 1) ⟨by omega, fun t ht => ?_⟩ (by omega) (by simp only [sx])
              by_cases et : t = s
              · subst et; rw [gS, gi]; exact c3
              · exact g2 t (by omega)
          · have hs2 : s = b.s.length := by simp at hc; omega
            subst hs2
            subst hK3
            simp -implicitDefEqProofs (disch := omega) [wrap_id]
            rw [hK2]
            refine next_eq (i + 1) ⟨by omega, fun k hk s hs => ?_⟩ (by omega) (by simp only [ix])
            by_cases ek : k = i
            · subst ek; exact g2 s hs
            · exact d2 k (by omega) s hs
        · have hi : i = rows.length := by simp at hc; omega
          subst hi
          have cl : clsO b R = true := by
            unfold clsO
            rw [List.all_eq_true]
            intro y hy
            obtain ⟨k, hk, rfl⟩ := mem_getD (d := []) hy
            rw [List.all_eq_true]
            intro s hs
            obtain ⟨t, ht, rfl⟩ := mem_getD (d := []) hs
            exact d2 k (by omega) t (by rw [S_len] at ht; exact ht)
          rw [if_neg (by simp [cl])] at e1
          subst e1
          subst hK2
          simp -implicitDefEqProofs (disch := omega) [wrap_id]
  · have e1 : cclE b r x R = rwsE b r x := by unfold cclE; rw [if_pos h0]
    have h0' : (rwsE b r x != 0) = true := by simpa using h0
    simp -implicitDefEqProofs (disch := omega) [wrap_id, h0', e1]
    refine callW_pure rfl (r_Rows_ok g f h b hz r x hr hx) ?_
    simp -implicitDefEqProofs (disch := omega) [wrap_id]
end Go.AM

set_option linter.unusedSimpArgs false
set_option linter.unusedVariables false
namespace Go.AM
open Go.RowKit Go.Proofs
theorem lls_set {Q : List (Bool × List Int)} {i k : Nat} {p q : Bool × List Int} : ((llsC Q).set i (Ls p.1 p.2)).set k (Ls q.1 q.2) = llsC ((Q.set i p).set k q) := by
  simp [llsC, List.map_set]
theorem fin_mem {S : List (List Int)} {r : List Int} {R : List (List Int)} {F M : List Nat} {L : List (List Nat)} (h : FinR S r R F M L) (y : List Int) : y ∈ R ↔ ¬ NoW S r y := by
  rw [not_noW]
  constructor
  · intro hy
    obtain ⟨k, hk, rfl⟩ := mem_getD (d := []) hy
    obtain ⟨⟨w, hw, _⟩, _⟩ := h.dist k hk
    exact ⟨w, hw⟩
  · rintro ⟨w, hw⟩; exact h.all y w hw
set_option maxHeartbeats 4000000 in
theorem r_Closed_ok (g f h : Bool) (b : OB) (hz : SzO b) (r x : List Int) (hr : r.length ≤ 1000000) (hx : x.length ≤ 1000000) {L : List (List Int)} {e : Int} (ha : AnsD b r x L e) : PureOK Tryz.prog n_r_Closed [On g b, Ls f r, Ls h x] (.tup [LLs false (fLs L), I e]) := by
  refine pure_of_w weak3 weak3_rep (walk func_r_Closed form_r_Closed res_r_Closed (by show 3 ≤ _; decide) ?_)
  simp -implicitDefEqProofs (disch := omega) [G_r_Closed, wrap_id]
  refine callW_pure rfl (r_Rows_ok g f h b hz r x hr hx) ?_
  rcases ha with ⟨h0, rfl, rfl⟩ | ⟨h0, ha⟩
  · have h0' : (rwsE b r x != 0) = true := by simpa using h0
    simp -implicitDefEqProofs (disch := omega) [wrap_id, h0']
    refine callW_pure rfl (r_Rows_ok g f h b hz r x hr hx) ?_
    simp -implicitDefEqProofs (disch := omega) [wrap_id]
    exact ⟨.tup [LLs true [], I (rwsE b r x)], rfl, out_of (is := []) rfl⟩
  obtain ⟨n, hb, lr, lx, o1, o2⟩ := rws_ok h0
  have h6 := hb.hi
  simp -implicitDefEqProofs (disch := omega) [wrap_id, h0]
  refine r_Reached_w g f hb lr (rowO_col o1) fun H xr xf xm xl RL F M LL W G c => ?_
  obtain ⟨B1, B2, B3⟩ := reach_bound hb lr (rowO_col o1) c.bfs
  rw [List.length_map] at B1 B2 B3
  have sm := rows_small B3
  have fin := fin_of c
  simp -implicitDefEqProofs (disch := omega) [wrap_id]
  refine q_find c.q (by omega) (fun p hp => by rw [sm p hp]; omega) (by omega) ?_
  rcases fin_fnd fin (x := x) with ⟨nw, ef⟩ | ⟨k, hk, ef, ex⟩
  · rcases ha with ⟨hn, _⟩ | ⟨_, hsrt, hmem, rfl⟩
    · exact absurd nw hn
    rw [ef]
    simp -implicitDefEqProofs (disch := omega) [wrap_id]
    have lenR : ∀ y ∈ RL.map (·.2), y.length = n := fun y hy => by
      obtain ⟨p, hp, rfl⟩ := List.mem_map.1 hy
      exact sm p hp
    rcases c.q with ⟨q1, rfl, rfl, rfl, rfl⟩ | ⟨a, cc, d', e', z1, z2, z3, z4, n1, n2, n3, n4, n5, n6, rfl, rfl, rfl, rfl, qa, qc, qd, qe⟩
    · -- one row
      have eL : RL.map (·.2) = L := by
        refine srt_uniq (n := n) ?_ hsrt lenR (fun y hy => lenR y ((fin_mem fin y).2 ((hmem y).1 hy))) fun y => (fin_mem fin y).trans (hmem y).symm
        match RL, q1 with
        | [p], _ => simp [SrtL]
      refine loop_eq (fun i : Nat => ⟨[(8, LLs true RL), (12, I (i : Int))], H⟩) (fun i => i ≤ 1) (fun i => 1 - i) 0 (Nat.zero_le _) rfl ?_
      rintro i c1
      refine hideK' fun K0 hK0 => ?_
      simp -implicitDefEqProofs (disch := omega) [wrap_id, q1]
      refine c_split (fun hc => ?_) (fun hc => ?_)
      · have hi : i = 0 := by simp at hc; omega
        subst hi
        simp -implicitDefEqProofs (disch := omega) [wrap_id]
        refine loop_eq (fun _ : Unit => ⟨[(8, LLs true RL), (12, I 0), (13, I 0)], H⟩) (fun _ => True) (fun _ => 0) () trivial (by simp [q1]) ?_
        rintro _ _
        simp -implicitDefEqProofs (disch := omega) [wrap_id, cmp2, nthT, q1]
        rw [hK0]
        exact next_eq 1 (Nat.le_refl _) (by omega) (by simp [q1])
      · have hi : i = 1 := by simp at hc; omega
        subst hi
        subst hK0
        simp -implicitDefEqProofs (disch := omega) [wrap_id]
        exact ⟨.tup [LLs true RL, I 0], weak3_lls eL, out_of (is := []) rfl⟩
    · have la0 := nthH_lt qa
      have srtL : ∀ {Q : List (Bool × List Int)}, InsV n (RL.map (·.2)) (Q.map (·.2)) RL.length RL.length → Q.map (·.2) = L := fun {Q} hQ => by
        have hQ2 := hQ
        rw [show RL.length = (RL.map (·.2)).length by rw [List.length_map]] at hQ2
        refine srt_uniq (n := n) hQ2.fin hsrt (fun y hy => lenR y (hQ.perm.mem_iff.1 hy)) (fun y hy => lenR y ((fin_mem fin y).2 ((hmem y).1 hy))) fun y => ?_
        exact hQ.perm.mem_iff.trans ((fin_mem fin y).trans (hmem y).symm)
      refine loop_eq (fun q : Nat × List HObj => ⟨[(8, .ms a 0 RL.length 1), (12, I (q.1 : Int))], q.2⟩)
        (fun q => q.1 ≤ RL.length ∧ ∃ Q, nthH q.2 a = some (.cells (llsC Q)) ∧ InsV n (RL.map (·.2)) (Q.map (·.2)) q.1 q.1) (fun q => RL.length - q.1) (0, H) ⟨Nat.zero_le _, RL, qa, .init⟩ rfl ?_
      rintro ⟨i, H1⟩ ⟨c1, Q, c2, c3⟩
      simp only at c1 c2 c3 ⊢
      refine hideK' fun K0 hK0 => ?_
      simp -implicitDefEqProofs (disch := omega) [wrap_id]
      refine c_split (fun hc => ?_) (fun hc => ?_)
      · have hi : i < RL.length := by simpa using hc
        have ix : ((i : Int) + 1) = ((i + 1 : Nat) : Int) := by omega
        simp -implicitDefEqProofs (disch := omega) [wrap_id]
        refine loop_eq (fun q : Nat × List HObj => ⟨[(8, .ms a 0 RL.length 1), (12, I (i : Int)), (13, I (q.1 : Int))], q.2⟩)
          (fun q => q.1 ≤ i ∧ ∃ Q, nthH q.2 a = some (.cells (llsC Q)) ∧ InsV n (RL.map (·.2)) (Q.map (·.2)) i q.1) (fun q => q.1) (i, H1) ⟨Nat.le_refl _, Q, c2, c3⟩ rfl ?_
        clear c2 c3 Q
        rintro ⟨k, H2⟩ ⟨d1, Q, d2, d3⟩
        simp only at d1 d2 d3 ⊢
        have lQ : Q.length = RL.length := by have := d3.len; rw [List.length_map, List.length_map] at this; exact this
        have smQ : ∀ p ∈ Q, p.2.length = n := fun p hp => lenR _ (d3.perm.mem_iff.1 (List.mem_map.2 ⟨p, hp, rfl⟩))
        refine hideK' fun K1 hK1 => ?_
        have iR : i < (RL.map (·.2)).length := by rw [List.length_map]; exact hi
        match k, d1, d3 with
        | 0, d1, d3 =>
          have st := d3.stop d1 iR fin.nd lenR (.inl rfl)
          subst hK1
          simp -implicitDefEqProofs (disch := omega) [wrap_id, cmp2, nthT]
          rw [hK0]
          exact next_eq (i + 1, H2) ⟨by simp only; omega, Q, d2, st⟩ (by simp only; omega) (by simp only [ix])
        | k + 1, d1, d3 =>
          have hk1 : k + 1 < Q.length := by omega
          have hk0 : k < Q.length := by omega
          have kx : (((k + 1 : Nat) : Int) - 1) = (k : Int) := by omega
          have g1 := getD_snd hk1
          have g0 := getD_snd hk0
          have l1 := smQ _ (List.getElem_mem hk1)
          have l0 := smQ _ (List.getElem_mem hk0)
          have la := nthH_lt d2
          obtain ⟨m, hm⟩ : ∃ m : Int, ((k + 1 : Nat) : Int) = m := ⟨_, rfl⟩
          rw [hm] at kx
          have mn : m.toNat = k + 1 := by omega
          have m0 : (0 < m) = True := by simp only [eq_iff_iff, iff_true]; omega
          have mr : m < RL.length := by omega
          have kr : k < RL.length := by omega
          have ff := r_First_ok Q[k + 1].1 Q[k].1 Q[k + 1].2 Q[k].2 (by omega) (by omega)
          simp only [hm]
          simp -implicitDefEqProofs (disch := omega) [wrap_id, m0, d2, mn, kx, hk1, hk0, cells_lls, mr, kr]
          refine ⟨by omega, pureW_of rfl ff ?_⟩
          cases hf : frst Q[k + 1].2 Q[k].2 with
          | true =>
            have sw := d3.swap d1 iR (by rw [g1, g0]; exact hf)
            rw [g1, g0] at sw
            simp -implicitDefEqProofs (disch := omega) [wrap_id, cmp2, nthT, d2, mn, kx, hk1, hk0, cells_lls, mr, kr, la]
            rw [set_c2 (by simpa using hk1)]
            refine ⟨by omega, by omega, ?_⟩
            have s3 : nthH (H2.set a (.cells ((llsC Q).set (k + 1) (Ls Q[k].1 Q[k].2)))) a = some (.cells ((llsC Q).set (k + 1) (Ls Q[k].1 Q[k].2))) := nthH_set_same la
            have l3 : a < (H2.set a (.cells ((llsC Q).set (k + 1) (Ls Q[k].1 Q[k].2)))).length := by simpa using la
            generalize H2.set a (.cells ((llsC Q).set (k + 1) (Ls Q[k].1 Q[k].2))) = H3 at s3 l3 ⊢
            simp -implicitDefEqProofs (disch := omega) [wrap_id, cmp2, nthT, s3, l3]
            have hk0' : k < ((llsC Q).set (k + 1) (Ls Q[k].1 Q[k].2)).length := by simpa using hk0
            rw [set_c2 hk0', lls_set]
            refine ⟨by omega, ?_⟩
            rw [hK1]
            have l4 : a < H3.length := l3
            refine next_eq (k, H3.set a (.cells (llsC ((Q.set (k + 1) Q[k]).set k Q[k + 1])))) ⟨by simp only; omega, _, nthH_set_same l4, ?_⟩ (by simp only; omega) (by simp only [kx])
            simp only [List.map_set]
            exact sw
          | false =>
            have st := d3.stop d1 iR fin.nd lenR (.inr (by rw [Nat.add_sub_cancel, g1, g0]; exact hf))
            subst hK1
            simp -implicitDefEqProofs (disch := omega) [wrap_id, cmp2, nthT]
            rw [hK0]
            exact next_eq (i + 1, H2) ⟨by simp only; omega, Q, d2, st⟩ (by simp only; omega) (by simp only [ix])
      · have hi : i = RL.length := by simp at hc; omega
        subst hi
        subst hK0
        have lQ : Q.length = RL.length := by have := c3.len; rw [List.length_map, List.length_map] at this; exact this
        simp -implicitDefEqProofs (disch := omega) [wrap_id]
        refine ⟨.tup [LLs false Q, I 0], weak3_lls (srtL c3), out_of (is := [a]) ?_⟩
        have := lls_pur c2 lQ.symm
        simp only [purify] at this
        simp only [purify, purifyL, this]; rfl
  · have kn : ((0 : Int) ≤ (k : Int)) = True := by simp only [eq_iff_iff, iff_true]; omega
    have dk := fin.dist k (by rw [List.length_map]; exact hk)
    rw [ex] at dk
    rcases ha with ⟨_, rfl, rfl⟩ | ⟨nw, _⟩
    · rw [ef]
      simp -implicitDefEqProofs (disch := omega) [wrap_id, kn]
      exact ⟨.tup [LLs true [], I 11], rfl, out_of (is := []) rfl⟩
    · obtain ⟨⟨w, hw, _⟩, _⟩ := dk
      exact absurd hw (nw w)
end Go.AM

set_option maxRecDepth 100000
namespace Go.AM
open Go.RowKit Go.Proofs
abbrev n_l_OrderCloseds : Nat := 5
def G_l_OrderCloseds : AC := (.seq (.rgn [⟨none, [(.box 4 2 (.t 0)), (.mv 8 (.k (B false)))]⟩] [1, 2, 3, 4]) (.seq (.seq (.rgn [⟨none, [(.ld 14 true 2 (.t 4)), (.call 15 13 [(.t 14)]), (.mv 16 (.t 15))]⟩, ⟨(some (16, false)), [(.ld 17 true 2 (.t 4)), (.call 18 28 [(.t 17)])]⟩, ⟨none, [(.pick 19 (.t 16) (.k (B true)) (.t 18)), (.mv 20 (.t 19))]⟩, ⟨(some (20, false)), [(.mv 21 (.t 1)), (.call 22 14 [(.t 21)])]⟩, ⟨none, [(.pick 23 (.t 20) (.k (B true)) (.t 22)), (.mv 24 (.t 23))]⟩, ⟨(some (24, false)), [(.mv 25 (.t 2)), (.call 26 14 [(.t 25)])]⟩, ⟨none, [(.pick 27 (.t 24) (.k (B true)) (.t 26)), (.mv 28 (.t 27))]⟩, ⟨(some (28, false)), [(.mv 29 (.t 3)), (.len 30 (.t 29)), (.bin 31 .gtr (.t 30) (.k (I 130))), (.mv 32 (.t 31))]⟩, ⟨(some (32, true)), [(.mv 33 (.t 3)), (.len 34 (.t 33)), (.bin 35 .leq (.t 34) (.k (I 720)))]⟩, ⟨(some (28, false)), [(.pick 36 (.t 32) (.t 35) (.k (B false)))]⟩, ⟨none, [(.pick 37 (.t 28) (.k (B true)) (.t 36)), (.mv 38 (.t 37))]⟩, ⟨(some (38, false)), [(.mv 39 (.t 3)), (.len 40 (.t 39)), (.bin 41 .gtr (.t 40) (.k (I 730)))]⟩, ⟨none, [(.pick 42 (.t 38) (.k (B true)) (.t 41))]⟩] [1, 2, 3, 4, 42]) (.cond (.t 42) (.seq (.rgn [⟨none, [(.call 43 16 []), (.mv 8 (.t 43))]⟩] [8]) .ret) .skip)) (.seq (.seq (.rgn [⟨none, [(.mv 9 (.k (I 0)))]⟩] [1, 2, 3, 4, 9]) (.block 0 (.loop (.seq (.seq (.rgn [⟨none, [(.mv 44 (.t 9)), (.mv 45 (.t 3)), (.len 46 (.t 45)), (.bin 47 .lss (.t 44) (.t 46))]⟩] [1, 2, 3, 4, 9, 47]) (.cond (.t 47) .skip (.exit 0))) (.seq (.block 1 (.seq (.rgn [⟨none, [(.mv 50 (.t 3)), (.mv 51 (.t 9)), (.ia 52 1 (.t 50) (.t 51)), (.ld 53 false 1 (.t 52)), (.call 54 14 [(.t 53)])]⟩] [1, 2, 3, 4, 9, 54]) (.cond (.t 54) (.seq (.rgn [⟨none, [(.call 55 16 []), (.mv 8 (.t 55))]⟩] [8]) .ret) .skip))) (.rgn [⟨none, [(.mv 48 (.t 9)), (.bin 49 .add (.t 48) (.k (I 1))), (.mv 9 (.t 49))]⟩] [1, 2, 3, 4, 9])))))) (.seq (.rgn [⟨none, [(.ld 57 true 2 (.t 4)), (.mv 58 (.t 1)), (.mv 59 (.t 2)), (.call 60 35 [(.t 57), (.t 58), (.t 59)]), (.mv 56 (.t 60)), (.ext 61 (.t 56) 0), (.ext 62 (.t 56) 1), (.mv 10 (.t 61)), (.mv 11 (.t 62))]⟩] [1, 2, 3, 4, 10, 11]) (.seq (.rgn [⟨none, [(.ld 64 true 2 (.t 4)), (.mv 65 (.t 1)), (.mv 66 (.t 2)), (.call 67 36 [(.t 64), (.t 65), (.t 66)]), (.mv 63 (.t 67)), (.ext 68 (.t 63) 0), (.ext 69 (.t 63) 1), (.mv 12 (.t 68)), (.mv 13 (.t 69))]⟩] [1, 2, 3, 4, 10, 11, 12, 13]) (.seq (.drw [⟨none, [(.mv 70 (.t 10)), (.mv 71 (.t 12)), (.call 72 37 [(.t 70), (.t 71)]), (.mv 73 (.t 72))]⟩, ⟨(some (73, true)), [(.mv 74 (.t 11)), (.mv 75 (.t 13)), (.bin 76 .eql (.t 74) (.t 75))]⟩, ⟨none, [(.pick 77 (.t 73) (.t 76) (.k (B false))), (.mv 78 (.t 77))]⟩, ⟨(some (78, true)), [(.ld 79 true 2 (.t 4)), (.mv 80 (.t 1)), (.mv 81 (.t 2)), (.mv 82 (.t 3)), (.call 83 38 [(.t 79), (.t 80), (.t 81), (.t 82)]), (.ld 84 true 2 (.t 4)), (.mv 85 (.t 1)), (.mv 86 (.t 2)), (.mv 87 (.t 3)), (.call 88 39 [(.t 84), (.t 85), (.t 86), (.t 87)]), (.bin 89 .eql (.t 83) (.t 88))]⟩, ⟨none, [(.pick 90 (.t 78) (.t 89) (.k (B false))), (.mv 91 (.t 90))]⟩, ⟨(some (91, true)), [(.call 92 16 [])]⟩, ⟨none, [(.pick 93 (.t 91) (.t 92) (.k (B false))), (.mv 8 (.t 93))]⟩] [(9, 14), (13, 14)] [8]) .ret))))))
theorem func_l_OrderCloseds : Tryz.prog.funcs[n_l_OrderCloseds]? = some Tryz.f5 := Tryz.func5
theorem form_l_OrderCloseds : formOf Tryz.prog Tryz.f5 [8] = some G_l_OrderCloseds := by kernel_rfl
theorem res_l_OrderCloseds : resTmps Tryz.f5.results.toList = some [8] := by kernel_rfl
abbrev n_l_great : Nat := 13
def G_l_great : AC := (.seq (.rgn [⟨none, [(.box 1 2 (.t 0)), (.mv 2 (.k (B false)))]⟩] [1]) (.seq (.seq (.rgn [⟨none, [(.fa 4 (.t 1) 1), (.ld 5 false 1 (.t 4)), (.len 6 (.t 5)), (.bin 7 .gtr (.t 6) (.k (I 10)))]⟩] [1, 7]) (.cond (.t 7) (.seq (.rgn [⟨none, [(.mv 2 (.k (B true)))]⟩] [2]) .ret) .skip)) (.seq (.seq (.rgn [⟨none, [(.mv 3 (.k (I 0)))]⟩] [1, 3]) (.block 0 (.loop (.seq (.seq (.rgn [⟨none, [(.mv 8 (.t 3)), (.fa 9 (.t 1) 1), (.ld 10 false 1 (.t 9)), (.len 11 (.t 10)), (.bin 12 .lss (.t 8) (.t 11))]⟩] [1, 3, 12]) (.cond (.t 12) .skip (.exit 0))) (.seq (.block 1 (.seq (.rgn [⟨none, [(.fa 15 (.t 1) 1), (.ld 16 false 1 (.t 15)), (.mv 17 (.t 3)), (.ia 18 1 (.t 16) (.t 17)), (.ld 19 false 1 (.t 18)), (.len 20 (.t 19)), (.bin 21 .gtr (.t 20) (.k (I 10)))]⟩] [1, 3, 21]) (.cond (.t 21) (.seq (.rgn [⟨none, [(.mv 2 (.k (B true)))]⟩] [2]) .ret) .skip))) (.rgn [⟨none, [(.mv 13 (.t 3)), (.bin 14 .add (.t 13) (.k (I 1))), (.mv 3 (.t 14))]⟩] [1, 3])))))) (.seq (.rgn [⟨none, [(.mv 2 (.k (B false)))]⟩] [2]) .ret))))
theorem func_l_great : Tryz.prog.funcs[n_l_great]? = some Tryz.f13 := Tryz.func13
theorem form_l_great : formOf Tryz.prog Tryz.f13 [2] = some G_l_great := by kernel_rfl
theorem res_l_great : resTmps Tryz.f13.results.toList = some [2] := by kernel_rfl
abbrev n_l_long : Nat := 14
def G_l_long : AC := (.seq (.rgn [⟨none, [(.mv 2 (.k (B false)))]⟩] [0]) (.seq (.rgn [⟨none, [(.mv 3 (.t 0)), (.len 4 (.t 3)), (.bin 5 .gtr (.t 4) (.k (I 10))), (.mv 2 (.t 5))]⟩] [2]) .ret))
theorem func_l_long : Tryz.prog.funcs[n_l_long]? = some Tryz.f14 := Tryz.func14
theorem form_l_long : formOf Tryz.prog Tryz.f14 [2] = some G_l_long := by kernel_rfl
theorem res_l_long : resTmps Tryz.f14.results.toList = some [2] := by kernel_rfl
abbrev n_l_wide : Nat := 28
def G_l_wide : AC := (.seq (.rgn [⟨none, [(.box 1 2 (.t 0)), (.mv 2 (.k (B false)))]⟩] [1]) (.seq (.rgn [⟨none, [(.ld 3 true 2 (.t 1)), (.call 4 24 [(.t 3)]), (.bin 5 .eql (.t 4) (.k (I 0))), (.mv 6 (.t 5))]⟩, ⟨(some (6, true)), [(.fa 7 (.t 1) 0), (.ld 8 false 1 (.t 7)), (.bin 9 .gtr (.t 8) (.k (I 5)))]⟩, ⟨none, [(.pick 10 (.t 6) (.t 9) (.k (B false))), (.mv 2 (.t 10))]⟩] [2]) .ret))
theorem func_l_wide : Tryz.prog.funcs[n_l_wide]? = some Tryz.f28 := Tryz.func28
theorem form_l_wide : formOf Tryz.prog Tryz.f28 [2] = some G_l_wide := by kernel_rfl
theorem res_l_wide : resTmps Tryz.f28.results.toList = some [2] := by kernel_rfl
end Go.AM

set_option linter.unusedSimpArgs false
set_option linter.unusedVariables false
namespace Go.AM
open Go.RowKit Go.Proofs
def grtO (b : OB) : Bool := decide (10 < b.s.length) || b.s.any fun p => decide (10 < p.2.length)
theorem l_great_ok (g : Bool) (b : OB) (hb : b.s.length ≤ 9223372036854775807) (hz : ∀ p ∈ b.s, p.2.length ≤ 9223372036854775807) : PureOK Tryz.prog n_l_great [On g b] (B (grtO b)) := by
  refine pure_of (walk func_l_great form_l_great res_l_great (by show 1 ≤ _; decide) ?_)
  simp -implicitDefEqProofs (disch := omega) [G_l_great, wrap_id]
  by_cases h : 10 < b.s.length
  · have h' : (10 : Int) < b.s.length := by omega
    have e : grtO b = true := by simp [grtO, h]
    rw [e]
    simp -implicitDefEqProofs (disch := omega) [wrap_id, h']
  · have h' : ¬ (10 : Int) < b.s.length := by omega
    have e0 : grtO b = b.s.any fun p => decide (10 < p.2.length) := by simp [grtO, h]
    generalize grtO b = E at e0 ⊢
    simp -implicitDefEqProofs (disch := omega) [wrap_id, h']
    refine loop_eq (fun i : Nat => ⟨[(1, .ref 0 0), (3, I (i : Int))], [.cells [I b.P, LLs g b.s]]⟩) (fun i => i ≤ b.s.length ∧ ∀ k (hk : k < b.s.length), k < i → ¬ 10 < b.s[k].2.length) (fun i => b.s.length - i) 0 ⟨by omega, fun k hk h => by omega⟩ rfl ?_
    rintro i ⟨hi, he⟩
    refine hideK' fun K0 hK0 => ?_
    simp -implicitDefEqProofs (disch := omega) [wrap_id]
    refine c_split (fun hc => ?_) (fun hc => ?_)
    · have h1 : i < b.s.length := by simp at hc; omega
      have ix : ((i : Int) + 1) = ((i + 1 : Nat) : Int) := by omega
      have z1 := hz _ (List.getElem_mem h1)
      by_cases e : 10 < b.s[i].2.length
      · have e' : (10 : Int) < b.s[i].2.length := by omega
        have : (b.s.any fun p => decide (10 < p.2.length)) = true := List.any_eq_true.2 ⟨_, List.getElem_mem h1, by simpa using e⟩
        rw [this] at e0
        subst e0
        subst hK0
        simp -implicitDefEqProofs (disch := omega) [wrap_id, cells_lls, h1, e']
      · have e' : ¬ (10 : Int) < b.s[i].2.length := by omega
        simp -implicitDefEqProofs (disch := omega) [wrap_id, cells_lls, h1, e']
        rw [hK0]
        refine next_eq (i + 1) ⟨by omega, fun k hk h2 => ?_⟩ (by omega) (by simp only [ix])
        by_cases ek : k = i
        · subst ek; exact e
        · exact he k hk (by omega)
    · have h1 : i = b.s.length := by simp at hc; omega
      have : (b.s.any fun p => decide (10 < p.2.length)) = false := by
        rw [List.any_eq_false]
        intro p hp
        obtain ⟨k, hk, rfl⟩ := List.getElem_of_mem hp
        simpa using he k hk (by omega)
      rw [this] at e0
      subst e0
      subst hK0
      simp -implicitDefEqProofs (disch := omega) [wrap_id]
theorem grt_sz {b : OB} (h : grtO b = false) : Sz12 b ∧ SzO b := by
  unfold grtO at h
  rw [Bool.or_eq_false_iff] at h
  have h1 : ¬ 10 < b.s.length := by simpa using h.1
  have h2 : ∀ p ∈ b.s, ¬ 10 < p.2.length := fun p hp => by simpa using List.any_eq_false.1 h.2 p hp
  exact ⟨⟨by omega, fun p hp => by have := h2 p hp; omega⟩, ⟨by omega, fun p hp => by have := h2 p hp; omega⟩⟩
theorem l_long_ok (f : Bool) (l : List Int) (hl : l.length ≤ 9223372036854775807) : PureOK Tryz.prog n_l_long [Ls f l] (B (decide (10 < l.length))) := by
  refine pure_of (walk func_l_long form_l_long res_l_long (by show 1 ≤ _; decide) ?_)
  by_cases h : 10 < l.length
  · have h' : (10 : Int) < l.length := by omega
    simp -implicitDefEqProofs (disch := omega) [G_l_long, wrap_id, h, h']
  · have h' : ¬ (10 : Int) < l.length := by omega
    simp -implicitDefEqProofs (disch := omega) [G_l_long, wrap_id, h, h']
def widO (b : OB) : Bool := decide (chkO b = 0 ∧ 5 < b.P)
theorem l_wide_ok (g : Bool) (b : OB) (hb : b.s.length ≤ 1000000) (hz : ∀ p ∈ b.s, p.2.length ≤ 1000000) : PureOK Tryz.prog n_l_wide [On g b] (B (widO b)) := by
  refine pure_of (walk func_l_wide form_l_wide res_l_wide (by show 1 ≤ _; decide) ?_)
  simp -implicitDefEqProofs (disch := omega) [G_l_wide, wrap_id]
  refine callW_pure rfl (r_CheckBench_ok g b hb hz) ?_
  by_cases h : chkO b = 0
  · by_cases h2 : 5 < b.P
    · simp -implicitDefEqProofs (disch := omega) [wrap_id, h, h2, widO]
    · simp -implicitDefEqProofs (disch := omega) [wrap_id, h, h2, widO]
  · have h' : (chkO b == 0) = false := by simpa using h
    simp -implicitDefEqProofs (disch := omega) [wrap_id, h', h, widO]
end Go.AM

set_option linter.unusedSimpArgs false
set_option linter.unusedVariables false
namespace Go.AM
open Go.RowKit Go.Proofs
theorem ins_ex {n : Nat} {x : List Int} (hx : x.length = n) : ∀ {Q : List (List Int)}, SrtL Q → (∀ y ∈ Q, y.length = n) → ∃ Q', SrtL Q' ∧ ∀ y, y ∈ Q' ↔ y = x ∨ y ∈ Q
  | [], _, _ => ⟨[x], by simp [SrtL], by simp⟩
  | q :: Q, hs, hl => by
    have hs' := List.pairwise_cons.1 hs
    have lq := hl q (by simp)
    by_cases e : x = q
    · subst e
      exact ⟨x :: Q, hs, fun y => by simp⟩
    · cases hf : frst x q with
      | true =>
        refine ⟨x :: q :: Q, List.pairwise_cons.2 ⟨fun y hy => ?_, hs⟩, fun y => by simp⟩
        rcases List.mem_cons.1 hy with rfl | hy
        · exact hf
        · exact frst_trans (by omega) (by rw [lq, hl y (by simp [hy])]) hf (hs'.1 y hy)
      | false =>
        have hf2 : frst q x = true := frst_total (by omega) e hf
        obtain ⟨Q', h1, h2⟩ := ins_ex hx hs'.2 (fun y hy => hl y (by simp [hy]))
        refine ⟨q :: Q', List.pairwise_cons.2 ⟨fun y hy => ?_, h1⟩, fun y => ?_⟩
        · rcases (h2 y).1 hy with rfl | hy
          · exact hf2
          · exact hs'.1 y hy
        · simp only [List.mem_cons, h2]
          constructor
          · rintro (h | h | h)
            · exact .inr (.inl h)
            · exact .inl h
            · exact .inr (.inr h)
          · rintro (h | h | h)
            · exact .inr (.inl h)
            · exact .inl h
            · exact .inr (.inr h)
theorem srt_ex {n : Nat} : ∀ {L : List (List Int)}, (∀ y ∈ L, y.length = n) → ∃ Q, SrtL Q ∧ ∀ y, y ∈ Q ↔ y ∈ L
  | [], _ => ⟨[], by simp [SrtL], by simp⟩
  | x :: L, hl => by
    obtain ⟨Q, h1, h2⟩ := srt_ex (L := L) (fun y hy => hl y (by simp [hy]))
    obtain ⟨Q', h3, h4⟩ := ins_ex (hl x (by simp)) h1 (fun y hy => hl y (by simp [(h2 y).1 hy]))
    exact ⟨Q', h3, fun y => by rw [h4, h2, List.mem_cons]⟩
theorem srt_nd : ∀ {Q : List (List Int)}, SrtL Q → Q.Nodup := fun {Q} h => h.imp fun {a b} h e => by subst e; rw [frst_self] at h; cases h
theorem ansD_ex (b : OB) (r x : List Int) : ∃ L e, AnsD b r x L e ∧ L.length ≤ 46656 ∧ ∀ y ∈ L, y.length ≤ 6 := by
  by_cases h0 : rwsE b r x = 0
  · obtain ⟨n, hb, lr, lx, o1, o2⟩ := rws_ok h0
    have h6 := hb.hi
    by_cases h1 : NoW b.S r x
    · have C : ∀ y, ¬ NoW b.S r y → y ∈ allRows (plcL 6) n ∧ y.length = n := fun y hy => by
        obtain ⟨w, hw, e⟩ := not_noW.1 hy
        subst e
        have hl := allS_len hb.pmS hw lr
        exact ⟨mem_allRows hl (allS_col hb.pmS hw lr fun z hz => plc_mem.2 (by have := rowO_col o1 z hz; omega)), hl⟩
      have dec : ∀ y, Decidable (NoW b.S r y) := fun y => Classical.propDecidable _
      obtain ⟨Q, q1, q2⟩ := srt_ex (n := n) (L := (allRows (plcL 6) n).filter fun y => !decide (NoW b.S r y)) (fun y hy => by
        have := (List.mem_filter.1 hy).2
        exact (C y (by simpa using this)).2)
      have q3 : ∀ y, y ∈ Q ↔ ¬ NoW b.S r y := fun y => by
        rw [q2, List.mem_filter]
        constructor
        · rintro ⟨_, h⟩; simpa using h
        · intro h; exact ⟨(C y h).1, by simpa using h⟩
      refine ⟨Q, 0, .inr ⟨h0, .inr ⟨h1, q1, q3, rfl⟩⟩, ?_, fun y hy => by have := (C y ((q3 y).1 hy)).2; omega⟩
      have l1 := (srt_nd q1).length_le_of_subset (fun y hy => (C y ((q3 y).1 hy)).1)
      rw [allRows_len, plcL_len] at l1
      have : 6 ^ n ≤ 6 ^ 6 := Nat.pow_le_pow_right (by decide) h6
      omega
    · exact ⟨[], 11, .inr ⟨h0, .inl ⟨h1, rfl, rfl⟩⟩, by simp, by simp⟩
  · exact ⟨[], rwsE b r x, .inl ⟨h0, rfl, rfl⟩, by simp, by simp⟩
end Go.AM

set_option linter.unusedSimpArgs false
set_option linter.unusedVariables false
namespace Go.AM
open Go.RowKit Go.Proofs
set_option maxHeartbeats 8000000 in
theorem lawOrderCloseds' (g f h q : Bool) (b : OB) (r x : List Int) (rows : List (Bool × List Int)) (hb : OBK b) (hr : r.length ≤ 9223372036854775807) (hx : x.length ≤ 9223372036854775807) (hl : rows.length ≤ 9223372036854775807) (hlz : ∀ p ∈ rows, p.2.length ≤ 9223372036854775807) :
    PureOK Tryz.prog n_l_OrderCloseds [On g b, Ls f r, Ls h x, LLs q rows] (B true) := by
  refine pure_of (walk func_l_OrderCloseds form_l_OrderCloseds res_l_OrderCloseds (by show 4 ≤ _; decide) ?_)
  simp -implicitDefEqProofs (disch := omega) [G_l_OrderCloseds, wrap_id]
  refine callW_pure rfl (l_great_ok g b hb.many hb.len) ?_
  cases hg : grtO b with
  | true =>
    simp -implicitDefEqProofs (disch := omega) [wrap_id]
    exact callW_pure rfl works_ok (by simp)
  | false =>
    obtain ⟨z1, z2⟩ := grt_sz hg
    simp -implicitDefEqProofs (disch := omega) [wrap_id]
    refine callW_pure rfl (l_wide_ok g b z2.many z2.len) ?_
    cases hw : widO b with
    | true =>
      simp -implicitDefEqProofs (disch := omega) [wrap_id]
      exact callW_pure rfl works_ok (by simp)
    | false =>
    simp -implicitDefEqProofs (disch := omega) [wrap_id]
    refine callW_pure rfl (l_long_ok f r hr) ?_
    by_cases a1 : 10 < r.length
    · rw [decide_eq_true a1]
      simp -implicitDefEqProofs (disch := omega) [wrap_id]
      exact callW_pure rfl works_ok (by simp)
    rw [decide_eq_false a1]
    have q1 : (130 < rows.length) = ((130 : Int) < rows.length) := by simp only [eq_iff_iff]; omega
    by_cases c1 : (130 : Int) < rows.length
    · by_cases c2 : (rows.length : Int) ≤ 720
      · simp -implicitDefEqProofs (disch := omega) [wrap_id]
        refine callW_pure rfl (l_long_ok h x hx) ?_
        by_cases a2 : 10 < x.length
        · rw [decide_eq_true a2]
          simp -implicitDefEqProofs (disch := omega) [wrap_id]
          exact callW_pure rfl works_ok (by simp)
        rw [decide_eq_false a2]
        simp -implicitDefEqProofs (disch := omega) [wrap_id, c1, c2]
        exact callW_pure rfl works_ok (by simp)
      · by_cases c3 : (730 : Int) < rows.length
        · simp -implicitDefEqProofs (disch := omega) [wrap_id]
          refine callW_pure rfl (l_long_ok h x hx) ?_
          by_cases a2 : 10 < x.length
          · rw [decide_eq_true a2]
            simp -implicitDefEqProofs (disch := omega) [wrap_id]
            exact callW_pure rfl works_ok (by simp)
          rw [decide_eq_false a2]
          simp -implicitDefEqProofs (disch := omega) [wrap_id, c1, c2, c3]
          exact callW_pure rfl works_ok (by simp)
        · simp -implicitDefEqProofs (disch := omega) [wrap_id]
          refine callW_pure rfl (l_long_ok h x hx) ?_
          by_cases a2 : 10 < x.length
          · rw [decide_eq_true a2]
            simp -implicitDefEqProofs (disch := omega) [wrap_id]
            exact callW_pure rfl works_ok (by simp)
          rw [decide_eq_false a2]
          simp -implicitDefEqProofs (disch := omega) [wrap_id, c1, c2, c3]
          refine loop_eq (fun i : Nat => ⟨[(1, Ls f r), (2, Ls h x), (3, LLs q rows), (4, .ref 0 0), (9, I (i : Int))], [.cells [I b.P, LLs g b.s]]⟩) (fun i => i ≤ rows.length ∧ ∀ k (hk : k < rows.length), k < i → ¬ 10 < rows[k].2.length) (fun i => rows.length - i) 0 ⟨Nat.zero_le _, fun k hk h => by omega⟩ rfl ?_
          rintro i ⟨d1, d2⟩
          refine hideK' fun K0 hK0 => ?_
          simp -implicitDefEqProofs (disch := omega) [wrap_id]
          refine c_split (fun hc => ?_) (fun hc => ?_)
          · have hi : i < rows.length := by simp at hc; omega
            have ix : ((i : Int) + 1) = ((i + 1 : Nat) : Int) := by omega
            simp -implicitDefEqProofs (disch := omega) [wrap_id, cells_lls, hi]
            refine callW_pure rfl (l_long_ok rows[i].1 rows[i].2 (hlz _ (List.getElem_mem hi))) ?_
            by_cases e : 10 < rows[i].2.length
            · rw [decide_eq_true e]
              subst hK0
              simp -implicitDefEqProofs (disch := omega) [wrap_id]
              exact callW_pure rfl works_ok (by simp)
            · rw [decide_eq_false e]
              simp -implicitDefEqProofs (disch := omega) [wrap_id]
              rw [hK0]
              refine next_eq (i + 1) ⟨by omega, fun k hk hk2 => ?_⟩ (by omega) (by simp only [ix])
              by_cases ek : k = i
              · subst ek; exact e
              · exact d2 k hk (by omega)
          · have hi : i = rows.length := by simp at hc; omega
            subst hi
            subst hK0
            have hz : ∀ p ∈ rows, p.2.length ≤ 1000000 := fun p hp => by
              obtain ⟨k, hk, rfl⟩ := List.getElem_of_mem hp
              have := d2 k hk hk
              omega
            obtain ⟨M, e, hD, hM, hMl⟩ := ansD_ex b r x
            have fz : ∀ p ∈ fLs M, p.2.length ≤ 1000000 := fun p hp => by
              obtain ⟨y, hy, rfl⟩ := List.mem_map.1 hp
              have := hMl y hy
              simp only; omega
            have fl : (fLs M).length ≤ 1000000 := by rw [fLs, List.length_map]; omega
            simp -implicitDefEqProofs (disch := omega) [wrap_id]
            refine callW_pure rfl (o_Closed_ok g f h b z1 r x (by omega) (by omega) hD) ?_
            simp -implicitDefEqProofs (disch := omega) [wrap_id]
            refine callW_pure rfl (r_Closed_ok g f h b z2 r x (by omega) (by omega) hD) ?_
            simp -implicitDefEqProofs (disch := omega) [wrap_id]
            refine pureW_of rfl (l_lists_ok false false (fLs M) (fLs M) fl fl fz fz) ?_
            simp -implicitDefEqProofs (disch := omega) [wrap_id, cmp2, nthT]
            refine pureW_of rfl (o_CheckClosed_ok g f h q b z1 r x rows (by omega) (by omega) (by omega) hz) ?_
            simp -implicitDefEqProofs (disch := omega) [wrap_id, cmp2, nthT]
            refine pureW_of rfl (r_CheckClosed_ok g f h q b z2 r x rows (by omega) (by omega) (by omega) hz) ?_
            simp -implicitDefEqProofs (disch := omega) [wrap_id, cmp2, nthT]
            refine pureW_of rfl works_ok ?_
            simp -implicitDefEqProofs (disch := omega) [wrap_id, cmp2, nthT]
    · have c3 : ¬ (730 : Int) < rows.length := by omega
      simp -implicitDefEqProofs (disch := omega) [wrap_id]
      refine callW_pure rfl (l_long_ok h x hx) ?_
      by_cases a2 : 10 < x.length
      · rw [decide_eq_true a2]
        simp -implicitDefEqProofs (disch := omega) [wrap_id]
        exact callW_pure rfl works_ok (by simp)
      rw [decide_eq_false a2]
      simp -implicitDefEqProofs (disch := omega) [wrap_id, c1, c3]
      refine loop_eq (fun i : Nat => ⟨[(1, Ls f r), (2, Ls h x), (3, LLs q rows), (4, .ref 0 0), (9, I (i : Int))], [.cells [I b.P, LLs g b.s]]⟩) (fun i => i ≤ rows.length ∧ ∀ k (hk : k < rows.length), k < i → ¬ 10 < rows[k].2.length) (fun i => rows.length - i) 0 ⟨Nat.zero_le _, fun k hk h => by omega⟩ rfl ?_
      rintro i ⟨d1, d2⟩
      refine hideK' fun K0 hK0 => ?_
      simp -implicitDefEqProofs (disch := omega) [wrap_id]
      refine c_split (fun hc => ?_) (fun hc => ?_)
      · have hi : i < rows.length := by simp at hc; omega
        have ix : ((i : Int) + 1) = ((i + 1 : Nat) : Int) := by omega
        simp -implicitDefEqProofs (disch := omega) [wrap_id, cells_lls, hi]
        refine callW_pure rfl (l_long_ok rows[i].1 rows[i].2 (hlz _ (List.getElem_mem hi))) ?_
        by_cases e : 10 < rows[i].2.length
        · rw [decide_eq_true e]
          subst hK0
          simp -implicitDefEqProofs (disch := omega) [wrap_id]
          exact callW_pure rfl works_ok (by simp)
        · rw [decide_eq_false e]
          simp -implicitDefEqProofs (disch := omega) [wrap_id]
          rw [hK0]
          refine next_eq (i + 1) ⟨by omega, fun k hk hk2 => ?_⟩ (by omega) (by simp only [ix])
          by_cases ek : k = i
          · subst ek; exact e
          · exact d2 k hk (by omega)
      · have hi : i = rows.length := by simp at hc; omega
        subst hi
        subst hK0
        have hz : ∀ p ∈ rows, p.2.length ≤ 1000000 := fun p hp => by
          obtain ⟨k, hk, rfl⟩ := List.getElem_of_mem hp
          have := d2 k hk hk
          omega
        obtain ⟨M, e, hD, hM, hMl⟩ := ansD_ex b r x
        have fz : ∀ p ∈ fLs M, p.2.length ≤ 1000000 := fun p hp => by
          obtain ⟨y, hy, rfl⟩ := List.mem_map.1 hp
          have := hMl y hy
          simp only; omega
        have fl : (fLs M).length ≤ 1000000 := by rw [fLs, List.length_map]; omega
        simp -implicitDefEqProofs (disch := omega) [wrap_id]
        refine callW_pure rfl (o_Closed_ok g f h b z1 r x (by omega) (by omega) hD) ?_
        simp -implicitDefEqProofs (disch := omega) [wrap_id]
        refine callW_pure rfl (r_Closed_ok g f h b z2 r x (by omega) (by omega) hD) ?_
        simp -implicitDefEqProofs (disch := omega) [wrap_id]
        refine pureW_of rfl (l_lists_ok false false (fLs M) (fLs M) fl fl fz fz) ?_
        simp -implicitDefEqProofs (disch := omega) [wrap_id, cmp2, nthT]
        refine pureW_of rfl (o_CheckClosed_ok g f h q b z1 r x rows (by omega) (by omega) (by omega) hz) ?_
        simp -implicitDefEqProofs (disch := omega) [wrap_id, cmp2, nthT]
        refine pureW_of rfl (r_CheckClosed_ok g f h q b z2 r x rows (by omega) (by omega) (by omega) hz) ?_
        simp -implicitDefEqProofs (disch := omega) [wrap_id, cmp2, nthT]
        refine pureW_of rfl works_ok ?_
        simp -implicitDefEqProofs (disch := omega) [wrap_id, cmp2, nthT]
theorem lawOrderCloseds (b : OB) (r x : List Int) (L : List (Bool × List Int)) (hb : OBK b) (hr : LOK r) (hx : LOK x) (hL : LLOK L) : PureOK Tryz.prog n_l_OrderCloseds [On false b, Ls false r, Ls false x, LLs false L] (B true) := lawOrderCloseds' _ _ _ _ b r x L hb hr.1 hx.1 hL.1 fun p hp => (hL.2 p hp).1
end Go.AM
