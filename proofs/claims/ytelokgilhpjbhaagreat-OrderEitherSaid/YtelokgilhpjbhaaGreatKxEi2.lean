/-
  KxEi2: texts joined: FmOF Co1 Co2 Co3 Co4 Co6 Co7 Co8 Co9 Co10 Co11 Co15 Co16 FmOL Lo1 Lo5 Lo9 Lo10 Lo14 Lo15 Lo16 Lo17. Own work.
-/
import Derived.Test.YtelokgilhpjbhaaGreatKxEi1
import Derived.Test.YtelokgilhpjbhaaGreatProg

set_option maxRecDepth 100000
namespace Go.AM
open Go.RowKit Go.Proofs
abbrev n_r_CheckBench : Nat := 24
def G_r_CheckBench : AC := (.seq (.rgn [⟨none, [(.box 1 2 (.t 0)), (.mv 2 (.k (I 0)))]⟩] [1]) (.seq (.seq (.rgn [⟨none, [(.fa 4 (.t 1) 0), (.ld 5 false 1 (.t 4)), (.bin 6 .lss (.t 5) (.k (I 2))), (.mv 7 (.t 6))]⟩, ⟨(some (7, false)), [(.fa 8 (.t 1) 0), (.ld 9 false 1 (.t 8)), (.bin 10 .gtr (.t 9) (.k (I 6)))]⟩, ⟨none, [(.pick 11 (.t 7) (.k (B true)) (.t 10))]⟩] [1, 11]) (.cond (.t 11) (.seq (.rgn [⟨none, [(.mv 2 (.k (I 2)))]⟩] [2]) .ret) .skip)) (.seq (.seq (.rgn [⟨none, [(.fa 12 (.t 1) 1), (.ld 13 false 1 (.t 12)), (.len 14 (.t 13)), (.bin 15 .gtr (.t 14) (.k (I 6)))]⟩] [1, 15]) (.cond (.t 15) (.seq (.rgn [⟨none, [(.mv 2 (.k (I 6)))]⟩] [2]) .ret) .skip)) (.seq (.seq (.rgn [⟨none, [(.mv 3 (.k (I 0)))]⟩] [1, 3]) (.block 0 (.loop (.seq (.seq (.rgn [⟨none, [(.mv 16 (.t 3)), (.fa 17 (.t 1) 1), (.ld 18 false 1 (.t 17)), (.len 19 (.t 18)), (.bin 20 .lss (.t 16) (.t 19))]⟩] [1, 3, 20]) (.cond (.t 20) .skip (.exit 0))) (.seq (.block 1 (.seq (.drw [⟨none, [(.fa 23 (.t 1) 1), (.ld 24 false 1 (.t 23)), (.mv 25 (.t 3)), (.ia 26 1 (.t 24) (.t 25)), (.ld 27 false 1 (.t 26)), (.fa 28 (.t 1) 0), (.ld 29 false 1 (.t 28)), (.call 30 77 [(.t 27), (.t 29)]), (.un 31 .not (.t 30))]⟩] [(1, 6), (4, 6)] [1, 3, 31]) (.cond (.t 31) (.seq (.rgn [⟨none, [(.mv 2 (.k (I 15)))]⟩] [2]) .ret) .skip))) (.rgn [⟨none, [(.mv 21 (.t 3)), (.bin 22 .add (.t 21) (.k (I 1))), (.mv 3 (.t 22))]⟩] [1, 3])))))) (.seq (.rgn [⟨none, [(.mv 2 (.k (I 0)))]⟩] [2]) .ret)))))
theorem func_r_CheckBench : Tryz.prog.funcs[n_r_CheckBench]? = some Tryz.f24 := Tryz.func24
theorem form_r_CheckBench : formOf Tryz.prog Tryz.f24 [2] = some G_r_CheckBench := by kernel_rfl
theorem res_r_CheckBench : resTmps Tryz.f24.results.toList = some [2] := by kernel_rfl
abbrev n_r_CheckClosed : Nat := 39
def G_r_CheckClosed : AC := (.seq (.rgn [⟨none, [(.box 4 2 (.t 0)), (.mv 8 (.k (I 0)))]⟩] [1, 2, 3, 4]) (.seq (.seq (.rgn [⟨none, [(.ld 13 true 2 (.t 4)), (.mv 14 (.t 1)), (.mv 15 (.t 2)), (.call 16 79 [(.t 13), (.t 14), (.t 15)]), (.bin 17 .neq (.t 16) (.k (I 0)))]⟩] [1, 2, 3, 4, 17]) (.cond (.t 17) (.seq (.rgn [⟨none, [(.ld 18 true 2 (.t 4)), (.mv 19 (.t 1)), (.mv 20 (.t 2)), (.call 21 79 [(.t 18), (.t 19), (.t 20)]), (.mv 8 (.t 21))]⟩] [8]) .ret) .skip)) (.seq (.seq (.rgn [⟨none, [(.mv 22 (.t 3)), (.len 23 (.t 22)), (.bin 24 .gtr (.t 23) (.k (I 720)))]⟩] [1, 2, 3, 4, 24]) (.cond (.t 24) (.seq (.rgn [⟨none, [(.mv 8 (.k (I 6)))]⟩] [8]) .ret) .skip)) (.seq (.seq (.rgn [⟨none, [(.mv 9 (.k (I 0)))]⟩] [1, 2, 3, 4, 9]) (.block 0 (.loop (.seq (.seq (.rgn [⟨none, [(.mv 25 (.t 9)), (.mv 26 (.t 3)), (.len 27 (.t 26)), (.bin 28 .lss (.t 25) (.t 27))]⟩] [1, 2, 3, 4, 9, 28]) (.cond (.t 28) .skip (.exit 0))) (.seq (.block 1 (.seq (.drw [⟨none, [(.ld 31 true 2 (.t 4)), (.mv 32 (.t 3)), (.mv 33 (.t 9)), (.ia 34 1 (.t 32) (.t 33)), (.ld 35 false 1 (.t 34)), (.call 36 67 [(.t 31), (.t 35)]), (.un 37 .not (.t 36))]⟩] [(0, 4)] [1, 2, 3, 4, 9, 37]) (.cond (.t 37) (.seq (.rgn [⟨none, [(.mv 8 (.k (I 3)))]⟩] [8]) .ret) .skip))) (.rgn [⟨none, [(.mv 29 (.t 9)), (.bin 30 .add (.t 29) (.k (I 1))), (.mv 9 (.t 30))]⟩] [1, 2, 3, 4, 9])))))) (.seq (.seq (.rgn [⟨none, [(.mv 10 (.k (I 1)))]⟩] [1, 2, 3, 4, 10]) (.block 2 (.loop (.seq (.seq (.rgn [⟨none, [(.mv 38 (.t 10)), (.mv 39 (.t 3)), (.len 40 (.t 39)), (.bin 41 .lss (.t 38) (.t 40))]⟩] [1, 2, 3, 4, 10, 41]) (.cond (.t 41) .skip (.exit 2))) (.seq (.block 3 (.seq (.drw [⟨none, [(.mv 44 (.t 3)), (.mv 45 (.t 10)), (.bin 46 .sub (.t 45) (.k (I 1))), (.ia 47 1 (.t 44) (.t 46)), (.ld 48 false 1 (.t 47)), (.mv 49 (.t 3)), (.mv 50 (.t 10)), (.ia 51 1 (.t 49) (.t 50)), (.ld 52 false 1 (.t 51)), (.call 53 90 [(.t 48), (.t 52)]), (.un 54 .not (.t 53))]⟩] [(4, 8)] [1, 2, 3, 4, 10, 54]) (.cond (.t 54) (.seq (.rgn [⟨none, [(.mv 8 (.k (I 3)))]⟩] [8]) .ret) .skip))) (.rgn [⟨none, [(.mv 42 (.t 10)), (.bin 43 .add (.t 42) (.k (I 1))), (.mv 10 (.t 43))]⟩] [1, 2, 3, 4, 10])))))) (.seq (.seq (.rgn [⟨none, [(.mv 55 (.t 3)), (.mv 56 (.t 1)), (.call 57 81 [(.t 55), (.t 56)]), (.bin 58 .lss (.t 57) (.k (I 0))), (.mv 59 (.t 58))]⟩, ⟨(some (59, false)), [(.mv 60 (.t 3)), (.mv 61 (.t 2)), (.call 62 81 [(.t 60), (.t 61)]), (.bin 63 .geq (.t 62) (.k (I 0)))]⟩, ⟨none, [(.pick 64 (.t 59) (.k (B true)) (.t 63))]⟩] [3, 4, 64]) (.cond (.t 64) (.seq (.rgn [⟨none, [(.mv 8 (.k (I 14)))]⟩] [8]) .ret) .skip)) (.seq (.seq (.rgn [⟨none, [(.mv 11 (.k (I 0)))]⟩] [3, 4, 11]) (.block 4 (.loop (.seq (.seq (.rgn [⟨none, [(.mv 65 (.t 11)), (.mv 66 (.t 3)), (.len 67 (.t 66)), (.bin 68 .lss (.t 65) (.t 67))]⟩] [3, 4, 11, 68]) (.cond (.t 68) .skip (.exit 4))) (.seq (.block 5 (.seq (.rgn [⟨none, [(.mv 12 (.k (I 0)))]⟩] [3, 4, 11, 12]) (.block 6 (.loop (.seq (.seq (.rgn [⟨none, [(.mv 71 (.t 12)), (.fa 72 (.t 4) 1), (.ld 73 false 1 (.t 72)), (.len 74 (.t 73)), (.bin 75 .lss (.t 71) (.t 74))]⟩] [3, 4, 11, 12, 75]) (.cond (.t 75) .skip (.exit 6))) (.seq (.block 7 (.seq (.drw [⟨none, [(.mv 78 (.t 3)), (.fa 79 (.t 4) 1), (.ld 80 false 1 (.t 79)), (.mv 81 (.t 12)), (.ia 82 1 (.t 80) (.t 81)), (.ld 83 false 1 (.t 82)), (.mv 84 (.t 3)), (.mv 85 (.t 11)), (.ia 86 1 (.t 84) (.t 85)), (.ld 87 false 1 (.t 86)), (.call 88 55 [(.t 83), (.t 87)]), (.call 89 81 [(.t 78), (.t 88)]), (.bin 90 .lss (.t 89) (.k (I 0)))]⟩] [(2, 9), (5, 9)] [3, 4, 11, 12, 90]) (.cond (.t 90) (.seq (.rgn [⟨none, [(.mv 8 (.k (I 14)))]⟩] [8]) .ret) .skip))) (.rgn [⟨none, [(.mv 76 (.t 12)), (.bin 77 .add (.t 76) (.k (I 1))), (.mv 12 (.t 77))]⟩] [3, 4, 11, 12]))))))) (.rgn [⟨none, [(.mv 69 (.t 11)), (.bin 70 .add (.t 69) (.k (I 1))), (.mv 11 (.t 70))]⟩] [3, 4, 11])))))) (.seq (.rgn [⟨none, [(.mv 8 (.k (I 0)))]⟩] [8]) .ret))))))))
theorem func_r_CheckClosed : Tryz.prog.funcs[n_r_CheckClosed]? = some Tryz.f39 := Tryz.func39
theorem form_r_CheckClosed : formOf Tryz.prog Tryz.f39 [8] = some G_r_CheckClosed := by kernel_rfl
theorem res_r_CheckClosed : resTmps Tryz.f39.results.toList = some [8] := by kernel_rfl
abbrev n_r_CheckPair : Nat := 46
def G_r_CheckPair : AC := (.seq (.rgn [⟨none, [(.box 4 2 (.t 0)), (.box 7 4 (.t 3)), (.mv 8 (.k (I 0)))]⟩] [1, 2, 4, 7]) (.seq (.seq (.rgn [⟨none, [(.ld 10 true 2 (.t 4)), (.mv 11 (.t 1)), (.mv 12 (.t 2)), (.call 13 79 [(.t 10), (.t 11), (.t 12)]), (.bin 14 .neq (.t 13) (.k (I 0)))]⟩] [1, 2, 4, 7, 14]) (.cond (.t 14) (.seq (.rgn [⟨none, [(.ld 15 true 2 (.t 4)), (.mv 16 (.t 1)), (.mv 17 (.t 2)), (.call 18 79 [(.t 15), (.t 16), (.t 17)]), (.mv 8 (.t 18))]⟩] [8]) .ret) .skip)) (.seq (.seq (.rgn [⟨none, [(.ld 19 true 2 (.t 4)), (.fa 20 (.t 7) 0), (.iaa 21 2 1 (.t 20) (.k (I 0))), (.ld 22 false 1 (.t 21)), (.fa 23 (.t 7) 0), (.iaa 24 2 1 (.t 23) (.k (I 1))), (.ld 25 false 1 (.t 24)), (.call 26 95 [(.t 19), (.t 22), (.t 25)]), (.un 27 .not (.t 26)), (.mv 28 (.t 27))]⟩, ⟨(some (28, false)), [(.fa 29 (.t 7) 2), (.iaa 30 2 1 (.t 29) (.k (I 0))), (.ld 31 false 1 (.t 30)), (.bin 32 .lss (.t 31) (.k (I 0)))]⟩, ⟨none, [(.pick 33 (.t 28) (.k (B true)) (.t 32)), (.mv 34 (.t 33))]⟩, ⟨(some (34, false)), [(.fa 35 (.t 7) 2), (.iaa 36 2 1 (.t 35) (.k (I 0))), (.ld 37 false 1 (.t 36)), (.bin 38 .gtr (.t 37) (.k (I 5)))]⟩, ⟨none, [(.pick 39 (.t 34) (.k (B true)) (.t 38)), (.mv 40 (.t 39))]⟩, ⟨(some (40, false)), [(.fa 41 (.t 7) 2), (.iaa 42 2 1 (.t 41) (.k (I 1))), (.ld 43 false 1 (.t 42)), (.bin 44 .lss (.t 43) (.k (I 0)))]⟩, ⟨none, [(.pick 45 (.t 40) (.k (B true)) (.t 44)), (.mv 46 (.t 45))]⟩, ⟨(some (46, false)), [(.fa 47 (.t 7) 2), (.iaa 48 2 1 (.t 47) (.k (I 1))), (.ld 49 false 1 (.t 48)), (.bin 50 .gtr (.t 49) (.k (I 5)))]⟩, ⟨none, [(.pick 51 (.t 46) (.k (B true)) (.t 50))]⟩] [1, 2, 4, 7, 51]) (.cond (.t 51) (.seq (.rgn [⟨none, [(.mv 8 (.k (I 3)))]⟩] [8]) .ret) .skip)) (.seq (.rgn [⟨none, [(.ld 52 true 2 (.t 4)), (.fa 53 (.t 7) 0), (.iaa 54 2 1 (.t 53) (.k (I 0))), (.ld 55 false 1 (.t 54)), (.fa 56 (.t 7) 0), (.iaa 57 2 1 (.t 56) (.k (I 1))), (.ld 58 false 1 (.t 57)), (.call 59 96 [(.t 52), (.t 55), (.t 58)]), (.mv 9 (.t 59))]⟩] [1, 2, 7, 9]) (.seq (.seq (.drw [⟨none, [(.mv 60 (.t 9)), (.mv 61 (.t 1)), (.fa 62 (.t 7) 2), (.ld 63 true 2 (.t 62)), (.call 64 101 [(.t 60), (.t 61), (.t 63)]), (.mv 65 (.t 9)), (.mv 66 (.t 2)), (.fa 67 (.t 7) 2), (.ld 68 true 2 (.t 67)), (.call 69 101 [(.t 65), (.t 66), (.t 68)]), (.bin 70 .eql (.t 64) (.t 69))]⟩] [(3, 8), (4, 8)] [70]) (.cond (.t 70) (.seq (.rgn [⟨none, [(.mv 8 (.k (I 14)))]⟩] [8]) .ret) .skip)) (.seq (.rgn [⟨none, [(.mv 8 (.k (I 0)))]⟩] [8]) .ret))))))
theorem func_r_CheckPair : Tryz.prog.funcs[n_r_CheckPair]? = some Tryz.f46 := Tryz.func46
theorem form_r_CheckPair : formOf Tryz.prog Tryz.f46 [8] = some G_r_CheckPair := by kernel_rfl
theorem res_r_CheckPair : resTmps Tryz.f46.results.toList = some [8] := by kernel_rfl
abbrev n_r_All : Nat := 51
def G_r_All : AC := (.seq (.rgn [⟨none, [(.box 3 2 (.t 0)), (.mv 6 (.k (.sl true 0 [])))]⟩] [1, 2, 3]) (.seq (.rgn [⟨none, [(.bsl 9 0 1 [(I 0)] []), (.mv 10 (.t 1)), (.app 11 1 8 (.t 9) (.t 10)), (.mv 7 (.t 11))]⟩] [2, 3, 7]) (.seq (.seq (.rgn [⟨none, [(.mv 8 (.k (I 0)))]⟩] [2, 3, 7, 8]) (.block 0 (.loop (.seq (.seq (.rgn [⟨none, [(.mv 12 (.t 8)), (.mv 13 (.t 2)), (.len 14 (.t 13)), (.bin 15 .lss (.t 12) (.t 14))]⟩] [2, 3, 7, 8, 15]) (.cond (.t 15) .skip (.exit 0))) (.seq (.block 1 (.drw [⟨none, [(.fa 18 (.t 3) 1), (.ld 19 false 1 (.t 18)), (.mv 20 (.t 2)), (.mv 21 (.t 8)), (.ia 22 1 (.t 20) (.t 21)), (.ld 23 false 1 (.t 22)), (.ia 24 1 (.t 19) (.t 23)), (.ld 25 false 1 (.t 24)), (.mv 26 (.t 7)), (.call 27 55 [(.t 25), (.t 26)]), (.mv 7 (.t 27))]⟩] [(1, 5)] [2, 3, 7, 8])) (.rgn [⟨none, [(.mv 16 (.t 8)), (.bin 17 .add (.t 16) (.k (I 1))), (.mv 8 (.t 17))]⟩] [2, 3, 7, 8])))))) (.seq (.rgn [⟨none, [(.mv 28 (.t 7)), (.mv 6 (.t 28))]⟩] [6]) .ret))))
theorem func_r_All : Tryz.prog.funcs[n_r_All]? = some Tryz.f51 := Tryz.func51
theorem form_r_All : formOf Tryz.prog Tryz.f51 [6] = some G_r_All := by kernel_rfl
theorem res_r_All : resTmps Tryz.f51.results.toList = some [6] := by kernel_rfl
abbrev n_r_IsList : Nat := 53
def G_r_IsList : AC := (.seq (.rgn [⟨none, [(.box 2 2 (.t 0)), (.mv 4 (.k (I 0)))]⟩] [1, 2]) (.seq (.seq (.rgn [⟨none, [(.mv 6 (.t 1)), (.len 7 (.t 6)), (.bin 8 .gtr (.t 7) (.k (I 720)))]⟩] [1, 2, 8]) (.cond (.t 8) (.seq (.rgn [⟨none, [(.mv 4 (.k (I 6)))]⟩] [4]) .ret) .skip)) (.seq (.seq (.rgn [⟨none, [(.mv 5 (.k (I 0)))]⟩] [1, 2, 5]) (.block 0 (.loop (.seq (.seq (.rgn [⟨none, [(.mv 9 (.t 5)), (.mv 10 (.t 1)), (.len 11 (.t 10)), (.bin 12 .lss (.t 9) (.t 11))]⟩] [1, 2, 5, 12]) (.cond (.t 12) .skip (.exit 0))) (.seq (.block 1 (.seq (.drw [⟨none, [(.mv 15 (.t 1)), (.mv 16 (.t 5)), (.ia 17 1 (.t 15) (.t 16)), (.ld 18 false 1 (.t 17)), (.bin 19 .lss (.t 18) (.k (I 0))), (.mv 20 (.t 19))]⟩, ⟨(some (20, false)), [(.mv 21 (.t 1)), (.mv 22 (.t 5)), (.ia 23 1 (.t 21) (.t 22)), (.ld 24 false 1 (.t 23)), (.fa 25 (.t 2) 1), (.ld 26 false 1 (.t 25)), (.len 27 (.t 26)), (.bin 28 .geq (.t 24) (.t 27))]⟩, ⟨none, [(.pick 29 (.t 20) (.k (B true)) (.t 28))]⟩] [(9, 11)] [1, 2, 5, 29]) (.cond (.t 29) (.seq (.rgn [⟨none, [(.mv 4 (.k (I 3)))]⟩] [4]) .ret) .skip))) (.rgn [⟨none, [(.mv 13 (.t 5)), (.bin 14 .add (.t 13) (.k (I 1))), (.mv 5 (.t 14))]⟩] [1, 2, 5])))))) (.seq (.rgn [⟨none, [(.mv 4 (.k (I 0)))]⟩] [4]) .ret))))
theorem func_r_IsList : Tryz.prog.funcs[n_r_IsList]? = some Tryz.f53 := Tryz.func53
theorem form_r_IsList : formOf Tryz.prog Tryz.f53 [4] = some G_r_IsList := by kernel_rfl
theorem res_r_IsList : resTmps Tryz.f53.results.toList = some [4] := by kernel_rfl
abbrev n_r_After : Nat := 55
def G_r_After : AC := (.seq (.rgn [⟨none, [(.mv 4 (.k (.sl true 0 [])))]⟩] [0, 1]) (.seq (.rgn [⟨none, [(.mv 5 (.k (.sl true 0 [])))]⟩] [0, 1, 5]) (.seq (.seq (.rgn [⟨none, [(.mv 6 (.k (I 0)))]⟩] [0, 1, 5, 6]) (.block 0 (.loop (.seq (.seq (.rgn [⟨none, [(.mv 7 (.t 6)), (.mv 8 (.t 1)), (.len 9 (.t 8)), (.bin 10 .lss (.t 7) (.t 9))]⟩] [0, 1, 5, 6, 10]) (.cond (.t 10) .skip (.exit 0))) (.seq (.block 1 (.rgn [⟨none, [(.mv 13 (.t 5)), (.mv 14 (.t 1)), (.mv 15 (.t 0)), (.mv 16 (.t 6)), (.ia 17 1 (.t 15) (.t 16)), (.ld 18 false 1 (.t 17)), (.ia 19 1 (.t 14) (.t 18)), (.ld 20 false 1 (.t 19)), (.bsl 21 1 1 [(I 0)] [(0, (.t 20))]), (.app 22 1 8 (.t 13) (.t 21)), (.mv 5 (.t 22))]⟩] [0, 1, 5, 6])) (.rgn [⟨none, [(.mv 11 (.t 6)), (.bin 12 .add (.t 11) (.k (I 1))), (.mv 6 (.t 12))]⟩] [0, 1, 5, 6])))))) (.seq (.rgn [⟨none, [(.mv 23 (.t 5)), (.mv 4 (.t 23))]⟩] [4]) .ret))))
theorem func_r_After : Tryz.prog.funcs[n_r_After]? = some Tryz.f55 := Tryz.func55
theorem form_r_After : formOf Tryz.prog Tryz.f55 [4] = some G_r_After := by kernel_rfl
theorem res_r_After : resTmps Tryz.f55.results.toList = some [4] := by kernel_rfl
abbrev n_r_IsRow : Nat := 67
def G_r_IsRow : AC := (.seq (.rgn [⟨none, [(.box 2 2 (.t 0)), (.mv 4 (.k (B false)))]⟩] [1, 2]) (.seq (.seq (.rgn [⟨none, [(.mv 6 (.t 1)), (.len 7 (.t 6)), (.fa 8 (.t 2) 0), (.ld 9 false 1 (.t 8)), (.bin 10 .neq (.t 7) (.t 9))]⟩] [1, 10]) (.cond (.t 10) (.seq (.rgn [⟨none, [(.mv 4 (.k (B false)))]⟩] [4]) .ret) .skip)) (.seq (.seq (.rgn [⟨none, [(.mv 5 (.k (I 0)))]⟩] [1, 5]) (.block 0 (.loop (.seq (.seq (.rgn [⟨none, [(.mv 11 (.t 5)), (.mv 12 (.t 1)), (.len 13 (.t 12)), (.bin 14 .lss (.t 11) (.t 13))]⟩] [1, 5, 14]) (.cond (.t 14) .skip (.exit 0))) (.seq (.block 1 (.seq (.rgn [⟨none, [(.mv 17 (.t 1)), (.mv 18 (.t 5)), (.ia 19 1 (.t 17) (.t 18)), (.ld 20 false 1 (.t 19)), (.bin 21 .lss (.t 20) (.k (I 0))), (.mv 22 (.t 21))]⟩, ⟨(some (22, false)), [(.mv 23 (.t 1)), (.mv 24 (.t 5)), (.ia 25 1 (.t 23) (.t 24)), (.ld 26 false 1 (.t 25)), (.bin 27 .gtr (.t 26) (.k (I 5)))]⟩, ⟨none, [(.pick 28 (.t 22) (.k (B true)) (.t 27))]⟩] [1, 5, 28]) (.cond (.t 28) (.seq (.rgn [⟨none, [(.mv 4 (.k (B false)))]⟩] [4]) .ret) .skip))) (.rgn [⟨none, [(.mv 15 (.t 5)), (.bin 16 .add (.t 15) (.k (I 1))), (.mv 5 (.t 16))]⟩] [1, 5])))))) (.seq (.rgn [⟨none, [(.mv 4 (.k (B true)))]⟩] [4]) .ret))))
theorem func_r_IsRow : Tryz.prog.funcs[n_r_IsRow]? = some Tryz.f67 := Tryz.func67
theorem form_r_IsRow : formOf Tryz.prog Tryz.f67 [4] = some G_r_IsRow := by kernel_rfl
theorem res_r_IsRow : resTmps Tryz.f67.results.toList = some [4] := by kernel_rfl
abbrev n_r_Equal : Nat := 70
def G_r_Equal : AC := (.seq (.rgn [⟨none, [(.mv 4 (.k (B false)))]⟩] [0, 1]) (.seq (.seq (.rgn [⟨none, [(.mv 6 (.t 0)), (.len 7 (.t 6)), (.mv 8 (.t 1)), (.len 9 (.t 8)), (.bin 10 .neq (.t 7) (.t 9))]⟩] [0, 1, 10]) (.cond (.t 10) (.seq (.rgn [⟨none, [(.mv 4 (.k (B false)))]⟩] [4]) .ret) .skip)) (.seq (.seq (.rgn [⟨none, [(.mv 5 (.k (I 0)))]⟩] [0, 1, 5]) (.block 0 (.loop (.seq (.seq (.rgn [⟨none, [(.mv 11 (.t 5)), (.mv 12 (.t 0)), (.len 13 (.t 12)), (.bin 14 .lss (.t 11) (.t 13))]⟩] [0, 1, 5, 14]) (.cond (.t 14) .skip (.exit 0))) (.seq (.block 1 (.seq (.drw [⟨none, [(.mv 17 (.t 0)), (.mv 18 (.t 5)), (.ia 19 1 (.t 17) (.t 18)), (.ld 20 false 1 (.t 19)), (.mv 21 (.t 1)), (.mv 22 (.t 5)), (.ia 23 1 (.t 21) (.t 22)), (.ld 24 false 1 (.t 23)), (.bin 25 .neq (.t 20) (.t 24))]⟩] [(3, 7)] [0, 1, 5, 25]) (.cond (.t 25) (.seq (.rgn [⟨none, [(.mv 4 (.k (B false)))]⟩] [4]) .ret) .skip))) (.rgn [⟨none, [(.mv 15 (.t 5)), (.bin 16 .add (.t 15) (.k (I 1))), (.mv 5 (.t 16))]⟩] [0, 1, 5])))))) (.seq (.rgn [⟨none, [(.mv 4 (.k (B true)))]⟩] [4]) .ret))))
theorem func_r_Equal : Tryz.prog.funcs[n_r_Equal]? = some Tryz.f70 := Tryz.func70
theorem form_r_Equal : formOf Tryz.prog Tryz.f70 [4] = some G_r_Equal := by kernel_rfl
theorem res_r_Equal : resTmps Tryz.f70.results.toList = some [4] := by kernel_rfl
abbrev n_r_isStroke : Nat := 77
def G_r_isStroke : AC := (.seq (.rgn [⟨none, [(.mv 4 (.k (B false)))]⟩] [0, 1]) (.seq (.seq (.rgn [⟨none, [(.mv 8 (.t 0)), (.len 9 (.t 8)), (.mv 10 (.t 1)), (.bin 11 .neq (.t 9) (.t 10))]⟩] [0, 1, 11]) (.cond (.t 11) (.seq (.rgn [⟨none, [(.mv 4 (.k (B false)))]⟩] [4]) .ret) .skip)) (.seq (.seq (.rgn [⟨none, [(.mv 5 (.k (I 0)))]⟩] [0, 1, 5]) (.block 0 (.loop (.seq (.seq (.rgn [⟨none, [(.mv 12 (.t 5)), (.mv 13 (.t 1)), (.bin 14 .lss (.t 12) (.t 13))]⟩] [0, 1, 5, 14]) (.cond (.t 14) .skip (.exit 0))) (.seq (.block 1 (.seq (.rgn [⟨none, [(.mv 6 (.k (I 0)))]⟩] [0, 1, 5, 6]) (.seq (.seq (.rgn [⟨none, [(.mv 7 (.k (I 0)))]⟩] [0, 1, 5, 6, 7]) (.block 2 (.loop (.seq (.seq (.rgn [⟨none, [(.mv 17 (.t 7)), (.mv 18 (.t 0)), (.len 19 (.t 18)), (.bin 20 .lss (.t 17) (.t 19))]⟩] [0, 1, 5, 6, 7, 20]) (.cond (.t 20) .skip (.exit 2))) (.seq (.block 3 (.seq (.rgn [⟨none, [(.mv 23 (.t 0)), (.mv 24 (.t 7)), (.ia 25 1 (.t 23) (.t 24)), (.ld 26 false 1 (.t 25)), (.mv 27 (.t 5)), (.bin 28 .eql (.t 26) (.t 27))]⟩] [0, 1, 5, 6, 7, 28]) (.cond (.t 28) (.rgn [⟨none, [(.mv 29 (.t 6)), (.bin 30 .add (.t 29) (.k (I 1))), (.mv 6 (.t 30))]⟩] [0, 1, 5, 6, 7]) .skip))) (.rgn [⟨none, [(.mv 21 (.t 7)), (.bin 22 .add (.t 21) (.k (I 1))), (.mv 7 (.t 22))]⟩] [0, 1, 5, 6, 7])))))) (.seq (.rgn [⟨none, [(.mv 31 (.t 6)), (.bin 32 .neq (.t 31) (.k (I 1)))]⟩] [0, 1, 5, 32]) (.cond (.t 32) (.seq (.rgn [⟨none, [(.mv 4 (.k (B false)))]⟩] [4]) .ret) .skip))))) (.rgn [⟨none, [(.mv 15 (.t 5)), (.bin 16 .add (.t 15) (.k (I 1))), (.mv 5 (.t 16))]⟩] [0, 1, 5])))))) (.seq (.rgn [⟨none, [(.mv 4 (.k (B true)))]⟩] [4]) .ret))))
theorem func_r_isStroke : Tryz.prog.funcs[n_r_isStroke]? = some Tryz.f77 := Tryz.func77
theorem form_r_isStroke : formOf Tryz.prog Tryz.f77 [4] = some G_r_isStroke := by kernel_rfl
theorem res_r_isStroke : resTmps Tryz.f77.results.toList = some [4] := by kernel_rfl
abbrev n_r_Rows : Nat := 79
def G_r_Rows : AC := (.seq (.rgn [⟨none, [(.box 3 2 (.t 0)), (.mv 6 (.k (I 0)))]⟩] [1, 2, 3]) (.seq (.seq (.rgn [⟨none, [(.ld 7 true 2 (.t 3)), (.call 8 24 [(.t 7)]), (.bin 9 .neq (.t 8) (.k (I 0)))]⟩] [1, 2, 3, 9]) (.cond (.t 9) (.seq (.rgn [⟨none, [(.ld 10 true 2 (.t 3)), (.call 11 24 [(.t 10)]), (.mv 6 (.t 11))]⟩] [6]) .ret) .skip)) (.seq (.seq (.rgn [⟨none, [(.ld 12 true 2 (.t 3)), (.mv 13 (.t 1)), (.call 14 67 [(.t 12), (.t 13)]), (.un 15 .not (.t 14)), (.mv 16 (.t 15))]⟩, ⟨(some (16, false)), [(.ld 17 true 2 (.t 3)), (.mv 18 (.t 2)), (.call 19 67 [(.t 17), (.t 18)]), (.un 20 .not (.t 19))]⟩, ⟨none, [(.pick 21 (.t 16) (.k (B true)) (.t 20))]⟩] [21]) (.cond (.t 21) (.seq (.rgn [⟨none, [(.mv 6 (.k (I 2)))]⟩] [6]) .ret) .skip)) (.seq (.rgn [⟨none, [(.mv 6 (.k (I 0)))]⟩] [6]) .ret))))
theorem func_r_Rows : Tryz.prog.funcs[n_r_Rows]? = some Tryz.f79 := Tryz.func79
theorem form_r_Rows : formOf Tryz.prog Tryz.f79 [6] = some G_r_Rows := by kernel_rfl
theorem res_r_Rows : resTmps Tryz.f79.results.toList = some [6] := by kernel_rfl
abbrev n_r_find : Nat := 81
def G_r_find : AC := (.seq (.rgn [⟨none, [(.mv 4 (.k (I 0)))]⟩] [0, 1]) (.seq (.seq (.rgn [⟨none, [(.mv 5 (.k (I 0)))]⟩] [0, 1, 5]) (.block 0 (.loop (.seq (.seq (.rgn [⟨none, [(.mv 6 (.t 5)), (.mv 7 (.t 0)), (.len 8 (.t 7)), (.bin 9 .lss (.t 6) (.t 8))]⟩] [0, 1, 5, 9]) (.cond (.t 9) .skip (.exit 0))) (.seq (.block 1 (.seq (.rgn [⟨none, [(.mv 12 (.t 0)), (.mv 13 (.t 5)), (.ia 14 1 (.t 12) (.t 13)), (.ld 15 false 1 (.t 14)), (.mv 16 (.t 1)), (.call 17 70 [(.t 15), (.t 16)])]⟩] [0, 1, 5, 17]) (.cond (.t 17) (.seq (.rgn [⟨none, [(.mv 18 (.t 5)), (.mv 4 (.t 18))]⟩] [4]) .ret) .skip))) (.rgn [⟨none, [(.mv 10 (.t 5)), (.bin 11 .add (.t 10) (.k (I 1))), (.mv 5 (.t 11))]⟩] [0, 1, 5])))))) (.seq (.rgn [⟨none, [(.mv 4 (.k (I (-1))))]⟩] [4]) .ret)))
theorem func_r_find : Tryz.prog.funcs[n_r_find]? = some Tryz.f81 := Tryz.func81
theorem form_r_find : formOf Tryz.prog Tryz.f81 [4] = some G_r_find := by kernel_rfl
theorem res_r_find : resTmps Tryz.f81.results.toList = some [4] := by kernel_rfl
abbrev n_r_First : Nat := 90
def G_r_First : AC := (.seq (.rgn [⟨none, [(.mv 4 (.k (B false)))]⟩] [0, 1]) (.seq (.seq (.rgn [⟨none, [(.mv 5 (.k (I 0)))]⟩] [0, 1, 5]) (.block 0 (.loop (.seq (.seq (.rgn [⟨none, [(.mv 6 (.t 5)), (.mv 7 (.t 0)), (.len 8 (.t 7)), (.bin 9 .lss (.t 6) (.t 8))]⟩] [0, 1, 5, 9]) (.cond (.t 9) .skip (.exit 0))) (.seq (.block 1 (.seq (.drw [⟨none, [(.mv 12 (.t 0)), (.mv 13 (.t 5)), (.ia 14 1 (.t 12) (.t 13)), (.ld 15 false 1 (.t 14)), (.mv 16 (.t 1)), (.mv 17 (.t 5)), (.ia 18 1 (.t 16) (.t 17)), (.ld 19 false 1 (.t 18)), (.bin 20 .neq (.t 15) (.t 19))]⟩] [(3, 7)] [0, 1, 5, 20]) (.cond (.t 20) (.seq (.drw [⟨none, [(.mv 21 (.t 0)), (.mv 22 (.t 5)), (.ia 23 1 (.t 21) (.t 22)), (.ld 24 false 1 (.t 23)), (.mv 25 (.t 1)), (.mv 26 (.t 5)), (.ia 27 1 (.t 25) (.t 26)), (.ld 28 false 1 (.t 27)), (.bin 29 .lss (.t 24) (.t 28)), (.mv 4 (.t 29))]⟩] [(3, 7)] [4]) .ret) .skip))) (.rgn [⟨none, [(.mv 10 (.t 5)), (.bin 11 .add (.t 10) (.k (I 1))), (.mv 5 (.t 11))]⟩] [0, 1, 5])))))) (.seq (.rgn [⟨none, [(.mv 4 (.k (B false)))]⟩] [4]) .ret)))
theorem func_r_First : Tryz.prog.funcs[n_r_First]? = some Tryz.f90 := Tryz.func90
theorem form_r_First : formOf Tryz.prog Tryz.f90 [4] = some G_r_First := by kernel_rfl
theorem res_r_First : resTmps Tryz.f90.results.toList = some [4] := by kernel_rfl
abbrev n_r_ArePlaces : Nat := 95
def G_r_ArePlaces : AC := (.seq (.rgn [⟨none, [(.box 3 2 (.t 0)), (.mv 6 (.k (B false)))]⟩] [1, 2, 3]) (.seq (.rgn [⟨none, [(.mv 7 (.t 1)), (.bin 8 .geq (.t 7) (.k (I 0))), (.mv 9 (.t 8))]⟩, ⟨(some (9, true)), [(.mv 10 (.t 1)), (.fa 11 (.t 3) 0), (.ld 12 false 1 (.t 11)), (.bin 13 .lss (.t 10) (.t 12))]⟩, ⟨none, [(.pick 14 (.t 9) (.t 13) (.k (B false))), (.mv 15 (.t 14))]⟩, ⟨(some (15, true)), [(.mv 16 (.t 2)), (.bin 17 .geq (.t 16) (.k (I 0)))]⟩, ⟨none, [(.pick 18 (.t 15) (.t 17) (.k (B false))), (.mv 19 (.t 18))]⟩, ⟨(some (19, true)), [(.mv 20 (.t 2)), (.fa 21 (.t 3) 0), (.ld 22 false 1 (.t 21)), (.bin 23 .lss (.t 20) (.t 22))]⟩, ⟨none, [(.pick 24 (.t 19) (.t 23) (.k (B false))), (.mv 25 (.t 24))]⟩, ⟨(some (25, true)), [(.mv 26 (.t 1)), (.mv 27 (.t 2)), (.bin 28 .neq (.t 26) (.t 27))]⟩, ⟨none, [(.pick 29 (.t 25) (.t 28) (.k (B false))), (.mv 6 (.t 29))]⟩] [6]) .ret))
theorem func_r_ArePlaces : Tryz.prog.funcs[n_r_ArePlaces]? = some Tryz.f95 := Tryz.func95
theorem form_r_ArePlaces : formOf Tryz.prog Tryz.f95 [6] = some G_r_ArePlaces := by kernel_rfl
theorem res_r_ArePlaces : resTmps Tryz.f95.results.toList = some [6] := by kernel_rfl
abbrev n_r_PairsOf : Nat := 96
def G_r_PairsOf : AC := (.seq (.rgn [⟨none, [(.box 3 2 (.t 0)), (.mv 6 (.k (.sl true 0 [])))]⟩] [1, 2, 3]) (.seq (.rgn [⟨none, [(.mks 17 1 8 [(I 0)] (.k (I 36)) (.k (I 36))), (.mv 7 (.t 17))]⟩] [1, 2, 3, 7]) (.seq (.rgn [⟨none, [(.mv 18 (.t 7)), (.mv 19 (.t 1)), (.bin 20 .mul (.k (I 6)) (.t 19)), (.mv 21 (.t 2)), (.bin 22 .add (.t 20) (.t 21)), (.ia 23 1 (.t 18) (.t 22)), (.st 1 (.t 23) (.k (I 1)))]⟩] [3, 7]) (.seq (.seq (.rgn [⟨none, [(.mv 8 (.k (I 0)))]⟩] [3, 7, 8]) (.block 0 (.loop (.seq (.seq (.rgn [⟨none, [(.mv 24 (.t 8)), (.bin 25 .lss (.t 24) (.k (I 36)))]⟩] [3, 7, 8, 25]) (.cond (.t 25) .skip (.exit 0))) (.seq (.block 1 (.seq (.rgn [⟨none, [(.mv 9 (.k (I 0)))]⟩] [3, 7, 8, 9]) (.block 2 (.loop (.seq (.seq (.rgn [⟨none, [(.mv 28 (.t 9)), (.fa 29 (.t 3) 0), (.ld 30 false 1 (.t 29)), (.bin 31 .lss (.t 28) (.t 30))]⟩] [3, 7, 8, 9, 31]) (.cond (.t 31) .skip (.exit 2))) (.seq (.block 3 (.seq (.rgn [⟨none, [(.mv 10 (.k (I 0)))]⟩] [3, 7, 8, 9, 10]) (.block 4 (.loop (.seq (.seq (.rgn [⟨none, [(.mv 34 (.t 10)), (.fa 35 (.t 3) 0), (.ld 36 false 1 (.t 35)), (.bin 37 .lss (.t 34) (.t 36))]⟩] [3, 7, 8, 9, 10, 37]) (.cond (.t 37) .skip (.exit 4))) (.seq (.block 5 (.seq (.rgn [⟨none, [(.mv 11 (.k (I 0)))]⟩] [3, 7, 8, 9, 10, 11]) (.block 6 (.loop (.seq (.seq (.rgn [⟨none, [(.mv 40 (.t 11)), (.fa 41 (.t 3) 1), (.ld 42 false 1 (.t 41)), (.len 43 (.t 42)), (.bin 44 .lss (.t 40) (.t 43))]⟩] [3, 7, 8, 9, 10, 11, 44]) (.cond (.t 44) .skip (.exit 6))) (.seq (.block 7 (.seq (.drw [⟨none, [(.fa 47 (.t 3) 1), (.ld 48 false 1 (.t 47)), (.mv 49 (.t 11)), (.ia 50 1 (.t 48) (.t 49)), (.ld 51 false 1 (.t 50)), (.mv 52 (.t 9)), (.ia 53 1 (.t 51) (.t 52)), (.ld 54 false 1 (.t 53)), (.fa 55 (.t 3) 1), (.ld 56 false 1 (.t 55)), (.mv 57 (.t 11)), (.ia 58 1 (.t 56) (.t 57)), (.ld 59 false 1 (.t 58)), (.mv 60 (.t 10)), (.ia 61 1 (.t 59) (.t 60)), (.ld 62 false 1 (.t 61)), (.mv 12 (.t 54)), (.mv 13 (.t 62))]⟩] [(1, 9), (4, 9), (7, 9), (1, 12), (4, 12), (7, 12), (1, 15), (4, 15), (7, 15)] [3, 7, 8, 9, 10, 11, 12, 13]) (.seq (.rgn [⟨none, [(.mv 63 (.t 7)), (.mv 64 (.t 9)), (.bin 65 .mul (.k (I 6)) (.t 64)), (.mv 66 (.t 10)), (.bin 67 .add (.t 65) (.t 66)), (.ia 68 1 (.t 63) (.t 67)), (.ld 69 false 1 (.t 68)), (.bin 70 .eql (.t 69) (.k (I 1))), (.mv 71 (.t 70))]⟩, ⟨(some (71, false)), [(.mv 72 (.t 7)), (.mv 73 (.t 12)), (.bin 74 .mul (.k (I 6)) (.t 73)), (.mv 75 (.t 13)), (.bin 76 .add (.t 74) (.t 75)), (.ia 77 1 (.t 72) (.t 76)), (.ld 78 false 1 (.t 77)), (.bin 79 .eql (.t 78) (.k (I 1)))]⟩, ⟨none, [(.pick 80 (.t 71) (.k (B true)) (.t 79))]⟩] [3, 7, 8, 9, 10, 11, 12, 13, 80]) (.cond (.t 80) (.rgn [⟨none, [(.mv 81 (.t 7)), (.mv 82 (.t 9)), (.bin 83 .mul (.k (I 6)) (.t 82)), (.mv 84 (.t 10)), (.bin 85 .add (.t 83) (.t 84)), (.mv 86 (.t 7)), (.mv 87 (.t 12)), (.bin 88 .mul (.k (I 6)) (.t 87)), (.mv 89 (.t 13)), (.bin 90 .add (.t 88) (.t 89)), (.ia 91 1 (.t 81) (.t 85)), (.st 1 (.t 91) (.k (I 1))), (.ia 92 1 (.t 86) (.t 90)), (.st 1 (.t 92) (.k (I 1)))]⟩] [3, 7, 8, 9, 10, 11]) .skip)))) (.rgn [⟨none, [(.mv 45 (.t 11)), (.bin 46 .add (.t 45) (.k (I 1))), (.mv 11 (.t 46))]⟩] [3, 7, 8, 9, 10, 11]))))))) (.rgn [⟨none, [(.mv 38 (.t 10)), (.bin 39 .add (.t 38) (.k (I 1))), (.mv 10 (.t 39))]⟩] [3, 7, 8, 9, 10]))))))) (.rgn [⟨none, [(.mv 32 (.t 9)), (.bin 33 .add (.t 32) (.k (I 1))), (.mv 9 (.t 33))]⟩] [3, 7, 8, 9]))))))) (.rgn [⟨none, [(.mv 26 (.t 8)), (.bin 27 .add (.t 26) (.k (I 1))), (.mv 8 (.t 27))]⟩] [3, 7, 8])))))) (.seq (.rgn [⟨none, [(.mv 14 (.k (.sl true 0 [])))]⟩] [3, 7, 14]) (.seq (.seq (.rgn [⟨none, [(.mv 15 (.k (I 0)))]⟩] [3, 7, 14, 15]) (.block 8 (.loop (.seq (.seq (.rgn [⟨none, [(.mv 93 (.t 15)), (.fa 94 (.t 3) 0), (.ld 95 false 1 (.t 94)), (.bin 96 .lss (.t 93) (.t 95))]⟩] [3, 7, 14, 15, 96]) (.cond (.t 96) .skip (.exit 8))) (.seq (.block 9 (.seq (.rgn [⟨none, [(.mv 16 (.k (I 0)))]⟩] [3, 7, 14, 15, 16]) (.block 10 (.loop (.seq (.seq (.rgn [⟨none, [(.mv 99 (.t 16)), (.fa 100 (.t 3) 0), (.ld 101 false 1 (.t 100)), (.bin 102 .lss (.t 99) (.t 101))]⟩] [3, 7, 14, 15, 16, 102]) (.cond (.t 102) .skip (.exit 10))) (.seq (.block 11 (.seq (.rgn [⟨none, [(.mv 105 (.t 7)), (.mv 106 (.t 15)), (.bin 107 .mul (.k (I 6)) (.t 106)), (.mv 108 (.t 16)), (.bin 109 .add (.t 107) (.t 108)), (.ia 110 1 (.t 105) (.t 109)), (.ld 111 false 1 (.t 110)), (.bin 112 .eql (.t 111) (.k (I 1)))]⟩] [3, 7, 14, 15, 16, 112]) (.cond (.t 112) (.rgn [⟨none, [(.mv 113 (.t 14)), (.mv 114 (.t 15)), (.mv 115 (.t 16)), (.bld 116 [(I 0), (I 0)] [(0, 1, (.t 114)), (1, 1, (.t 115))]), (.bsl 117 1 2 [(I 0), (I 0)] [(0, (.t 116))]), (.app 118 2 16 (.t 113) (.t 117)), (.mv 14 (.t 118))]⟩] [3, 7, 14, 15, 16]) .skip))) (.rgn [⟨none, [(.mv 103 (.t 16)), (.bin 104 .add (.t 103) (.k (I 1))), (.mv 16 (.t 104))]⟩] [3, 7, 14, 15, 16]))))))) (.rgn [⟨none, [(.mv 97 (.t 15)), (.bin 98 .add (.t 97) (.k (I 1))), (.mv 15 (.t 98))]⟩] [3, 7, 14, 15])))))) (.seq (.rgn [⟨none, [(.mv 119 (.t 14)), (.mv 6 (.t 119))]⟩] [6]) .ret)))))))
theorem func_r_PairsOf : Tryz.prog.funcs[n_r_PairsOf]? = some Tryz.f96 := Tryz.func96
theorem form_r_PairsOf : formOf Tryz.prog Tryz.f96 [6] = some G_r_PairsOf := by kernel_rfl
theorem res_r_PairsOf : resTmps Tryz.f96.results.toList = some [6] := by kernel_rfl
abbrev n_r_times : Nat := 101
def G_r_times : AC := (.seq (.rgn [⟨none, [(.box 5 2 (.t 2)), (.mv 6 (.k (I 0)))]⟩] [0, 1, 5]) (.seq (.rgn [⟨none, [(.mv 7 (.k (I 0)))]⟩] [0, 1, 5, 7]) (.seq (.seq (.rgn [⟨none, [(.mv 8 (.k (I 0)))]⟩] [0, 1, 5, 7, 8]) (.block 0 (.loop (.seq (.seq (.rgn [⟨none, [(.mv 9 (.t 8)), (.mv 10 (.t 0)), (.len 11 (.t 10)), (.bin 12 .lss (.t 9) (.t 11))]⟩] [0, 1, 5, 7, 8, 12]) (.cond (.t 12) .skip (.exit 0))) (.seq (.block 1 (.seq (.drw [⟨none, [(.mv 15 (.t 1)), (.mv 16 (.t 0)), (.mv 17 (.t 8)), (.ia 18 2 (.t 16) (.t 17)), (.iaa 19 2 1 (.t 18) (.k (I 0))), (.ld 20 false 1 (.t 19)), (.ia 21 1 (.t 15) (.t 20)), (.ld 22 false 1 (.t 21)), (.iaa 23 2 1 (.t 5) (.k (I 0))), (.ld 24 false 1 (.t 23)), (.bin 25 .eql (.t 22) (.t 24)), (.mv 26 (.t 25))]⟩, ⟨(some (26, true)), [(.mv 27 (.t 1)), (.mv 28 (.t 0)), (.mv 29 (.t 8)), (.ia 30 2 (.t 28) (.t 29)), (.iaa 31 2 1 (.t 30) (.k (I 1))), (.ld 32 false 1 (.t 31)), (.ia 33 1 (.t 27) (.t 32)), (.ld 34 false 1 (.t 33)), (.iaa 35 2 1 (.t 5) (.k (I 1))), (.ld 36 false 1 (.t 35)), (.bin 37 .eql (.t 34) (.t 36))]⟩, ⟨none, [(.pick 38 (.t 26) (.t 37) (.k (B false)))]⟩] [(5, 9), (7, 9), (17, 21), (19, 21)] [0, 1, 5, 7, 8, 38]) (.cond (.t 38) (.rgn [⟨none, [(.mv 39 (.t 7)), (.bin 40 .add (.t 39) (.k (I 1))), (.mv 7 (.t 40))]⟩] [0, 1, 5, 7, 8]) .skip))) (.rgn [⟨none, [(.mv 13 (.t 8)), (.bin 14 .add (.t 13) (.k (I 1))), (.mv 8 (.t 14))]⟩] [0, 1, 5, 7, 8])))))) (.seq (.rgn [⟨none, [(.mv 41 (.t 7)), (.mv 6 (.t 41))]⟩] [6]) .ret))))
theorem func_r_times : Tryz.prog.funcs[n_r_times]? = some Tryz.f101 := Tryz.func101
theorem form_r_times : formOf Tryz.prog Tryz.f101 [6] = some G_r_times := by kernel_rfl
theorem res_r_times : resTmps Tryz.f101.results.toList = some [6] := by kernel_rfl
end Go.AM

set_option linter.unusedSimpArgs false
set_option linter.unusedVariables false
namespace Go.AM
open Go.RowKit Go.Proofs
theorem count_take {l : List Int} {i : Nat} {p : Int} (h : i < l.length) : (l.take (i + 1)).count p = (l.take i).count p + if l[i] = p then 1 else 0 := by
  rw [List.take_succ_eq_append_getElem h, List.count_append, List.count_singleton]
  by_cases e : l[i] = p
  · simp [e]
  · simp [e]
set_option maxHeartbeats 1000000 in
theorem r_isStroke_ok (f : Bool) (l : List Int) (P : Int) (hl : l.length ≤ 1000000) : PureOK Tryz.prog n_r_isStroke [Ls f l, I P] (B (strO P l)) := by
  refine pure_of (walk func_r_isStroke form_r_isStroke res_r_isStroke (by show 2 ≤ _; decide) ?_)
  simp -implicitDefEqProofs (disch := omega) [G_r_isStroke, wrap_id]
  by_cases hP : (l.length : Int) = P
  · subst hP
    simp -implicitDefEqProofs (disch := omega) [wrap_id]
    refine loop_eq (fun p : Nat => ⟨[(0, Ls f l), (1, I (l.length : Int)), (5, I (p : Int))], []⟩) (fun p => p ≤ l.length ∧ ((List.range p).all fun p => l.count (p : Int) == 1) = true) (fun p => l.length - p) 0 ⟨Nat.zero_le _, rfl⟩ rfl ?_
    rintro p ⟨hp, ha⟩
    refine hideK' fun K0 hK0 => ?_
    simp -implicitDefEqProofs (disch := omega) [wrap_id]
    refine c_split (fun h => ?_) (fun h => ?_)
    · have hp : p < l.length := by simp at h; omega
      have px : ((p : Int) + 1) = ((p + 1 : Nat) : Int) := by omega
      simp -implicitDefEqProofs (disch := omega) [wrap_id]
      refine loop_eq (fun i : Nat => ⟨[(0, Ls f l), (1, I (l.length : Int)), (5, I (p : Int)), (6, I ((l.take i).count (p : Int) : Nat)), (7, I (i : Int))], []⟩) (fun i => i ≤ l.length) (fun i => l.length - i) 0 (Nat.zero_le _) rfl ?_
      intro i hi
      refine hideK' fun K1 hK1 => ?_
      simp -implicitDefEqProofs (disch := omega) [wrap_id]
      refine c_split (fun h => ?_) (fun h => ?_)
      · have hi : i < l.length := by simp at h; omega
        have ix : ((i : Int) + 1) = ((i + 1 : Nat) : Int) := by omega
        have ct := count_take (p := (p : Int)) hi
        have cl : (l.take i).count (p : Int) ≤ l.length := Nat.le_trans List.count_le_length (by rw [List.length_take]; omega)
        generalize hc : (l.take i).count (p : Int) = c at *
        have cx : ((c : Int) + 1) = ((c + 1 : Nat) : Int) := by omega
        by_cases e : l[i] = (p : Int)
        · rw [if_pos e] at ct
          simp -implicitDefEqProofs (disch := omega) [wrap_id, cells_ls, hi, e]
          rw [hK1]
          exact next_eq (i + 1) (by omega) (by omega) (by simp only [ix, cx, ct])
        · rw [if_neg e] at ct
          have e' : (l[i] == (p : Int)) = false := by simpa using e
          simp -implicitDefEqProofs (disch := omega) [wrap_id, cells_ls, hi, e, e']
          rw [hK1]
          exact next_eq (i + 1) (by omega) (by omega) (by simp only [ix, ct]; rfl)
      · have hi : i = l.length := by simp at h; omega
        subst hi
        subst hK1
        have cl := List.count_le_length (a := (p : Int)) (l := l)
        have tk : l.take l.length = l := List.take_of_length_le (Nat.le_refl _)
        by_cases e : l.count (p : Int) = 1
        · simp -implicitDefEqProofs (disch := omega) [wrap_id, e, tk]
          rw [hK0]
          refine next_eq (p + 1) ⟨by omega, ?_⟩ (by omega) (by simp only [px])
          rw [range_all_succ, ha, e]; rfl
        · have e' : ((l.count (p : Int) : Int) != 1) = true := by simp only [bne_iff_ne, ne_eq]; omega
          have hf : strO (l.length : Int) l = false := by
            unfold strO
            have : ((List.range l.length).all fun p => l.count (p : Int) == 1) = false := by
              rw [List.all_eq_false]
              exact ⟨p, List.mem_range.2 hp, by simp [e]⟩
            rw [this, Bool.and_false]
          simp -implicitDefEqProofs (disch := omega) [wrap_id, e', tk]
          rw [hf] at hK0
          subst hK0
          simp -implicitDefEqProofs (disch := omega) [wrap_id]
    · have hp : p = l.length := by simp at h; omega
      subst hp
      have ht : strO (l.length : Int) l = true := by unfold strO; rw [ha]; simp
      rw [ht] at hK0
      subst hK0
      simp -implicitDefEqProofs (disch := omega) [wrap_id]
  · have hP' : ((l.length : Int) != P) = true := by simpa using hP
    have hf : strO P l = false := by unfold strO; rw [decide_eq_false hP]; rfl
    simp -implicitDefEqProofs (disch := omega) [wrap_id, hP', hf]
end Go.AM

set_option linter.unusedSimpArgs false
set_option linter.unusedVariables false
namespace Go.AM
open Go.RowKit Go.Proofs
theorem r_Equal_ok (f g : Bool) (l m : List Int) (hl : l.length ≤ 1000000) (hm : m.length ≤ 1000000) : PureOK Tryz.prog n_r_Equal [Ls f l, Ls g m] (B (decide (l = m))) := by
  refine pure_of (walk func_r_Equal form_r_Equal res_r_Equal (by show 2 ≤ _; decide) ?_)
  simp -implicitDefEqProofs (disch := omega) [G_r_Equal, wrap_id]
  refine c_split (fun h => ?_) (fun h => ?_)
  · simp at h; simp -implicitDefEqProofs (disch := omega) [wrap_id, h]
    intro e; subst e; exact h rfl
  · simp at h; simp -implicitDefEqProofs (disch := omega) [wrap_id, h]
    refine loop_eq (fun i : Nat => ⟨[(0, Ls f l), (1, Ls g m), (5, I i)], []⟩) (fun i => i ≤ l.length ∧ l.take i = m.take i) (fun i => l.length - i) 0 ⟨by omega, rfl⟩ rfl ?_
    intro i ⟨hi, he⟩
    simp -implicitDefEqProofs (disch := omega) [wrap_id]
    refine c_split (fun h => ?_) (fun h => ?_)
    · simp at h
      have h2 : i < m.length := by omega
      simp -implicitDefEqProofs (disch := omega) [wrap_id, cells_ls, h, h2]
      refine c_split (fun h3 => ?_) (fun h3 => ?_)
      · simp at h3; simp -implicitDefEqProofs (disch := omega) [wrap_id]
        intro e; subst e; exact h3 rfl
      · simp at h3; simp -implicitDefEqProofs (disch := omega) [wrap_id]
        refine next_eq (i + 1) ⟨by omega, ?_⟩ (by omega) (by simp)
        rw [List.take_add_one, List.take_add_one, he]; simp [h, h2, h3]
    · simp at h; simp -implicitDefEqProofs (disch := omega) [wrap_id]
      have e1 : l.take i = l := List.take_of_length_le h
      have e2 : m.take i = m := List.take_of_length_le (by omega)
      rw [← e1, he, e2]
set_option maxHeartbeats 1000000 in
theorem r_CheckBench_ok (g : Bool) (b : OB) (hb : b.s.length ≤ 1000000) (hs : ∀ p ∈ b.s, p.2.length ≤ 1000000) : PureOK Tryz.prog n_r_CheckBench [On g b] (I (chkO b)) := by
  refine pure_of (walk func_r_CheckBench form_r_CheckBench res_r_CheckBench (by show 1 ≤ _; decide) ?_)
  simp -implicitDefEqProofs (disch := omega) [G_r_CheckBench, wrap_id]
  by_cases h1 : b.P < 2
  · have e : chkO b = 2 := by unfold chkO; rw [if_pos (.inl h1)]
    simp -implicitDefEqProofs (disch := omega) [wrap_id, h1, e]
  by_cases h2 : 6 < b.P
  · have e : chkO b = 2 := by unfold chkO; rw [if_pos (.inr h2)]
    simp -implicitDefEqProofs (disch := omega) [wrap_id, h1, h2, e]
  by_cases h3 : 6 < b.s.length
  · have h3' : (6 : Int) < b.s.length := by omega
    have e : chkO b = 6 := by unfold chkO; rw [if_neg (by omega), if_pos h3]
    simp -implicitDefEqProofs (disch := omega) [wrap_id, h1, h2, h3', e]
  have h3' : ¬ (6 : Int) < b.s.length := by omega
  have e : chkO b = if b.s.all (fun p => strO b.P p.2) then 0 else 15 := by unfold chkO; rw [if_neg (by omega), if_neg h3]
  rw [e]
  simp -implicitDefEqProofs (disch := omega) [wrap_id, h1, h2, h3']
  refine loop_eq (fun i : Nat => ⟨[(1, .ref 0 0), (3, I (i : Int))], [.cells [I b.P, LLs g b.s]]⟩) (fun i => i ≤ b.s.length ∧ ∀ k (hk : k < b.s.length), k < i → strO b.P b.s[k].2 = true) (fun i => b.s.length - i) 0 ⟨Nat.zero_le _, fun k _ h => by omega⟩ rfl ?_
  rintro i ⟨hi, ha⟩
  refine hideK' fun K0 hK0 => ?_
  simp -implicitDefEqProofs (disch := omega) [wrap_id]
  refine c_split (fun h => ?_) (fun h => ?_)
  · have hi : i < b.s.length := by simp at h; omega
    have ix : ((i : Int) + 1) = ((i + 1 : Nat) : Int) := by omega
    simp -implicitDefEqProofs (disch := omega) [wrap_id, cells_lls, hi]
    refine pureW_of rfl (r_isStroke_ok _ _ b.P (hs _ (List.getElem_mem hi))) ?_
    cases hst : strO b.P b.s[i].2 with
    | true =>
      simp -implicitDefEqProofs (disch := omega) [wrap_id, cmp2, nthT]
      rw [hK0]
      refine next_eq (i + 1) ⟨by omega, fun k hk hki => ?_⟩ (by omega) (by simp only [ix])
      by_cases hk2 : k = i
      · subst hk2; exact hst
      · exact ha k hk (by omega)
    | false =>
      have hf : b.s.all (fun p => strO b.P p.2) = false := by
        rw [List.all_eq_false]
        exact ⟨b.s[i], List.getElem_mem hi, by simp [hst]⟩
      rw [hf] at hK0
      subst hK0
      simp -implicitDefEqProofs (disch := omega) [wrap_id, cmp2, nthT]
  · have hi : i = b.s.length := by simp at h; omega
    subst hi
    have ht : b.s.all (fun p => strO b.P p.2) = true := by
      rw [List.all_eq_true]
      intro p hp
      obtain ⟨k, hk, rfl⟩ := List.getElem_of_mem hp
      exact ha k hk hk
    rw [ht] at hK0
    subst hK0
    simp -implicitDefEqProofs (disch := omega) [wrap_id]
set_option maxHeartbeats 1000000 in
theorem r_IsRow_ok (g f : Bool) (b : OB) (l : List Int) (hl : l.length ≤ 1000000) : PureOK Tryz.prog n_r_IsRow [On g b, Ls f l] (B (rowO b l)) := by
  refine pure_of (walk func_r_IsRow form_r_IsRow res_r_IsRow (by show 2 ≤ _; decide) ?_)
  simp -implicitDefEqProofs (disch := omega) [G_r_IsRow, wrap_id]
  by_cases h1 : (l.length : Int) = b.P
  · have e : rowO b l = l.all fun n => decide (0 ≤ n) && decide (n ≤ 5) := by unfold rowO; rw [decide_eq_true h1]; rfl
    have h1' : ((l.length : Int) != b.P) = false := by simpa using h1
    rw [e]
    simp -implicitDefEqProofs (disch := omega) [wrap_id, h1']
    refine loop_eq (fun i : Nat => ⟨[(1, Ls f l), (5, I (i : Int))], [.cells [I b.P, LLs g b.s]]⟩) (fun i => i ≤ l.length ∧ ∀ k (hk : k < l.length), k < i → 0 ≤ l[k] ∧ l[k] ≤ 5) (fun i => l.length - i) 0 ⟨Nat.zero_le _, fun k _ h => by omega⟩ rfl ?_
    rintro i ⟨hi, ha⟩
    refine hideK' fun K0 hK0 => ?_
    simp -implicitDefEqProofs (disch := omega) [wrap_id]
    refine c_split (fun h => ?_) (fun h => ?_)
    · have hi : i < l.length := by simp at h; omega
      have ix : ((i : Int) + 1) = ((i + 1 : Nat) : Int) := by omega
      have bad : ¬ (0 ≤ l[i] ∧ l[i] ≤ 5) → (l.all fun n => decide (0 ≤ n) && decide (n ≤ 5)) = false := fun hn => by
        rw [List.all_eq_false]
        exact ⟨l[i], List.getElem_mem hi, by simpa using hn⟩
      by_cases q1 : l[i] < 0
      · rw [bad (by omega)] at hK0
        subst hK0
        simp -implicitDefEqProofs (disch := omega) [wrap_id, cells_ls, hi, q1]
      by_cases q2 : 5 < l[i]
      · rw [bad (by omega)] at hK0
        subst hK0
        simp -implicitDefEqProofs (disch := omega) [wrap_id, cells_ls, hi, q1, q2]
      simp -implicitDefEqProofs (disch := omega) [wrap_id, cells_ls, hi, q1, q2]
      rw [hK0]
      refine next_eq (i + 1) ⟨by omega, fun k hk hki => ?_⟩ (by omega) (by simp only [ix])
      by_cases hk2 : k = i
      · subst hk2; omega
      · exact ha k hk (by omega)
    · have hi : i = l.length := by simp at h; omega
      subst hi
      have ht : (l.all fun n => decide (0 ≤ n) && decide (n ≤ 5)) = true := by
        rw [List.all_eq_true]
        intro p hp
        obtain ⟨k, hk, rfl⟩ := List.getElem_of_mem hp
        simpa using ha k hk hk
      rw [ht] at hK0
      subst hK0
      simp -implicitDefEqProofs (disch := omega) [wrap_id]
  · have e : rowO b l = false := by unfold rowO; rw [decide_eq_false h1]; rfl
    have h1' : ((l.length : Int) != b.P) = true := by simpa using h1
    simp -implicitDefEqProofs (disch := omega) [wrap_id, h1', e]
end Go.AM

set_option linter.unusedSimpArgs false
set_option linter.unusedVariables false
namespace Go.AM
open Go.RowKit Go.Proofs
set_option maxHeartbeats 1000000 in
theorem r_After_ok (f g : Bool) (s r : List Int) (hl : r.length ≤ 1000) (hs : s.length = r.length) (hi : ∀ x ∈ s, 0 ≤ x ∧ x < r.length) : PureOK Tryz.prog n_r_After [Ls f s, Ls g r] (Ls (aft s r).isEmpty (aft s r)) := by
  refine pure_of (walk func_r_After form_r_After res_r_After (by show 2 ≤ _; decide) ?_)
  simp -implicitDefEqProofs (disch := omega) [G_r_After, wrap_id]
  have al : (aft s r).length = s.length := aft_len
  refine loop_eq (fun q : Nat × AV × List HObj => ⟨[(0, Ls f s), (1, Ls g r), (5, q.2.1), (6, I (q.1 : Int))], q.2.2⟩) (fun q => q.1 ≤ r.length ∧ AccR q.2.2 q.2.1 ((aft s r).take q.1)) (fun q => r.length - q.1) (0, .sl true 0 [], []) ⟨Nat.zero_le _, .inl ⟨rfl, by simp⟩⟩ rfl ?_
  rintro ⟨i, x, H⟩ ⟨c1, c2⟩
  simp only at c1 c2 ⊢
  refine hideK' fun K0 hK0 => ?_
  simp -implicitDefEqProofs (disch := omega) [wrap_id]
  refine c_split (fun h => ?_) (fun h => ?_)
  · have hir : i < r.length := by simp at h; omega
    have his : i < s.length := by omega
    have ix : ((i : Int) + 1) = ((i + 1 : Nat) : Int) := by omega
    obtain ⟨b1, b2⟩ := hi s[i] (List.getElem_mem his)
    obtain ⟨n, hn⟩ : ∃ n : Nat, s[i] = n := ⟨s[i].toNat, by omega⟩
    have hnr : n < r.length := by omega
    have tk : (aft s r).take (i + 1) = (aft s r).take i ++ [r[n]] := by
      rw [List.take_succ_eq_append_getElem (by omega), aft_get (by omega)]
      simp [hn, hnr]
    have tl : ((aft s r).take i).length = i := by rw [List.length_take]; omega
    simp -implicitDefEqProofs (disch := omega) [wrap_id, cells_ls, hir, his, hn, hnr]
    refine bsl_of (ys := [I r[n]]) rfl rfl ?_
    simp -implicitDefEqProofs (disch := omega) [wrap_id, zrep]
    refine app_row c2.row (by omega) fun ws w1 w2 w3 => ?_
    simp -implicitDefEqProofs (disch := omega) [wrap_id]
    rw [hK0]
    refine next_eq (i + 1, .ms H.length 0 (i + 1) 1, writeL H ws) ⟨by simp only; omega, .inr ⟨H.length, ?_, ?_, ?_⟩⟩ (by simp only; omega) (by simp only [ix, tl])
    · rw [List.length_take, Nat.min_eq_left (by omega)]
    · simp only [tk]; simp
    · simp only [tk]; exact w3
  · have hir : i = r.length := by simp at h; omega
    subst hir
    subst hK0
    have tk : (aft s r).take r.length = aft s r := List.take_of_length_le (by omega)
    rw [tk] at c2
    simp -implicitDefEqProofs (disch := omega) [wrap_id]
    exact out_acc c2
end Go.AM

set_option linter.unusedSimpArgs false
set_option linter.unusedVariables false
namespace Go.AM
open Go.RowKit Go.Proofs
set_option maxHeartbeats 1000000 in
theorem r_IsList_ok (g f : Bool) (b : OB) (l : List Int) (hl : l.length ≤ 1000000) : PureOK Tryz.prog n_r_IsList [On g b, Ls f l] (I (lstO b l)) := by
  refine pure_of (walk func_r_IsList form_r_IsList res_r_IsList (by show 2 ≤ _; decide) ?_)
  simp -implicitDefEqProofs (disch := omega) [G_r_IsList, wrap_id]
  by_cases h1 : 720 < l.length
  · have h1' : (720 : Int) < l.length := by omega
    have e : lstO b l = 6 := by unfold lstO; rw [if_pos h1]
    simp -implicitDefEqProofs (disch := omega) [wrap_id, h1', e]
  · have h1' : ¬ (720 : Int) < l.length := by omega
    have e : lstO b l = if l.all fun n => decide (0 ≤ n) && decide (n < b.s.length) then 0 else 3 := by unfold lstO; rw [if_neg h1]
    rw [e]
    generalize hA : (l.all fun n => decide (0 ≤ n) && decide (n < b.s.length)) = A
    simp -implicitDefEqProofs (disch := omega) [wrap_id, h1']
    refine loop_eq (fun i : Nat => ⟨[(1, Ls f l), (2, .ref 0 0), (5, I (i : Int))], [.cells [I b.P, LLs g b.s]]⟩) (fun i => i ≤ l.length ∧ ∀ k (hk : k < l.length), k < i → 0 ≤ l[k] ∧ l[k] < b.s.length) (fun i => l.length - i) 0 ⟨Nat.zero_le _, fun k _ h => by omega⟩ rfl ?_
    rintro i ⟨hi, ha⟩
    refine hideK' fun K0 hK0 => ?_
    simp -implicitDefEqProofs (disch := omega) [wrap_id]
    refine c_split (fun h => ?_) (fun h => ?_)
    · have hi : i < l.length := by simp at h; omega
      have ix : ((i : Int) + 1) = ((i + 1 : Nat) : Int) := by omega
      have bad : ¬ (0 ≤ l[i] ∧ l[i] < b.s.length) → A = false := fun hn => by
        rw [← hA, List.all_eq_false]
        exact ⟨l[i], List.getElem_mem hi, by simpa using hn⟩
      by_cases q1 : l[i] < 0
      · rw [bad (by omega)] at hK0
        subst hK0
        simp -implicitDefEqProofs (disch := omega) [wrap_id, cells_ls, hi, q1, cmp2, nthT]
      by_cases q2 : (b.s.length : Int) ≤ l[i]
      · rw [bad (by omega)] at hK0
        subst hK0
        simp -implicitDefEqProofs (disch := omega) [wrap_id, cells_ls, hi, q1, q2, cmp2, nthT]
      simp -implicitDefEqProofs (disch := omega) [wrap_id, cells_ls, hi, q1, q2, cmp2, nthT]
      rw [hK0]
      refine next_eq (i + 1) ⟨by omega, fun k hk hki => ?_⟩ (by omega) (by simp only [ix])
      by_cases hk2 : k = i
      · subst hk2; omega
      · exact ha k hk (by omega)
    · have hi : i = l.length := by simp at h; omega
      subst hi
      have ht : A = true := by
        rw [← hA, List.all_eq_true]
        intro p hp
        obtain ⟨k, hk, rfl⟩ := List.getElem_of_mem hp
        simpa using ha k hk hk
      rw [ht] at hK0
      subst hK0
      simp -implicitDefEqProofs (disch := omega) [wrap_id]
end Go.AM

set_option linter.unusedSimpArgs false
set_option linter.unusedVariables false
namespace Go.AM
open Go.RowKit Go.Proofs
def Cur (hp : List HObj) (x : AV) (l : List Int) : Prop := (∃ id, 0 < id ∧ x = .ms id 0 l.length 1 ∧ nthH hp id = some (.cells (l.map fun n => I n))) ∨ x = Ls false l
set_option maxHeartbeats 1000000 in
theorem r_All_ok (g f h : Bool) {b : OB} {n : Nat} (hb : Okb b n) (r l : List Int) (hr : r.length = n) (hl : LsO b l) (hll : l.length ≤ 1000000) : PureOK Tryz.prog n_r_All [On g b, Ls f r, Ls h l] (Ls false (allI b l r)) := by
  have h6 := hb.hi
  have h2 := hb.lo
  refine pure_of (walk func_r_All form_r_All res_r_All (by show 3 ≤ _; decide) ?_)
  simp -implicitDefEqProofs (disch := omega) [G_r_All, wrap_id]
  refine bsl_of rfl rfl ?_
  simp -implicitDefEqProofs (disch := omega) [wrap_id, zrep]
  refine ⟨⟨by omega, by omega⟩, ?_⟩
  refine loop_eq (fun q : Nat × AV × List HObj => ⟨[(2, Ls h l), (3, .ref 0 0), (7, q.2.1), (8, I (q.1 : Int))], q.2.2⟩) (fun q => q.1 ≤ l.length ∧ nthH q.2.2 0 = some (.cells [I b.P, LLs g b.s]) ∧ Cur q.2.2 q.2.1 (allI b (l.take q.1) r)) (fun q => l.length - q.1) (0, .ms 1 0 r.length 1, [.cells [I b.P, LLs g b.s], .cells (r.map fun n => I n)]) ⟨Nat.zero_le _, rfl, .inl ⟨1, by omega, rfl, rfl⟩⟩ rfl ?_
  rintro ⟨i, x, H⟩ ⟨c1, c2, c3⟩
  simp only at c1 c2 c3 ⊢
  have l0 := nthH_lt c2
  refine hideK' fun K0 hK0 => ?_
  simp -implicitDefEqProofs (disch := omega) [wrap_id]
  refine c_split (fun hc => ?_) (fun hc => ?_)
  · have hi : i < l.length := by simp at hc; omega
    have ix : ((i : Int) + 1) = ((i + 1 : Nat) : Int) := by omega
    obtain ⟨b1, b2⟩ := hl l[i] (List.getElem_mem hi)
    obtain ⟨k, hk⟩ : ∃ k : Nat, l[i] = k := ⟨l[i].toNat, by omega⟩
    have hks : k < b.s.length := by omega
    have pk := hb.at hks
    have cl : (allI b (l.take i) r).length = n := allI_len hb (fun s hs => hl s (List.mem_of_mem_take hs)) hr
    have sn := allI_snoc (b := b) (r := r) hi
    rw [hk, Int.toNat_natCast, S_getD hks] at sn
    have af := r_After_ok b.s[k].1 false b.s[k].2 (allI b (l.take i) r) (by omega) (by rw [cl]; exact pk.len) (fun x hx => by rw [cl]; exact pk.rng x hx)
    rw [← sn] at af
    have cl2 : (allI b (l.take (i + 1)) r).length = n := by rw [sn, aft_len]; exact pk.len
    have ne : (allI b (l.take (i + 1)) r).isEmpty = false := by
      cases hq : allI b (l.take (i + 1)) r with
      | nil => rw [hq] at cl2; simp at cl2; omega
      | cons => rfl
    rw [ne] at af
    rcases c3 with ⟨id, hid, rfl, hm⟩ | rfl
    · have lid := nthH_lt hm
      simp -implicitDefEqProofs (disch := omega) [wrap_id, c2, hi, hk, hks, cells_ls, cells_lls]
      refine pureW_of (purifyAll2 ls_pur (ms_pur hm rfl)) af ?_
      simp -implicitDefEqProofs (disch := omega) [wrap_id, cmp2, nthT]
      have e : ¬ id = 0 := by omega
      simp only [lid, if_true]
      rw [hK0]
      refine next_eq (i + 1, Ls false (allI b (l.take (i + 1)) r), H.set id .gone) ⟨by simp only; omega, (by simp only; rw [nthH_set_ne e]; exact c2), .inr rfl⟩ (by simp only; omega) (by simp only [ix])
    · simp -implicitDefEqProofs (disch := omega) [wrap_id, c2, hi, hk, hks, cells_ls, cells_lls]
      refine pureW_of (purifyAll2 ls_pur ls_pur) af ?_
      simp -implicitDefEqProofs (disch := omega) [wrap_id, cmp2, nthT]
      rw [hK0]
      exact next_eq (i + 1, Ls false (allI b (l.take (i + 1)) r), H) ⟨by simp only; omega, c2, .inr rfl⟩ (by simp only; omega) (by simp only [ix])
  · have hi : i = l.length := by simp at hc; omega
    subst hi
    subst hK0
    rw [List.take_length] at c3
    simp -implicitDefEqProofs (disch := omega) [wrap_id]
    rcases c3 with ⟨id, hid, rfl, hm⟩ | rfl
    · exact out_of (ms_pur hm rfl)
    · exact out_of ls_pur
end Go.AM

set_option linter.unusedSimpArgs false
set_option linter.unusedVariables false
namespace Go.AM
open Go.RowKit Go.Proofs
set_option maxHeartbeats 1000000 in
theorem r_Rows_ok (g f h : Bool) (b : OB) (hz : SzO b) (r x : List Int) (hr : r.length ≤ 1000000) (hx : x.length ≤ 1000000) : PureOK Tryz.prog n_r_Rows [On g b, Ls f r, Ls h x] (I (rwsE b r x)) := by
  refine pure_of (walk func_r_Rows form_r_Rows res_r_Rows (by show 3 ≤ _; decide) ?_)
  simp -implicitDefEqProofs (disch := omega) [G_r_Rows, wrap_id]
  refine callW_pure rfl (r_CheckBench_ok g b hz.many hz.len) ?_
  by_cases h0 : chkO b = 0
  · simp -implicitDefEqProofs (disch := omega) [wrap_id, h0]
    refine callW_pure rfl (r_IsRow_ok g f b r hr) ?_
    cases h1 : rowO b r with
    | true =>
      simp -implicitDefEqProofs (disch := omega) [wrap_id, h1]
      refine callW_pure rfl (r_IsRow_ok g h b x hx) ?_
      cases h2 : rowO b x with
      | true =>
        have e : rwsE b r x = 0 := by unfold rwsE; rw [if_neg (by omega), if_neg (by simp [h1, h2])]
        simp -implicitDefEqProofs (disch := omega) [wrap_id, h2, e]
      | false =>
        have e : rwsE b r x = 2 := by unfold rwsE; rw [if_neg (by omega), if_pos (.inr h2)]
        simp -implicitDefEqProofs (disch := omega) [wrap_id, h2, e]
    | false =>
      have e : rwsE b r x = 2 := by unfold rwsE; rw [if_neg (by omega), if_pos (.inl h1)]
      simp -implicitDefEqProofs (disch := omega) [wrap_id, h1, e]
  · have e1 : rwsE b r x = chkO b := by unfold rwsE; rw [if_pos h0]
    have h0' : (chkO b != 0) = true := by simpa using h0
    simp -implicitDefEqProofs (disch := omega) [wrap_id, h0']
    refine callW_pure rfl (r_CheckBench_ok g b hz.many hz.len) ?_
    simp -implicitDefEqProofs (disch := omega) [wrap_id, e1]
end Go.AM

set_option linter.unusedSimpArgs false
set_option linter.unusedVariables false
namespace Go.AM
open Go.RowKit Go.Proofs
set_option maxHeartbeats 1000000 in
theorem r_First_ok (f g : Bool) (l m : List Int) (hl : l.length ≤ 1000000) (hm : m.length = l.length) : PureOK Tryz.prog n_r_First [Ls f l, Ls g m] (B (frst l m)) := by
  refine pure_of (walk func_r_First form_r_First res_r_First (by show 2 ≤ _; decide) ?_)
  simp -implicitDefEqProofs (disch := omega) [G_r_First, wrap_id]
  refine loop_eq (fun i : Nat => ⟨[(0, Ls f l), (1, Ls g m), (5, I (i : Int))], []⟩) (fun i => i ≤ l.length ∧ frst l m = frst (l.drop i) (m.drop i)) (fun i => l.length - i) 0 ⟨Nat.zero_le _, rfl⟩ rfl ?_
  rintro i ⟨hi, he⟩
  refine hideK' fun K0 hK0 => ?_
  simp -implicitDefEqProofs (disch := omega) [wrap_id]
  refine c_split (fun hc => ?_) (fun hc => ?_)
  · have hi : i < l.length := by simp at hc; omega
    have hi2 : i < m.length := by omega
    have ix : ((i : Int) + 1) = ((i + 1 : Nat) : Int) := by omega
    rw [List.drop_eq_getElem_cons hi, List.drop_eq_getElem_cons hi2] at he
    simp only [frst] at he
    by_cases e : l[i] = m[i]
    · rw [if_pos e] at he
      have e' : (l[i] != m[i]) = false := by simpa using e
      simp -implicitDefEqProofs (disch := omega) [wrap_id, cells_ls, hi, hi2, e', cmp2, nthT]
      rw [hK0]
      exact next_eq (i + 1) ⟨by omega, he⟩ (by omega) (by simp only [ix])
    · rw [if_neg e] at he
      have e' : (l[i] != m[i]) = true := by simpa using e
      rw [he] at hK0
      subst hK0
      simp -implicitDefEqProofs (disch := omega) [wrap_id, cells_ls, hi, hi2, e', cmp2, nthT]
  · have hi : i = l.length := by simp at hc; omega
    subst hi
    rw [List.drop_length] at he
    have : frst l m = false := by rw [he]; rfl
    rw [this] at hK0
    subst hK0
    simp -implicitDefEqProofs (disch := omega) [wrap_id]
def fnd (l : List (Bool × List Int)) (r : List Int) : Int := idxI (fun p => decide (p.2 = r)) l
set_option maxHeartbeats 1000000 in
theorem r_find_ok (g f : Bool) (l : List (Bool × List Int)) (r : List Int) (hl : l.length ≤ 1000000) (hz : ∀ p ∈ l, p.2.length ≤ 1000000) (hr : r.length ≤ 1000000) : PureOK Tryz.prog n_r_find [LLs g l, Ls f r] (I (fnd l r)) := by
  refine pure_of (walk func_r_find form_r_find res_r_find (by show 2 ≤ _; decide) ?_)
  simp -implicitDefEqProofs (disch := omega) [G_r_find, wrap_id]
  refine loop_eq (fun i : Nat => ⟨[(0, LLs g l), (1, Ls f r), (5, I (i : Int))], []⟩) (fun i => i ≤ l.length ∧ ∀ k (hk : k < l.length), k < i → l[k].2 ≠ r) (fun i => l.length - i) 0 ⟨Nat.zero_le _, fun k _ h => by omega⟩ rfl ?_
  rintro i ⟨hi, he⟩
  refine hideK' fun K0 hK0 => ?_
  simp -implicitDefEqProofs (disch := omega) [wrap_id]
  refine c_split (fun hc => ?_) (fun hc => ?_)
  · have hi : i < l.length := by simp at hc; omega
    have ix : ((i : Int) + 1) = ((i + 1 : Nat) : Int) := by omega
    simp -implicitDefEqProofs (disch := omega) [wrap_id, cells_lls, hi]
    refine callW_pure rfl (r_Equal_ok _ _ l[i].2 r (hz _ (List.getElem_mem hi)) hr) ?_
    by_cases e : l[i].2 = r
    · have : fnd l r = i := idxI_some hi (by simpa using e) (fun k hk h => by simpa using he k hk h)
      rw [this] at hK0
      subst hK0
      simp -implicitDefEqProofs (disch := omega) [wrap_id, e]
    · simp -implicitDefEqProofs (disch := omega) [wrap_id, e]
      rw [hK0]
      refine next_eq (i + 1) ⟨by omega, fun k hk h => ?_⟩ (by omega) (by simp only [ix])
      by_cases hk2 : k = i
      · subst hk2; exact e
      · exact he k hk (by omega)
  · have hi : i = l.length := by simp at hc; omega
    subst hi
    have : fnd l r = -1 := idxI_none fun k hk => by simpa using he k hk hk
    rw [this] at hK0
    subst hK0
    simp -implicitDefEqProofs (disch := omega) [wrap_id]
end Go.AM

set_option linter.unusedSimpArgs false
set_option linter.unusedVariables false
namespace Go.AM
open Go.RowKit Go.Proofs
set_option maxHeartbeats 4000000 in
theorem r_PairsOf_ok (g : Bool) {b : OB} {n : Nat} (hb : Okb b n) {one two : Nat} (h1 : one < n) (h2 : two < n) {p : Nat × Nat → Bool} (hp : ∀ q : Nat × Nat, q.1 < n → q.2 < n → (p q = true ↔ Rch n b.S (one, two) q)) :
    PureOK Tryz.prog n_r_PairsOf [On g b, I (one : Int), I (two : Int)] (Ps (prsL (prsN n) p).isEmpty (prsL (prsN n) p)) := by
  have h6 := hb.hi
  have hP := hb.P
  have hm := hb.many
  have hS : PmS n b.S := fun s hs => by
    obtain ⟨q, hq, rfl⟩ := List.mem_map.1 hs
    exact hb.pm q hq
  have hq : (one, two).1 < n ∧ (one, two).2 < n := ⟨h1, h2⟩
  refine pure_of (walk func_r_PairsOf form_r_PairsOf res_r_PairsOf (by show 3 ≤ _; decide) ?_)
  simp -implicitDefEqProofs (disch := omega) [G_r_PairsOf, wrap_id]
  refine ⟨36, rfl, rfl, by decide, by decide, rfl, ?_⟩
  have e0 : (6 * (one : Int) + two).toNat = 6 * one + two := by omega
  have l0 : 6 * one + two < (List.replicate 36 (0 : Int)).length := by rw [List.length_replicate]; omega
  have u1 : (6 * (one : Int) + two) < 36 := by omega
  have in0 := InvP.init (S := b.S) h6 hq
  rw [zrep_ls]
  generalize List.replicate 36 (0 : Int) = M0 at l0 in0 ⊢
  simp -implicitDefEqProofs (disch := omega) [wrap_id, e0, u1]
  rw [put_ls l0]
  refine ⟨by omega, by omega, ?_⟩
  refine loop_eq (fun q : Nat × List Int => ⟨[(3, .ref 0 0), (7, .ms 1 0 36 1), (8, I (q.1 : Int))], [.cells [I b.P, LLs g b.s], .cells (q.2.map fun n => I n)]⟩) (fun q => q.1 ≤ 36 ∧ InvP n b.S (one, two) q.1 0 0 0 q.2) (fun q => 36 - q.1) (0, _) ⟨by omega, in0⟩ rfl ?_
  rintro ⟨R, M⟩ ⟨c1, c2⟩
  simp only at c1 c2 ⊢
  refine hideK' fun K0 hK0 => ?_
  simp -implicitDefEqProofs (disch := omega) [wrap_id]
  refine c_split (fun hc => ?_) (fun hc => ?_)
  · have hR : R < 36 := by simp at hc; omega
    have Rx : ((R : Int) + 1) = ((R + 1 : Nat) : Int) := by omega
    simp -implicitDefEqProofs (disch := omega) [wrap_id]
    refine loop_eq (fun q : Nat × List Int => ⟨[(3, .ref 0 0), (7, .ms 1 0 36 1), (8, I (R : Int)), (9, I (q.1 : Int))], [.cells [I b.P, LLs g b.s], .cells (q.2.map fun n => I n)]⟩) (fun q => q.1 ≤ n ∧ InvP n b.S (one, two) R q.1 0 0 q.2) (fun q => n - q.1) (0, M) ⟨by omega, c2⟩ rfl ?_
    rintro ⟨i, M1⟩ ⟨d1, d2⟩
    simp only at d1 d2 ⊢
    refine hideK' fun K1 hK1 => ?_
    simp -implicitDefEqProofs (disch := omega) [wrap_id, hP]
    refine c_split (fun hc => ?_) (fun hc => ?_)
    · have hi : i < n := by simp at hc; omega
      have ix : ((i : Int) + 1) = ((i + 1 : Nat) : Int) := by omega
      simp -implicitDefEqProofs (disch := omega) [wrap_id]
      refine loop_eq (fun q : Nat × List Int => ⟨[(3, .ref 0 0), (7, .ms 1 0 36 1), (8, I (R : Int)), (9, I (i : Int)), (10, I (q.1 : Int))], [.cells [I b.P, LLs g b.s], .cells (q.2.map fun n => I n)]⟩) (fun q => q.1 ≤ n ∧ InvP n b.S (one, two) R i q.1 0 q.2) (fun q => n - q.1) (0, M1) ⟨by omega, d2⟩ (by simp only [hP]; rfl) ?_
      rintro ⟨k, M2⟩ ⟨f1, f2⟩
      simp only at f1 f2 ⊢
      refine hideK' fun K2 hK2 => ?_
      simp -implicitDefEqProofs (disch := omega) [wrap_id, hP]
      refine c_split (fun hc => ?_) (fun hc => ?_)
      · have hk : k < n := by simp at hc; omega
        have kx : ((k : Int) + 1) = ((k + 1 : Nat) : Int) := by omega
        simp -implicitDefEqProofs (disch := omega) [wrap_id]
        refine loop_eq (fun q : Nat × List Int => ⟨[(3, .ref 0 0), (7, .ms 1 0 36 1), (8, I (R : Int)), (9, I (i : Int)), (10, I (k : Int)), (11, I (q.1 : Int))], [.cells [I b.P, LLs g b.s], .cells (q.2.map fun n => I n)]⟩) (fun q => q.1 ≤ b.s.length ∧ InvP n b.S (one, two) R i k q.1 q.2) (fun q => b.s.length - q.1) (0, M2) ⟨by omega, f2⟩ (by simp only [hP]; rfl) ?_
        rintro ⟨s, M3⟩ ⟨m1, m2⟩
        simp only at m1 m2 ⊢
        refine hideK' fun K3 hK3 => ?_
        simp -implicitDefEqProofs (disch := omega) [wrap_id]
        refine c_split (fun hc => ?_) (fun hc => ?_)
        · have hs : s < b.s.length := by simp at hc; omega
          have sx : ((s : Int) + 1) = ((s + 1 : Nat) : Int) := by omega
          have ps := hb.at hs
          have hl := m2.1.len
          have li : i < b.s[s].2.length := by rw [ps.len]; exact hi
          have lk : k < b.s[s].2.length := by rw [ps.len]; exact hk
          have st := m2.step hS h6 hq hi hk (by rw [S_len]; exact hs) (S_getD hs)
          have g1 := sg_at li
          have g2 := sg_at lk
          have r1 := ps.rng _ (List.getElem_mem li)
          have r2 := ps.rng _ (List.getElem_mem lk)
          have v1 : b.s[s].2[i] = ((sg b.s[s].2 i : Nat) : Int) := by omega
          have v2 : b.s[s].2[k] = ((sg b.s[s].2 k : Nat) : Int) := by omega
          have x1 : sg b.s[s].2 i < n := by omega
          have x2 : sg b.s[s].2 k < n := by omega
          generalize sg b.s[s].2 i = x at *
          generalize sg b.s[s].2 k = y at *
          have t1 : (6 * (i : Int) + k).toNat = 6 * i + k := by omega
          have t2 : (6 * (x : Int) + y).toNat = 6 * x + y := by omega
          have y1 : 6 * i + k < M3.length := by omega
          have y2 : 6 * x + y < M3.length := by omega
          simp -implicitDefEqProofs (disch := omega) [wrap_id, cells_lls, cells_ls, hs, li, lk, v1, v2, cmp2, nthT, t1, t2, y1, y2]
          have e1 : M3.getD (6 * i + k) 0 = M3[6 * i + k] := by rw [List.getD_eq_getElem?_getD, List.getElem?_eq_getElem y1]; rfl
          have e2 : M3.getD (6 * x + y) 0 = M3[6 * x + y] := by rw [List.getD_eq_getElem?_getD, List.getElem?_eq_getElem y2]; rfl
          rw [e1, e2] at st
          refine ⟨⟨by omega, by omega⟩, ?_⟩
          have z2 : 6 * x + y < (M3.set (6 * i + k) 1).length := by simpa using y2
          have w1 : 6 * (i : Int) + k < 36 := by omega
          have w2 : 6 * (x : Int) + y < 36 := by omega
          by_cases c1 : M3[6 * i + k] = 1
          · rw [if_pos (.inl c1)] at st
            simp -implicitDefEqProofs (disch := omega) [wrap_id, c1, t1, t2, y1, y2, w1, w2]
            rw [put_ls y1]
            refine ⟨by omega, by omega, ?_⟩
            simp -implicitDefEqProofs (disch := omega) [wrap_id, t2, y2, w2]
            rw [put_ls2 y2]
            refine ⟨by omega, by omega, ?_⟩
            rw [hK3]
            exact next_eq (s + 1, _) ⟨by simp only; omega, st⟩ (by simp only; omega) (by simp only [sx])
          · by_cases c2 : M3[6 * x + y] = 1
            · rw [if_pos (.inr c2)] at st
              have c1' : (M3[6 * i + k] == 1) = false := by simpa using c1
              simp -implicitDefEqProofs (disch := omega) [wrap_id, c1', c2, t1, t2, y1, y2, w1, w2, cells_ls]
              rw [put_ls y1]
              refine ⟨by omega, by omega, by omega, ?_⟩
              simp -implicitDefEqProofs (disch := omega) [wrap_id, t2, y2, w2]
              rw [put_ls2 y2]
              refine ⟨by omega, by omega, ?_⟩
              rw [hK3]
              exact next_eq (s + 1, _) ⟨by simp only; omega, st⟩ (by simp only; omega) (by simp only [sx])
            · rw [if_neg (by simp only [c1, c2, or_self, not_false_eq_true])] at st
              have c1' : (M3[6 * i + k] == 1) = false := by simpa using c1
              have c2' : (M3[6 * x + y] == 1) = false := by simpa using c2
              simp -implicitDefEqProofs (disch := omega) [wrap_id, c1', c2', t1, t2, y1, y2, w1, w2, cells_ls]
              refine ⟨by omega, ?_⟩
              rw [hK3]
              exact next_eq (s + 1, M3) ⟨by simp only; omega, st⟩ (by simp only; omega) (by simp only [sx])
        · have hs : s = b.s.length := by simp at hc; omega
          subst hs
          subst hK3
          simp -implicitDefEqProofs (disch := omega) [wrap_id]
          rw [hK2]
          have m3 := m2
          rw [← S_len] at m3
          exact next_eq (k + 1, M3) ⟨by simp only; omega, m3.k⟩ (by simp only; omega) (by simp only [kx])
      · have hk : k = n := by simp at hc; omega
        subst hk
        subst hK2
        simp -implicitDefEqProofs (disch := omega) [wrap_id]
        rw [hK1]
        exact next_eq (i + 1, M2) ⟨by simp only; omega, f2.i⟩ (by simp only; omega) (by simp only [ix, hP])
    · have hi : i = n := by simp at hc; omega
      subst hi
      subst hK1
      simp -implicitDefEqProofs (disch := omega) [wrap_id]
      rw [hK0]
      exact next_eq (R + 1, M1) ⟨by simp only; omega, d2.R⟩ (by simp only; omega) (by simp only [Rx, hP])
  · have hR : R = 36 := by simp at hc; omega
    subst hR
    subst hK0
    have fin := fun {i k : Nat} (hi : i < n) (hk : k < n) => c2.fin h6 hq hi hk
    have hl := c2.1.len
    simp -implicitDefEqProofs (disch := omega) [wrap_id]
    refine loop_eq (fun q : Nat × AV × List HObj => ⟨[(3, .ref 0 0), (7, .ms 1 0 36 1), (14, q.2.1), (15, I (q.1 : Int))], q.2.2⟩) (fun q => q.1 ≤ n ∧ nthH q.2.2 0 = some (.cells [I b.P, LLs g b.s]) ∧ nthH q.2.2 1 = some (.cells (M.map fun n => I n)) ∧ AccP q.2.2 q.2.1 (prsL (prsTo n q.1 0) p) ∧ rid q.2.1 ≠ some 0 ∧ rid q.2.1 ≠ some 1) (fun q => n - q.1) (0, .sl true 0 [], [.cells [I b.P, LLs g b.s], .cells (M.map fun n => I n)]) ⟨by omega, rfl, rfl, AccG.nil, by simp [rid], by simp [rid]⟩ rfl ?_
    rintro ⟨i, x, H⟩ ⟨d1, d2, d3, d4, d5, d6⟩
    simp only at d1 d2 d3 d4 d5 d6 ⊢
    refine hideK' fun K1 hK1 => ?_
    simp -implicitDefEqProofs (disch := omega) [wrap_id, hP, d2]
    refine c_split (fun hc => ?_) (fun hc => ?_)
    · have hi : i < n := by simp at hc; omega
      have ix : ((i : Int) + 1) = ((i + 1 : Nat) : Int) := by omega
      simp -implicitDefEqProofs (disch := omega) [wrap_id]
      refine loop_eq (fun q : Nat × AV × List HObj => ⟨[(3, .ref 0 0), (7, .ms 1 0 36 1), (14, q.2.1), (15, I (i : Int)), (16, I (q.1 : Int))], q.2.2⟩) (fun q => q.1 ≤ n ∧ nthH q.2.2 0 = some (.cells [I b.P, LLs g b.s]) ∧ nthH q.2.2 1 = some (.cells (M.map fun n => I n)) ∧ AccP q.2.2 q.2.1 (prsL (prsTo n i q.1) p) ∧ rid q.2.1 ≠ some 0 ∧ rid q.2.1 ≠ some 1) (fun q => n - q.1) (0, x, H) ⟨by omega, d2, d3, d4, d5, d6⟩ rfl ?_
      rintro ⟨k, y, H2⟩ ⟨f1, f2, f3, f4, f5, f6⟩
      simp only at f1 f2 f3 f4 f5 f6 ⊢
      refine hideK' fun K2 hK2 => ?_
      simp -implicitDefEqProofs (disch := omega) [wrap_id, hP, f2]
      refine c_split (fun hc => ?_) (fun hc => ?_)
      · have hk : k < n := by simp at hc; omega
        have kx : ((k : Int) + 1) = ((k + 1 : Nat) : Int) := by omega
        have t1 : (6 * (i : Int) + k).toNat = 6 * i + k := by omega
        have y1 : 6 * i + k < M.length := by omega
        have u2 : 6 * (i : Int) + k < 36 := by omega
        have fk := (fin hi hk).trans (hp (i, k) hi hk).symm
        have e1 : M.getD (6 * i + k) 0 = M[6 * i + k] := by rw [List.getD_eq_getElem?_getD, List.getElem?_eq_getElem y1]; rfl
        rw [e1] at fk
        have sn := prsL_snoc (l := prsTo n i k) (p := p) (q := (i, k))
        rw [← prsTo_k] at sn
        simp -implicitDefEqProofs (disch := omega) [wrap_id, f3, t1, y1, u2, cells_ls]
        refine ⟨by omega, c_split (fun hm => ?_) (fun hm => ?_)⟩
        · have hpk := fk.1 (by simpa using hm)
          rw [if_pos hpk] at sn
          simp -implicitDefEqProofs (disch := omega) [wrap_id, f3]
          refine bsl_of (ys := [.agg [I (i : Int), I (k : Int)]]) rfl rfl ?_
          simp -implicitDefEqProofs (disch := omega) [wrap_id, zrep]
          refine app_accG (ys := [I (i : Int), I (k : Int)]) f4 (by have := prsTo_le h6 (show i ≤ 6 by omega) (show k ≤ 6 by omega) p; omega) (by decide) rfl rfl fun ws w1 w2 w3 => ?_
          simp -implicitDefEqProofs (disch := omega) [wrap_id]
          rw [hK2]
          have l0 := nthH_lt f2
          have l1 := nthH_lt f3
          refine next_eq (k + 1, .ms H2.length 0 ((prsL (prsTo n i k) p).length + 1) 2, writeL H2 ws) ⟨by simp only; omega, (w1 0 l0 f5).trans f2, (w1 1 l1 f6).trans f3, ?_, ?_, ?_⟩ (by simp only; omega) (by simp only [kx])
          · simp only [sn]
            unfold AccP
            rw [flat2_app, List.length_append]
            exact w3
          · simp only [rid]; intro e; injection e; omega
          · simp only [rid]; intro e; injection e; omega
        · have hpk : ¬ p (i, k) = true := fun e => by have := fk.2 e; simp [this] at hm
          rw [if_neg hpk, List.append_nil] at sn
          simp -implicitDefEqProofs (disch := omega) [wrap_id]
          rw [hK2]
          exact next_eq (k + 1, y, H2) ⟨by simp only; omega, f2, f3, by simp only [sn]; exact f4, f5, f6⟩ (by simp only; omega) (by simp only [kx])
      · have hk : k = n := by simp at hc; omega
        subst hk
        subst hK2
        simp -implicitDefEqProofs (disch := omega) [wrap_id]
        rw [hK1]
        exact next_eq (i + 1, y, H2) ⟨by simp only; omega, f2, f3, by simp only [← prsTo_i]; exact f4, f5, f6⟩ (by simp only; omega) (by simp only [ix])
    · have hi : i = n := by simp at hc; omega
      subst hi
      subst hK1
      simp -implicitDefEqProofs (disch := omega) [wrap_id]
      rw [prsTo_n] at d4
      exact AccP.out d4
end Go.AM

set_option linter.unusedSimpArgs false
set_option linter.unusedVariables false
namespace Go.AM
open Go.RowKit Go.Proofs
set_option maxHeartbeats 1000000 in
theorem r_ArePlaces_ok (g : Bool) (b : OB) (one two : Int) : PureOK Tryz.prog n_r_ArePlaces [On g b, I one, I two] (B (aplO b one two)) := by
  refine pure_of (walk func_r_ArePlaces form_r_ArePlaces res_r_ArePlaces (by show 3 ≤ _; decide) ?_)
  unfold aplO
  simp -implicitDefEqProofs (disch := omega) [G_r_ArePlaces, wrap_id]
  by_cases h1 : 0 ≤ one
  · by_cases h2 : one < b.P
    · by_cases h3 : 0 ≤ two
      · by_cases h4 : two < b.P
        · by_cases h5 : one = two
          · subst h5
            simp -implicitDefEqProofs (disch := omega) [wrap_id, h1, h2]
          · have h5' : (one != two) = true := by simpa using h5
            simp -implicitDefEqProofs (disch := omega) [wrap_id, h1, h2, h3, h4, h5, h5']
        · simp -implicitDefEqProofs (disch := omega) [wrap_id, h1, h2, h3, h4]
      · simp -implicitDefEqProofs (disch := omega) [wrap_id, h1, h2, h3]
    · simp -implicitDefEqProofs (disch := omega) [wrap_id, h1, h2]
  · simp -implicitDefEqProofs (disch := omega) [wrap_id, h1]
theorem flat2_n1 {c : List (Int × Int)} {i : Nat} (h : i < c.length) : nthA (flat2 c) (i * 2) = some (I c[i].1) := by
  have h := congrArg (fun l => l[0]?) (flat2_view h)
  simp only [List.getElem?_take, List.getElem?_drop] at h
  rw [nthA_eq]
  simpa using h
theorem flat2_n2 {c : List (Int × Int)} {i : Nat} (h : i < c.length) : nthA (flat2 c) (i * 2 + 1) = some (I c[i].2) := by
  have h := congrArg (fun l => l[1]?) (flat2_view h)
  simp only [List.getElem?_take, List.getElem?_drop] at h
  rw [nthA_eq]
  simpa using h
set_option maxHeartbeats 2000000 in
theorem r_times_ok (f g : Bool) (c : List (Int × Int)) (r : List Int) (a d : Int) (hc : c.length ≤ 1000000) (hr : ∀ p ∈ c, 0 ≤ p.1 ∧ p.1 < r.length ∧ 0 ≤ p.2 ∧ p.2 < r.length) : PureOK Tryz.prog n_r_times [Ps f c, Ls g r, .agg [I a, I d]] (I (timS c r a d : Nat)) := by
  refine pure_of (walk func_r_times form_r_times res_r_times (by show 3 ≤ _; decide) ?_)
  simp -implicitDefEqProofs (disch := omega) [G_r_times, wrap_id]
  refine loop_eq (fun i : Nat => ⟨[(0, Ps f c), (1, Ls g r), (5, .ref 0 0), (7, I (((c.take i).countP (timP r a d) : Nat) : Int)), (8, I (i : Int))], [.cells [I a, I d]]⟩) (fun i => i ≤ c.length) (fun i => c.length - i) 0 (Nat.zero_le _) rfl ?_
  intro i hi
  refine hideK' fun K0 hK0 => ?_
  simp -implicitDefEqProofs (disch := omega) [wrap_id]
  refine c_split (fun h => ?_) (fun h => ?_)
  · have hi : i < c.length := by simp at h; omega
    have ix : ((i : Int) + 1) = ((i + 1 : Nat) : Int) := by omega
    have ct := countP_take (p := timP r a d) hi
    have cl : (c.take i).countP (timP r a d) ≤ i := Nat.le_trans List.countP_le_length (by rw [List.length_take]; omega)
    obtain ⟨b1, b2, b3, b4⟩ := hr c[i] (List.getElem_mem hi)
    obtain ⟨x, hx⟩ : ∃ x : Nat, c[i].1 = x := ⟨c[i].1.toNat, by omega⟩
    obtain ⟨y, hy⟩ : ∃ y : Nat, c[i].2 = y := ⟨c[i].2.toNat, by omega⟩
    have e0 : c[i] = ((x : Int), (y : Int)) := Prod.ext hx hy
    have x1 : x < r.length := by omega
    have y1 : y < r.length := by omega
    rw [e0] at ct
    simp only [timP, Int.toNat_natCast, getD_I x1, getD_I y1] at ct
    generalize hq : (c.take i).countP (timP r a d) = m at *
    have mx : ((m : Int) + 1) = ((m + 1 : Nat) : Int) := by omega
    have fl := flat2_len c
    have sp : c.length * 2 = (flat2 c).length := by omega
    have g1 := flat2_n1 hi
    have g2 := flat2_n2 hi
    rw [e0] at g1 g2
    simp only at g1 g2
    by_cases q1 : r[x] = a
    · have q1' : (r[x] == a) = true := by simpa using q1
      by_cases q2 : r[y] = d
      · have q2' : (r[y] == d) = true := by simpa using q2
        rw [q1, q2] at ct
        simp only [decide_true, Bool.and_self, if_true] at ct
        simp -implicitDefEqProofs (disch := omega) [wrap_id, hi, fl, g1, g2, x1, y1, cells_ls, q1', q2', cmp2, nthT]
        rw [hK0]
        exact next_eq (i + 1) (by omega) (by omega) (by simp only [ix, mx, ct])
      · have q2' : (r[y] == d) = false := by simpa using q2
        simp only [decide_eq_false q2, Bool.and_false, Bool.false_eq_true, if_false, Nat.add_zero] at ct
        simp -implicitDefEqProofs (disch := omega) [wrap_id, hi, fl, g1, g2, x1, y1, cells_ls, q1', q2', cmp2, nthT]
        rw [hK0]
        exact next_eq (i + 1) (by omega) (by omega) (by simp only [ix, ct])
    · have q1' : (r[x] == a) = false := by simpa using q1
      simp only [decide_eq_false q1, Bool.false_and, Bool.false_eq_true, if_false, Nat.add_zero] at ct
      simp -implicitDefEqProofs (disch := omega) [wrap_id, hi, fl, g1, g2, x1, y1, cells_ls, q1', cmp2, nthT]
      rw [hK0]
      exact next_eq (i + 1) (by omega) (by omega) (by simp only [ix, ct])
  · have hi : i = c.length := by simp at h; omega
    subst hi
    subst hK0
    simp -implicitDefEqProofs (disch := omega) [wrap_id, timS]
theorem r_PairsOf_ok' (g : Bool) {b : OB} {n : Nat} (hb : Okb b n) {one two : Int} (ha : aplO b one two = true) {pp : Nat × Nat → Nat × Nat → Bool} (hp : PPok b pp) :
    PureOK Tryz.prog n_r_PairsOf [On g b, I one, I two] (Ps (prsV b one two pp).isEmpty (prsV b one two pp)) := by
  unfold aplO at ha
  have ha := of_decide_eq_true ha
  have hP := hb.P
  obtain ⟨x, rfl⟩ : ∃ x : Nat, one = x := ⟨one.toNat, by omega⟩
  obtain ⟨y, rfl⟩ : ∃ y : Nat, two = y := ⟨two.toNat, by omega⟩
  have eP : b.P.toNat = n := by omega
  unfold prsV
  rw [eP]
  exact r_PairsOf_ok g hb (by omega) (by omega) fun q q1 q2 => hp n hb (x, y) q (by simp only; omega) (by simp only; omega) q1 q2
set_option maxHeartbeats 2000000 in
theorem r_CheckPair_ok (g f h : Bool) (b : OB) (hz : SzO b) (r x : List Int) (hr : r.length ≤ 1000000) (hx : x.length ≤ 1000000) (one two c d : Int) {pp : Nat × Nat → Nat × Nat → Bool} (hp : PPok b pp) :
    PureOK Tryz.prog n_r_CheckPair [On g b, Ls f r, Ls h x, Pt one two c d] (I (ckpE b r x one two c d pp)) := by
  refine pure_of (walk func_r_CheckPair form_r_CheckPair res_r_CheckPair (by show 4 ≤ _; decide) ?_)
  simp -implicitDefEqProofs (disch := omega) [G_r_CheckPair, wrap_id]
  refine callW_pure rfl (r_Rows_ok g f h b hz r x hr hx) ?_
  by_cases h0 : rwsE b r x = 0
  · obtain ⟨n, hb, lr, lx, _, _⟩ := rws_ok h0
    have h6 := hb.hi
    simp -implicitDefEqProofs (disch := omega) [wrap_id, h0]
    refine callW_pure rfl (r_ArePlaces_ok g b one two) ?_
    cases ha : aplO b one two with
    | false =>
      have e : ckpE b r x one two c d pp = 3 := by unfold ckpE; rw [if_neg (by omega), if_pos (.inl ha)]
      simp -implicitDefEqProofs (disch := omega) [wrap_id, e]
    | true =>
      have bad : colO c d = false → ckpE b r x one two c d pp = 3 := fun hc => by unfold ckpE; rw [if_neg (by omega), if_pos (.inr hc)]
      by_cases q1 : c < 0
      · have e := bad (decide_eq_false (by omega))
        simp -implicitDefEqProofs (disch := omega) [wrap_id, e, q1]
      by_cases q2 : 5 < c
      · have e := bad (decide_eq_false (by omega))
        simp -implicitDefEqProofs (disch := omega) [wrap_id, e, q1, q2]
      by_cases q3 : d < 0
      · have e := bad (decide_eq_false (by omega))
        simp -implicitDefEqProofs (disch := omega) [wrap_id, e, q1, q2, q3]
      by_cases q4 : 5 < d
      · have e := bad (decide_eq_false (by omega))
        simp -implicitDefEqProofs (disch := omega) [wrap_id, e, q1, q2, q3, q4]
      have hc : colO c d = true := decide_eq_true (by omega)
      have pl := prsV_len hb (one := one) (two := two) (pp := pp)
      have pr := prsV_rng hb (one := one) (two := two) (pp := pp)
      simp -implicitDefEqProofs (disch := omega) [wrap_id, q1, q2, q3, q4]
      refine callW_pure rfl (r_PairsOf_ok' g hb ha hp) ?_
      simp -implicitDefEqProofs (disch := omega) [wrap_id]
      refine pureW_of rfl (r_times_ok _ f (prsV b one two pp) r c d (by omega) (by rw [lr]; exact pr)) ?_
      simp -implicitDefEqProofs (disch := omega) [wrap_id]
      refine pureW_of rfl (r_times_ok _ h (prsV b one two pp) x c d (by omega) (by rw [lx]; exact pr)) ?_
      have e : ckpE b r x one two c d pp = if timS (prsV b one two pp) r c d = timS (prsV b one two pp) x c d then 14 else 0 := by unfold ckpE; rw [if_neg (by omega), if_neg (by simp [ha, hc])]
      rw [e]
      by_cases ht : timS (prsV b one two pp) r c d = timS (prsV b one two pp) x c d
      · simp -implicitDefEqProofs (disch := omega) [wrap_id, cmp2, nthT, ht]
      · have ht' : (((timS (prsV b one two pp) r c d : Nat) : Int) == ((timS (prsV b one two pp) x c d : Nat) : Int)) = false := by simp only [beq_eq_false_iff_ne, ne_eq]; omega
        simp -implicitDefEqProofs (disch := omega) [wrap_id, cmp2, nthT, ht, ht']
  · have e1 : ckpE b r x one two c d pp = rwsE b r x := by unfold ckpE; rw [if_pos h0]
    have h0' : (rwsE b r x != 0) = true := by simpa using h0
    simp -implicitDefEqProofs (disch := omega) [wrap_id, h0', e1]
    refine callW_pure rfl (r_Rows_ok g f h b hz r x hr hx) ?_
    simp -implicitDefEqProofs (disch := omega) [wrap_id]
end Go.AM

set_option linter.unusedSimpArgs false
set_option linter.unusedVariables false
namespace Go.AM
open Go.RowKit Go.Proofs
theorem ckp_tst {b : OB} {n : Nat} (hb : Okb b n) {r x : List Int} (h0 : rwsE b r x = 0) {pp : Nat × Nat → Nat × Nat → Bool} {i k c : Nat} (hi : i < n) (hk : k < n) (hc : c < 36) (hne : i ≠ k) :
    tstO b r x pp (i, k, c) = decide (ckpE b r x i k (c / 6 : Nat) (c % 6 : Nat) pp = 0) := by
  have hP := hb.P
  have ha : aplO b i k = true := decide_eq_true (by omega)
  have hcc : colO ((c / 6 : Nat) : Int) ((c % 6 : Nat) : Int) = true := by
    unfold colO
    rw [decide_eq_true_iff]
    have h1 : c / 6 ≤ 5 := by omega
    have h2 : c % 6 ≤ 5 := by omega
    generalize c / 6 = u at *
    generalize c % 6 = v at *
    omega
  unfold tstO ckpE
  rw [if_neg (by omega), if_neg (fun h => h.elim (fun h => by rw [ha] at h; cases h) (fun h => by rw [hcc] at h; cases h))]
  simp only [decide_eq_true hne, Bool.true_and]
  split
  · rename_i e; rw [decide_eq_false (fun h => h e), decide_eq_false (by decide)]
  · rename_i e; rw [decide_eq_true e, decide_eq_true rfl]
end Go.AM

set_option linter.unusedSimpArgs false
set_option linter.unusedVariables false
namespace Go.AM
open Go.RowKit Go.Proofs
theorem getD_snd {l : List (Bool × List Int)} {k : Nat} (h : k < l.length) : (l.map (·.2)).getD k [] = l[k].2 := by
  rw [List.getD_eq_getElem?_getD, List.getElem?_map, List.getElem?_eq_getElem h]; rfl
end Go.AM

set_option linter.unusedSimpArgs false
set_option linter.unusedVariables false
namespace Go.AM
open Go.RowKit Go.Proofs
theorem fnd_con {l : List (Bool × List Int)} {r : List Int} : (0 ≤ fnd l r) ↔ (l.map (·.2)).contains r = true := by
  have := idxI_any (fun p : Bool × List Int => decide (p.2 = r)) l
  have e : (l.map (·.2)).contains r = l.any (fun p => decide (p.2 = r)) := by
    rw [Bool.eq_iff_iff]
    simp only [List.contains_eq_mem, decide_eq_true_eq, List.any_eq_true, List.mem_map]
  rw [e, ← this]
  simp [fnd]
set_option maxHeartbeats 8000000 in
theorem r_CheckClosed_ok (g f h q : Bool) (b : OB) (hz : SzO b) (r x : List Int) (rows : List (Bool × List Int)) (hr : r.length ≤ 1000000) (hx : x.length ≤ 1000000) (hl : rows.length ≤ 1000000) (hlz : ∀ p ∈ rows, p.2.length ≤ 1000000) :
    PureOK Tryz.prog n_r_CheckClosed [On g b, Ls f r, Ls h x, LLs q rows] (I (cclE b r x (rows.map (·.2)))) := by
  refine pure_of (walk func_r_CheckClosed form_r_CheckClosed res_r_CheckClosed (by show 4 ≤ _; decide) ?_)
  have hm : (rows.map (·.2)).length = rows.length := List.length_map _
  generalize hR : rows.map (·.2) = R at *
  simp -implicitDefEqProofs (disch := omega) [G_r_CheckClosed, wrap_id]
  refine callW_pure rfl (r_Rows_ok g f h b hz r x hr hx) ?_
  by_cases h0 : rwsE b r x = 0
  · obtain ⟨n, hb, lr, lx, o1, o2⟩ := rws_ok h0
    have h6 := hb.hi
    have hmany := hb.many
    simp -implicitDefEqProofs (disch := omega) [wrap_id, h0]
    by_cases h1 : 720 < rows.length
    · have h1' : (720 : Int) < rows.length := by omega
      have e : cclE b r x R = 6 := by unfold cclE; rw [if_neg (by omega), if_pos (by omega)]
      simp -implicitDefEqProofs (disch := omega) [wrap_id, h1', e]
    have h1' : ¬ (720 : Int) < rows.length := by omega
    have e1 : cclE b r x R = if (R.all (rowO b)) = false then 3 else if srtO R = false then 3 else if R.contains r = false ∨ R.contains x = true then 14 else if clsO b R = false then 14 else 0 := by
      unfold cclE; rw [if_neg (by omega), if_neg (by omega)]
    generalize cclE b r x R = E at e1 ⊢
    simp -implicitDefEqProofs (disch := omega) [wrap_id, h1']
    refine loop_eq (fun i : Nat => ⟨[(1, Ls f r), (2, Ls h x), (3, LLs q rows), (4, .ref 0 0), (9, I (i : Int))], [.cells [I b.P, LLs g b.s]]⟩) (fun i => i ≤ rows.length ∧ ∀ k (hk : k < rows.length), k < i → rowO b rows[k].2 = true) (fun i => rows.length - i) 0 ⟨Nat.zero_le _, fun k _ h => by omega⟩ rfl ?_
    rintro i ⟨c1, c2⟩
    refine hideK' fun K0 hK0 => ?_
    simp -implicitDefEqProofs (disch := omega) [wrap_id]
    refine c_split (fun hc => ?_) (fun hc => ?_)
    · have hi : i < rows.length := by simpa using hc
      have ix : ((i : Int) + 1) = ((i + 1 : Nat) : Int) := by omega
      simp -implicitDefEqProofs (disch := omega) [wrap_id, hi, cells_lls]
      refine pureW_of rfl (r_IsRow_ok g rows[i].1 b rows[i].2 (hlz _ (List.getElem_mem hi))) ?_
      cases ho : rowO b rows[i].2 with
      | true =>
        simp -implicitDefEqProofs (disch := omega) [wrap_id, cmp2, nthT]
        rw [hK0]
        refine next_eq (i + 1) ⟨by omega, fun k hk hlt => ?_⟩ (by omega) (by simp only [ix])
        by_cases ek : k = i
        · subst ek; exact ho
        · exact c2 k hk (by omega)
      | false =>
        have ha : (R.all (rowO b)) = false := by
          rw [List.all_eq_false]
          refine ⟨rows[i].2, ?_, by simp [ho]⟩
          rw [← hR]; exact List.mem_map.2 ⟨_, List.getElem_mem hi, rfl⟩
        rw [if_pos ha] at e1
        subst e1
        subst hK0
        simp -implicitDefEqProofs (disch := omega) [wrap_id, cmp2, nthT]
    · have hi : i = rows.length := by simp at hc; omega
      subst hi
      have ha : (R.all (rowO b)) = true := by
        rw [List.all_eq_true, ← hR]
        intro y hy
        obtain ⟨p, hp, rfl⟩ := List.mem_map.1 hy
        obtain ⟨k, hk, rfl⟩ := List.getElem_of_mem hp
        exact c2 k hk hk
      have len : ∀ p ∈ rows, p.2.length = n := fun p hp => by
        obtain ⟨k, hk, rfl⟩ := List.getElem_of_mem hp
        exact rowO_len hb (c2 k hk hk)
      rw [if_neg (by simp [ha])] at e1
      subst hK0
      simp -implicitDefEqProofs (disch := omega) [wrap_id]
      refine loop_eq (fun i : Nat => ⟨[(1, Ls f r), (2, Ls h x), (3, LLs q rows), (4, .ref 0 0), (10, I (i : Int))], [.cells [I b.P, LLs g b.s]]⟩) (fun i => 1 ≤ i ∧ i ≤ max 1 rows.length ∧ ∀ k, k + 1 < i → frst (R.getD k []) (R.getD (k + 1) []) = true) (fun i => rows.length + 1 - i) 1 ⟨Nat.le_refl _, by omega, fun k h => by omega⟩ rfl ?_
      clear c2 c1 hc
      rintro i ⟨d1, d2, d3⟩
      refine hideK' fun K1 hK1 => ?_
      simp -implicitDefEqProofs (disch := omega) [wrap_id]
      refine c_split (fun hc => ?_) (fun hc => ?_)
      · have hi : i < rows.length := by simpa using hc
        have ix : ((i : Int) + 1) = ((i + 1 : Nat) : Int) := by omega
        obtain ⟨j, rfl⟩ : ∃ j, i = j + 1 := ⟨i - 1, by omega⟩
        have hj : j < rows.length := by omega
        have jx : (((j + 1 : Nat) : Int) - 1) = (j : Int) := by omega
        have lj := len _ (List.getElem_mem hj)
        have li := len _ (List.getElem_mem hi)
        have gj : R.getD j [] = rows[j].2 := by rw [← hR]; exact getD_snd hj
        have gi : R.getD (j + 1) [] = rows[j + 1].2 := by rw [← hR]; exact getD_snd hi
        generalize hm1 : ((j + 1 : Nat) : Int) = m1 at *
        have m1n : m1.toNat = j + 1 := by omega
        simp -implicitDefEqProofs (disch := omega) [wrap_id, hi, hj, cells_lls, jx, m1n]
        refine ⟨⟨by omega, by omega⟩, pureW_of rfl (r_First_ok _ _ rows[j].2 rows[j + 1].2 (by omega) (by omega)) ?_⟩
        cases hf : frst rows[j].2 rows[j + 1].2 with
        | true =>
          simp -implicitDefEqProofs (disch := omega) [wrap_id, cmp2, nthT]
          rw [hK1]
          refine next_eq (j + 1 + 1) ⟨by omega, by omega, fun k hk => ?_⟩ (by omega) (by rw [← hm1] at ix; simp only [← hm1, ix])
          by_cases ek : k = j
          · subst ek; rw [gj, gi]; exact hf
          · exact d3 k (by omega)
        | false =>
          have hs : srtO R = false := by
            unfold srtO
            rw [List.all_eq_false]
            refine ⟨j, List.mem_range.2 (by omega), by rw [gj, gi]; simp [hf]⟩
          rw [if_pos hs] at e1
          subst e1
          subst hK1
          simp -implicitDefEqProofs (disch := omega) [wrap_id, cmp2, nthT]
      · have hi : max 1 rows.length = i := by simp at hc; omega
        have hs : srtO R = true := by
          unfold srtO
          rw [List.all_eq_true]
          intro k hk
          have := List.mem_range.1 hk
          exact d3 k (by omega)
        rw [if_neg (by simp [hs])] at e1
        subst hK1
        have fz : ∀ y : List Int, y.length ≤ 1000000 → ∀ fy, PureOK Tryz.prog n_r_find [LLs q rows, Ls fy y] (I (fnd rows y)) := fun y hy fy => r_find_ok q fy rows y hl hlz hy
        have fr := fnd_con (l := rows) (r := r)
        have fx := fnd_con (l := rows) (r := x)
        rw [hR] at fr fx
        simp -implicitDefEqProofs (disch := omega) [wrap_id]
        refine callW_pure rfl (fz r hr f) ?_
        by_cases q1 : fnd rows r < 0
        · have c1 : R.contains r = false := by cases e : R.contains r with
            | false => rfl
            | true => have := fr.2 e; omega
          rw [if_pos (.inl c1)] at e1
          subst e1
          simp -implicitDefEqProofs (disch := omega) [wrap_id, q1]
        simp -implicitDefEqProofs (disch := omega) [wrap_id, q1]
        refine callW_pure rfl (fz x hx h) ?_
        by_cases q2 : 0 ≤ fnd rows x
        · rw [if_pos (.inr (fx.1 q2))] at e1
          subst e1
          simp -implicitDefEqProofs (disch := omega) [wrap_id, q2]
        have c1 : R.contains r = true := fr.1 (by omega)
        have c2 : R.contains x = false := by cases e : R.contains x with
          | false => rfl
          | true => have := fx.2 e; omega
        rw [if_neg (fun h => h.elim (fun h => by rw [c1] at h; cases h) (fun h => by rw [c2] at h; cases h))] at e1
        simp -implicitDefEqProofs (disch := omega) [wrap_id, q2]
        refine loop_eq (fun i : Nat => ⟨[(3, LLs q rows), (4, .ref 0 0), (11, I (i : Int))], [.cells [I b.P, LLs g b.s]]⟩) (fun i => i ≤ rows.length ∧ ∀ k, k < i → ∀ s, s < b.s.length → R.contains (aft (b.S.getD s []) (R.getD k [])) = true) (fun i => rows.length - i) 0 ⟨Nat.zero_le _, fun k h => by omega⟩ rfl ?_
        clear d1 d2 d3 hc hi
        rintro i ⟨d1, d2⟩
        refine hideK' fun K2 hK2 => ?_
        simp -implicitDefEqProofs (disch := omega) [wrap_id]
        refine c_split (fun hc => ?_) (fun hc => ?_)
        · have hi : i < rows.length := by simpa using hc
          have ix : ((i : Int) + 1) = ((i + 1 : Nat) : Int) := by omega
          have li := len _ (List.getElem_mem hi)
          have gi : R.getD i [] = rows[i].2 := by rw [← hR]; exact getD_snd hi
          simp -implicitDefEqProofs (disch := omega) [wrap_id]
          refine loop_eq (fun s : Nat => ⟨[(3, LLs q rows), (4, .ref 0 0), (11, I (i : Int)), (12, I (s : Int))], [.cells [I b.P, LLs g b.s]]⟩) (fun s => s ≤ b.s.length ∧ ∀ t, t < s → R.contains (aft (b.S.getD t []) (R.getD i [])) = true) (fun s => b.s.length - s) 0 ⟨Nat.zero_le _, fun k h => by omega⟩ rfl ?_
          rintro s ⟨g1, g2⟩
          refine hideK' fun K3 hK3 => ?_
          simp -implicitDefEqProofs (disch := omega) [wrap_id]
          refine c_split (fun hc => ?_) (fun hc => ?_)
          · have hs2 : s < b.s.length := by simpa using hc
            have sx : ((s : Int) + 1) = ((s + 1 : Nat) : Int) := by omega
            have pk := hb.at hs2
            have gS := S_getD hs2
            have af := r_After_ok b.s[s].1 rows[i].1 b.s[s].2 rows[i].2 (by omega) (by rw [li]; exact pk.len) (fun x hx => by rw [li]; exact pk.rng x hx)
            have ln : (aft b.s[s].2 rows[i].2).length = n := by rw [aft_len]; exact pk.len
            have lo := hb.lo
            rw [ne_emp ln (by omega)] at af
            have fc := fnd_con (l := rows) (r := aft b.s[s].2 rows[i].2)
            rw [hR] at fc
            simp -implicitDefEqProofs (disch := omega) [wrap_id, hs2, hi, cells_lls]
            refine pureW_of rfl af ?_
            simp -implicitDefEqProofs (disch := omega) [wrap_id]
            refine pureW_of rfl (fz _ (by omega) false) ?_
            by_cases q3 : fnd rows (aft b.s[s].2 rows[i].2) < 0
            · have c3 : R.contains (aft b.s[s].2 rows[i].2) = false := by cases e : R.contains (aft b.s[s].2 rows[i].2) with
                | false => rfl
                | true => have := fc.2 e; omega
              have cl : clsO b R = false := by
                unfold clsO
                rw [List.all_eq_false]
                refine ⟨rows[i].2, by rw [← hR]; exact List.mem_map.2 ⟨_, List.getElem_mem hi, rfl⟩, ?_⟩
                simp only [Bool.not_eq_true]
                rw [List.all_eq_false]
                exact ⟨b.s[s].2, List.mem_map.2 ⟨_, List.getElem_mem hs2, rfl⟩, by simp only [Bool.not_eq_true]; exact c3⟩
              rw [if_pos cl] at e1
              subst e1
              subst hK3
              subst hK2
              simp -implicitDefEqProofs (disch := omega) [wrap_id, cmp2, nthT, q3]
            · have c3 := fc.1 (by omega)
              simp -implicitDefEqProofs (disch := omega) [wrap_id, cmp2, nthT, q3]
              rw [hK3]
              refine next_eq (s + 1) ⟨by omega, fun t ht => ?_⟩ (by omega) (by simp only [sx])
              by_cases et : t = s
              · subst et; rw [gS, gi]; exact c3
              · exact g2 t (by omega)
          · have hs2 : s = b.s.length := by simp at hc; omega
            subst hs2
            subst hK3
            simp -implicitDefEqProofs (disch := omega) [wrap_id]
            rw [hK2]
            refine next_eq (i + 1) ⟨by omega, fun k hk s hs => ?_⟩ (by omega) (by simp only [ix])
            by_cases ek : k = i
            · subst ek; exact g2 s hs
            · exact d2 k (by omega) s hs
        · have hi : i = rows.length := by simp at hc; omega
          subst hi
          have cl : clsO b R = true := by
            unfold clsO
            rw [List.all_eq_true]
            intro y hy
            obtain ⟨k, hk, rfl⟩ := mem_getD (d := []) hy
            rw [List.all_eq_true]
            intro s hs
            obtain ⟨t, ht, rfl⟩ := mem_getD (d := []) hs
            exact d2 k (by omega) t (by rw [S_len] at ht; exact ht)
          rw [if_neg (by simp [cl])] at e1
          subst e1
          subst hK2
          simp -implicitDefEqProofs (disch := omega) [wrap_id]
  · have e1 : cclE b r x R = rwsE b r x := by unfold cclE; rw [if_pos h0]
    have h0' : (rwsE b r x != 0) = true := by simpa using h0
    simp -implicitDefEqProofs (disch := omega) [wrap_id, h0', e1]
    refine callW_pure rfl (r_Rows_ok g f h b hz r x hr hx) ?_
    simp -implicitDefEqProofs (disch := omega) [wrap_id]
end Go.AM

set_option maxRecDepth 100000
namespace Go.AM
open Go.RowKit Go.Proofs
abbrev n_l_OrderEither : Nat := 7
def G_l_OrderEither : AC := (.seq (.rgn [⟨none, [(.box 6 2 (.t 0)), (.box 11 4 (.t 5)), (.mv 12 (.k (B false)))]⟩] [1, 2, 3, 4, 6, 11]) (.seq (.seq (.rgn [⟨none, [(.ld 26 true 2 (.t 6)), (.call 27 47 [(.t 26)]), (.un 28 .not (.t 27)), (.mv 29 (.t 28))]⟩, ⟨(some (29, false)), [(.mv 30 (.t 1)), (.mv 31 (.t 2)), (.bsl 32 2 1 [(.sl true 0 [])] [(0, (.t 30)), (1, (.t 31))]), (.call 33 48 [(.t 32)]), (.un 34 .not (.t 33))]⟩, ⟨none, [(.pick 35 (.t 29) (.k (B true)) (.t 34)), (.mv 36 (.t 35))]⟩, ⟨(some (36, false)), [(.mv 37 (.t 4)), (.len 38 (.t 37)), (.bin 39 .gtr (.t 38) (.k (I 130)))]⟩, ⟨none, [(.pick 40 (.t 36) (.k (B true)) (.t 39))]⟩] [1, 2, 3, 4, 6, 11, 40]) (.cond (.t 40) (.seq (.rgn [⟨none, [(.call 41 16 []), (.mv 12 (.t 41))]⟩] [12]) .ret) .skip)) (.seq (.seq (.rgn [⟨none, [(.mv 13 (.k (I 0)))]⟩] [1, 2, 3, 4, 6, 11, 13]) (.block 0 (.loop (.seq (.seq (.rgn [⟨none, [(.mv 42 (.t 13)), (.mv 43 (.t 4)), (.len 44 (.t 43)), (.bin 45 .lss (.t 42) (.t 44))]⟩] [1, 2, 3, 4, 6, 11, 13, 45]) (.cond (.t 45) .skip (.exit 0))) (.seq (.block 1 (.seq (.rgn [⟨none, [(.mv 48 (.t 4)), (.mv 49 (.t 13)), (.ia 50 1 (.t 48) (.t 49)), (.ld 51 false 1 (.t 50)), (.call 52 14 [(.t 51)])]⟩] [1, 2, 3, 4, 6, 11, 13, 52]) (.cond (.t 52) (.seq (.rgn [⟨none, [(.call 53 16 []), (.mv 12 (.t 53))]⟩] [12]) .ret) .skip))) (.rgn [⟨none, [(.mv 46 (.t 13)), (.bin 47 .add (.t 46) (.k (I 1))), (.mv 13 (.t 47))]⟩] [1, 2, 3, 4, 6, 11, 13])))))) (.seq (.drw [⟨none, [(.ld 54 true 2 (.t 6)), (.mv 55 (.t 1)), (.call 56 49 [(.t 54), (.t 55)]), (.ld 57 true 2 (.t 6)), (.mv 58 (.t 2)), (.call 59 50 [(.t 57), (.t 58)]), (.mv 14 (.t 56)), (.mv 15 (.t 59))]⟩] [(0, 3), (2, 3)] [3, 4, 6, 11, 14, 15]) (.seq (.rgn [⟨none, [(.ld 61 true 2 (.t 6)), (.mv 62 (.t 14)), (.mv 63 (.t 15)), (.call 64 17 [(.t 61), (.t 62), (.t 63)]), (.mv 60 (.t 64)), (.ext 65 (.t 60) 0), (.ext 66 (.t 60) 1), (.mv 16 (.t 65)), (.mv 17 (.t 66))]⟩] [3, 4, 6, 11, 14, 15, 16, 17]) (.seq (.seq (.rgn [⟨none, [(.mv 67 (.t 17)), (.bin 68 .neq (.t 67) (.k (I 0))), (.mv 69 (.t 68))]⟩, ⟨(some (69, false)), [(.mv 70 (.t 16)), (.ld 71 true 2 (.t 6)), (.mv 72 (.t 14)), (.mv 73 (.t 15)), (.call 74 51 [(.t 71), (.t 72), (.t 73)]), (.call 75 25 [(.t 70), (.t 74)]), (.un 76 .not (.t 75))]⟩, ⟨none, [(.pick 77 (.t 69) (.k (B true)) (.t 76))]⟩] [3, 4, 6, 11, 14, 15, 16, 77]) (.cond (.t 77) (.seq (.rgn [⟨none, [(.mv 12 (.k (B false)))]⟩] [12]) .ret) .skip)) (.seq (.rgn [⟨none, [(.mv 78 (.t 16)), (.mv 79 (.t 3)), (.call 80 52 [(.t 78), (.t 79)]), (.mv 16 (.t 80))]⟩] [3, 4, 6, 11, 14, 15, 16]) (.seq (.rgn [⟨none, [(.ld 82 true 2 (.t 6)), (.mv 83 (.t 14)), (.mv 84 (.t 16)), (.call 85 29 [(.t 82), (.t 83), (.t 84)]), (.mv 81 (.t 85)), (.ext 86 (.t 81) 0), (.ext 87 (.t 81) 1), (.mv 18 (.t 86)), (.mv 19 (.t 87))]⟩] [3, 4, 6, 11, 14, 15, 16, 18, 19]) (.seq (.rgn [⟨none, [(.ld 89 true 2 (.t 6)), (.mv 90 (.t 14)), (.mv 91 (.t 16)), (.call 92 35 [(.t 89), (.t 90), (.t 91)]), (.mv 88 (.t 92)), (.ext 93 (.t 88) 0), (.ext 94 (.t 88) 1), (.mv 20 (.t 93)), (.mv 21 (.t 94))]⟩] [3, 4, 6, 11, 14, 15, 16, 18, 19, 20, 21]) (.seq (.rgn [⟨none, [(.ld 96 true 2 (.t 6)), (.mv 97 (.t 14)), (.mv 98 (.t 16)), (.call 99 42 [(.t 96), (.t 97), (.t 98)]), (.mv 95 (.t 99)), (.ext 100 (.t 95) 0), (.ext 101 (.t 95) 1), (.al 22 [(I 0), (I 0), (I 0), (I 0)]), (.st 4 (.t 22) (.t 100)), (.mv 23 (.t 101))]⟩] [3, 4, 6, 11, 14, 15, 16, 18, 19, 20, 21, 22, 23]) (.seq (.drw [⟨none, [(.ld 102 true 2 (.t 6)), (.mv 103 (.t 14)), (.mv 104 (.t 16)), (.mv 105 (.t 4)), (.call 106 38 [(.t 102), (.t 103), (.t 104), (.t 105)]), (.ld 107 true 2 (.t 6)), (.mv 108 (.t 14)), (.mv 109 (.t 16)), (.ld 110 true 4 (.t 11)), (.call 111 45 [(.t 107), (.t 108), (.t 109), (.t 110)]), (.mv 24 (.t 106)), (.mv 25 (.t 111))]⟩] [(0, 5), (4, 5), (0, 8), (4, 8), (5, 8)] [3, 6, 14, 15, 16, 18, 19, 20, 21, 22, 23, 24, 25]) (.seq (.seq (.rgn [⟨none, [(.mv 112 (.t 19)), (.bin 113 .eql (.t 112) (.k (I 0)))]⟩] [3, 6, 14, 15, 16, 18, 19, 20, 21, 22, 23, 24, 25, 113]) (.cond (.t 113) (.seq (.rgn [⟨none, [(.ld 114 true 2 (.t 6)), (.mv 115 (.t 18)), (.call 116 53 [(.t 114), (.t 115)]), (.bin 117 .eql (.t 116) (.k (I 0))), (.mv 118 (.t 117))]⟩, ⟨(some (118, true)), [(.ld 119 true 2 (.t 6)), (.mv 120 (.t 14)), (.mv 121 (.t 18)), (.call 122 51 [(.t 119), (.t 120), (.t 121)]), (.mv 123 (.t 16)), (.call 124 25 [(.t 122), (.t 123)])]⟩, ⟨none, [(.pick 125 (.t 118) (.t 124) (.k (B false))), (.mv 126 (.t 125))]⟩, ⟨(some (126, true)), [(.mv 127 (.t 21)), (.bin 128 .eql (.t 127) (.k (I 11)))]⟩, ⟨none, [(.pick 129 (.t 126) (.t 128) (.k (B false))), (.mv 130 (.t 129))]⟩, ⟨(some (130, true)), [(.mv 131 (.t 20)), (.len 132 (.t 131)), (.bin 133 .eql (.t 132) (.k (I 0)))]⟩, ⟨none, [(.pick 134 (.t 130) (.t 133) (.k (B false))), (.mv 135 (.t 134))]⟩, ⟨(some (135, true)), [(.mv 136 (.t 23)), (.bin 137 .eql (.t 136) (.k (I 5)))]⟩, ⟨none, [(.pick 138 (.t 135) (.t 137) (.k (B false))), (.mv 139 (.t 138))]⟩, ⟨(some (139, true)), [(.mv 140 (.t 24)), (.bin 141 .neq (.t 140) (.k (I 0)))]⟩, ⟨none, [(.pick 142 (.t 139) (.t 141) (.k (B false))), (.mv 143 (.t 142))]⟩, ⟨(some (143, true)), [(.mv 144 (.t 25)), (.bin 145 .neq (.t 144) (.k (I 0)))]⟩, ⟨none, [(.pick 146 (.t 143) (.t 145) (.k (B false))), (.mv 147 (.t 146))]⟩, ⟨(some (147, true)), [(.mv 148 (.t 3)), (.cnv 149 .i64 (.t 148)), (.fa 150 (.t 6) 0), (.ld 151 false 1 (.t 150)), (.bin 152 .rem (.t 149) (.t 151)), (.bin 153 .neq (.t 152) (.k (I 0))), (.mv 154 (.t 153))]⟩, ⟨(some (154, false)), [(.mv 155 (.t 18)), (.len 156 (.t 155)), (.mv 157 (.t 15)), (.len 158 (.t 157)), (.bin 159 .leq (.t 156) (.t 158))]⟩, ⟨(some (147, true)), [(.pick 160 (.t 154) (.k (B true)) (.t 159))]⟩, ⟨none, [(.pick 161 (.t 147) (.t 160) (.k (B false))), (.mv 162 (.t 161))]⟩, ⟨(some (162, true)), [(.call 163 16 [])]⟩, ⟨none, [(.pick 164 (.t 162) (.t 163) (.k (B false))), (.mv 12 (.t 164))]⟩] [12]) .ret) .skip)) (.seq (.seq (.rgn [⟨none, [(.mv 165 (.t 19)), (.bin 166 .neq (.t 165) (.k (I 13))), (.mv 167 (.t 166))]⟩, ⟨(some (167, false)), [(.mv 168 (.t 18)), (.len 169 (.t 168)), (.bin 170 .neq (.t 169) (.k (I 0)))]⟩, ⟨none, [(.pick 171 (.t 167) (.k (B true)) (.t 170)), (.mv 172 (.t 171))]⟩, ⟨(some (172, false)), [(.mv 173 (.t 21)), (.bin 174 .neq (.t 173) (.k (I 0)))]⟩, ⟨none, [(.pick 175 (.t 172) (.k (B true)) (.t 174)), (.mv 176 (.t 175))]⟩, ⟨(some (176, false)), [(.ld 177 true 2 (.t 6)), (.mv 178 (.t 14)), (.mv 179 (.t 16)), (.mv 180 (.t 20)), (.call 181 38 [(.t 177), (.t 178), (.t 179), (.t 180)]), (.bin 182 .neq (.t 181) (.k (I 0)))]⟩, ⟨none, [(.pick 183 (.t 176) (.k (B true)) (.t 182)), (.mv 184 (.t 183))]⟩, ⟨(some (184, false)), [(.ld 185 true 2 (.t 6)), (.mv 186 (.t 14)), (.mv 187 (.t 16)), (.mv 188 (.t 20)), (.call 189 39 [(.t 185), (.t 186), (.t 187), (.t 188)]), (.bin 190 .neq (.t 189) (.k (I 0)))]⟩, ⟨none, [(.pick 191 (.t 184) (.k (B true)) (.t 190)), (.mv 192 (.t 191))]⟩, ⟨(some (192, false)), [(.mv 193 (.t 3)), (.cnv 194 .i64 (.t 193)), (.fa 195 (.t 6) 0), (.ld 196 false 1 (.t 195)), (.bin 197 .rem (.t 194) (.t 196)), (.bin 198 .eql (.t 197) (.k (I 0)))]⟩, ⟨none, [(.pick 199 (.t 192) (.k (B true)) (.t 198))]⟩] [6, 14, 16, 22, 23, 199]) (.cond (.t 199) (.seq (.rgn [⟨none, [(.mv 12 (.k (B false)))]⟩] [12]) .ret) .skip)) (.seq (.rgn [⟨none, [(.mv 200 (.t 23)), (.bin 201 .eql (.t 200) (.k (I 5))), (.mv 202 (.t 201))]⟩, ⟨(some (202, false)), [(.mv 203 (.t 23)), (.bin 204 .eql (.t 203) (.k (I 0))), (.mv 205 (.t 204))]⟩, ⟨(some (205, true)), [(.ld 206 true 2 (.t 6)), (.mv 207 (.t 14)), (.mv 208 (.t 16)), (.ld 209 true 4 (.t 22)), (.call 210 45 [(.t 206), (.t 207), (.t 208), (.t 209)]), (.bin 211 .eql (.t 210) (.k (I 0)))]⟩, ⟨(some (202, false)), [(.pick 212 (.t 205) (.t 211) (.k (B false))), (.mv 213 (.t 212))]⟩, ⟨(some (213, true)), [(.ld 214 true 2 (.t 6)), (.mv 215 (.t 14)), (.mv 216 (.t 16)), (.ld 217 true 4 (.t 22)), (.call 218 46 [(.t 214), (.t 215), (.t 216), (.t 217)]), (.bin 219 .eql (.t 218) (.k (I 0)))]⟩, ⟨(some (202, false)), [(.pick 220 (.t 213) (.t 219) (.k (B false)))]⟩, ⟨none, [(.pick 221 (.t 202) (.k (B true)) (.t 220)), (.mv 222 (.t 221))]⟩, ⟨(some (222, true)), [(.call 223 16 [])]⟩, ⟨none, [(.pick 224 (.t 222) (.t 223) (.k (B false))), (.mv 12 (.t 224))]⟩] [12]) .ret))))))))))))))
theorem func_l_OrderEither : Tryz.prog.funcs[n_l_OrderEither]? = some Tryz.f7 := Tryz.func7
theorem form_l_OrderEither : formOf Tryz.prog Tryz.f7 [12] = some G_l_OrderEither := by kernel_rfl
theorem res_l_OrderEither : resTmps Tryz.f7.results.toList = some [12] := by kernel_rfl
abbrev n_l_great : Nat := 13
def G_l_great : AC := (.seq (.rgn [⟨none, [(.box 1 2 (.t 0)), (.mv 2 (.k (B false)))]⟩] [1]) (.seq (.seq (.rgn [⟨none, [(.fa 4 (.t 1) 1), (.ld 5 false 1 (.t 4)), (.len 6 (.t 5)), (.bin 7 .gtr (.t 6) (.k (I 10)))]⟩] [1, 7]) (.cond (.t 7) (.seq (.rgn [⟨none, [(.mv 2 (.k (B true)))]⟩] [2]) .ret) .skip)) (.seq (.seq (.rgn [⟨none, [(.mv 3 (.k (I 0)))]⟩] [1, 3]) (.block 0 (.loop (.seq (.seq (.rgn [⟨none, [(.mv 8 (.t 3)), (.fa 9 (.t 1) 1), (.ld 10 false 1 (.t 9)), (.len 11 (.t 10)), (.bin 12 .lss (.t 8) (.t 11))]⟩] [1, 3, 12]) (.cond (.t 12) .skip (.exit 0))) (.seq (.block 1 (.seq (.rgn [⟨none, [(.fa 15 (.t 1) 1), (.ld 16 false 1 (.t 15)), (.mv 17 (.t 3)), (.ia 18 1 (.t 16) (.t 17)), (.ld 19 false 1 (.t 18)), (.len 20 (.t 19)), (.bin 21 .gtr (.t 20) (.k (I 10)))]⟩] [1, 3, 21]) (.cond (.t 21) (.seq (.rgn [⟨none, [(.mv 2 (.k (B true)))]⟩] [2]) .ret) .skip))) (.rgn [⟨none, [(.mv 13 (.t 3)), (.bin 14 .add (.t 13) (.k (I 1))), (.mv 3 (.t 14))]⟩] [1, 3])))))) (.seq (.rgn [⟨none, [(.mv 2 (.k (B false)))]⟩] [2]) .ret))))
theorem func_l_great : Tryz.prog.funcs[n_l_great]? = some Tryz.f13 := Tryz.func13
theorem form_l_great : formOf Tryz.prog Tryz.f13 [2] = some G_l_great := by kernel_rfl
theorem res_l_great : resTmps Tryz.f13.results.toList = some [2] := by kernel_rfl
abbrev n_l_long : Nat := 14
def G_l_long : AC := (.seq (.rgn [⟨none, [(.mv 2 (.k (B false)))]⟩] [0]) (.seq (.rgn [⟨none, [(.mv 3 (.t 0)), (.len 4 (.t 3)), (.bin 5 .gtr (.t 4) (.k (I 10))), (.mv 2 (.t 5))]⟩] [2]) .ret))
theorem func_l_long : Tryz.prog.funcs[n_l_long]? = some Tryz.f14 := Tryz.func14
theorem form_l_long : formOf Tryz.prog Tryz.f14 [2] = some G_l_long := by kernel_rfl
theorem res_l_long : resTmps Tryz.f14.results.toList = some [2] := by kernel_rfl
abbrev n_l_fine : Nat := 47
def G_l_fine : AC := (.seq (.rgn [⟨none, [(.box 1 2 (.t 0)), (.mv 2 (.k (B false)))]⟩] [1]) (.seq (.rgn [⟨none, [(.ld 3 true 2 (.t 1)), (.call 4 13 [(.t 3)]), (.un 5 .not (.t 4)), (.mv 6 (.t 5))]⟩, ⟨(some (6, true)), [(.ld 7 true 2 (.t 1)), (.call 8 24 [(.t 7)]), (.bin 9 .eql (.t 8) (.k (I 0)))]⟩, ⟨none, [(.pick 10 (.t 6) (.t 9) (.k (B false))), (.mv 2 (.t 10))]⟩] [2]) .ret))
theorem func_l_fine : Tryz.prog.funcs[n_l_fine]? = some Tryz.f47 := Tryz.func47
theorem form_l_fine : formOf Tryz.prog Tryz.f47 [2] = some G_l_fine := by kernel_rfl
theorem res_l_fine : resTmps Tryz.f47.results.toList = some [2] := by kernel_rfl
abbrev n_l_short : Nat := 48
def G_l_short : AC := (.seq (.rgn [⟨none, [(.mv 2 (.k (B false)))]⟩] [0]) (.seq (.seq (.rgn [⟨none, [(.mv 3 (.k (I 0)))]⟩] [0, 3]) (.block 0 (.loop (.seq (.seq (.rgn [⟨none, [(.mv 4 (.t 3)), (.mv 5 (.t 0)), (.len 6 (.t 5)), (.bin 7 .lss (.t 4) (.t 6))]⟩] [0, 3, 7]) (.cond (.t 7) .skip (.exit 0))) (.seq (.block 1 (.seq (.rgn [⟨none, [(.mv 10 (.t 0)), (.mv 11 (.t 3)), (.ia 12 1 (.t 10) (.t 11)), (.ld 13 false 1 (.t 12)), (.len 14 (.t 13)), (.bin 15 .gtr (.t 14) (.k (I 40)))]⟩] [0, 3, 15]) (.cond (.t 15) (.seq (.rgn [⟨none, [(.mv 2 (.k (B false)))]⟩] [2]) .ret) .skip))) (.rgn [⟨none, [(.mv 8 (.t 3)), (.bin 9 .add (.t 8) (.k (I 1))), (.mv 3 (.t 9))]⟩] [0, 3])))))) (.seq (.rgn [⟨none, [(.mv 2 (.k (B true)))]⟩] [2]) .ret)))
theorem func_l_short : Tryz.prog.funcs[n_l_short]? = some Tryz.f48 := Tryz.func48
theorem form_l_short : formOf Tryz.prog Tryz.f48 [2] = some G_l_short := by kernel_rfl
theorem res_l_short : resTmps Tryz.f48.results.toList = some [2] := by kernel_rfl
abbrev n_l_Row : Nat := 49
def G_l_Row : AC := (.seq (.rgn [⟨none, [(.box 2 2 (.t 0)), (.mv 4 (.k (.sl true 0 [])))]⟩] [1, 2]) (.seq (.rgn [⟨none, [(.mv 5 (.k (.sl true 0 [])))]⟩] [1, 2, 5]) (.seq (.seq (.rgn [⟨none, [(.mv 6 (.k (I 0)))]⟩] [1, 2, 5, 6]) (.block 0 (.loop (.seq (.seq (.rgn [⟨none, [(.mv 8 (.t 6)), (.fa 9 (.t 2) 0), (.ld 10 false 1 (.t 9)), (.bin 11 .lss (.t 8) (.t 10))]⟩] [1, 2, 5, 6, 11]) (.cond (.t 11) .skip (.exit 0))) (.seq (.block 1 (.seq (.rgn [⟨none, [(.mv 7 (.k (I 0)))]⟩] [1, 2, 5, 6, 7]) (.seq (.seq (.rgn [⟨none, [(.mv 14 (.t 1)), (.len 15 (.t 14)), (.bin 16 .gtr (.t 15) (.k (I 0)))]⟩] [1, 2, 5, 6, 7, 16]) (.cond (.t 16) (.rgn [⟨none, [(.mv 17 (.t 1)), (.mv 18 (.t 6)), (.mv 19 (.t 1)), (.len 20 (.t 19)), (.bin 21 .rem (.t 18) (.t 20)), (.ia 22 1 (.t 17) (.t 21)), (.ld 23 false 1 (.t 22)), (.cnv 24 .i64 (.t 23)), (.bin 25 .rem (.t 24) (.k (I 6))), (.mv 7 (.t 25))]⟩] [1, 2, 5, 6, 7]) .skip)) (.rgn [⟨none, [(.mv 26 (.t 5)), (.mv 27 (.t 7)), (.bsl 28 1 1 [(I 0)] [(0, (.t 27))]), (.app 29 1 8 (.t 26) (.t 28)), (.mv 5 (.t 29))]⟩] [1, 2, 5, 6])))) (.rgn [⟨none, [(.mv 12 (.t 6)), (.bin 13 .add (.t 12) (.k (I 1))), (.mv 6 (.t 13))]⟩] [1, 2, 5, 6])))))) (.seq (.rgn [⟨none, [(.mv 30 (.t 5)), (.mv 4 (.t 30))]⟩] [4]) .ret))))
theorem func_l_Row : Tryz.prog.funcs[n_l_Row]? = some Tryz.f49 := Tryz.func49
theorem form_l_Row : formOf Tryz.prog Tryz.f49 [4] = some G_l_Row := by kernel_rfl
theorem res_l_Row : resTmps Tryz.f49.results.toList = some [4] := by kernel_rfl
abbrev n_l_Strokes : Nat := 50
def G_l_Strokes : AC := (.seq (.rgn [⟨none, [(.box 2 2 (.t 0)), (.mv 4 (.k (.sl true 0 [])))]⟩] [1, 2]) (.seq (.rgn [⟨none, [(.mv 5 (.k (.sl true 0 [])))]⟩] [1, 2, 5]) (.seq (.seq (.rgn [⟨none, [(.mv 6 (.k (I 0)))]⟩] [1, 2, 5, 6]) (.block 0 (.loop (.seq (.seq (.rgn [⟨none, [(.mv 7 (.t 6)), (.mv 8 (.t 1)), (.len 9 (.t 8)), (.bin 10 .lss (.t 7) (.t 9)), (.mv 11 (.t 10))]⟩, ⟨(some (11, true)), [(.fa 12 (.t 2) 1), (.ld 13 false 1 (.t 12)), (.len 14 (.t 13)), (.bin 15 .gtr (.t 14) (.k (I 0)))]⟩, ⟨none, [(.pick 16 (.t 11) (.t 15) (.k (B false)))]⟩] [1, 2, 5, 6, 16]) (.cond (.t 16) .skip (.exit 0))) (.seq (.block 1 (.drw [⟨none, [(.mv 19 (.t 5)), (.mv 20 (.t 1)), (.mv 21 (.t 6)), (.ia 22 1 (.t 20) (.t 21)), (.ld 23 false 1 (.t 22)), (.cnv 24 .i64 (.t 23)), (.fa 25 (.t 2) 1), (.ld 26 false 1 (.t 25)), (.len 27 (.t 26)), (.bin 28 .rem (.t 24) (.t 27)), (.bsl 29 1 1 [(I 0)] [(0, (.t 28))]), (.app 30 1 8 (.t 19) (.t 29)), (.mv 5 (.t 30))]⟩] [(4, 7)] [1, 2, 5, 6])) (.rgn [⟨none, [(.mv 17 (.t 6)), (.bin 18 .add (.t 17) (.k (I 1))), (.mv 6 (.t 18))]⟩] [1, 2, 5, 6])))))) (.seq (.rgn [⟨none, [(.mv 31 (.t 5)), (.mv 4 (.t 31))]⟩] [4]) .ret))))
theorem func_l_Strokes : Tryz.prog.funcs[n_l_Strokes]? = some Tryz.f50 := Tryz.func50
theorem form_l_Strokes : formOf Tryz.prog Tryz.f50 [4] = some G_l_Strokes := by kernel_rfl
theorem res_l_Strokes : resTmps Tryz.f50.results.toList = some [4] := by kernel_rfl
abbrev n_l_turned : Nat := 52
def G_l_turned : AC := (.seq (.rgn [⟨none, [(.mv 4 (.k (.sl true 0 [])))]⟩] [0, 1]) (.seq (.rgn [⟨none, [(.mv 5 (.k (.sl true 0 [])))]⟩] [0, 1, 5]) (.seq (.seq (.rgn [⟨none, [(.mv 6 (.k (I 0)))]⟩] [0, 1, 5, 6]) (.block 0 (.loop (.seq (.seq (.rgn [⟨none, [(.mv 7 (.t 6)), (.mv 8 (.t 0)), (.len 9 (.t 8)), (.bin 10 .lss (.t 7) (.t 9))]⟩] [0, 1, 5, 6, 10]) (.cond (.t 10) .skip (.exit 0))) (.seq (.block 1 (.rgn [⟨none, [(.mv 13 (.t 5)), (.mv 14 (.t 0)), (.mv 15 (.t 6)), (.mv 16 (.t 1)), (.cnv 17 .i64 (.t 16)), (.bin 18 .add (.t 15) (.t 17)), (.mv 19 (.t 0)), (.len 20 (.t 19)), (.bin 21 .rem (.t 18) (.t 20)), (.ia 22 1 (.t 14) (.t 21)), (.ld 23 false 1 (.t 22)), (.bsl 24 1 1 [(I 0)] [(0, (.t 23))]), (.app 25 1 8 (.t 13) (.t 24)), (.mv 5 (.t 25))]⟩] [0, 1, 5, 6])) (.rgn [⟨none, [(.mv 11 (.t 6)), (.bin 12 .add (.t 11) (.k (I 1))), (.mv 6 (.t 12))]⟩] [0, 1, 5, 6])))))) (.seq (.rgn [⟨none, [(.mv 26 (.t 5)), (.mv 4 (.t 26))]⟩] [4]) .ret))))
theorem func_l_turned : Tryz.prog.funcs[n_l_turned]? = some Tryz.f52 := Tryz.func52
theorem form_l_turned : formOf Tryz.prog Tryz.f52 [4] = some G_l_turned := by kernel_rfl
theorem res_l_turned : resTmps Tryz.f52.results.toList = some [4] := by kernel_rfl
end Go.AM

set_option linter.unusedSimpArgs false
set_option linter.unusedVariables false
namespace Go.AM
open Go.RowKit Go.Proofs
def grtO (b : OB) : Bool := decide (10 < b.s.length) || b.s.any fun p => decide (10 < p.2.length)
theorem l_great_ok (g : Bool) (b : OB) (hb : b.s.length ≤ 9223372036854775807) (hz : ∀ p ∈ b.s, p.2.length ≤ 9223372036854775807) : PureOK Tryz.prog n_l_great [On g b] (B (grtO b)) := by
  refine pure_of (walk func_l_great form_l_great res_l_great (by show 1 ≤ _; decide) ?_)
  simp -implicitDefEqProofs (disch := omega) [G_l_great, wrap_id]
  by_cases h : 10 < b.s.length
  · have h' : (10 : Int) < b.s.length := by omega
    have e : grtO b = true := by simp [grtO, h]
    rw [e]
    simp -implicitDefEqProofs (disch := omega) [wrap_id, h']
  · have h' : ¬ (10 : Int) < b.s.length := by omega
    have e0 : grtO b = b.s.any fun p => decide (10 < p.2.length) := by simp [grtO, h]
    generalize grtO b = E at e0 ⊢
    simp -implicitDefEqProofs (disch := omega) [wrap_id, h']
    refine loop_eq (fun i : Nat => ⟨[(1, .ref 0 0), (3, I (i : Int))], [.cells [I b.P, LLs g b.s]]⟩) (fun i => i ≤ b.s.length ∧ ∀ k (hk : k < b.s.length), k < i → ¬ 10 < b.s[k].2.length) (fun i => b.s.length - i) 0 ⟨by omega, fun k hk h => by omega⟩ rfl ?_
    rintro i ⟨hi, he⟩
    refine hideK' fun K0 hK0 => ?_
    simp -implicitDefEqProofs (disch := omega) [wrap_id]
    refine c_split (fun hc => ?_) (fun hc => ?_)
    · have h1 : i < b.s.length := by simp at hc; omega
      have ix : ((i : Int) + 1) = ((i + 1 : Nat) : Int) := by omega
      have z1 := hz _ (List.getElem_mem h1)
      by_cases e : 10 < b.s[i].2.length
      · have e' : (10 : Int) < b.s[i].2.length := by omega
        have : (b.s.any fun p => decide (10 < p.2.length)) = true := List.any_eq_true.2 ⟨_, List.getElem_mem h1, by simpa using e⟩
        rw [this] at e0
        subst e0
        subst hK0
        simp -implicitDefEqProofs (disch := omega) [wrap_id, cells_lls, h1, e']
      · have e' : ¬ (10 : Int) < b.s[i].2.length := by omega
        simp -implicitDefEqProofs (disch := omega) [wrap_id, cells_lls, h1, e']
        rw [hK0]
        refine next_eq (i + 1) ⟨by omega, fun k hk h2 => ?_⟩ (by omega) (by simp only [ix])
        by_cases ek : k = i
        · subst ek; exact e
        · exact he k hk (by omega)
    · have h1 : i = b.s.length := by simp at hc; omega
      have : (b.s.any fun p => decide (10 < p.2.length)) = false := by
        rw [List.any_eq_false]
        intro p hp
        obtain ⟨k, hk, rfl⟩ := List.getElem_of_mem hp
        simpa using he k hk (by omega)
      rw [this] at e0
      subst e0
      subst hK0
      simp -implicitDefEqProofs (disch := omega) [wrap_id]
theorem grt_sz {b : OB} (h : grtO b = false) : Sz12 b ∧ SzO b := by
  unfold grtO at h
  rw [Bool.or_eq_false_iff] at h
  have h1 : ¬ 10 < b.s.length := by simpa using h.1
  have h2 : ∀ p ∈ b.s, ¬ 10 < p.2.length := fun p hp => by simpa using List.any_eq_false.1 h.2 p hp
  exact ⟨⟨by omega, fun p hp => by have := h2 p hp; omega⟩, ⟨by omega, fun p hp => by have := h2 p hp; omega⟩⟩
theorem l_long_ok (f : Bool) (l : List Int) (hl : l.length ≤ 9223372036854775807) : PureOK Tryz.prog n_l_long [Ls f l] (B (decide (10 < l.length))) := by
  refine pure_of (walk func_l_long form_l_long res_l_long (by show 1 ≤ _; decide) ?_)
  by_cases h : 10 < l.length
  · have h' : (10 : Int) < l.length := by omega
    simp -implicitDefEqProofs (disch := omega) [G_l_long, wrap_id, h, h']
  · have h' : ¬ (10 : Int) < l.length := by omega
    simp -implicitDefEqProofs (disch := omega) [G_l_long, wrap_id, h, h']
end Go.AM

set_option linter.unusedSimpArgs false
set_option linter.unusedVariables false
namespace Go.AM
open Go.RowKit Go.Proofs
theorem least_ex {d : Nat} : ∀ {L : List (List Nat)}, L ≠ [] → (∀ w ∈ L, w.length = d) → ∃ w ∈ L, ∀ m ∈ L, frst (wI m) (wI w) = false
  | [a], _, _ => ⟨a, by simp, fun m hm => by rw [List.mem_singleton] at hm; subst hm; exact frst_self _⟩
  | a :: b :: L, _, hl => by
    obtain ⟨w, hw, hm⟩ := least_ex (L := b :: L) (by simp) (fun w hw => hl w (by simp [List.mem_cons.1 hw]))
    have la := hl a (by simp)
    have lw := hl w (List.mem_cons_of_mem _ hw)
    cases hf : frst (wI a) (wI w) with
    | true =>
      refine ⟨a, by simp, fun m hm2 => ?_⟩
      rcases List.mem_cons.1 hm2 with rfl | hm3
      · exact frst_self _
      · have lm := hl m hm2
        exact frst_le_trans (a := wI a) (b := wI w) (c := wI m) (by rw [wI_len, wI_len]; omega) (by rw [wI_len, wI_len]; omega) (frst_asymm hf) (hm m hm3)
    | false =>
      refine ⟨w, List.mem_cons_of_mem _ hw, fun m hm2 => ?_⟩
      rcases List.mem_cons.1 hm2 with rfl | hm3
      · exact hf
      · exact hm m hm3
theorem best_ex {S : List (List Int)} {r x : List Int} {d : Nat} (h : Dist S r x d) : ∃ w, IsBest S d r x w := by
  obtain ⟨⟨w0, hw, hl⟩, _⟩ := h
  have hm := mem_wordsL.2 ⟨hw, hl⟩
  obtain ⟨w, h1, h2⟩ := least_ex (d := d) (L := wordsL S d r x) (fun e => by rw [e] at hm; cases hm) (fun w hw => (mem_wordsL.1 hw).2)
  exact ⟨w, best_words h1 h2⟩
theorem ins_ex {n : Nat} {x : List Int} (hx : x.length = n) : ∀ {Q : List (List Int)}, SrtL Q → (∀ y ∈ Q, y.length = n) → ∃ Q', SrtL Q' ∧ ∀ y, y ∈ Q' ↔ y = x ∨ y ∈ Q
  | [], _, _ => ⟨[x], by simp [SrtL], by simp⟩
  | q :: Q, hs, hl => by
    have hs' := List.pairwise_cons.1 hs
    have lq := hl q (by simp)
    by_cases e : x = q
    · subst e
      exact ⟨x :: Q, hs, fun y => by simp⟩
    · cases hf : frst x q with
      | true =>
        refine ⟨x :: q :: Q, List.pairwise_cons.2 ⟨fun y hy => ?_, hs⟩, fun y => by simp⟩
        rcases List.mem_cons.1 hy with rfl | hy
        · exact hf
        · exact frst_trans (by omega) (by rw [lq, hl y (by simp [hy])]) hf (hs'.1 y hy)
      | false =>
        have hf2 : frst q x = true := frst_total (by omega) e hf
        obtain ⟨Q', h1, h2⟩ := ins_ex hx hs'.2 (fun y hy => hl y (by simp [hy]))
        refine ⟨q :: Q', List.pairwise_cons.2 ⟨fun y hy => ?_, h1⟩, fun y => ?_⟩
        · rcases (h2 y).1 hy with rfl | hy
          · exact hf2
          · exact hs'.1 y hy
        · simp only [List.mem_cons, h2]
          constructor
          · rintro (h | h | h)
            · exact .inr (.inl h)
            · exact .inl h
            · exact .inr (.inr h)
          · rintro (h | h | h)
            · exact .inr (.inl h)
            · exact .inl h
            · exact .inr (.inr h)
theorem srt_ex {n : Nat} : ∀ {L : List (List Int)}, (∀ y ∈ L, y.length = n) → ∃ Q, SrtL Q ∧ ∀ y, y ∈ Q ↔ y ∈ L
  | [], _ => ⟨[], by simp [SrtL], by simp⟩
  | x :: L, hl => by
    obtain ⟨Q, h1, h2⟩ := srt_ex (L := L) (fun y hy => hl y (by simp [hy]))
    obtain ⟨Q', h3, h4⟩ := ins_ex (hl x (by simp)) h1 (fun y hy => hl y (by simp [(h2 y).1 hy]))
    exact ⟨Q', h3, fun y => by rw [h4, h2, List.mem_cons]⟩
theorem srt_nd : ∀ {Q : List (List Int)}, SrtL Q → Q.Nodup := fun {Q} h => h.imp fun {a b} h e => by subst e; rw [frst_self] at h; cases h
theorem ansD_ex (b : OB) (r x : List Int) : ∃ L e, AnsD b r x L e ∧ L.length ≤ 46656 ∧ ∀ y ∈ L, y.length ≤ 6 := by
  by_cases h0 : rwsE b r x = 0
  · obtain ⟨n, hb, lr, lx, o1, o2⟩ := rws_ok h0
    have h6 := hb.hi
    by_cases h1 : NoW b.S r x
    · have C : ∀ y, ¬ NoW b.S r y → y ∈ allRows (plcL 6) n ∧ y.length = n := fun y hy => by
        obtain ⟨w, hw, e⟩ := not_noW.1 hy
        subst e
        have hl := allS_len hb.pmS hw lr
        exact ⟨mem_allRows hl (allS_col hb.pmS hw lr fun z hz => plc_mem.2 (by have := rowO_col o1 z hz; omega)), hl⟩
      have dec : ∀ y, Decidable (NoW b.S r y) := fun y => Classical.propDecidable _
      obtain ⟨Q, q1, q2⟩ := srt_ex (n := n) (L := (allRows (plcL 6) n).filter fun y => !decide (NoW b.S r y)) (fun y hy => by
        have := (List.mem_filter.1 hy).2
        exact (C y (by simpa using this)).2)
      have q3 : ∀ y, y ∈ Q ↔ ¬ NoW b.S r y := fun y => by
        rw [q2, List.mem_filter]
        constructor
        · rintro ⟨_, h⟩; simpa using h
        · intro h; exact ⟨(C y h).1, by simpa using h⟩
      refine ⟨Q, 0, .inr ⟨h0, .inr ⟨h1, q1, q3, rfl⟩⟩, ?_, fun y hy => by have := (C y ((q3 y).1 hy)).2; omega⟩
      have l1 := (srt_nd q1).length_le_of_subset (fun y hy => (C y ((q3 y).1 hy)).1)
      rw [allRows_len, plcL_len] at l1
      have : 6 ^ n ≤ 6 ^ 6 := Nat.pow_le_pow_right (by decide) h6
      omega
    · exact ⟨[], 11, .inr ⟨h0, .inl ⟨h1, rfl, rfl⟩⟩, by simp, by simp⟩
  · exact ⟨[], rwsE b r x, .inl ⟨h0, rfl, rfl⟩, by simp, by simp⟩
theorem pp_ex (b : OB) : ∃ pp, PPok b pp := by
  refine ⟨fun a q => @decide (Rch b.P.toNat b.S a q) (Classical.propDecidable _), fun n hb a q _ _ _ _ => ?_⟩
  have : b.P.toNat = n := by have := hb.P; omega
  have k := @decide_eq_true_iff (Rch b.P.toNat b.S a q) (Classical.propDecidable _)
  rw [this] at k ⊢
  exact k
end Go.AM

set_option linter.unusedSimpArgs false
set_option linter.unusedVariables false
namespace Go.AM
open Go.RowKit Go.Proofs
def finO (b : OB) : Bool := !grtO b && decide (chkO b = 0)
theorem l_fine_ok (g : Bool) (b : OB) (hb : OBK b) : PureOK Tryz.prog n_l_fine [On g b] (B (finO b)) := by
  refine pure_of (walk func_l_fine form_l_fine res_l_fine (by show 1 ≤ _; decide) ?_)
  simp -implicitDefEqProofs (disch := omega) [G_l_fine, wrap_id]
  refine callW_pure rfl (l_great_ok g b hb.many hb.len) ?_
  cases hg : grtO b with
  | true => simp -implicitDefEqProofs (disch := omega) [wrap_id, finO, hg]
  | false =>
    obtain ⟨z1, z2⟩ := grt_sz hg
    simp -implicitDefEqProofs (disch := omega) [wrap_id]
    refine callW_pure rfl (r_CheckBench_ok g b z2.many z2.len) ?_
    by_cases h : chkO b = 0
    · simp -implicitDefEqProofs (disch := omega) [wrap_id, h, finO, hg]
    · have h' : (chkO b == 0) = false := by simpa using h
      simp -implicitDefEqProofs (disch := omega) [wrap_id, h', h, finO, hg]
theorem fin_ok {b : OB} (h : finO b = true) : ∃ n, Okb b n ∧ Sz12 b ∧ SzO b := by
  unfold finO at h
  rw [Bool.and_eq_true, decide_eq_true_iff] at h
  obtain ⟨n, hb⟩ := okb_of h.2
  have hg : grtO b = false := by simpa using h.1
  obtain ⟨z1, z2⟩ := grt_sz hg
  exact ⟨n, hb, z1, z2⟩
theorem cells_us {l : List Int} {j : Nat} {K : AV → List (Nat × HObj) → Prop} (h : j < l.length) : CellsW (l.map fun n => U n) j 1 false K = K (U (l.getD j 0)) [] := by
  simp [CellsW, h]
def rowG (n : Nat) (u : List Int) : List Int := (List.range n).map fun i => if u = [] then 0 else (u.getD (i % u.length) 0).tmod 6
theorem rowG_len {n : Nat} {u : List Int} : (rowG n u).length = n := by simp [rowG]
theorem rowG_snoc {n : Nat} {u : List Int} : rowG (n + 1) u = rowG n u ++ [if u = [] then 0 else (u.getD (n % u.length) 0).tmod 6] := by simp [rowG, List.range_succ]
theorem tmod6 {x : Int} (h : 0 ≤ x) : 0 ≤ x.tmod 6 ∧ x.tmod 6 ≤ 5 := by
  rw [Int.tmod_eq_emod_of_nonneg h]; omega
theorem getD_u {u : List Int} (hu : ∀ n ∈ u, 0 ≤ n ∧ n ≤ 255) (k : Nat) : 0 ≤ u.getD k 0 ∧ u.getD k 0 ≤ 255 := by
  by_cases h : k < u.length
  · exact hu _ (getD_mem h)
  · rw [List.getD_eq_getElem?_getD, List.getElem?_eq_none (by omega)]; exact ⟨Int.le_refl _, by decide⟩
theorem rowG_col {n : Nat} {u : List Int} (hu : ∀ n ∈ u, 0 ≤ n ∧ n ≤ 255) : ∀ x ∈ rowG n u, 0 ≤ x ∧ x ≤ 5 := fun x hx => by
  obtain ⟨i, _, rfl⟩ := List.mem_map.1 hx
  by_cases h : u = []
  · rw [if_pos h]; decide
  · rw [if_neg h]; exact tmod6 (getD_u hu _).1
theorem rowO_of {b : OB} {n : Nat} (hb : Okb b n) {r : List Int} (h1 : r.length = n) (h2 : ∀ x ∈ r, 0 ≤ x ∧ x ≤ 5) : rowO b r = true := by
  unfold rowO
  rw [Bool.and_eq_true, decide_eq_true_iff, List.all_eq_true]
  exact ⟨by rw [hb.P, h1], fun x hx => by have := h2 x hx; simp; omega⟩
set_option maxHeartbeats 1000000 in
theorem l_Row_ok (g f : Bool) {b : OB} {n : Nat} (hb : Okb b n) (u : List Int) (hl : u.length ≤ 1000000) (hu : ∀ n ∈ u, 0 ≤ n ∧ n ≤ 255) : PureOK Tryz.prog n_l_Row [On g b, Us f u] (Ls (rowG n u).isEmpty (rowG n u)) := by
  have h6 := hb.hi
  have hn := hb.P
  refine pure_of (walk func_l_Row form_l_Row res_l_Row (by show 2 ≤ _; decide) ?_)
  simp -implicitDefEqProofs (disch := omega) [G_l_Row, wrap_id]
  refine loop_eq (fun q : Nat × AV × List HObj => ⟨[(1, Us f u), (2, .ref 0 0), (5, q.2.1), (6, I (q.1 : Int))], q.2.2⟩) (fun q => q.1 ≤ n ∧ AccR q.2.2 q.2.1 (rowG q.1 u) ∧ nthH q.2.2 0 = some (.cells [I b.P, LLs g b.s]) ∧ rid q.2.1 ≠ some 0) (fun q => n - q.1) (0, .sl true 0 [], [.cells [I b.P, LLs g b.s]]) ⟨Nat.zero_le _, .inl ⟨rfl, rfl⟩, rfl, by simp [rid]⟩ rfl ?_
  rintro ⟨i, x, H⟩ ⟨c1, c2, c3, c4⟩
  simp only at c1 c2 c3 c4 ⊢
  have l0 := nthH_lt c3
  refine hideK' fun K0 hK0 => ?_
  simp -implicitDefEqProofs (disch := omega) [wrap_id, c3, ldr_some, hn]
  refine c_split (fun h => ?_) (fun h => ?_)
  · have hir : i < n := by simp at h; omega
    have ix : ((i : Int) + 1) = ((i + 1 : Nat) : Int) := by omega
    have tk := rowG_snoc (n := i) (u := u)
    have tl := rowG_len (n := i) (u := u)
    have fin : ∀ (v : Int) (fr : List (Nat × AV)), v = (if u = [] then 0 else (u.getD (i % u.length) 0).tmod 6) →
        ∀ KK, (∀ ws, (∀ j, j < H.length → rid x ≠ some j → nthH (writeL H ws) j = nthH H j) → nthH (writeL H ws) H.length = some (.cells ((rowG i u ++ [v]).map fun n => I n)) → KK (.ms H.length 0 (i + 1) 1) ws) → AppW H 1 8 x (.sl true 1 [I v]) KK := fun v fr _ KK hKK => by
      refine app_row c2.row (by omega) fun ws w1 w2 w3 => ?_
      rw [tl]
      exact hKK ws w1 w3
    by_cases hu0 : u = []
    · subst hu0
      simp -implicitDefEqProofs (disch := omega) [wrap_id]
      refine bsl_of (ys := [I 0]) rfl rfl ?_
      simp -implicitDefEqProofs (disch := omega) [wrap_id, zrep]
      refine fin 0 [] (by simp) _ fun ws w1 w3 => ?_
      simp -implicitDefEqProofs (disch := omega) [wrap_id]
      rw [hK0]
      rw [if_pos rfl] at tk
      refine next_eq (i + 1, .ms H.length 0 (i + 1) 1, writeL H ws) ⟨by simp only; omega, .inr ⟨H.length, ?_, ?_, ?_⟩, ?_, ?_⟩ (by simp only; omega) (by simp only [ix])
      · rw [rowG_len]
      · simp only [tk]; simp
      · simp only [tk]; exact w3
      · rw [w1 0 l0 c4]; exact c3
      · simp only [rid]; intro e; injection e; omega
    · have hp : 0 < u.length := List.length_pos_iff.2 hu0
      have hp' : ((0 : Int) < u.length) = True := by simp only [eq_iff_iff, iff_true]; omega
      have em : (i : Int).tmod u.length = ((i % u.length : Nat) : Int) := by rw [Int.tmod_eq_emod_of_nonneg (by omega)]; simp
      have lt := Nat.mod_lt i hp
      obtain ⟨b1, b2⟩ := getD_u hu (i % u.length)
      obtain ⟨v1, v2⟩ := tmod6 b1
      rw [if_neg hu0] at tk
      obtain ⟨w, hw⟩ : ∃ w, u.getD (i % u.length) 0 = w := ⟨_, rfl⟩
      have cu : ∀ K, CellsW (u.map fun n => U n) (i % u.length) 1 false K = K (U w) [] := fun K => by rw [cells_us lt, hw]
      rw [hw] at b1 b2 v1 v2 tk
      obtain ⟨m, hm⟩ : ∃ m : Nat, i % u.length = m := ⟨_, rfl⟩
      rw [hm] at em lt
      simp only [hm] at cu
      simp -implicitDefEqProofs (disch := omega) [wrap_id, hp, hp', em, lt, cu]
      refine bsl_of (ys := [I (w.tmod 6)]) rfl rfl ?_
      simp -implicitDefEqProofs (disch := omega) [wrap_id, zrep]
      refine fin (w.tmod 6) [] (by rw [if_neg hu0, hm]; rw [hm] at hw; rw [hw]) _ fun ws w1 w3 => ?_
      simp -implicitDefEqProofs (disch := omega) [wrap_id]
      rw [hK0]
      refine next_eq (i + 1, .ms H.length 0 (i + 1) 1, writeL H ws) ⟨by simp only; omega, .inr ⟨H.length, ?_, ?_, ?_⟩, ?_, ?_⟩ (by simp only; omega) (by simp only [ix])
      · rw [rowG_len]
      · simp only [tk]; simp
      · simp only [tk]; exact w3
      · rw [w1 0 l0 c4]; exact c3
      · simp only [rid]; intro e; injection e; omega
  · have hir : i = n := by simp at h; omega
    subst hir
    subst hK0
    simp -implicitDefEqProofs (disch := omega) [wrap_id]
    exact out_acc c2
def strG (k : Nat) (u : List Int) : List Int := if k = 0 then [] else u.map fun x => x.tmod k
theorem strG_len {k : Nat} {u : List Int} : (strG k u).length ≤ u.length := by unfold strG; split <;> simp
theorem strG_LsO {b : OB} {u : List Int} (hu : ∀ n ∈ u, 0 ≤ n ∧ n ≤ 255) : LsO b (strG b.s.length u) := fun s hs => by
  unfold strG at hs
  split at hs
  · cases hs
  · obtain ⟨x, hx, rfl⟩ := List.mem_map.1 hs
    rw [Int.tmod_eq_emod_of_nonneg (hu x hx).1]
    rename_i h0
    have h1 : (0 : Int) < b.s.length := by omega
    exact ⟨Int.emod_nonneg _ (by omega), Int.emod_lt_of_pos _ h1⟩
set_option maxHeartbeats 1000000 in
theorem l_Strokes_ok (g f : Bool) {b : OB} {n : Nat} (hb : Okb b n) (u : List Int) (hl : u.length ≤ 1000000) (hu : ∀ n ∈ u, 0 ≤ n ∧ n ≤ 255) : PureOK Tryz.prog n_l_Strokes [On g b, Us f u] (Ls (strG b.s.length u).isEmpty (strG b.s.length u)) := by
  have hm := hb.many
  refine pure_of (walk func_l_Strokes form_l_Strokes res_l_Strokes (by show 2 ≤ _; decide) ?_)
  simp -implicitDefEqProofs (disch := omega) [G_l_Strokes, wrap_id]
  refine loop_eq (fun q : Nat × AV × List HObj => ⟨[(1, Us f u), (2, .ref 0 0), (5, q.2.1), (6, I (q.1 : Int))], q.2.2⟩) (fun q => q.1 ≤ (strG b.s.length u).length ∧ AccR q.2.2 q.2.1 ((strG b.s.length u).take q.1) ∧ nthH q.2.2 0 = some (.cells [I b.P, LLs g b.s]) ∧ rid q.2.1 ≠ some 0) (fun q => (strG b.s.length u).length - q.1) (0, .sl true 0 [], [.cells [I b.P, LLs g b.s]]) ⟨Nat.zero_le _, .inl ⟨rfl, rfl⟩, rfl, by simp [rid]⟩ rfl ?_
  rintro ⟨i, x, H⟩ ⟨c1, c2, c3, c4⟩
  simp only at c1 c2 c3 c4 ⊢
  have l0 := nthH_lt c3
  refine hideK' fun K0 hK0 => ?_
  by_cases hk : b.s.length = 0
  · have e0 : strG b.s.length u = [] := by unfold strG; rw [if_pos hk]
    rw [e0] at c1 c2
    have hi : i = 0 := by simpa using c1
    subst hi
    subst hK0
    have hk' : ¬ ((0 : Int) < b.s.length) := by omega
    have hk2 : ¬ (0 < b.s.length) := by omega
    by_cases hu0 : u = []
    · subst hu0
      simp -implicitDefEqProofs (disch := omega) [wrap_id, c3, ldr_some, hk', hk2]
      rw [e0]
      exact out_acc c2
    · have hp : 0 < u.length := List.length_pos_iff.2 hu0
      simp -implicitDefEqProofs (disch := omega) [wrap_id, c3, ldr_some, hk', hk2, hp]
      rw [e0]
      exact out_acc c2
  · have e0 : strG b.s.length u = u.map fun x => x.tmod b.s.length := by unfold strG; rw [if_neg hk]
    have el : (strG b.s.length u).length = u.length := by rw [e0, List.length_map]
    have hk2 : 0 < b.s.length := by omega
    by_cases hi : i < u.length
    · have ix : ((i : Int) + 1) = ((i + 1 : Nat) : Int) := by omega
      obtain ⟨b1, b2⟩ := hu u[i] (List.getElem_mem hi)
      obtain ⟨w, hw⟩ : ∃ w, u[i] = w := ⟨_, rfl⟩
      have cu : ∀ K, CellsW (u.map fun n => U n) i 1 false K = K (U w) [] := fun K => by
        rw [cells_us hi, List.getD_eq_getElem?_getD, List.getElem?_eq_getElem hi, ← hw]; rfl
      have tk : (strG b.s.length u).take (i + 1) = (strG b.s.length u).take i ++ [w.tmod b.s.length] := by
        rw [List.take_succ_eq_append_getElem (by omega)]
        simp [e0, hw]
      have tl : ((strG b.s.length u).take i).length = i := by rw [List.length_take]; omega
      rw [hw] at b1 b2
      simp -implicitDefEqProofs (disch := omega) [wrap_id, c3, ldr_some, hk2, hi, cu, cmp2, nthT]
      refine bsl_of (ys := [I (w.tmod b.s.length)]) rfl rfl ?_
      simp -implicitDefEqProofs (disch := omega) [wrap_id, zrep, cmp2, nthT]
      refine app_row c2.row (by omega) fun ws w1 w2 w3 => ?_
      simp -implicitDefEqProofs (disch := omega) [wrap_id, cmp2, nthT, tl]
      rw [hK0]
      refine next_eq (i + 1, .ms H.length 0 (i + 1) 1, writeL H ws) ⟨by simp only; omega, .inr ⟨H.length, ?_, ?_, ?_⟩, ?_, ?_⟩ (by simp only; omega) (by simp only [ix])
      · rw [List.length_take, Nat.min_eq_left (by omega)]
      · simp only [tk]; simp
      · simp only [tk]; exact w3
      · rw [w1 0 l0 c4]; exact c3
      · simp only [rid]; intro e; injection e; omega
    · have tk : (strG b.s.length u).take i = strG b.s.length u := List.take_of_length_le (by omega)
      rw [tk] at c2
      subst hK0
      simp -implicitDefEqProofs (disch := omega) [wrap_id, c3, ldr_some, hi]
      exact out_acc c2
def trnG (r : List Int) (t : Int) : List Int := (List.range r.length).map fun i => r.getD ((i + t.toNat) % r.length) 0
theorem trnG_len {r : List Int} {t : Int} : (trnG r t).length = r.length := by simp [trnG]
set_option maxHeartbeats 1000000 in
theorem l_turned_w (f : Bool) (r : List Int) (t : Int) (hr : r.length ≤ 1000) (h0 : 0 ≤ t) (h1 : t ≤ 255) {hp : List HObj} {K : AV → List HObj → Prop}
    (hK : ∀ H y, AccR H y (trnG r t) → (∀ i, rid y = some i → hp.length ≤ i) → (∀ j, j < hp.length → nthH H j = nthH hp j) → K y H) : CallW Tryz.prog n_l_turned [Ls f r, U t] hp K := by
  refine walk func_l_turned form_l_turned res_l_turned (by show 2 ≤ _; decide) ?_
  simp -implicitDefEqProofs (disch := omega) [G_l_turned, wrap_id]
  have al : (trnG r t).length = r.length := trnG_len
  refine loop_eq (fun q : Nat × AV × List HObj => ⟨[(0, Ls f r), (1, U t), (5, q.2.1), (6, I (q.1 : Int))], q.2.2⟩) (fun q => q.1 ≤ r.length ∧ AccR q.2.2 q.2.1 ((trnG r t).take q.1) ∧ (∀ i, rid q.2.1 = some i → hp.length ≤ i) ∧ hp.length ≤ q.2.2.length ∧ ∀ j, j < hp.length → nthH q.2.2 j = nthH hp j) (fun q => r.length - q.1) (0, .sl true 0 [], hp) ⟨Nat.zero_le _, .inl ⟨rfl, by simp⟩, fun i h => (by cases h), Nat.le_refl _, fun _ _ => rfl⟩ rfl ?_
  rintro ⟨i, x, H⟩ ⟨c1, c2, c3, c4, c5⟩
  simp only at c1 c2 c3 c4 c5 ⊢
  refine hideK' fun K0 hK0 => ?_
  simp -implicitDefEqProofs (disch := omega) [wrap_id]
  refine c_split (fun h => ?_) (fun h => ?_)
  · have hir : i < r.length := by simp at h; omega
    have ix : ((i : Int) + 1) = ((i + 1 : Nat) : Int) := by omega
    obtain ⟨n, hn⟩ : ∃ n : Nat, (i + t.toNat) % r.length = n := ⟨_, rfl⟩
    have hnr : n < r.length := by rw [← hn]; exact Nat.mod_lt _ (by omega)
    have em : ((i : Int) + t).tmod r.length = (n : Int) := by
      rw [Int.tmod_eq_emod_of_nonneg (by omega), ← hn]
      have : (i : Int) + t = ((i + t.toNat : Nat) : Int) := by omega
      rw [this]; simp
    have tk : (trnG r t).take (i + 1) = (trnG r t).take i ++ [r[n]] := by
      rw [List.take_succ_eq_append_getElem (by omega)]
      simp [trnG, hn, hnr]
    have tl : ((trnG r t).take i).length = i := by rw [List.length_take]; omega
    simp -implicitDefEqProofs (disch := omega) [wrap_id, em, cells_ls, hir, hnr]
    refine bsl_of (ys := [I r[n]]) rfl rfl ?_
    simp -implicitDefEqProofs (disch := omega) [wrap_id, zrep]
    refine app_row c2.row (by omega) fun ws w1 w2 w3 => ?_
    simp -implicitDefEqProofs (disch := omega) [wrap_id]
    rw [hK0]
    refine next_eq (i + 1, .ms H.length 0 (i + 1) 1, writeL H ws) ⟨by simp only; omega, .inr ⟨H.length, ?_, ?_, ?_⟩, ?_, by simp only; omega, fun j hj => ?_⟩ (by simp only; omega) (by simp only [ix, tl])
    · rw [List.length_take, Nat.min_eq_left (by omega)]
    · simp only [tk]; simp
    · simp only [tk]; exact w3
    · simp only [rid]; intro j hj; injection hj with hj; omega
    · exact (w1 j (by omega) (fun e => by have := c3 j e; omega)).trans (c5 j hj)
  · have hir : i = r.length := by simp at h; omega
    subst hir
    subst hK0
    have tk : (trnG r t).take r.length = trnG r t := List.take_of_length_le (by omega)
    rw [tk] at c2
    simp -implicitDefEqProofs (disch := omega) [wrap_id]
    exact hK H x c2 c3 c5
theorem l_turned_ok (f : Bool) (r : List Int) (t : Int) (hr : r.length ≤ 1000) (h0 : 0 ≤ t) (h1 : t ≤ 255) : PureOK Tryz.prog n_l_turned [Ls f r, U t] (Ls (trnG r t).isEmpty (trnG r t)) :=
  pure_of (l_turned_w f r t hr h0 h1 fun H y c _ _ => out_acc c)
abbrev UUs (f : Bool) (ls : List (Bool × List Int)) : AV := .sl f ls.length (ls.map fun p => Us p.1 p.2)
theorem cells_uus {ls : List (Bool × List Int)} {j : Nat} {K : AV → List (Nat × HObj) → Prop} (h : j < ls.length) : CellsW (ls.map fun p => Us p.1 p.2) j 1 false K = K (Us ls[j].1 ls[j].2) [] := by
  simp [CellsW, h]
theorem l_short_ok (f : Bool) (ls : List (Bool × List Int)) (hl : ls.length ≤ 1000000) (hz : ∀ p ∈ ls, p.2.length ≤ 9223372036854775807) : PureOK Tryz.prog n_l_short [UUs f ls] (B (ls.all fun p => decide (p.2.length ≤ 40))) := by
  refine pure_of (walk func_l_short form_l_short res_l_short (by show 1 ≤ _; decide) ?_)
  generalize hE : (ls.all fun p => decide (p.2.length ≤ 40)) = E
  simp -implicitDefEqProofs (disch := omega) [G_l_short, wrap_id]
  refine loop_eq (fun i : Nat => ⟨[(0, UUs f ls), (3, I (i : Int))], []⟩) (fun i => i ≤ ls.length ∧ ∀ k (hk : k < ls.length), k < i → ls[k].2.length ≤ 40) (fun i => ls.length - i) 0 ⟨Nat.zero_le _, fun k hk h => by omega⟩ rfl ?_
  rintro i ⟨c1, c2⟩
  refine hideK' fun K0 hK0 => ?_
  simp -implicitDefEqProofs (disch := omega) [wrap_id]
  refine c_split (fun h => ?_) (fun h => ?_)
  · have hi : i < ls.length := by simp at h; omega
    have ix : ((i : Int) + 1) = ((i + 1 : Nat) : Int) := by omega
    have z1 := hz _ (List.getElem_mem hi)
    by_cases e : ls[i].2.length ≤ 40
    · have e' : ¬ (40 : Int) < ls[i].2.length := by omega
      simp -implicitDefEqProofs (disch := omega) [wrap_id, cells_uus, hi, e']
      rw [hK0]
      refine next_eq (i + 1) ⟨by omega, fun k hk h2 => ?_⟩ (by omega) (by simp only [ix])
      by_cases ek : k = i
      · subst ek; exact e
      · exact c2 k hk (by omega)
    · have e' : (40 : Int) < ls[i].2.length := by omega
      have : (ls.all fun p => decide (p.2.length ≤ 40)) = false := by
        rw [List.all_eq_false]
        exact ⟨_, List.getElem_mem hi, by simpa using e⟩
      rw [this] at hE
      subst hE
      subst hK0
      simp -implicitDefEqProofs (disch := omega) [wrap_id, cells_uus, hi, e']
  · have hi : i = ls.length := by simp at h; omega
    have : (ls.all fun p => decide (p.2.length ≤ 40)) = true := by
      rw [List.all_eq_true]
      intro p hp
      obtain ⟨k, hk, rfl⟩ := List.getElem_of_mem hp
      simpa using c2 k hk (by omega)
    rw [this] at hE
    subst hE
    subst hK0
    simp -implicitDefEqProofs (disch := omega) [wrap_id]
end Go.AM

set_option linter.unusedSimpArgs false
set_option linter.unusedVariables false
namespace Go.AM
open Go.RowKit Go.Proofs
theorem plc_of {b : OB} {n : Nat} (hb : Okb b n) : b.P.toNat = n := by have := hb.P; omega
theorem allI_aft {b : OB} {n : Nat} (hb : Okb b n) : ∀ {l r : List Int}, LsO b l → r.length = n → allI b l r = aft (allI b l (plcL n)) r
  | [], r, _, hr => (aft_plc hr).symm
  | s :: l, r, hl, hr => by
    have hl' : LsO b l := fun t ht => hl t (by simp [ht])
    have h1 := hl s (by simp)
    have ps : Pm n (b.S.getD s.toNat []) := hb.pmS.at (by rw [S_len]; omega)
    show allI b l (aft (b.S.getD s.toNat []) r) = aft (allI b l (aft (b.S.getD s.toNat []) (plcL n))) r
    rw [allI_aft hb hl' (by rw [aft_len]; exact ps.len), allI_aft (r := aft (b.S.getD s.toNat []) (plcL n)) hb hl' (by rw [aft_len]; exact ps.len), aft_plc' ps.rng]
    exact aft_aft ps.len (allI_pm hb hl' .plc).rng
theorem allI_wI {b : OB} {w : List Nat} {r : List Int} : allI b (wI w) r = allS b.S w r := by unfold allI; rw [wI_nat]
theorem wd_allI {b : OB} {l r : List Int} (hl : LsO b l) : Wd b.S r (allI b l r) (l.map Int.toNat) :=
  ⟨fun s hs => by
    obtain ⟨x, hx, rfl⟩ := List.mem_map.1 hs
    have := hl x hx
    rw [S_len]; omega, rfl⟩
theorem wI_LsO {b : OB} {w : List Nat} (h : ∀ s ∈ w, s < b.S.length) : LsO b (wI w) := fun s hs => by
  obtain ⟨t, ht, rfl⟩ := List.mem_map.1 hs
  have := h t ht
  rw [S_len] at this
  omega
theorem perm_le : (permK 2 2 []).length ≤ 720 ∧ (permK 3 3 []).length ≤ 720 ∧ (permK 4 4 []).length ≤ 720 ∧ (permK 5 5 []).length ≤ 720 ∧ (permK 6 6 []).length ≤ 720 := by decide +kernel
theorem perm_len {n : Nat} (h2 : 2 ≤ n) (h6 : n ≤ 6) : (permK n n []).length ≤ 720 := by
  obtain ⟨p2, p3, p4, p5, p6⟩ := perm_le
  match n, h2, h6 with
  | 2, _, _ => exact p2
  | 3, _, _ => exact p3
  | 4, _, _ => exact p4
  | 5, _, _ => exact p5
  | 6, _, _ => exact p6
theorem reach_perm {b : OB} {n : Nat} (hb : Okb b n) {r : List Int} (hr : r.length = n) {w : List Nat} (hw : ∀ s ∈ w, s < b.S.length) : allS b.S w r ∈ (permK n n []).map fun p => aft p r := by
  have hl := wI_LsO hw
  rw [← allI_wI, allI_aft hb hl hr]
  exact List.mem_map_of_mem (pm_mem (allI_pm hb hl .plc))
theorem few {b : OB} {n : Nat} (hb : Okb b n) {r : List Int} (hr : r.length = n) {L : List (List Int)} (nd : L.Nodup) (h : ∀ y ∈ L, ¬ NoW b.S r y) : L.length ≤ 720 := by
  have sub : L ⊆ (permK n n []).map fun p => aft p r := fun y hy => by
    obtain ⟨w, hw, e⟩ := not_noW.1 (h y hy)
    rw [← e]; exact reach_perm hb hr hw
  have := nd.length_le_of_subset sub
  rw [List.length_map] at this
  exact Nat.le_trans this (perm_len hb.lo hb.hi)
theorem dist_720 {b : OB} {n : Nat} (hb : Okb b n) {r x : List Int} (hr : r.length = n) {m : Nat} (hd : Dist b.S r x m) : m < 720 := by
  obtain ⟨⟨l, h1, h2⟩, h3⟩ := hd
  have nd : ((List.range (m + 1)).map fun i => allS b.S (l.take i) r).Nodup := by
    rw [List.Nodup, List.pairwise_map]
    refine List.Pairwise.imp_of_mem (fun {a c} ha hc hab e => ?_) (List.pairwise_lt_range)
    have ha := List.mem_range.1 ha
    have hc := List.mem_range.1 hc
    have w1 : Wd b.S r (allS b.S (l.take a) r) (l.take a) := (Wd.split (m := l.drop a) (by rw [List.take_append_drop]; exact h1)).1
    have w2 : Wd b.S (allS b.S (l.take c) r) x (l.drop c) := (Wd.split (m := l.drop c) (by rw [List.take_append_drop]; exact h1)).2
    have := h3 _ ((e ▸ w1).append w2)
    rw [List.length_append, List.length_take, List.length_drop] at this
    omega
  have := few hb hr nd fun y hy => by
    obtain ⟨i, hi, rfl⟩ := List.mem_map.1 hy
    exact not_noW.2 ⟨l.take i, fun s hs => h1.1 s (List.mem_of_mem_take hs), rfl⟩
  rw [List.length_map, List.length_range] at this
  omega
theorem lstO_of {b : OB} {l : List Int} (h1 : LsO b l) (h2 : l.length ≤ 720) : lstO b l = 0 := by
  unfold lstO
  rw [if_neg (by omega), if_pos]
  rw [List.all_eq_true]
  intro s hs
  have := h1 s hs
  simpa using this
theorem chk_of {b : OB} {n : Nat} (hb : Okb b n) : chkO b = 0 := by
  have hP := hb.P
  have h2 := hb.lo
  have h6 := hb.hi
  have hm := hb.many
  unfold chkO
  rw [if_neg (by omega), if_neg (by omega), if_pos]
  rw [List.all_eq_true]
  intro p hp
  have pm := hb.pm p hp
  unfold strO
  rw [Bool.and_eq_true, decide_eq_true_iff, List.all_eq_true]
  refine ⟨by rw [pm.len, hP], fun k hk => ?_⟩
  have hk := List.mem_range.1 hk
  rw [beq_iff_eq]
  have m1 := pm.mem (k := k) (by rw [← pm.len]; exact hk)
  have c1 := List.count_pos_iff.2 m1
  have c2 := List.nodup_iff_count.1 pm.nd (k : Int)
  omega
theorem drw_of {b : OB} {n : Nat} (hb : Okb b n) {r l : List Int} (h1 : rowO b r = true) (h2 : LsO b l) (h3 : l.length ≤ 720) : drwE b r l = 0 ∧ drwL b r l = allI b l r := by
  have e : drwE b r l = 0 := by unfold drwE; rw [if_neg (by rw [chk_of hb]; decide), if_neg (by rw [h1]; decide)]; exact lstO_of h2 h3
  exact ⟨e, by unfold drwL; rw [if_pos e]⟩
theorem rowO_aft {b : OB} {n : Nat} (hb : Okb b n) {s r : List Int} (hs : Pm n s) (h : rowO b r = true) : rowO b (aft s r) = true := by
  have hr := rowO_len hb h
  refine rowO_of hb (by rw [aft_len]; exact hs.len) fun x hx => ?_
  have := aft_col hs.rng hr (C := plcL 6) (fun y hy => plc_mem.2 (by have := rowO_col h y hy; omega)) x hx
  have := plc_mem.1 this
  omega
theorem rowO_allI {b : OB} {n : Nat} (hb : Okb b n) {l r : List Int} (hl : LsO b l) (h : rowO b r = true) : rowO b (allI b l r) = true := by
  rw [allI_aft hb hl (rowO_len hb h)]
  exact rowO_aft hb (allI_pm hb hl .plc) h
theorem rws_of {b : OB} {n : Nat} (hb : Okb b n) {r x : List Int} (h1 : rowO b r = true) (h2 : rowO b x = true) : rwsE b r x = 0 := by
  unfold rwsE
  rw [if_neg (by rw [chk_of hb]; decide), if_neg (by rw [h1, h2]; decide)]
theorem best_of {b : OB} {n : Nat} (hb : Okb b n) {r x : List Int} (h1 : rowO b r = true) (h2 : rowO b x = true) {v : List Nat} (h : Wd b.S r x v) :
    ∃ d w, Dist b.S r x d ∧ IsBest b.S d r x w ∧ AnsB b r x (wI w) 0 ∧ LsO b (wI w) ∧ (wI w).length ≤ 720 ∧ allI b (wI w) r = x ∧ (wI w).length = d ∧ d ≤ v.length := by
  obtain ⟨d, hd, hdv⟩ := Dist.of h
  obtain ⟨w, hw⟩ := best_ex hd
  have := dist_720 hb (rowO_len hb h1) hd
  obtain ⟨a1, a2, a3⟩ := hw
  exact ⟨d, w, hd, ⟨a1, a2, a3⟩, .inr ⟨rws_of hb h1 h2, .inr ⟨d, w, hd, ⟨a1, a2, a3⟩, rfl, rfl⟩⟩, wI_LsO a1.1, by rw [wI_len]; omega, by rw [allI_wI]; exact a1.2, by rw [wI_len]; exact a2, hdv⟩
end Go.AM

set_option linter.unusedSimpArgs false
set_option linter.unusedVariables false
namespace Go.AM
open Go.RowKit Go.Proofs
theorem aft_sg {n : Nat} {s r : List Int} (hs : Pm n s) {i : Nat} (hi : i < n) : (aft s r).getD i 0 = r.getD (sg s i) 0 := by
  have hl : i < s.length := by rw [hs.len]; exact hi
  rw [aft_getD hl, sg_at hl]
theorem pm_sg_inj {n : Nat} {s : List Int} (hs : Pm n s) {i k : Nat} (hi : i < n) (hk : k < n) (e : sg s i = sg s k) : i = k := by
  rw [← hs.sg_inv hi, ← hs.sg_inv hk, e]
theorem tim_aft {b : OB} {n : Nat} (hb : Okb b n) {pp : Nat × Nat → Nat × Nat → Bool} (hp : PPok b pp) {one two : Int} (ha : aplO b one two = true) {s r : List Int} (hs : s ∈ b.S) (c d : Int) :
    timS (prsV b one two pp) (aft s r) c d = timS (prsV b one two pp) r c d := by
  have hP := hb.P
  have ha := of_decide_eq_true ha
  have ps := hb.pmS s hs
  unfold timS prsV prsL
  rw [plc_of hb, List.countP_map, List.countP_map, List.countP_filter, List.countP_filter]
  have a1 : one.toNat < n := by omega
  have a2 : two.toNat < n := by omega
  generalize hA : (one.toNat, two.toNat) = a
  have b1 : a.1 < n := by rw [← hA]; exact a1
  have b2 : a.2 < n := by rw [← hA]; exact a2
  let σ : Nat × Nat → Nat × Nat := fun q => (sg s q.1, sg s q.2)
  have hσ : ∀ q ∈ prsN n, σ q ∈ prsN n := fun q hq => by
    have := mem_prsN.1 hq
    exact mem_prsN.2 ⟨ps.sg_lt this.1, ps.sg_lt this.2⟩
  have hi : ∀ q ∈ prsN n, ∀ q' ∈ prsN n, σ q = σ q' → q = q' := fun q hq q' hq' e => by
    have h1 := mem_prsN.1 hq
    have h2 := mem_prsN.1 hq'
    injection e with e1 e2
    exact Prod.ext (pm_sg_inj ps h1.1 h2.1 e1) (pm_sg_inj ps h1.2 h2.2 e2)
  have perm : ((prsN n).map σ).Perm (prsN n) := by
    refine (List.perm_ext_iff_of_nodup ?_ prsN_nodup).2 fun q => ?_
    · rw [List.Nodup, List.pairwise_map]
      exact List.Pairwise.imp_of_mem (fun {x y} hx hy hne e => hne (hi x hx y hy e)) prsN_nodup
    · constructor
      · intro h
        obtain ⟨q', h1, rfl⟩ := List.mem_map.1 h
        exact hσ q' h1
      · intro h
        obtain ⟨q', h1, h2⟩ := surj_of prsN_nodup hσ hi h
        exact List.mem_map.2 ⟨q', h1, h2⟩
  rw [← perm.countP_eq (p := fun q => (timP r c d ∘ inI) q && pp a q), List.countP_map]
  refine List.countP_congr fun q hq => ?_
  have hq := mem_prsN.1 hq
  have e1 : pp a q = pp a (σ q) := by
    rw [Bool.eq_iff_iff, hp n hb a q b1 b2 hq.1 hq.2, hp n hb a (σ q) b1 b2 (ps.sg_lt hq.1) (ps.sg_lt hq.2)]
    exact ⟨fun h => Rch.back hb.pmS ⟨b1, b2⟩ hs (i := q.1) (k := q.2) h, fun h => .step hs hq.1 hq.2 h⟩
  have e2 : timP (aft s r) c d (inI q) = timP r c d (inI (σ q)) := by
    unfold timP inI
    simp only [Int.toNat_natCast, aft_sg ps hq.1, aft_sg ps hq.2]
    rfl
  simp only [Function.comp, e1, e2]
theorem tim_wd {b : OB} {n : Nat} (hb : Okb b n) {pp : Nat × Nat → Nat × Nat → Bool} (hp : PPok b pp) {one two : Int} (ha : aplO b one two = true) (c d : Int) : ∀ {w : List Nat} {r x : List Int}, Wd b.S r x w →
    timS (prsV b one two pp) x c d = timS (prsV b one two pp) r c d
  | [], r, x, h => by rw [show x = r from h.2.symm]
  | s :: w, r, x, h => by
    rw [Wd.cons] at h
    rw [tim_wd hb hp ha c d h.2, tim_aft hb hp ha (getD_mem h.1)]
theorem ckp_now {b : OB} {n : Nat} (hb : Okb b n) {pp : Nat × Nat → Nat × Nat → Bool} (hp : PPok b pp) {r x : List Int} {one two c d : Int} (h : ckpE b r x one two c d pp = 0) : NoW b.S r x := fun w hw => by
  unfold ckpE at h
  by_cases h0 : rwsE b r x = 0
  · rw [if_neg (by omega)] at h
    by_cases h1 : aplO b one two = false ∨ colO c d = false
    · rw [if_pos h1] at h; cases h
    · rw [if_neg h1] at h
      have ha : aplO b one two = true := by
        cases e : aplO b one two with
        | true => rfl
        | false => exact absurd (.inl e) h1
      rw [if_pos (tim_wd hb hp ha c d hw).symm] at h
      cases h
  · rw [if_pos h0] at h; exact absurd h h0
theorem prE_of {b : OB} {n : Nat} (hb : Okb b n) {pp : Nat × Nat → Nat × Nat → Bool} (hp : PPok b pp) {r x : List Int} (h0 : rwsE b r x = 0) (hw : ¬ NoW b.S r x) : prE b r x pp = 5 ∧ prT b r x pp = Pt 0 0 0 0 := by
  have hn : fstT b r x pp = none := by
    unfold fstT
    rw [List.find?_eq_none]
    intro t ht hc
    have ht2 : t.1 < b.P.toNat ∧ t.2.1 < b.P.toNat ∧ t.2.2 < 36 := by
      unfold trip at ht
      simp only [List.mem_flatMap, List.mem_map, List.mem_range] at ht
      obtain ⟨i, hi, k, hk, c, hcc, rfl⟩ := ht
      exact ⟨hi, hk, hcc⟩
    rw [plc_of hb] at ht2
    have hne : t.1 ≠ t.2.1 := by
      unfold tstO at hc
      rw [Bool.and_eq_true, decide_eq_true_iff] at hc
      exact hc.1
    have := ckp_tst hb h0 (pp := pp) ht2.1 ht2.2.1 ht2.2.2 hne
    rw [show t = (t.1, t.2.1, t.2.2) from rfl] at hc
    rw [hc] at this
    exact hw (ckp_now hb hp (of_decide_eq_true this.symm))
  exact ⟨by unfold prE; rw [if_neg (by omega), if_pos hn], by unfold prT; rw [if_neg (by omega), hn]⟩
section
variable {n : Nat} {t : Int} {S : List (List Int)}
def Col5 (r : List Int) : Prop := ∀ c ∈ r, 0 ≤ c ∧ c ≤ 5
theorem Col5.aft (hS : PmS n S) {r : List Int} (hr : r.length = n) (h : Col5 r) {s : Nat} (hs : s < S.length) : Col5 (aft (S.getD s []) r) := fun x hx => by
  have := aft_col (hS.at hs).rng hr (C := plcL 6) (fun y hy => plc_mem.2 (by have := h y hy; omega)) x hx
  have := plc_mem.1 this
  omega
theorem Col5.allS (hS : PmS n S) {r : List Int} (hr : r.length = n) (h : Col5 r) {w : List Nat} (hw : ∀ s ∈ w, s < S.length) : Col5 (allS S w r) := fun x hx => by
  have := allS_col hS hw hr (C := plcL 6) (fun y hy => plc_mem.2 (by have := h y hy; omega)) x hx
  have := plc_mem.1 this
  omega
end
section
variable {b : OB} {n : Nat} {t : Int} {r x : List Int}
end
end Go.AM

set_option linter.unusedSimpArgs false
set_option linter.unusedVariables false
namespace Go.AM
open Go.RowKit Go.Proofs
theorem trn_row {b : OB} {n : Nat} (hb : Okb b n) {r : List Int} (h : rowO b r = true) (t : Int) : rowO b (trnG r t) = true := by
  have lr := rowO_len hb h
  refine rowO_of hb (by rw [trnG_len]; exact lr) fun x hx => ?_
  obtain ⟨i, hi, rfl⟩ := List.mem_map.1 hx
  have hi := List.mem_range.1 hi
  exact rowO_col h _ (getD_mem (Nat.mod_lt _ (by omega)))
end Go.AM

set_option linter.unusedSimpArgs false
set_option linter.unusedVariables false
namespace Go.AM
open Go.RowKit Go.Proofs
theorem cls_wd {b : OB} {R : List (List Int)} (hc : clsO b R = true) {x : List Int} : ∀ {w : List Nat} {y : List Int}, y ∈ R → Wd b.S y x w → x ∈ R
  | [], y, hy, h => by have e : y = x := h.2; rw [← e]; exact hy
  | s :: w, y, hy, h => by
    rw [Wd.cons] at h
    unfold clsO at hc
    have h1 := List.all_eq_true.1 (List.all_eq_true.1 hc y hy) _ (getD_mem (d := []) h.1)
    exact cls_wd (by unfold clsO; exact hc) (List.contains_iff_mem.1 h1) h.2
theorem ccl_now {b : OB} {r x : List Int} {R : List (List Int)} (h : cclE b r x R = 0) : NoW b.S r x := by
  unfold cclE at h
  split at h
  · rename_i h1; exact absurd h h1
  split at h
  · cases h
  split at h
  · cases h
  split at h
  · cases h
  split at h
  · cases h
  split at h
  · cases h
  rename_i h1 h2
  intro w hw
  have hr : r ∈ R := by
    apply Classical.byContradiction
    intro hn
    exact h1 (.inl (by rw [← Bool.not_eq_true]; exact fun e => hn (List.contains_iff_mem.1 e)))
  exact h1 (.inr (List.contains_iff_mem.2 (cls_wd (by simpa using h2) hr hw)))
theorem rowO_wd {b : OB} {n : Nat} (hb : Okb b n) {x : List Int} : ∀ {w : List Nat} {r : List Int}, rowO b r = true → Wd b.S r x w → rowO b x = true
  | [], r, h1, h => by have e : r = x := h.2; rw [← e]; exact h1
  | s :: w, r, h1, h => by
    rw [Wd.cons] at h
    exact rowO_wd hb (rowO_aft hb (hb.pmS _ (getD_mem h.1)) h1) h.2
theorem ccl_fin {b : OB} {n : Nat} (hb : Okb b n) {r x : List Int} {M : List (List Int)} (h1 : rowO b r = true) (h2 : rowO b x = true) (hw : NoW b.S r x) (hs : SrtL M) (hm : ∀ y, y ∈ M ↔ ¬ NoW b.S r y) : cclE b r x M = 0 ∧ M.length ≤ 720 := by
  have hl := few hb (rowO_len hb h1) (srt_nd hs) fun y hy => (hm y).1 hy
  refine ⟨?_, hl⟩
  have a1 : M.all (rowO b) = true := List.all_eq_true.2 fun y hy => by
    obtain ⟨w, hw⟩ := not_noW.1 ((hm y).1 hy)
    exact rowO_wd hb h1 hw
  have a2 : srtO M = true := srtO_iff.2 fun k hk => by
    rw [List.getD_eq_getElem?_getD, List.getD_eq_getElem?_getD, List.getElem?_eq_getElem (by omega), List.getElem?_eq_getElem hk]
    exact List.pairwise_iff_getElem.1 hs k (k + 1) (by omega) hk (by omega)
  have a3 : r ∈ M := (hm r).2 (not_noW.2 ⟨[], .nil⟩)
  have a4 : x ∉ M := fun h => (hm x).1 h hw
  have a5 : clsO b M = true := List.all_eq_true.2 fun y hy => List.all_eq_true.2 fun s hsb => List.contains_iff_mem.2 <| by
    obtain ⟨w, hw⟩ := not_noW.1 ((hm y).1 hy)
    obtain ⟨k, hk, e⟩ := mem_getD (d := ([] : List Int)) hsb
    refine (hm _).2 (not_noW.2 ⟨w ++ [k], hw.append ?_⟩)
    rw [Wd.cons]
    exact ⟨hk, by rw [e]; exact .nil⟩
  have h0 := rws_of hb h1 h2
  have c3 : M.contains r = true := List.contains_iff_mem.2 a3
  have c4 : M.contains x = false := by rw [← Bool.not_eq_true]; exact fun e => a4 (List.contains_iff_mem.1 e)
  unfold cclE
  rw [if_neg (by omega), if_neg (by omega), if_neg (by rw [a1]; decide), if_neg (by rw [a2]; decide), if_neg (by rw [c3, c4]; decide), if_neg (by rw [a5]; decide)]
theorem pr_ckp {b : OB} {n : Nat} (hb : Okb b n) {pp : Nat × Nat → Nat × Nat → Bool} {r x : List Int} (h0 : rwsE b r x = 0) : ∃ q0 q1 q2 q3 : Int, prT b r x pp = Pt q0 q1 q2 q3 ∧ (prE b r x pp = 5 ∨ prE b r x pp = 0 ∧ ckpE b r x q0 q1 q2 q3 pp = 0) := by
  cases e : fstT b r x pp with
  | none => exact ⟨0, 0, 0, 0, by unfold prT; rw [if_neg (by omega), e], .inl (by unfold prE; rw [if_neg (by omega), e, if_pos rfl])⟩
  | some t =>
    have ht := List.mem_of_find?_eq_some (show (trip b.P.toNat).find? (tstO b r x pp) = some t from e)
    have hc := List.find?_some (show (trip b.P.toNat).find? (tstO b r x pp) = some t from e)
    have ht2 : t.1 < b.P.toNat ∧ t.2.1 < b.P.toNat ∧ t.2.2 < 36 := by
      unfold trip at ht
      simp only [List.mem_flatMap, List.mem_map, List.mem_range] at ht
      obtain ⟨i, hi, k, hk, c, hcc, rfl⟩ := ht
      exact ⟨hi, hk, hcc⟩
    rw [plc_of hb] at ht2
    have hne : t.1 ≠ t.2.1 := by
      unfold tstO at hc
      rw [Bool.and_eq_true, decide_eq_true_iff] at hc
      exact hc.1
    have := ckp_tst hb h0 (pp := pp) ht2.1 ht2.2.1 ht2.2.2 hne
    rw [show t = (t.1, t.2.1, t.2.2) from rfl] at hc
    rw [hc] at this
    exact ⟨_, _, _, _, by unfold prT; rw [if_neg (by omega), e], .inr ⟨by unfold prE; rw [if_neg (by omega), e, if_neg (by simp)], of_decide_eq_true this.symm⟩⟩
theorem trn_zero {n : Nat} {r : List Int} {t : Int} (hr : r.length = n) (h0 : 0 ≤ t) (h : t.tmod n = 0) : trnG r t = r := by
  have e : t.toNat % n = 0 := by
    rw [Int.tmod_eq_emod_of_nonneg h0] at h
    have e : ((t.toNat % n : Nat) : Int) = 0 := by rw [Int.natCast_emod, Int.toNat_of_nonneg h0]; exact h
    omega
  refine List.ext_getElem trnG_len fun i h1 h2 => ?_
  simp only [trnG, List.getElem_map, List.getElem_range]
  have : (i + t.toNat) % r.length = i := by
    rw [hr, Nat.add_mod, e, Nat.add_zero, Nat.mod_mod, Nat.mod_eq_of_lt (by omega)]
  rw [this, getD_I h2]
end Go.AM

set_option linter.unusedSimpArgs false
set_option linter.unusedVariables false
namespace Go.AM
open Go.RowKit Go.Proofs
set_option maxHeartbeats 8000000 in
theorem lawOrderEither (b : OB) (u v : List Int) (t : Int) (L : List (Bool × List Int)) (p1 p2 c d : Int) (hb : OBK b) (hu : UOK u) (hv : UOK v) (ht : 0 ≤ t ∧ t ≤ 255) (hL : LLOK L) (hp : P4OK p1 p2 c d) :
    PureOK Tryz.prog n_l_OrderEither [On false b, Us false u, Us false v, U t, LLs false L, Pt p1 p2 c d] (B true) := by
  have hl1 := hL.1
  have hlz := fun p hp => (hL.2 p hp).1
  refine pure_of (walk func_l_OrderEither form_l_OrderEither res_l_OrderEither (by show 6 ≤ _; decide) ?_)
  simp -implicitDefEqProofs (disch := omega) [G_l_OrderEither, wrap_id]
  refine callW_pure rfl (l_fine_ok false b hb) ?_
  cases hf : finO b with
  | false =>
    simp -implicitDefEqProofs (disch := omega) [wrap_id]
    exact callW_pure rfl works_ok (by simp)
  | true =>
  obtain ⟨n, ok, z1, z2⟩ := fin_ok hf
  simp -implicitDefEqProofs (disch := omega) [wrap_id]
  refine bsl_of (ys := [Us false u, Us false v]) rfl rfl ?_
  simp -implicitDefEqProofs (disch := omega) [wrap_id, zrep]
  refine callW_pure (ys := [UUs true [(false, u), (false, v)]]) (ids := []) rfl (l_short_ok true [(false, u), (false, v)] (by simp) (by simp; exact ⟨hu.1, hv.1⟩)) ?_
  cases hs : ([(false, u), (false, v)].all fun p : Bool × List Int => decide (p.2.length ≤ 40)) with
  | false =>
    simp -implicitDefEqProofs (disch := omega) [wrap_id]
    exact callW_pure rfl works_ok (by simp)
  | true =>
  simp -implicitDefEqProofs (disch := omega) [wrap_id]
  have hl : u.length ≤ 40 ∧ v.length ≤ 40 := by simpa using hs
  by_cases c3 : 130 < L.length
  · have c3' : (130 : Int) < L.length := by omega
    simp -implicitDefEqProofs (disch := omega) [wrap_id, c3']
    exact callW_pure rfl works_ok (by simp)
  have c3' : ¬ (130 : Int) < L.length := by omega
  simp -implicitDefEqProofs (disch := omega) [wrap_id, c3']
  refine loop_eq (fun i : Nat => ⟨[(1, Us false u), (2, Us false v), (3, U t), (4, LLs false L), (6, .ref 0 0), (11, .ref 1 0), (13, I (i : Int))], [.cells [I b.P, LLs false b.s], .cells [I p1, I p2, I c, I d]]⟩) (fun i => i ≤ L.length ∧ ∀ k (hk : k < L.length), k < i → ¬ 10 < L[k].2.length) (fun i => L.length - i) 0 ⟨Nat.zero_le _, fun k hk h => by omega⟩ rfl ?_
  rintro i ⟨d1, d2⟩
  refine hideK' fun K0 hK0 => ?_
  simp -implicitDefEqProofs (disch := omega) [wrap_id]
  refine c_split (fun hc => ?_) (fun hc => ?_)
  · have hi : i < L.length := by simp at hc; omega
    have ix : ((i : Int) + 1) = ((i + 1 : Nat) : Int) := by omega
    simp -implicitDefEqProofs (disch := omega) [wrap_id, cells_lls, hi]
    refine callW_pure rfl (l_long_ok L[i].1 L[i].2 (hlz _ (List.getElem_mem hi))) ?_
    by_cases e : 10 < L[i].2.length
    · rw [decide_eq_true e]
      subst hK0
      simp -implicitDefEqProofs (disch := omega) [wrap_id]
      exact callW_pure rfl works_ok (by simp)
    · rw [decide_eq_false e]
      simp -implicitDefEqProofs (disch := omega) [wrap_id]
      rw [hK0]
      refine next_eq (i + 1) ⟨by omega, fun k hk hk2 => ?_⟩ (by omega) (by simp only [ix])
      by_cases ek : k = i
      · subst ek; exact e
      · exact d2 k hk (by omega)
  have hi : i = L.length := by simp at hc; omega
  subst hi
  subst hK0
  have hz : ∀ p ∈ L, p.2.length ≤ 1000000 := fun p hp => by
    obtain ⟨k, hk, rfl⟩ := List.getElem_of_mem hp
    have := d2 k hk hk
    omega
  simp -implicitDefEqProofs (disch := omega) [wrap_id]
  have h2 := ok.lo
  have h6 := ok.hi
  have lf : (rowG n u).length = n := rowG_len
  have of : rowO b (rowG n u) = true := rowO_of ok lf (rowG_col hu.2)
  have lL := strG_LsO (b := b) hv.2
  have ll : (strG b.s.length v).length ≤ 40 := Nat.le_trans strG_len hl.2
  have R1 := l_Row_ok false false ok u (by omega) hu.2
  have R2 := l_Strokes_ok false false ok v (by omega) hv.2
  generalize rowG n u = r at lf of R1
  generalize strG b.s.length v = l at lL ll R2
  refine pureW_of rfl R1 ?_
  simp -implicitDefEqProofs (disch := omega) [wrap_id, cmp2, nthT]
  refine pureW_of rfl R2 ?_
  simp -implicitDefEqProofs (disch := omega) [wrap_id, cmp2, nthT]
  obtain ⟨w1, w2⟩ := drw_of ok of lL (by omega)
  have lX := allI_len ok lL lf
  have oX := rowO_allI ok lL of
  refine callW_pure rfl (o_Draw_ok false _ _ b z1 r l (by omega) (by omega)) ?_
  rw [w1, w2]
  simp -implicitDefEqProofs (disch := omega) [wrap_id]
  refine callW_pure rfl (r_All_ok false _ _ ok r l lf lL (by omega)) ?_
  simp -implicitDefEqProofs (disch := omega) [wrap_id]
  refine callW_pure rfl (l_ints_ok _ false (allI b l r) (allI b l r) (by omega) (by omega)) ?_
  rw [decide_eq_true rfl]
  simp -implicitDefEqProofs (disch := omega) [wrap_id]
  have oY := trn_row ok oX t
  have hY := trn_zero (t := t) lX ht.1
  refine callW_pure rfl (l_turned_ok _ (allI b l r) t (by omega) ht.1 ht.2) ?_
  generalize trnG (allI b l r) t = y at oY hY
  have lY := rowO_len ok oY
  have ir : r.isEmpty = false := ne_emp lf (by omega)
  have iy : y.isEmpty = false := ne_emp lY (by omega)
  simp only [ir, iy]
  simp -implicitDefEqProofs (disch := omega) [wrap_id]
  obtain ⟨pp, hpp⟩ := pp_ex b
  have h0 := rws_of ok of oY
  have hP := ok.P
  have cR := fun h => ccl_now (b := b) (r := r) (x := y) (R := L.map (·.2)) h
  have cP := ckp_now ok hpp (r := r) (x := y) (one := p1) (two := p2) (c := c) (d := d)
  have CC := o_CheckClosed_ok false false false false b z1 r y L (by omega) (by omega) (by omega) hz
  have CP := o_CheckPair_ok false false false b z1 r y (by omega) (by omega) p1 p2 c d hpp
  have PR := o_Pair_ok false false false b z1 r y (by omega) (by omega) hpp
  have n0 : (n : Int) ≠ 0 := by omega
  by_cases hw : NoW b.S r y
  · obtain ⟨M, e, hD, hM, hMl⟩ := ansD_ex b r y
    obtain ⟨q0, q1, q2, q3, hq, hq2⟩ := pr_ckp (pp := pp) ok h0
    have hB : AnsB b r y [] 13 := .inr ⟨h0, .inl ⟨hw, rfl, rfl⟩⟩
    obtain ⟨rfl, hs2, hm2⟩ : e = 0 ∧ SrtL M ∧ ∀ z, z ∈ M ↔ ¬ NoW b.S r z := by
      rcases hD with ⟨h1, _⟩ | ⟨_, ⟨h1, _⟩ | ⟨_, h1, h2, h3⟩⟩
      · exact absurd h0 h1
      · exact absurd hw h1
      · exact ⟨h3, h1, h2⟩
    obtain ⟨hc0, hMl2⟩ := ccl_fin ok of oY hw hs2 hm2
    have fz : ∀ p ∈ fLs M, p.2.length ≤ 1000000 := fun p hp => by
      obtain ⟨y, hy, rfl⟩ := List.mem_map.1 hp
      have := hMl y hy
      simp only; omega
    have fl : (fLs M).length ≤ 1000000 := by rw [fLs, List.length_map]; omega
    have fm : (fLs M).map (·.2) = M := by unfold fLs; rw [List.map_map]; simp [Function.comp_def]
    have C2 := o_CheckClosed_ok false false false false b z1 r y (fLs M) (by omega) (by omega) fl fz
    have C3 := r_CheckClosed_ok false false false false b z2 r y (fLs M) (by omega) (by omega) fl fz
    rw [fm, hc0] at C2 C3
    have tn : t.tmod n ≠ 0 := fun h => by
      rw [hY h] at hw
      exact hw _ (wd_allI lL)
    have tnP : (t.tmod b.P == 0) = false := by rw [hP]; simp [tn]
    have nP : b.P ≠ 0 := by omega
    refine callW_pure rfl (o_Best_ok false false false b z1 r y (by omega) (by omega) hB) ?_
    simp -implicitDefEqProofs (disch := omega) [wrap_id]
    refine callW_pure rfl (o_Closed_ok false false false b z1 r y (by omega) (by omega) hD) ?_
    simp -implicitDefEqProofs (disch := omega) [wrap_id]
    refine callW_pure rfl PR ?_
    rw [hq]
    simp -implicitDefEqProofs (disch := omega) [wrap_id]
    refine pureW_of rfl CC ?_
    simp -implicitDefEqProofs (disch := omega) [wrap_id, cmp2, nthT]
    refine pureW_of rfl CP ?_
    simp -implicitDefEqProofs (disch := omega) [wrap_id, cmp2, nthT]
    refine callW_pure rfl C2 ?_
    simp -implicitDefEqProofs (disch := omega) [wrap_id]
    refine callW_pure rfl C3 ?_
    simp -implicitDefEqProofs (disch := omega) [wrap_id, nP, tnP]
    rcases hq2 with hq2 | ⟨hq2, hq3⟩
    · rw [hq2]
      simp -implicitDefEqProofs (disch := omega) [wrap_id]
      exact callW_pure rfl works_ok (by simp)
    · have P2 := o_CheckPair_ok false false false b z1 r y (by omega) (by omega) q0 q1 q2 q3 hpp
      have P3 := r_CheckPair_ok false false false b z2 r y (by omega) (by omega) q0 q1 q2 q3 hpp
      rw [hq3] at P2 P3
      rw [hq2]
      simp -implicitDefEqProofs (disch := omega) [wrap_id]
      refine callW_pure rfl P2 ?_
      simp -implicitDefEqProofs (disch := omega) [wrap_id]
      refine callW_pure rfl P3 ?_
      simp -implicitDefEqProofs (disch := omega) [wrap_id]
      exact callW_pure rfl works_ok (by simp)
  · obtain ⟨k, w, hd, hbst, hB, hl2, hl3, he, hwl, hkv⟩ := best_of ok of oY (Classical.choose_spec (not_noW.1 hw))
    have hD : AnsD b r y [] 11 := .inr ⟨h0, .inl ⟨hw, rfl, rfl⟩⟩
    obtain ⟨e5, e6⟩ := prE_of ok hpp h0 hw
    rw [e5, e6] at PR
    have c1 : cclE b r y (L.map (·.2)) ≠ 0 := fun h => hw (cR h)
    have c2 : ckpE b r y p1 p2 c d pp ≠ 0 := fun h => hw (cP h)
    generalize cclE b r y (L.map (·.2)) = f1 at c1 CC
    generalize ckpE b r y p1 p2 c d pp = f2 at c2 CP
    have IL := r_IsList_ok false false b (wI w) (by omega)
    rw [lstO_of hl2 hl3] at IL
    have AL := r_All_ok false false false ok r (wI w) lf hl2 (by omega)
    rw [he] at AL
    have hmin : t.tmod n = 0 → (wI w).length ≤ l.length := fun h => by
      obtain ⟨k', w', hd', _, _, _, _, _, hwl', hkv'⟩ := best_of ok of oX (wd_allI lL)
      rw [List.length_map] at hkv'
      rw [hY h] at hd
      have := hd.uniq hd'
      omega
    generalize wI w = m at *
    refine callW_pure rfl (o_Best_ok false false false b z1 r y (by omega) (by omega) hB) ?_
    simp -implicitDefEqProofs (disch := omega) [wrap_id]
    refine callW_pure rfl (o_Closed_ok false false false b z1 r y (by omega) (by omega) hD) ?_
    simp -implicitDefEqProofs (disch := omega) [wrap_id]
    refine callW_pure rfl PR ?_
    simp -implicitDefEqProofs (disch := omega) [wrap_id]
    refine pureW_of rfl CC ?_
    simp -implicitDefEqProofs (disch := omega) [wrap_id, cmp2, nthT]
    refine pureW_of rfl CP ?_
    simp -implicitDefEqProofs (disch := omega) [wrap_id, cmp2, nthT]
    refine callW_pure rfl IL ?_
    simp -implicitDefEqProofs (disch := omega) [wrap_id]
    refine callW_pure rfl AL ?_
    simp -implicitDefEqProofs (disch := omega) [wrap_id]
    refine callW_pure rfl (l_ints_ok _ false y y (by omega) (by omega)) ?_
    rw [decide_eq_true rfl]
    have c1' : (f1 != 0) = true := by simp [c1]
    have c2' : (f2 != 0) = true := by simp [c2]
    simp -implicitDefEqProofs (disch := omega) [wrap_id, hP, c1', c2', fLs]
    by_cases tn : t.tmod n = 0
    · have h5 : (m.length : Int) ≤ l.length := by have := hmin tn; omega
      have tn2 : (t.tmod n != 0) = false := by simp [tn]
      simp -implicitDefEqProofs (disch := omega) [wrap_id, tn2, h5]
      exact callW_pure rfl works_ok (by simp)
    · have tn2 : (t.tmod n != 0) = true := by simp [tn]
      simp -implicitDefEqProofs (disch := omega) [wrap_id, tn2]
      exact callW_pure rfl works_ok (by simp)
end Go.AM
