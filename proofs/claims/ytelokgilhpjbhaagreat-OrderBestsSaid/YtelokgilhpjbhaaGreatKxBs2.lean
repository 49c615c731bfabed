/-
  KxBs2: texts joined: FmOF Co1 Co2 Co3 Co7 Co8 Co12 Co13 Co14 Co15 FmOL Lo1 Lo5 Lo6. Own work.
-/
import Derived.Test.YtelokgilhpjbhaaGreatKxBs1
import Derived.Test.YtelokgilhpjbhaaGreatProg

set_option maxRecDepth 100000
namespace Go.AM
open Go.RowKit Go.Proofs
abbrev n_r_CheckBench : Nat := 24
def G_r_CheckBench : AC := (.seq (.rgn [⟨none, [(.box 1 2 (.t 0)), (.mv 2 (.k (I 0)))]⟩] [1]) (.seq (.seq (.rgn [⟨none, [(.fa 4 (.t 1) 0), (.ld 5 false 1 (.t 4)), (.bin 6 .lss (.t 5) (.k (I 2))), (.mv 7 (.t 6))]⟩, ⟨(some (7, false)), [(.fa 8 (.t 1) 0), (.ld 9 false 1 (.t 8)), (.bin 10 .gtr (.t 9) (.k (I 6)))]⟩, ⟨none, [(.pick 11 (.t 7) (.k (B true)) (.t 10))]⟩] [1, 11]) (.cond (.t 11) (.seq (.rgn [⟨none, [(.mv 2 (.k (I 2)))]⟩] [2]) .ret) .skip)) (.seq (.seq (.rgn [⟨none, [(.fa 12 (.t 1) 1), (.ld 13 false 1 (.t 12)), (.len 14 (.t 13)), (.bin 15 .gtr (.t 14) (.k (I 6)))]⟩] [1, 15]) (.cond (.t 15) (.seq (.rgn [⟨none, [(.mv 2 (.k (I 6)))]⟩] [2]) .ret) .skip)) (.seq (.seq (.rgn [⟨none, [(.mv 3 (.k (I 0)))]⟩] [1, 3]) (.block 0 (.loop (.seq (.seq (.rgn [⟨none, [(.mv 16 (.t 3)), (.fa 17 (.t 1) 1), (.ld 18 false 1 (.t 17)), (.len 19 (.t 18)), (.bin 20 .lss (.t 16) (.t 19))]⟩] [1, 3, 20]) (.cond (.t 20) .skip (.exit 0))) (.seq (.block 1 (.seq (.drw [⟨none, [(.fa 23 (.t 1) 1), (.ld 24 false 1 (.t 23)), (.mv 25 (.t 3)), (.ia 26 1 (.t 24) (.t 25)), (.ld 27 false 1 (.t 26)), (.fa 28 (.t 1) 0), (.ld 29 false 1 (.t 28)), (.call 30 77 [(.t 27), (.t 29)]), (.un 31 .not (.t 30))]⟩] [(1, 6), (4, 6)] [1, 3, 31]) (.cond (.t 31) (.seq (.rgn [⟨none, [(.mv 2 (.k (I 15)))]⟩] [2]) .ret) .skip))) (.rgn [⟨none, [(.mv 21 (.t 3)), (.bin 22 .add (.t 21) (.k (I 1))), (.mv 3 (.t 22))]⟩] [1, 3])))))) (.seq (.rgn [⟨none, [(.mv 2 (.k (I 0)))]⟩] [2]) .ret)))))
theorem func_r_CheckBench : Tryz.prog.funcs[n_r_CheckBench]? = some Tryz.f24 := Tryz.func24
theorem form_r_CheckBench : formOf Tryz.prog Tryz.f24 [2] = some G_r_CheckBench := by kernel_rfl
theorem res_r_CheckBench : resTmps Tryz.f24.results.toList = some [2] := by kernel_rfl
abbrev n_r_Best : Nat := 30
def G_r_Best : AC := (.seq (.rgn [⟨none, [(.box 3 2 (.t 0)), (.mv 6 (.k (.sl true 0 []))), (.mv 7 (.k (I 0)))]⟩] [1, 2, 3]) (.seq (.seq (.rgn [⟨none, [(.ld 13 true 2 (.t 3)), (.mv 14 (.t 1)), (.mv 15 (.t 2)), (.call 16 79 [(.t 13), (.t 14), (.t 15)]), (.bin 17 .neq (.t 16) (.k (I 0)))]⟩] [1, 2, 3, 17]) (.cond (.t 17) (.seq (.rgn [⟨none, [(.ld 18 true 2 (.t 3)), (.mv 19 (.t 1)), (.mv 20 (.t 2)), (.call 21 79 [(.t 18), (.t 19), (.t 20)]), (.mv 6 (.k (.sl true 0 []))), (.mv 7 (.t 21))]⟩] [6, 7]) .ret) .skip)) (.seq (.rgn [⟨none, [(.ld 23 true 2 (.t 3)), (.mv 24 (.t 1)), (.call 25 80 [(.t 23), (.t 24)]), (.mv 22 (.t 25)), (.ext 26 (.t 22) 0), (.ext 27 (.t 22) 1), (.ext 28 (.t 22) 2), (.ext 29 (.t 22) 3), (.mv 8 (.t 26)), (.mv 9 (.t 27)), (.mv 10 (.t 28)), (.mv 11 (.t 29))]⟩] [2, 8, 11]) (.seq (.rgn [⟨none, [(.mv 30 (.t 8)), (.mv 31 (.t 2)), (.call 32 81 [(.t 30), (.t 31)]), (.mv 12 (.t 32))]⟩] [11, 12]) (.seq (.seq (.rgn [⟨none, [(.mv 33 (.t 12)), (.bin 34 .lss (.t 33) (.k (I 0)))]⟩] [11, 12, 34]) (.cond (.t 34) (.seq (.rgn [⟨none, [(.mv 6 (.k (.sl true 0 []))), (.mv 7 (.k (I 13)))]⟩] [6, 7]) .ret) .skip)) (.seq (.rgn [⟨none, [(.mv 35 (.t 11)), (.mv 36 (.t 12)), (.ia 37 1 (.t 35) (.t 36)), (.ld 38 false 1 (.t 37)), (.mv 6 (.t 38)), (.mv 7 (.k (I 0)))]⟩] [6, 7]) .ret))))))
theorem func_r_Best : Tryz.prog.funcs[n_r_Best]? = some Tryz.f30 := Tryz.func30
theorem form_r_Best : formOf Tryz.prog Tryz.f30 [6, 7] = some G_r_Best := by kernel_rfl
theorem res_r_Best : resTmps Tryz.f30.results.toList = some [6, 7] := by kernel_rfl
abbrev n_r_Kind : Nat := 32
def G_r_Kind : AC := (.seq (.rgn [⟨none, [(.box 4 2 (.t 0)), (.mv 8 (.k (I 0))), (.mv 9 (.k (I 0)))]⟩] [1, 2, 3, 4]) (.seq (.seq (.rgn [⟨none, [(.ld 21 true 2 (.t 4)), (.mv 22 (.t 1)), (.mv 23 (.t 2)), (.call 24 79 [(.t 21), (.t 22), (.t 23)]), (.bin 25 .neq (.t 24) (.k (I 0)))]⟩] [1, 2, 3, 4, 25]) (.cond (.t 25) (.seq (.rgn [⟨none, [(.ld 26 true 2 (.t 4)), (.mv 27 (.t 1)), (.mv 28 (.t 2)), (.call 29 79 [(.t 26), (.t 27), (.t 28)]), (.mv 8 (.k (I 0))), (.mv 9 (.t 29))]⟩] [8, 9]) .ret) .skip)) (.seq (.seq (.rgn [⟨none, [(.mv 30 (.t 3)), (.bin 31 .lss (.t 30) (.k (I 0))), (.mv 32 (.t 31))]⟩, ⟨(some (32, false)), [(.mv 33 (.t 3)), (.fa 34 (.t 4) 1), (.ld 35 false 1 (.t 34)), (.len 36 (.t 35)), (.bin 37 .geq (.t 33) (.t 36))]⟩, ⟨none, [(.pick 38 (.t 32) (.k (B true)) (.t 37))]⟩] [1, 2, 3, 4, 38]) (.cond (.t 38) (.seq (.rgn [⟨none, [(.mv 8 (.k (I 0))), (.mv 9 (.k (I 3)))]⟩] [8, 9]) .ret) .skip)) (.seq (.rgn [⟨none, [(.ld 40 true 2 (.t 4)), (.mv 41 (.t 1)), (.call 42 80 [(.t 40), (.t 41)]), (.mv 39 (.t 42)), (.ext 43 (.t 39) 0), (.ext 44 (.t 39) 1), (.ext 45 (.t 39) 2), (.ext 46 (.t 39) 3), (.mv 10 (.t 43)), (.mv 11 (.t 44)), (.mv 12 (.t 45)), (.mv 13 (.t 46))]⟩] [1, 2, 3, 4, 10, 11]) (.seq (.rgn [⟨none, [(.mv 47 (.t 10)), (.mv 48 (.t 2)), (.call 49 81 [(.t 47), (.t 48)]), (.mv 14 (.t 49))]⟩] [1, 2, 3, 4, 10, 11, 14]) (.seq (.seq (.rgn [⟨none, [(.mv 50 (.t 14)), (.bin 51 .lss (.t 50) (.k (I 0)))]⟩] [1, 2, 3, 4, 10, 11, 14, 51]) (.cond (.t 51) (.seq (.rgn [⟨none, [(.mv 8 (.k (I 0))), (.mv 9 (.k (I 13)))]⟩] [8, 9]) .ret) .skip)) (.seq (.seq (.drw [⟨none, [(.ld 52 true 2 (.t 4)), (.mv 53 (.t 3)), (.call 54 84 [(.t 52), (.t 53)]), (.mv 55 (.t 1)), (.mv 56 (.t 2)), (.call 57 83 [(.t 54), (.t 55), (.t 56)]), (.mv 58 (.t 11)), (.mv 59 (.t 14)), (.ia 60 1 (.t 58) (.t 59)), (.ld 61 false 1 (.t 60)), (.bin 62 .neq (.t 57) (.t 61))]⟩] [(0, 9), (2, 9), (5, 9)] [2, 3, 4, 10, 11, 14, 62]) (.cond (.t 62) (.seq (.rgn [⟨none, [(.mv 8 (.k (I 2))), (.mv 9 (.k (I 0)))]⟩] [8, 9]) .ret) .skip)) (.seq (.rgn [⟨none, [(.ld 64 true 2 (.t 4)), (.call 65 85 [(.t 64)]), (.mv 66 (.t 2)), (.call 67 80 [(.t 65), (.t 66)]), (.mv 63 (.t 67)), (.ext 68 (.t 63) 0), (.ext 69 (.t 63) 1), (.ext 70 (.t 63) 2), (.ext 71 (.t 63) 3), (.mv 15 (.t 68)), (.mv 16 (.t 69)), (.mv 17 (.t 70)), (.mv 18 (.t 71))]⟩] [3, 4, 10, 11, 14, 15, 16]) (.seq (.seq (.rgn [⟨none, [(.mv 19 (.k (I 0)))]⟩] [3, 4, 10, 11, 14, 15, 16, 19]) (.block 0 (.loop (.seq (.seq (.rgn [⟨none, [(.mv 72 (.t 19)), (.mv 73 (.t 10)), (.len 74 (.t 73)), (.bin 75 .lss (.t 72) (.t 74))]⟩] [3, 4, 10, 11, 14, 15, 16, 19, 75]) (.cond (.t 75) .skip (.exit 0))) (.seq (.block 1 (.seq (.drw [⟨none, [(.mv 78 (.t 15)), (.fa 79 (.t 4) 1), (.ld 80 false 1 (.t 79)), (.mv 81 (.t 3)), (.ia 82 1 (.t 80) (.t 81)), (.ld 83 false 1 (.t 82)), (.mv 84 (.t 10)), (.mv 85 (.t 19)), (.ia 86 1 (.t 84) (.t 85)), (.ld 87 false 1 (.t 86)), (.call 88 55 [(.t 83), (.t 87)]), (.call 89 81 [(.t 78), (.t 88)]), (.mv 20 (.t 89))]⟩] [(2, 9), (5, 9)] [3, 4, 10, 11, 14, 15, 16, 19, 20]) (.seq (.drw [⟨none, [(.mv 90 (.t 20)), (.bin 91 .geq (.t 90) (.k (I 0))), (.mv 92 (.t 91))]⟩, ⟨(some (92, true)), [(.mv 93 (.t 11)), (.mv 94 (.t 19)), (.ia 95 1 (.t 93) (.t 94)), (.ld 96 false 1 (.t 95)), (.bin 97 .add (.t 96) (.k (I 1))), (.mv 98 (.t 16)), (.mv 99 (.t 20)), (.ia 100 1 (.t 98) (.t 99)), (.ld 101 false 1 (.t 100)), (.bin 102 .add (.t 97) (.t 101)), (.mv 103 (.t 11)), (.mv 104 (.t 14)), (.ia 105 1 (.t 103) (.t 104)), (.ld 106 false 1 (.t 105)), (.bin 107 .eql (.t 102) (.t 106))]⟩, ⟨none, [(.pick 108 (.t 92) (.t 107) (.k (B false)))]⟩] [(6, 11), (6, 16), (11, 16)] [3, 4, 10, 11, 14, 15, 16, 19, 108]) (.cond (.t 108) (.seq (.rgn [⟨none, [(.mv 8 (.k (I 1))), (.mv 9 (.k (I 0)))]⟩] [8, 9]) .ret) .skip)))) (.rgn [⟨none, [(.mv 76 (.t 19)), (.bin 77 .add (.t 76) (.k (I 1))), (.mv 19 (.t 77))]⟩] [3, 4, 10, 11, 14, 15, 16, 19])))))) (.seq (.rgn [⟨none, [(.mv 8 (.k (I 0))), (.mv 9 (.k (I 0)))]⟩] [8, 9]) .ret))))))))))
theorem func_r_Kind : Tryz.prog.funcs[n_r_Kind]? = some Tryz.f32 := Tryz.func32
theorem form_r_Kind : formOf Tryz.prog Tryz.f32 [8, 9] = some G_r_Kind := by kernel_rfl
theorem res_r_Kind : resTmps Tryz.f32.results.toList = some [8, 9] := by kernel_rfl
abbrev n_r_Count : Nat := 34
def G_r_Count : AC := (.seq (.rgn [⟨none, [(.box 3 2 (.t 0)), (.mv 6 (.k (I 0))), (.mv 7 (.k (I 0)))]⟩] [1, 2, 3]) (.seq (.seq (.rgn [⟨none, [(.ld 13 true 2 (.t 3)), (.mv 14 (.t 1)), (.mv 15 (.t 2)), (.call 16 79 [(.t 13), (.t 14), (.t 15)]), (.bin 17 .neq (.t 16) (.k (I 0)))]⟩] [1, 2, 3, 17]) (.cond (.t 17) (.seq (.rgn [⟨none, [(.ld 18 true 2 (.t 3)), (.mv 19 (.t 1)), (.mv 20 (.t 2)), (.call 21 79 [(.t 18), (.t 19), (.t 20)]), (.mv 6 (.k (I 0))), (.mv 7 (.t 21))]⟩] [6, 7]) .ret) .skip)) (.seq (.rgn [⟨none, [(.ld 23 true 2 (.t 3)), (.mv 24 (.t 1)), (.call 25 80 [(.t 23), (.t 24)]), (.mv 22 (.t 25)), (.ext 26 (.t 22) 0), (.ext 27 (.t 22) 1), (.ext 28 (.t 22) 2), (.ext 29 (.t 22) 3), (.mv 8 (.t 26)), (.mv 9 (.t 27)), (.mv 10 (.t 28)), (.mv 11 (.t 29))]⟩] [2, 8, 10]) (.seq (.rgn [⟨none, [(.mv 30 (.t 8)), (.mv 31 (.t 2)), (.call 32 81 [(.t 30), (.t 31)]), (.mv 12 (.t 32))]⟩] [10, 12]) (.seq (.seq (.rgn [⟨none, [(.mv 33 (.t 12)), (.bin 34 .lss (.t 33) (.k (I 0)))]⟩] [10, 12, 34]) (.cond (.t 34) (.seq (.rgn [⟨none, [(.mv 6 (.k (I 0))), (.mv 7 (.k (I 13)))]⟩] [6, 7]) .ret) .skip)) (.seq (.seq (.rgn [⟨none, [(.mv 35 (.t 10)), (.mv 36 (.t 12)), (.ia 37 1 (.t 35) (.t 36)), (.ld 38 false 1 (.t 37)), (.bin 39 .gtr (.t 38) (.k (I 1099511627776)))]⟩] [10, 12, 39]) (.cond (.t 39) (.seq (.rgn [⟨none, [(.mv 6 (.k (I 0))), (.mv 7 (.k (I 4)))]⟩] [6, 7]) .ret) .skip)) (.seq (.rgn [⟨none, [(.mv 40 (.t 10)), (.mv 41 (.t 12)), (.ia 42 1 (.t 40) (.t 41)), (.ld 43 false 1 (.t 42)), (.mv 6 (.t 43)), (.mv 7 (.k (I 0)))]⟩] [6, 7]) .ret)))))))
theorem func_r_Count : Tryz.prog.funcs[n_r_Count]? = some Tryz.f34 := Tryz.func34
theorem form_r_Count : formOf Tryz.prog Tryz.f34 [6, 7] = some G_r_Count := by kernel_rfl
theorem res_r_Count : resTmps Tryz.f34.results.toList = some [6, 7] := by kernel_rfl
abbrev n_r_After : Nat := 55
def G_r_After : AC := (.seq (.rgn [⟨none, [(.mv 4 (.k (.sl true 0 [])))]⟩] [0, 1]) (.seq (.rgn [⟨none, [(.mv 5 (.k (.sl true 0 [])))]⟩] [0, 1, 5]) (.seq (.seq (.rgn [⟨none, [(.mv 6 (.k (I 0)))]⟩] [0, 1, 5, 6]) (.block 0 (.loop (.seq (.seq (.rgn [⟨none, [(.mv 7 (.t 6)), (.mv 8 (.t 1)), (.len 9 (.t 8)), (.bin 10 .lss (.t 7) (.t 9))]⟩] [0, 1, 5, 6, 10]) (.cond (.t 10) .skip (.exit 0))) (.seq (.block 1 (.rgn [⟨none, [(.mv 13 (.t 5)), (.mv 14 (.t 1)), (.mv 15 (.t 0)), (.mv 16 (.t 6)), (.ia 17 1 (.t 15) (.t 16)), (.ld 18 false 1 (.t 17)), (.ia 19 1 (.t 14) (.t 18)), (.ld 20 false 1 (.t 19)), (.bsl 21 1 1 [(I 0)] [(0, (.t 20))]), (.app 22 1 8 (.t 13) (.t 21)), (.mv 5 (.t 22))]⟩] [0, 1, 5, 6])) (.rgn [⟨none, [(.mv 11 (.t 6)), (.bin 12 .add (.t 11) (.k (I 1))), (.mv 6 (.t 12))]⟩] [0, 1, 5, 6])))))) (.seq (.rgn [⟨none, [(.mv 23 (.t 5)), (.mv 4 (.t 23))]⟩] [4]) .ret))))
theorem func_r_After : Tryz.prog.funcs[n_r_After]? = some Tryz.f55 := Tryz.func55
theorem form_r_After : formOf Tryz.prog Tryz.f55 [4] = some G_r_After := by kernel_rfl
theorem res_r_After : resTmps Tryz.f55.results.toList = some [4] := by kernel_rfl
abbrev n_r_IsRow : Nat := 67
def G_r_IsRow : AC := (.seq (.rgn [⟨none, [(.box 2 2 (.t 0)), (.mv 4 (.k (B false)))]⟩] [1, 2]) (.seq (.seq (.rgn [⟨none, [(.mv 6 (.t 1)), (.len 7 (.t 6)), (.fa 8 (.t 2) 0), (.ld 9 false 1 (.t 8)), (.bin 10 .neq (.t 7) (.t 9))]⟩] [1, 10]) (.cond (.t 10) (.seq (.rgn [⟨none, [(.mv 4 (.k (B false)))]⟩] [4]) .ret) .skip)) (.seq (.seq (.rgn [⟨none, [(.mv 5 (.k (I 0)))]⟩] [1, 5]) (.block 0 (.loop (.seq (.seq (.rgn [⟨none, [(.mv 11 (.t 5)), (.mv 12 (.t 1)), (.len 13 (.t 12)), (.bin 14 .lss (.t 11) (.t 13))]⟩] [1, 5, 14]) (.cond (.t 14) .skip (.exit 0))) (.seq (.block 1 (.seq (.rgn [⟨none, [(.mv 17 (.t 1)), (.mv 18 (.t 5)), (.ia 19 1 (.t 17) (.t 18)), (.ld 20 false 1 (.t 19)), (.bin 21 .lss (.t 20) (.k (I 0))), (.mv 22 (.t 21))]⟩, ⟨(some (22, false)), [(.mv 23 (.t 1)), (.mv 24 (.t 5)), (.ia 25 1 (.t 23) (.t 24)), (.ld 26 false 1 (.t 25)), (.bin 27 .gtr (.t 26) (.k (I 5)))]⟩, ⟨none, [(.pick 28 (.t 22) (.k (B true)) (.t 27))]⟩] [1, 5, 28]) (.cond (.t 28) (.seq (.rgn [⟨none, [(.mv 4 (.k (B false)))]⟩] [4]) .ret) .skip))) (.rgn [⟨none, [(.mv 15 (.t 5)), (.bin 16 .add (.t 15) (.k (I 1))), (.mv 5 (.t 16))]⟩] [1, 5])))))) (.seq (.rgn [⟨none, [(.mv 4 (.k (B true)))]⟩] [4]) .ret))))
theorem func_r_IsRow : Tryz.prog.funcs[n_r_IsRow]? = some Tryz.f67 := Tryz.func67
theorem form_r_IsRow : formOf Tryz.prog Tryz.f67 [4] = some G_r_IsRow := by kernel_rfl
theorem res_r_IsRow : resTmps Tryz.f67.results.toList = some [4] := by kernel_rfl
abbrev n_r_Equal : Nat := 70
def G_r_Equal : AC := (.seq (.rgn [⟨none, [(.mv 4 (.k (B false)))]⟩] [0, 1]) (.seq (.seq (.rgn [⟨none, [(.mv 6 (.t 0)), (.len 7 (.t 6)), (.mv 8 (.t 1)), (.len 9 (.t 8)), (.bin 10 .neq (.t 7) (.t 9))]⟩] [0, 1, 10]) (.cond (.t 10) (.seq (.rgn [⟨none, [(.mv 4 (.k (B false)))]⟩] [4]) .ret) .skip)) (.seq (.seq (.rgn [⟨none, [(.mv 5 (.k (I 0)))]⟩] [0, 1, 5]) (.block 0 (.loop (.seq (.seq (.rgn [⟨none, [(.mv 11 (.t 5)), (.mv 12 (.t 0)), (.len 13 (.t 12)), (.bin 14 .lss (.t 11) (.t 13))]⟩] [0, 1, 5, 14]) (.cond (.t 14) .skip (.exit 0))) (.seq (.block 1 (.seq (.drw [⟨none, [(.mv 17 (.t 0)), (.mv 18 (.t 5)), (.ia 19 1 (.t 17) (.t 18)), (.ld 20 false 1 (.t 19)), (.mv 21 (.t 1)), (.mv 22 (.t 5)), (.ia 23 1 (.t 21) (.t 22)), (.ld 24 false 1 (.t 23)), (.bin 25 .neq (.t 20) (.t 24))]⟩] [(3, 7)] [0, 1, 5, 25]) (.cond (.t 25) (.seq (.rgn [⟨none, [(.mv 4 (.k (B false)))]⟩] [4]) .ret) .skip))) (.rgn [⟨none, [(.mv 15 (.t 5)), (.bin 16 .add (.t 15) (.k (I 1))), (.mv 5 (.t 16))]⟩] [0, 1, 5])))))) (.seq (.rgn [⟨none, [(.mv 4 (.k (B true)))]⟩] [4]) .ret))))
theorem func_r_Equal : Tryz.prog.funcs[n_r_Equal]? = some Tryz.f70 := Tryz.func70
theorem form_r_Equal : formOf Tryz.prog Tryz.f70 [4] = some G_r_Equal := by kernel_rfl
theorem res_r_Equal : resTmps Tryz.f70.results.toList = some [4] := by kernel_rfl
abbrev n_r_isStroke : Nat := 77
def G_r_isStroke : AC := (.seq (.rgn [⟨none, [(.mv 4 (.k (B false)))]⟩] [0, 1]) (.seq (.seq (.rgn [⟨none, [(.mv 8 (.t 0)), (.len 9 (.t 8)), (.mv 10 (.t 1)), (.bin 11 .neq (.t 9) (.t 10))]⟩] [0, 1, 11]) (.cond (.t 11) (.seq (.rgn [⟨none, [(.mv 4 (.k (B false)))]⟩] [4]) .ret) .skip)) (.seq (.seq (.rgn [⟨none, [(.mv 5 (.k (I 0)))]⟩] [0, 1, 5]) (.block 0 (.loop (.seq (.seq (.rgn [⟨none, [(.mv 12 (.t 5)), (.mv 13 (.t 1)), (.bin 14 .lss (.t 12) (.t 13))]⟩] [0, 1, 5, 14]) (.cond (.t 14) .skip (.exit 0))) (.seq (.block 1 (.seq (.rgn [⟨none, [(.mv 6 (.k (I 0)))]⟩] [0, 1, 5, 6]) (.seq (.seq (.rgn [⟨none, [(.mv 7 (.k (I 0)))]⟩] [0, 1, 5, 6, 7]) (.block 2 (.loop (.seq (.seq (.rgn [⟨none, [(.mv 17 (.t 7)), (.mv 18 (.t 0)), (.len 19 (.t 18)), (.bin 20 .lss (.t 17) (.t 19))]⟩] [0, 1, 5, 6, 7, 20]) (.cond (.t 20) .skip (.exit 2))) (.seq (.block 3 (.seq (.rgn [⟨none, [(.mv 23 (.t 0)), (.mv 24 (.t 7)), (.ia 25 1 (.t 23) (.t 24)), (.ld 26 false 1 (.t 25)), (.mv 27 (.t 5)), (.bin 28 .eql (.t 26) (.t 27))]⟩] [0, 1, 5, 6, 7, 28]) (.cond (.t 28) (.rgn [⟨none, [(.mv 29 (.t 6)), (.bin 30 .add (.t 29) (.k (I 1))), (.mv 6 (.t 30))]⟩] [0, 1, 5, 6, 7]) .skip))) (.rgn [⟨none, [(.mv 21 (.t 7)), (.bin 22 .add (.t 21) (.k (I 1))), (.mv 7 (.t 22))]⟩] [0, 1, 5, 6, 7])))))) (.seq (.rgn [⟨none, [(.mv 31 (.t 6)), (.bin 32 .neq (.t 31) (.k (I 1)))]⟩] [0, 1, 5, 32]) (.cond (.t 32) (.seq (.rgn [⟨none, [(.mv 4 (.k (B false)))]⟩] [4]) .ret) .skip))))) (.rgn [⟨none, [(.mv 15 (.t 5)), (.bin 16 .add (.t 15) (.k (I 1))), (.mv 5 (.t 16))]⟩] [0, 1, 5])))))) (.seq (.rgn [⟨none, [(.mv 4 (.k (B true)))]⟩] [4]) .ret))))
theorem func_r_isStroke : Tryz.prog.funcs[n_r_isStroke]? = some Tryz.f77 := Tryz.func77
theorem form_r_isStroke : formOf Tryz.prog Tryz.f77 [4] = some G_r_isStroke := by kernel_rfl
theorem res_r_isStroke : resTmps Tryz.f77.results.toList = some [4] := by kernel_rfl
abbrev n_r_Rows : Nat := 79
def G_r_Rows : AC := (.seq (.rgn [⟨none, [(.box 3 2 (.t 0)), (.mv 6 (.k (I 0)))]⟩] [1, 2, 3]) (.seq (.seq (.rgn [⟨none, [(.ld 7 true 2 (.t 3)), (.call 8 24 [(.t 7)]), (.bin 9 .neq (.t 8) (.k (I 0)))]⟩] [1, 2, 3, 9]) (.cond (.t 9) (.seq (.rgn [⟨none, [(.ld 10 true 2 (.t 3)), (.call 11 24 [(.t 10)]), (.mv 6 (.t 11))]⟩] [6]) .ret) .skip)) (.seq (.seq (.rgn [⟨none, [(.ld 12 true 2 (.t 3)), (.mv 13 (.t 1)), (.call 14 67 [(.t 12), (.t 13)]), (.un 15 .not (.t 14)), (.mv 16 (.t 15))]⟩, ⟨(some (16, false)), [(.ld 17 true 2 (.t 3)), (.mv 18 (.t 2)), (.call 19 67 [(.t 17), (.t 18)]), (.un 20 .not (.t 19))]⟩, ⟨none, [(.pick 21 (.t 16) (.k (B true)) (.t 20))]⟩] [21]) (.cond (.t 21) (.seq (.rgn [⟨none, [(.mv 6 (.k (I 2)))]⟩] [6]) .ret) .skip)) (.seq (.rgn [⟨none, [(.mv 6 (.k (I 0)))]⟩] [6]) .ret))))
theorem func_r_Rows : Tryz.prog.funcs[n_r_Rows]? = some Tryz.f79 := Tryz.func79
theorem form_r_Rows : formOf Tryz.prog Tryz.f79 [6] = some G_r_Rows := by kernel_rfl
theorem res_r_Rows : resTmps Tryz.f79.results.toList = some [6] := by kernel_rfl
abbrev n_r_Reached : Nat := 80
def G_r_Reached : AC := (.seq (.rgn [⟨none, [(.box 2 2 (.t 0)), (.mv 4 (.k (.sl true 0 []))), (.mv 5 (.k (.sl true 0 []))), (.mv 6 (.k (.sl true 0 []))), (.mv 7 (.k (.sl true 0 [])))]⟩] [1, 2]) (.seq (.rgn [⟨none, [(.mv 17 (.t 1)), (.bsl 18 1 1 [(.sl true 0 [])] [(0, (.t 17))]), (.bsl 19 1 1 [(I 0)] [(0, (.k (I 0)))]), (.bsl 20 1 1 [(I 0)] [(0, (.k (I 1)))]), (.bsl 21 1 1 [(.sl true 0 [])] [(0, (.k (.sl true 0 [])))]), (.mv 8 (.t 18)), (.mv 9 (.t 19)), (.mv 10 (.t 20)), (.mv 11 (.t 21))]⟩] [2, 8, 9, 10, 11]) (.seq (.seq (.rgn [⟨none, [(.mv 12 (.k (I 0)))]⟩] [2, 8, 9, 10, 11, 12]) (.block 0 (.loop (.seq (.seq (.rgn [⟨none, [(.mv 22 (.t 12)), (.mv 23 (.t 8)), (.len 24 (.t 23)), (.bin 25 .lss (.t 22) (.t 24))]⟩] [2, 8, 9, 10, 11, 12, 25]) (.cond (.t 25) .skip (.exit 0))) (.seq (.block 1 (.seq (.rgn [⟨none, [(.mv 13 (.k (I 0)))]⟩] [2, 8, 9, 10, 11, 12, 13]) (.block 2 (.loop (.seq (.seq (.rgn [⟨none, [(.mv 28 (.t 13)), (.fa 29 (.t 2) 1), (.ld 30 false 1 (.t 29)), (.len 31 (.t 30)), (.bin 32 .lss (.t 28) (.t 31))]⟩] [2, 8, 9, 10, 11, 12, 13, 32]) (.cond (.t 32) .skip (.exit 2))) (.seq (.block 3 (.seq (.drw [⟨none, [(.fa 35 (.t 2) 1), (.ld 36 false 1 (.t 35)), (.mv 37 (.t 13)), (.ia 38 1 (.t 36) (.t 37)), (.ld 39 false 1 (.t 38)), (.mv 40 (.t 8)), (.mv 41 (.t 12)), (.ia 42 1 (.t 40) (.t 41)), (.ld 43 false 1 (.t 42)), (.call 44 55 [(.t 39), (.t 43)]), (.mv 14 (.t 44))]⟩] [(1, 8), (4, 8)] [2, 8, 9, 10, 11, 12, 13, 14]) (.seq (.rgn [⟨none, [(.bsl 45 0 1 [(I 0)] []), (.mv 46 (.t 11)), (.mv 47 (.t 12)), (.ia 48 1 (.t 46) (.t 47)), (.ld 49 false 1 (.t 48)), (.app 50 1 8 (.t 45) (.t 49)), (.mv 51 (.t 13)), (.bsl 52 1 1 [(I 0)] [(0, (.t 51))]), (.app 53 1 8 (.t 50) (.t 52)), (.mv 15 (.t 53))]⟩] [2, 8, 9, 10, 11, 12, 13, 14, 15]) (.seq (.rgn [⟨none, [(.mv 54 (.t 8)), (.mv 55 (.t 14)), (.call 56 81 [(.t 54), (.t 55)]), (.mv 16 (.t 56))]⟩] [2, 8, 9, 10, 11, 12, 13, 14, 15, 16]) (.seq (.seq (.rgn [⟨none, [(.mv 57 (.t 16)), (.bin 58 .lss (.t 57) (.k (I 0)))]⟩] [2, 8, 9, 10, 11, 12, 13, 14, 15, 16, 58]) (.cond (.t 58) (.seq (.drw [⟨none, [(.mv 59 (.t 8)), (.mv 60 (.t 14)), (.bsl 61 1 1 [(.sl true 0 [])] [(0, (.t 60))]), (.app 62 1 24 (.t 59) (.t 61)), (.mv 63 (.t 9)), (.mv 64 (.t 9)), (.mv 65 (.t 12)), (.ia 66 1 (.t 64) (.t 65)), (.ld 67 false 1 (.t 66)), (.bin 68 .add (.t 67) (.k (I 1))), (.bsl 69 1 1 [(I 0)] [(0, (.t 68))]), (.app 70 1 8 (.t 63) (.t 69)), (.mv 71 (.t 10)), (.mv 72 (.t 10)), (.mv 73 (.t 12)), (.ia 74 1 (.t 72) (.t 73)), (.ld 75 false 1 (.t 74)), (.bsl 76 1 1 [(I 0)] [(0, (.t 75))]), (.app 77 1 8 (.t 71) (.t 76)), (.mv 78 (.t 11)), (.mv 79 (.t 15)), (.bsl 80 1 1 [(.sl true 0 [])] [(0, (.t 79))]), (.app 81 1 24 (.t 78) (.t 80)), (.mv 8 (.t 62)), (.mv 9 (.t 70)), (.mv 10 (.t 77)), (.mv 11 (.t 81))]⟩] [(2, 8), (3, 8), (2, 10), (3, 10), (2, 16), (3, 16), (8, 16), (10, 16), (11, 16), (2, 17), (3, 17), (8, 17), (10, 17), (11, 17), (2, 21), (3, 21), (8, 21), (10, 21), (11, 21), (16, 21), (17, 21), (18, 21)] [2, 8, 9, 10, 11, 12, 13]) (.exit 3)) .skip)) (.seq (.seq (.drw [⟨none, [(.mv 82 (.t 9)), (.mv 83 (.t 16)), (.ia 84 1 (.t 82) (.t 83)), (.ld 85 false 1 (.t 84)), (.mv 86 (.t 9)), (.mv 87 (.t 12)), (.ia 88 1 (.t 86) (.t 87)), (.ld 89 false 1 (.t 88)), (.bin 90 .add (.t 89) (.k (I 1))), (.bin 91 .neq (.t 85) (.t 90))]⟩] [(3, 7)] [2, 8, 9, 10, 11, 12, 13, 15, 16, 91]) (.cond (.t 91) (.exit 3) .skip)) (.seq (.drw [⟨none, [(.mv 92 (.t 10)), (.mv 93 (.t 16)), (.mv 94 (.t 10)), (.mv 95 (.t 16)), (.ia 96 1 (.t 94) (.t 95)), (.ld 97 false 1 (.t 96)), (.mv 98 (.t 10)), (.mv 99 (.t 12)), (.ia 100 1 (.t 98) (.t 99)), (.ld 101 false 1 (.t 100)), (.bin 102 .add (.t 97) (.t 101)), (.mx 103 false (.k (I 1099511627777)) (.t 102)), (.ia 104 1 (.t 92) (.t 93)), (.st 1 (.t 104) (.t 103))]⟩] [(5, 9)] [2, 8, 9, 10, 11, 12, 13, 15, 16]) (.seq (.rgn [⟨none, [(.mv 105 (.t 15)), (.mv 106 (.t 11)), (.mv 107 (.t 16)), (.ia 108 1 (.t 106) (.t 107)), (.ld 109 false 1 (.t 108)), (.call 110 90 [(.t 105), (.t 109)])]⟩] [2, 8, 9, 10, 11, 12, 13, 15, 16, 110]) (.cond (.t 110) (.rgn [⟨none, [(.mv 111 (.t 11)), (.mv 112 (.t 16)), (.mv 113 (.t 15)), (.ia 114 1 (.t 111) (.t 112)), (.st 1 (.t 114) (.t 113))]⟩] [2, 8, 9, 10, 11, 12, 13]) .skip))))))))) (.rgn [⟨none, [(.mv 33 (.t 13)), (.bin 34 .add (.t 33) (.k (I 1))), (.mv 13 (.t 34))]⟩] [2, 8, 9, 10, 11, 12, 13]))))))) (.rgn [⟨none, [(.mv 26 (.t 12)), (.bin 27 .add (.t 26) (.k (I 1))), (.mv 12 (.t 27))]⟩] [2, 8, 9, 10, 11, 12])))))) (.seq (.rgn [⟨none, [(.mv 115 (.t 8)), (.mv 116 (.t 9)), (.mv 117 (.t 10)), (.mv 118 (.t 11)), (.mv 4 (.t 115)), (.mv 5 (.t 116)), (.mv 6 (.t 117)), (.mv 7 (.t 118))]⟩] [4, 5, 6, 7]) .ret))))
theorem func_r_Reached : Tryz.prog.funcs[n_r_Reached]? = some Tryz.f80 := Tryz.func80
theorem form_r_Reached : formOf Tryz.prog Tryz.f80 [4, 5, 6, 7] = some G_r_Reached := by kernel_rfl
theorem res_r_Reached : resTmps Tryz.f80.results.toList = some [4, 5, 6, 7] := by kernel_rfl
abbrev n_r_find : Nat := 81
def G_r_find : AC := (.seq (.rgn [⟨none, [(.mv 4 (.k (I 0)))]⟩] [0, 1]) (.seq (.seq (.rgn [⟨none, [(.mv 5 (.k (I 0)))]⟩] [0, 1, 5]) (.block 0 (.loop (.seq (.seq (.rgn [⟨none, [(.mv 6 (.t 5)), (.mv 7 (.t 0)), (.len 8 (.t 7)), (.bin 9 .lss (.t 6) (.t 8))]⟩] [0, 1, 5, 9]) (.cond (.t 9) .skip (.exit 0))) (.seq (.block 1 (.seq (.rgn [⟨none, [(.mv 12 (.t 0)), (.mv 13 (.t 5)), (.ia 14 1 (.t 12) (.t 13)), (.ld 15 false 1 (.t 14)), (.mv 16 (.t 1)), (.call 17 70 [(.t 15), (.t 16)])]⟩] [0, 1, 5, 17]) (.cond (.t 17) (.seq (.rgn [⟨none, [(.mv 18 (.t 5)), (.mv 4 (.t 18))]⟩] [4]) .ret) .skip))) (.rgn [⟨none, [(.mv 10 (.t 5)), (.bin 11 .add (.t 10) (.k (I 1))), (.mv 5 (.t 11))]⟩] [0, 1, 5])))))) (.seq (.rgn [⟨none, [(.mv 4 (.k (I (-1))))]⟩] [4]) .ret)))
theorem func_r_find : Tryz.prog.funcs[n_r_find]? = some Tryz.f81 := Tryz.func81
theorem form_r_find : formOf Tryz.prog Tryz.f81 [4] = some G_r_find := by kernel_rfl
theorem res_r_find : resTmps Tryz.f81.results.toList = some [4] := by kernel_rfl
abbrev n_r_FarFrom : Nat := 83
def G_r_FarFrom : AC := (.seq (.rgn [⟨none, [(.box 3 2 (.t 0)), (.mv 6 (.k (I 0)))]⟩] [1, 2, 3]) (.seq (.rgn [⟨none, [(.ld 13 true 2 (.t 3)), (.mv 14 (.t 1)), (.call 15 80 [(.t 13), (.t 14)]), (.mv 12 (.t 15)), (.ext 16 (.t 12) 0), (.ext 17 (.t 12) 1), (.ext 18 (.t 12) 2), (.ext 19 (.t 12) 3), (.mv 7 (.t 16)), (.mv 8 (.t 17)), (.mv 9 (.t 18)), (.mv 10 (.t 19))]⟩] [2, 7, 8]) (.seq (.rgn [⟨none, [(.mv 20 (.t 7)), (.mv 21 (.t 2)), (.call 22 81 [(.t 20), (.t 21)]), (.mv 11 (.t 22))]⟩] [8, 11]) (.seq (.seq (.rgn [⟨none, [(.mv 23 (.t 11)), (.bin 24 .lss (.t 23) (.k (I 0)))]⟩] [8, 11, 24]) (.cond (.t 24) (.seq (.rgn [⟨none, [(.mv 6 (.k (I (-1))))]⟩] [6]) .ret) .skip)) (.seq (.rgn [⟨none, [(.mv 25 (.t 8)), (.mv 26 (.t 11)), (.ia 27 1 (.t 25) (.t 26)), (.ld 28 false 1 (.t 27)), (.mv 6 (.t 28))]⟩] [6]) .ret)))))
theorem func_r_FarFrom : Tryz.prog.funcs[n_r_FarFrom]? = some Tryz.f83 := Tryz.func83
theorem form_r_FarFrom : formOf Tryz.prog Tryz.f83 [6] = some G_r_FarFrom := by kernel_rfl
theorem res_r_FarFrom : resTmps Tryz.f83.results.toList = some [6] := by kernel_rfl
abbrev n_r_without : Nat := 84
def G_r_without : AC := (.seq (.rgn [⟨none, [(.box 2 2 (.t 0)), (.al 4 [(I 0), (.sl true 0 [])])]⟩] [1, 2, 4]) (.seq (.drw [⟨none, [(.fa 5 (.t 2) 0), (.ld 6 false 1 (.t 5)), (.bsl 7 0 1 [(.sl true 0 [])] []), (.fa 8 (.t 2) 1), (.ld 9 false 1 (.t 8)), (.mv 10 (.t 1)), (.slc 11 1 (.t 9) none (some (.t 10)) none), (.app 12 1 24 (.t 7) (.t 11)), (.fa 13 (.t 2) 1), (.ld 14 false 1 (.t 13)), (.mv 15 (.t 1)), (.bin 16 .add (.t 15) (.k (I 1))), (.slc 17 1 (.t 14) (some (.t 16)) none none), (.app 18 1 24 (.t 12) (.t 17)), (.bld 19 [(I 0), (.sl true 0 [])] [(0, 1, (.t 6)), (1, 1, (.t 18))]), (.st 2 (.t 4) (.t 19))]⟩] [(1, 2), (1, 4), (2, 4), (1, 7), (1, 9), (2, 9), (4, 9), (7, 9), (1, 13)] [4]) .ret))
theorem func_r_without : Tryz.prog.funcs[n_r_without]? = some Tryz.f84 := Tryz.func84
theorem form_r_without : formOf Tryz.prog Tryz.f84 [4] = some G_r_without := by kernel_rfl
theorem resc_r_without : resCs Tryz.prog Tryz.f84.results.toList = some [(4, some (true, 2))] := by kernel_rfl
abbrev n_r_back : Nat := 85
def G_r_back : AC := (.seq (.rgn [⟨none, [(.box 1 2 (.t 0)), (.al 2 [(I 0), (.sl true 0 [])])]⟩] [1, 2]) (.seq (.rgn [⟨none, [(.fa 7 (.t 1) 0), (.ld 8 false 1 (.t 7)), (.bld 9 [(I 0), (.sl true 0 [])] [(0, 1, (.t 8))]), (.al 3 [(I 0), (.sl true 0 [])]), (.st 2 (.t 3) (.t 9))]⟩] [1, 2, 3]) (.seq (.seq (.rgn [⟨none, [(.mv 4 (.k (I 0)))]⟩] [1, 2, 3, 4]) (.block 0 (.loop (.seq (.seq (.rgn [⟨none, [(.mv 10 (.t 4)), (.fa 11 (.t 1) 1), (.ld 12 false 1 (.t 11)), (.len 13 (.t 12)), (.bin 14 .lss (.t 10) (.t 13))]⟩] [1, 2, 3, 4, 14]) (.cond (.t 14) .skip (.exit 0))) (.seq (.block 1 (.seq (.rgn [⟨none, [(.fa 17 (.t 1) 0), (.ld 18 false 1 (.t 17)), (.mks 19 1 8 [(I 0)] (.t 18) (.t 18)), (.mv 5 (.t 19))]⟩] [1, 2, 3, 4, 5]) (.seq (.seq (.rgn [⟨none, [(.mv 6 (.k (I 0)))]⟩] [1, 2, 3, 4, 5, 6]) (.block 2 (.loop (.seq (.seq (.rgn [⟨none, [(.mv 20 (.t 6)), (.fa 21 (.t 1) 0), (.ld 22 false 1 (.t 21)), (.bin 23 .lss (.t 20) (.t 22))]⟩] [1, 2, 3, 4, 5, 6, 23]) (.cond (.t 23) .skip (.exit 2))) (.seq (.block 3 (.rgn [⟨none, [(.mv 26 (.t 5)), (.fa 27 (.t 1) 1), (.ld 28 false 1 (.t 27)), (.mv 29 (.t 4)), (.ia 30 1 (.t 28) (.t 29)), (.ld 31 false 1 (.t 30)), (.mv 32 (.t 6)), (.ia 33 1 (.t 31) (.t 32)), (.ld 34 false 1 (.t 33)), (.mv 35 (.t 6)), (.ia 36 1 (.t 26) (.t 34)), (.st 1 (.t 36) (.t 35))]⟩] [1, 2, 3, 4, 5, 6])) (.rgn [⟨none, [(.mv 24 (.t 6)), (.bin 25 .add (.t 24) (.k (I 1))), (.mv 6 (.t 25))]⟩] [1, 2, 3, 4, 5, 6])))))) (.rgn [⟨none, [(.fa 37 (.t 3) 1), (.ld 38 false 1 (.t 37)), (.mv 39 (.t 5)), (.bsl 40 1 1 [(.sl true 0 [])] [(0, (.t 39))]), (.app 41 1 24 (.t 38) (.t 40)), (.fa 42 (.t 3) 1), (.st 1 (.t 42) (.t 41))]⟩] [1, 2, 3, 4])))) (.rgn [⟨none, [(.mv 15 (.t 4)), (.bin 16 .add (.t 15) (.k (I 1))), (.mv 4 (.t 16))]⟩] [1, 2, 3, 4])))))) (.seq (.rgn [⟨none, [(.ld 43 true 2 (.t 3)), (.st 2 (.t 2) (.t 43))]⟩] [2]) .ret))))
theorem func_r_back : Tryz.prog.funcs[n_r_back]? = some Tryz.f85 := Tryz.func85
theorem form_r_back : formOf Tryz.prog Tryz.f85 [2] = some G_r_back := by kernel_rfl
theorem resc_r_back : resCs Tryz.prog Tryz.f85.results.toList = some [(2, some (true, 2))] := by kernel_rfl
abbrev n_r_First : Nat := 90
def G_r_First : AC := (.seq (.rgn [⟨none, [(.mv 4 (.k (B false)))]⟩] [0, 1]) (.seq (.seq (.rgn [⟨none, [(.mv 5 (.k (I 0)))]⟩] [0, 1, 5]) (.block 0 (.loop (.seq (.seq (.rgn [⟨none, [(.mv 6 (.t 5)), (.mv 7 (.t 0)), (.len 8 (.t 7)), (.bin 9 .lss (.t 6) (.t 8))]⟩] [0, 1, 5, 9]) (.cond (.t 9) .skip (.exit 0))) (.seq (.block 1 (.seq (.drw [⟨none, [(.mv 12 (.t 0)), (.mv 13 (.t 5)), (.ia 14 1 (.t 12) (.t 13)), (.ld 15 false 1 (.t 14)), (.mv 16 (.t 1)), (.mv 17 (.t 5)), (.ia 18 1 (.t 16) (.t 17)), (.ld 19 false 1 (.t 18)), (.bin 20 .neq (.t 15) (.t 19))]⟩] [(3, 7)] [0, 1, 5, 20]) (.cond (.t 20) (.seq (.drw [⟨none, [(.mv 21 (.t 0)), (.mv 22 (.t 5)), (.ia 23 1 (.t 21) (.t 22)), (.ld 24 false 1 (.t 23)), (.mv 25 (.t 1)), (.mv 26 (.t 5)), (.ia 27 1 (.t 25) (.t 26)), (.ld 28 false 1 (.t 27)), (.bin 29 .lss (.t 24) (.t 28)), (.mv 4 (.t 29))]⟩] [(3, 7)] [4]) .ret) .skip))) (.rgn [⟨none, [(.mv 10 (.t 5)), (.bin 11 .add (.t 10) (.k (I 1))), (.mv 5 (.t 11))]⟩] [0, 1, 5])))))) (.seq (.rgn [⟨none, [(.mv 4 (.k (B false)))]⟩] [4]) .ret)))
theorem func_r_First : Tryz.prog.funcs[n_r_First]? = some Tryz.f90 := Tryz.func90
theorem form_r_First : formOf Tryz.prog Tryz.f90 [4] = some G_r_First := by kernel_rfl
theorem res_r_First : resTmps Tryz.f90.results.toList = some [4] := by kernel_rfl
end Go.AM

set_option linter.unusedSimpArgs false
set_option linter.unusedVariables false
namespace Go.AM
open Go.RowKit Go.Proofs
theorem count_take {l : List Int} {i : Nat} {p : Int} (h : i < l.length) : (l.take (i + 1)).count p = (l.take i).count p + if l[i] = p then 1 else 0 := by
  rw [List.take_succ_eq_append_getElem h, List.count_append, List.count_singleton]
  by_cases e : l[i] = p
  · simp [e]
  · simp [e]
set_option maxHeartbeats 1000000 in
theorem r_isStroke_ok (f : Bool) (l : List Int) (P : Int) (hl : l.length ≤ 1000000) : PureOK Tryz.prog n_r_isStroke [Ls f l, I P] (B (strO P l)) := by
  refine pure_of (walk func_r_isStroke form_r_isStroke res_r_isStroke (by show 2 ≤ _; decide) ?_)
  simp -implicitDefEqProofs (disch := omega) [G_r_isStroke, wrap_id]
  by_cases hP : (l.length : Int) = P
  · subst hP
    simp -implicitDefEqProofs (disch := omega) [wrap_id]
    refine loop_eq (fun p : Nat => ⟨[(0, Ls f l), (1, I (l.length : Int)), (5, I (p : Int))], []⟩) (fun p => p ≤ l.length ∧ ((List.range p).all fun p => l.count (p : Int) == 1) = true) (fun p => l.length - p) 0 ⟨Nat.zero_le _, rfl⟩ rfl ?_
    rintro p ⟨hp, ha⟩
    refine hideK' fun K0 hK0 => ?_
    simp -implicitDefEqProofs (disch := omega) [wrap_id]
    refine c_split (fun h => ?_) (fun h => ?_)
    · have hp : p < l.length := by simp at h; omega
      have px : ((p : Int) + 1) = ((p + 1 : Nat) : Int) := by omega
      simp -implicitDefEqProofs (disch := omega) [wrap_id]
      refine loop_eq (fun i : Nat => ⟨[(0, Ls f l), (1, I (l.length : Int)), (5, I (p : Int)), (6, I ((l.take i).count (p : Int) : Nat)), (7, I (i : Int))], []⟩) (fun i => i ≤ l.length) (fun i => l.length - i) 0 (Nat.zero_le _) rfl ?_
      intro i hi
      refine hideK' fun K1 hK1 => ?_
      simp -implicitDefEqProofs (disch := omega) [wrap_id]
      refine c_split (fun h => ?_) (fun h => ?_)
      · have hi : i < l.length := by simp at h; omega
        have ix : ((i : Int) + 1) = ((i + 1 : Nat) : Int) := by omega
        have ct := count_take (p := (p : Int)) hi
        have cl : (l.take i).count (p : Int) ≤ l.length := Nat.le_trans List.count_le_length (by rw [List.length_take]; omega)
        generalize hc : (l.take i).count (p : Int) = c at *
        have cx : ((c : Int) + 1) = ((c + 1 : Nat) : Int) := by omega
        by_cases e : l[i] = (p : Int)
        · rw [if_pos e] at ct
          simp -implicitDefEqProofs (disch := omega) [wrap_id, cells_ls, hi, e]
          rw [hK1]
          exact next_eq (i + 1) (by omega) (by omega) (by simp only [ix, cx, ct])
        · rw [if_neg e] at ct
          have e' : (l[i] == (p : Int)) = false := by simpa using e
          simp -implicitDefEqProofs (disch := omega) [wrap_id, cells_ls, hi, e, e']
          rw [hK1]
          exact next_eq (i + 1) (by omega) (by omega) (by simp only [ix, ct]; rfl)
      · have hi : i = l.length := by simp at h; omega
        subst hi
        subst hK1
        have cl := List.count_le_length (a := (p : Int)) (l := l)
        have tk : l.take l.length = l := List.take_of_length_le (Nat.le_refl _)
        by_cases e : l.count (p : Int) = 1
        · simp -implicitDefEqProofs (disch := omega) [wrap_id, e, tk]
          rw [hK0]
          refine next_eq (p + 1) ⟨by omega, ?_⟩ (by omega) (by simp only [px])
          rw [range_all_succ, ha, e]; rfl
        · have e' : ((l.count (p : Int) : Int) != 1) = true := by simp only [bne_iff_ne, ne_eq]; omega
          have hf : strO (l.length : Int) l = false := by
            unfold strO
            have : ((List.range l.length).all fun p => l.count (p : Int) == 1) = false := by
              rw [List.all_eq_false]
              exact ⟨p, List.mem_range.2 hp, by simp [e]⟩
            rw [this, Bool.and_false]
          simp -implicitDefEqProofs (disch := omega) [wrap_id, e', tk]
          rw [hf] at hK0
          subst hK0
          simp -implicitDefEqProofs (disch := omega) [wrap_id]
    · have hp : p = l.length := by simp at h; omega
      subst hp
      have ht : strO (l.length : Int) l = true := by unfold strO; rw [ha]; simp
      rw [ht] at hK0
      subst hK0
      simp -implicitDefEqProofs (disch := omega) [wrap_id]
  · have hP' : ((l.length : Int) != P) = true := by simpa using hP
    have hf : strO P l = false := by unfold strO; rw [decide_eq_false hP]; rfl
    simp -implicitDefEqProofs (disch := omega) [wrap_id, hP', hf]
end Go.AM

set_option linter.unusedSimpArgs false
set_option linter.unusedVariables false
namespace Go.AM
open Go.RowKit Go.Proofs
theorem r_Equal_ok (f g : Bool) (l m : List Int) (hl : l.length ≤ 1000000) (hm : m.length ≤ 1000000) : PureOK Tryz.prog n_r_Equal [Ls f l, Ls g m] (B (decide (l = m))) := by
  refine pure_of (walk func_r_Equal form_r_Equal res_r_Equal (by show 2 ≤ _; decide) ?_)
  simp -implicitDefEqProofs (disch := omega) [G_r_Equal, wrap_id]
  refine c_split (fun h => ?_) (fun h => ?_)
  · simp at h; simp -implicitDefEqProofs (disch := omega) [wrap_id, h]
    intro e; subst e; exact h rfl
  · simp at h; simp -implicitDefEqProofs (disch := omega) [wrap_id, h]
    refine loop_eq (fun i : Nat => ⟨[(0, Ls f l), (1, Ls g m), (5, I i)], []⟩) (fun i => i ≤ l.length ∧ l.take i = m.take i) (fun i => l.length - i) 0 ⟨by omega, rfl⟩ rfl ?_
    intro i ⟨hi, he⟩
    simp -implicitDefEqProofs (disch := omega) [wrap_id]
    refine c_split (fun h => ?_) (fun h => ?_)
    · simp at h
      have h2 : i < m.length := by omega
      simp -implicitDefEqProofs (disch := omega) [wrap_id, cells_ls, h, h2]
      refine c_split (fun h3 => ?_) (fun h3 => ?_)
      · simp at h3; simp -implicitDefEqProofs (disch := omega) [wrap_id]
        intro e; subst e; exact h3 rfl
      · simp at h3; simp -implicitDefEqProofs (disch := omega) [wrap_id]
        refine next_eq (i + 1) ⟨by omega, ?_⟩ (by omega) (by simp)
        rw [List.take_add_one, List.take_add_one, he]; simp [h, h2, h3]
    · simp at h; simp -implicitDefEqProofs (disch := omega) [wrap_id]
      have e1 : l.take i = l := List.take_of_length_le h
      have e2 : m.take i = m := List.take_of_length_le (by omega)
      rw [← e1, he, e2]
set_option maxHeartbeats 1000000 in
theorem r_CheckBench_ok (g : Bool) (b : OB) (hb : b.s.length ≤ 1000000) (hs : ∀ p ∈ b.s, p.2.length ≤ 1000000) : PureOK Tryz.prog n_r_CheckBench [On g b] (I (chkO b)) := by
  refine pure_of (walk func_r_CheckBench form_r_CheckBench res_r_CheckBench (by show 1 ≤ _; decide) ?_)
  simp -implicitDefEqProofs (disch := omega) [G_r_CheckBench, wrap_id]
  by_cases h1 : b.P < 2
  · have e : chkO b = 2 := by unfold chkO; rw [if_pos (.inl h1)]
    simp -implicitDefEqProofs (disch := omega) [wrap_id, h1, e]
  by_cases h2 : 6 < b.P
  · have e : chkO b = 2 := by unfold chkO; rw [if_pos (.inr h2)]
    simp -implicitDefEqProofs (disch := omega) [wrap_id, h1, h2, e]
  by_cases h3 : 6 < b.s.length
  · have h3' : (6 : Int) < b.s.length := by omega
    have e : chkO b = 6 := by unfold chkO; rw [if_neg (by omega), if_pos h3]
    simp -implicitDefEqProofs (disch := omega) [wrap_id, h1, h2, h3', e]
  have h3' : ¬ (6 : Int) < b.s.length := by omega
  have e : chkO b = if b.s.all (fun p => strO b.P p.2) then 0 else 15 := by unfold chkO; rw [if_neg (by omega), if_neg h3]
  rw [e]
  simp -implicitDefEqProofs (disch := omega) [wrap_id, h1, h2, h3']
  refine loop_eq (fun i : Nat => ⟨[(1, .ref 0 0), (3, I (i : Int))], [.cells [I b.P, LLs g b.s]]⟩) (fun i => i ≤ b.s.length ∧ ∀ k (hk : k < b.s.length), k < i → strO b.P b.s[k].2 = true) (fun i => b.s.length - i) 0 ⟨Nat.zero_le _, fun k _ h => by omega⟩ rfl ?_
  rintro i ⟨hi, ha⟩
  refine hideK' fun K0 hK0 => ?_
  simp -implicitDefEqProofs (disch := omega) [wrap_id]
  refine c_split (fun h => ?_) (fun h => ?_)
  · have hi : i < b.s.length := by simp at h; omega
    have ix : ((i : Int) + 1) = ((i + 1 : Nat) : Int) := by omega
    simp -implicitDefEqProofs (disch := omega) [wrap_id, cells_lls, hi]
    refine pureW_of rfl (r_isStroke_ok _ _ b.P (hs _ (List.getElem_mem hi))) ?_
    cases hst : strO b.P b.s[i].2 with
    | true =>
      simp -implicitDefEqProofs (disch := omega) [wrap_id, cmp2, nthT]
      rw [hK0]
      refine next_eq (i + 1) ⟨by omega, fun k hk hki => ?_⟩ (by omega) (by simp only [ix])
      by_cases hk2 : k = i
      · subst hk2; exact hst
      · exact ha k hk (by omega)
    | false =>
      have hf : b.s.all (fun p => strO b.P p.2) = false := by
        rw [List.all_eq_false]
        exact ⟨b.s[i], List.getElem_mem hi, by simp [hst]⟩
      rw [hf] at hK0
      subst hK0
      simp -implicitDefEqProofs (disch := omega) [wrap_id, cmp2, nthT]
  · have hi : i = b.s.length := by simp at h; omega
    subst hi
    have ht : b.s.all (fun p => strO b.P p.2) = true := by
      rw [List.all_eq_true]
      intro p hp
      obtain ⟨k, hk, rfl⟩ := List.getElem_of_mem hp
      exact ha k hk hk
    rw [ht] at hK0
    subst hK0
    simp -implicitDefEqProofs (disch := omega) [wrap_id]
set_option maxHeartbeats 1000000 in
theorem r_IsRow_ok (g f : Bool) (b : OB) (l : List Int) (hl : l.length ≤ 1000000) : PureOK Tryz.prog n_r_IsRow [On g b, Ls f l] (B (rowO b l)) := by
  refine pure_of (walk func_r_IsRow form_r_IsRow res_r_IsRow (by show 2 ≤ _; decide) ?_)
  simp -implicitDefEqProofs (disch := omega) [G_r_IsRow, wrap_id]
  by_cases h1 : (l.length : Int) = b.P
  · have e : rowO b l = l.all fun n => decide (0 ≤ n) && decide (n ≤ 5) := by unfold rowO; rw [decide_eq_true h1]; rfl
    have h1' : ((l.length : Int) != b.P) = false := by simpa using h1
    rw [e]
    simp -implicitDefEqProofs (disch := omega) [wrap_id, h1']
    refine loop_eq (fun i : Nat => ⟨[(1, Ls f l), (5, I (i : Int))], [.cells [I b.P, LLs g b.s]]⟩) (fun i => i ≤ l.length ∧ ∀ k (hk : k < l.length), k < i → 0 ≤ l[k] ∧ l[k] ≤ 5) (fun i => l.length - i) 0 ⟨Nat.zero_le _, fun k _ h => by omega⟩ rfl ?_
    rintro i ⟨hi, ha⟩
    refine hideK' fun K0 hK0 => ?_
    simp -implicitDefEqProofs (disch := omega) [wrap_id]
    refine c_split (fun h => ?_) (fun h => ?_)
    · have hi : i < l.length := by simp at h; omega
      have ix : ((i : Int) + 1) = ((i + 1 : Nat) : Int) := by omega
      have bad : ¬ (0 ≤ l[i] ∧ l[i] ≤ 5) → (l.all fun n => decide (0 ≤ n) && decide (n ≤ 5)) = false := fun hn => by
        rw [List.all_eq_false]
        exact ⟨l[i], List.getElem_mem hi, by simpa using hn⟩
      by_cases q1 : l[i] < 0
      · rw [bad (by omega)] at hK0
        subst hK0
        simp -implicitDefEqProofs (disch := omega) [wrap_id, cells_ls, hi, q1]
      by_cases q2 : 5 < l[i]
      · rw [bad (by omega)] at hK0
        subst hK0
        simp -implicitDefEqProofs (disch := omega) [wrap_id, cells_ls, hi, q1, q2]
      simp -implicitDefEqProofs (disch := omega) [wrap_id, cells_ls, hi, q1, q2]
      rw [hK0]
      refine next_eq (i + 1) ⟨by omega, fun k hk hki => ?_⟩ (by omega) (by simp only [ix])
      by_cases hk2 : k = i
      · subst hk2; omega
      · exact ha k hk (by omega)
    · have hi : i = l.length := by simp at h; omega
      subst hi
      have ht : (l.all fun n => decide (0 ≤ n) && decide (n ≤ 5)) = true := by
        rw [List.all_eq_true]
        intro p hp
        obtain ⟨k, hk, rfl⟩ := List.getElem_of_mem hp
        simpa using ha k hk hk
      rw [ht] at hK0
      subst hK0
      simp -implicitDefEqProofs (disch := omega) [wrap_id]
  · have e : rowO b l = false := by unfold rowO; rw [decide_eq_false h1]; rfl
    have h1' : ((l.length : Int) != b.P) = true := by simpa using h1
    simp -implicitDefEqProofs (disch := omega) [wrap_id, h1', e]
end Go.AM

set_option linter.unusedSimpArgs false
set_option linter.unusedVariables false
namespace Go.AM
open Go.RowKit Go.Proofs
set_option maxHeartbeats 1000000 in
theorem r_After_ok (f g : Bool) (s r : List Int) (hl : r.length ≤ 1000) (hs : s.length = r.length) (hi : ∀ x ∈ s, 0 ≤ x ∧ x < r.length) : PureOK Tryz.prog n_r_After [Ls f s, Ls g r] (Ls (aft s r).isEmpty (aft s r)) := by
  refine pure_of (walk func_r_After form_r_After res_r_After (by show 2 ≤ _; decide) ?_)
  simp -implicitDefEqProofs (disch := omega) [G_r_After, wrap_id]
  have al : (aft s r).length = s.length := aft_len
  refine loop_eq (fun q : Nat × AV × List HObj => ⟨[(0, Ls f s), (1, Ls g r), (5, q.2.1), (6, I (q.1 : Int))], q.2.2⟩) (fun q => q.1 ≤ r.length ∧ AccR q.2.2 q.2.1 ((aft s r).take q.1)) (fun q => r.length - q.1) (0, .sl true 0 [], []) ⟨Nat.zero_le _, .inl ⟨rfl, by simp⟩⟩ rfl ?_
  rintro ⟨i, x, H⟩ ⟨c1, c2⟩
  simp only at c1 c2 ⊢
  refine hideK' fun K0 hK0 => ?_
  simp -implicitDefEqProofs (disch := omega) [wrap_id]
  refine c_split (fun h => ?_) (fun h => ?_)
  · have hir : i < r.length := by simp at h; omega
    have his : i < s.length := by omega
    have ix : ((i : Int) + 1) = ((i + 1 : Nat) : Int) := by omega
    obtain ⟨b1, b2⟩ := hi s[i] (List.getElem_mem his)
    obtain ⟨n, hn⟩ : ∃ n : Nat, s[i] = n := ⟨s[i].toNat, by omega⟩
    have hnr : n < r.length := by omega
    have tk : (aft s r).take (i + 1) = (aft s r).take i ++ [r[n]] := by
      rw [List.take_succ_eq_append_getElem (by omega), aft_get (by omega)]
      simp [hn, hnr]
    have tl : ((aft s r).take i).length = i := by rw [List.length_take]; omega
    simp -implicitDefEqProofs (disch := omega) [wrap_id, cells_ls, hir, his, hn, hnr]
    refine bsl_of (ys := [I r[n]]) rfl rfl ?_
    simp -implicitDefEqProofs (disch := omega) [wrap_id, zrep]
    refine app_row c2.row (by omega) fun ws w1 w2 w3 => ?_
    simp -implicitDefEqProofs (disch := omega) [wrap_id]
    rw [hK0]
    refine next_eq (i + 1, .ms H.length 0 (i + 1) 1, writeL H ws) ⟨by simp only; omega, .inr ⟨H.length, ?_, ?_, ?_⟩⟩ (by simp only; omega) (by simp only [ix, tl])
    · rw [List.length_take, Nat.min_eq_left (by omega)]
    · simp only [tk]; simp
    · simp only [tk]; exact w3
  · have hir : i = r.length := by simp at h; omega
    subst hir
    subst hK0
    have tk : (aft s r).take r.length = aft s r := List.take_of_length_le (by omega)
    rw [tk] at c2
    simp -implicitDefEqProofs (disch := omega) [wrap_id]
    exact out_acc c2
end Go.AM

set_option linter.unusedSimpArgs false
set_option linter.unusedVariables false
namespace Go.AM
open Go.RowKit Go.Proofs
set_option maxHeartbeats 1000000 in
theorem r_Rows_ok (g f h : Bool) (b : OB) (hz : SzO b) (r x : List Int) (hr : r.length ≤ 1000000) (hx : x.length ≤ 1000000) : PureOK Tryz.prog n_r_Rows [On g b, Ls f r, Ls h x] (I (rwsE b r x)) := by
  refine pure_of (walk func_r_Rows form_r_Rows res_r_Rows (by show 3 ≤ _; decide) ?_)
  simp -implicitDefEqProofs (disch := omega) [G_r_Rows, wrap_id]
  refine callW_pure rfl (r_CheckBench_ok g b hz.many hz.len) ?_
  by_cases h0 : chkO b = 0
  · simp -implicitDefEqProofs (disch := omega) [wrap_id, h0]
    refine callW_pure rfl (r_IsRow_ok g f b r hr) ?_
    cases h1 : rowO b r with
    | true =>
      simp -implicitDefEqProofs (disch := omega) [wrap_id, h1]
      refine callW_pure rfl (r_IsRow_ok g h b x hx) ?_
      cases h2 : rowO b x with
      | true =>
        have e : rwsE b r x = 0 := by unfold rwsE; rw [if_neg (by omega), if_neg (by simp [h1, h2])]
        simp -implicitDefEqProofs (disch := omega) [wrap_id, h2, e]
      | false =>
        have e : rwsE b r x = 2 := by unfold rwsE; rw [if_neg (by omega), if_pos (.inr h2)]
        simp -implicitDefEqProofs (disch := omega) [wrap_id, h2, e]
    | false =>
      have e : rwsE b r x = 2 := by unfold rwsE; rw [if_neg (by omega), if_pos (.inl h1)]
      simp -implicitDefEqProofs (disch := omega) [wrap_id, h1, e]
  · have e1 : rwsE b r x = chkO b := by unfold rwsE; rw [if_pos h0]
    have h0' : (chkO b != 0) = true := by simpa using h0
    simp -implicitDefEqProofs (disch := omega) [wrap_id, h0']
    refine callW_pure rfl (r_CheckBench_ok g b hz.many hz.len) ?_
    simp -implicitDefEqProofs (disch := omega) [wrap_id, e1]
end Go.AM

set_option linter.unusedSimpArgs false
set_option linter.unusedVariables false
namespace Go.AM
open Go.RowKit Go.Proofs
set_option maxHeartbeats 1000000 in
theorem r_First_ok (f g : Bool) (l m : List Int) (hl : l.length ≤ 1000000) (hm : m.length = l.length) : PureOK Tryz.prog n_r_First [Ls f l, Ls g m] (B (frst l m)) := by
  refine pure_of (walk func_r_First form_r_First res_r_First (by show 2 ≤ _; decide) ?_)
  simp -implicitDefEqProofs (disch := omega) [G_r_First, wrap_id]
  refine loop_eq (fun i : Nat => ⟨[(0, Ls f l), (1, Ls g m), (5, I (i : Int))], []⟩) (fun i => i ≤ l.length ∧ frst l m = frst (l.drop i) (m.drop i)) (fun i => l.length - i) 0 ⟨Nat.zero_le _, rfl⟩ rfl ?_
  rintro i ⟨hi, he⟩
  refine hideK' fun K0 hK0 => ?_
  simp -implicitDefEqProofs (disch := omega) [wrap_id]
  refine c_split (fun hc => ?_) (fun hc => ?_)
  · have hi : i < l.length := by simp at hc; omega
    have hi2 : i < m.length := by omega
    have ix : ((i : Int) + 1) = ((i + 1 : Nat) : Int) := by omega
    rw [List.drop_eq_getElem_cons hi, List.drop_eq_getElem_cons hi2] at he
    simp only [frst] at he
    by_cases e : l[i] = m[i]
    · rw [if_pos e] at he
      have e' : (l[i] != m[i]) = false := by simpa using e
      simp -implicitDefEqProofs (disch := omega) [wrap_id, cells_ls, hi, hi2, e', cmp2, nthT]
      rw [hK0]
      exact next_eq (i + 1) ⟨by omega, he⟩ (by omega) (by simp only [ix])
    · rw [if_neg e] at he
      have e' : (l[i] != m[i]) = true := by simpa using e
      rw [he] at hK0
      subst hK0
      simp -implicitDefEqProofs (disch := omega) [wrap_id, cells_ls, hi, hi2, e', cmp2, nthT]
  · have hi : i = l.length := by simp at hc; omega
    subst hi
    rw [List.drop_length] at he
    have : frst l m = false := by rw [he]; rfl
    rw [this] at hK0
    subst hK0
    simp -implicitDefEqProofs (disch := omega) [wrap_id]
def fnd (l : List (Bool × List Int)) (r : List Int) : Int := idxI (fun p => decide (p.2 = r)) l
set_option maxHeartbeats 1000000 in
theorem r_find_ok (g f : Bool) (l : List (Bool × List Int)) (r : List Int) (hl : l.length ≤ 1000000) (hz : ∀ p ∈ l, p.2.length ≤ 1000000) (hr : r.length ≤ 1000000) : PureOK Tryz.prog n_r_find [LLs g l, Ls f r] (I (fnd l r)) := by
  refine pure_of (walk func_r_find form_r_find res_r_find (by show 2 ≤ _; decide) ?_)
  simp -implicitDefEqProofs (disch := omega) [G_r_find, wrap_id]
  refine loop_eq (fun i : Nat => ⟨[(0, LLs g l), (1, Ls f r), (5, I (i : Int))], []⟩) (fun i => i ≤ l.length ∧ ∀ k (hk : k < l.length), k < i → l[k].2 ≠ r) (fun i => l.length - i) 0 ⟨Nat.zero_le _, fun k _ h => by omega⟩ rfl ?_
  rintro i ⟨hi, he⟩
  refine hideK' fun K0 hK0 => ?_
  simp -implicitDefEqProofs (disch := omega) [wrap_id]
  refine c_split (fun hc => ?_) (fun hc => ?_)
  · have hi : i < l.length := by simp at hc; omega
    have ix : ((i : Int) + 1) = ((i + 1 : Nat) : Int) := by omega
    simp -implicitDefEqProofs (disch := omega) [wrap_id, cells_lls, hi]
    refine callW_pure rfl (r_Equal_ok _ _ l[i].2 r (hz _ (List.getElem_mem hi)) hr) ?_
    by_cases e : l[i].2 = r
    · have : fnd l r = i := idxI_some hi (by simpa using e) (fun k hk h => by simpa using he k hk h)
      rw [this] at hK0
      subst hK0
      simp -implicitDefEqProofs (disch := omega) [wrap_id, e]
    · simp -implicitDefEqProofs (disch := omega) [wrap_id, e]
      rw [hK0]
      refine next_eq (i + 1) ⟨by omega, fun k hk h => ?_⟩ (by omega) (by simp only [ix])
      by_cases hk2 : k = i
      · subst hk2; exact e
      · exact he k hk (by omega)
  · have hi : i = l.length := by simp at hc; omega
    subst hi
    have : fnd l r = -1 := idxI_none fun k hk => by simpa using he k hk hk
    rw [this] at hK0
    subst hK0
    simp -implicitDefEqProofs (disch := omega) [wrap_id]
end Go.AM

set_option linter.unusedSimpArgs false
set_option linter.unusedVariables false
namespace Go.AM
open Go.RowKit Go.Proofs
theorem fnd_none {l : List (Bool × List Int)} {r : List Int} (h : r ∉ l.map (·.2)) : fnd l r = -1 := idxI_none fun k hk => by
  rw [decide_eq_false_iff_not]
  intro e
  exact h (List.mem_map.2 ⟨l[k], List.getElem_mem hk, e⟩)
theorem fnd_at {l : List (Bool × List Int)} {r : List Int} (hn : (l.map (·.2)).Nodup) {k : Nat} (hk : k < l.length) (e : l[k].2 = r) : fnd l r = k := idxI_some hk (decide_eq_true e) fun j hj hlt => by
  rw [decide_eq_false_iff_not]
  intro e2
  have := getD_inj (d := []) hn (i := j) (j := k) (by simpa using hj) (by simpa using hk) (by
    rw [List.getD_eq_getElem?_getD, List.getD_eq_getElem?_getD, List.getElem?_map, List.getElem?_map, List.getElem?_eq_getElem hj, List.getElem?_eq_getElem hk]
    exact e2.trans e.symm)
  omega
theorem set_app {H : List HObj} {a : Nat} {x o : HObj} (ha : a < H.length) : (∀ j, j < H.length → j ≠ a → nthH (H.set a x ++ [o]) j = nthH H j) ∧ nthH (H.set a x ++ [o]) H.length = some o ∧ (H.set a x ++ [o]).length = H.length + 1 := by
  refine ⟨fun j hj hne => ?_, ?_, by simp⟩
  · rw [nthH_front (by simpa using hj), nthH_set_ne (Ne.symm hne)]
  · rw [nthH_eq, List.getElem?_append_right (by simp)]; simp
theorem snoc_lls {l : List (Bool × List Int)} {f : Bool} {x : List Int} : llsC l ++ [Ls f x] = llsC (l ++ [(f, x)]) := by simp
theorem snoc_wI {F : List Nat} {v : Nat} : ((wI F).map fun n => I n) ++ [I (v : Int)] = (wI (F ++ [v])).map fun n => I n := by
  rw [wI_snoc, List.map_append]; rfl
theorem take_lls {l : List (Bool × List Int)} {f : Bool} {x : List Int} : List.take l.length (llsC l) ++ [Ls f x] = llsC (l ++ [(f, x)]) := by
  rw [List.take_of_length_le (by simp)]; simp
theorem take_wI {F : List Nat} {v : Nat} : List.take F.length ((wI F).map fun n => I n) ++ [I (v : Int)] = (wI (F ++ [v])).map fun n => I n := by
  rw [List.take_of_length_le (by simp [wI_len]), wI_snoc, List.map_append]; rfl
theorem purifyL_lls {hp : Hp} : ∀ (l : List (Bool × List Int)), purifyL hp (llsC l) = some (llsC l, [])
  | [] => rfl
  | p :: l => by
    have := purifyL_lls (hp := hp) l
    simp only [llsC, List.map_cons, purifyL, purify1, purify0] at this ⊢
    rw [this]; rfl
theorem purifyL_set {hp : Hp} {x : AV} {f : Bool} {v : List Int} {is : List Nat} (hx : purify1 hp x = some (Ls f v, is)) : ∀ (l : List (Bool × List Int)) (k : Nat), k < l.length → purifyL hp ((llsC l).set k x) = some (llsC (l.set k (f, v)), is)
  | [], k, h => by simp at h
  | p :: l, 0, _ => by
    have := purifyL_lls (hp := hp) l
    simp only [llsC, List.map_cons, List.set_cons_zero, purifyL] at this ⊢
    rw [hx, this]; simp
  | p :: l, k + 1, h => by
    have := purifyL_set hx l k (by simpa using h)
    simp only [llsC, List.map_cons, List.set_cons_succ, purifyL] at this ⊢
    rw [this]; rfl
structure Rnd (b : OB) (g : Bool) (r : List Int) (hp H : List HObj) (i s : Nat) (xr xf xm xl : AV) (RL : List (Bool × List Int)) (F M : List Nat) (LL : List (Bool × List Int)) (L : List (List Nat)) (G : List (List (List Nat))) : Prop where
  bfs : Bfs b.S r i s (RL.map (·.2)) F M L G
  words : LL.map (·.2) = L.map wI
  q : Qs H hp.length xr xf xm xl RL F M LL
  box : nthH H hp.length = some (.cells [I b.P, LLs g b.s])
  keep : ∀ j, j < hp.length → nthH H j = nthH hp j
  lt : hp.length < H.length
theorem reach_bound {b : OB} {n : Nat} (hb : Okb b n) {r : List Int} (hr : r.length = n) (hc : ∀ x ∈ r, 0 ≤ x ∧ x ≤ 5) {i s : Nat} {R : List (List Int)} {F M : List Nat} {L : List (List Nat)} {G : List (List (List Nat))} (h : Bfs b.S r i s R F M L G) :
    R.length ≤ 46656 ∧ (∀ k, k < R.length → F.getD k 0 < 46656) ∧ (∀ k, k < R.length → (R.getD k []).length = n) := by
  have hS : PmS n b.S := fun s hs => by
    obtain ⟨q, hq, rfl⟩ := List.mem_map.1 hs
    exact hb.pm q hq
  have hC : ∀ x ∈ r, x ∈ plcL 6 := fun x hx => plc_mem.2 (by have := hc x hx; omega)
  have p6 : (plcL 6).length ^ n ≤ 46656 := by
    rw [plcL_len]
    have : 6 ^ n ≤ 6 ^ 6 := Nat.pow_le_pow_right (by decide) hb.hi
    exact this
  have word : ∀ x ∈ R, ∃ w, Wd b.S r x w := fun x hx => by
    obtain ⟨k, hk, rfl⟩ := mem_getD (d := []) hx
    obtain ⟨⟨w, hw, _⟩, _⟩ := h.dist k hk
    exact ⟨w, hw⟩
  refine ⟨?_, fun k hk => ?_, fun k hk => ?_⟩
  · have sub : R ⊆ allRows (plcL 6) n := fun x hx => by
      obtain ⟨w, hw⟩ := word x hx
      refine mem_allRows (hw.len hS hr) ?_
      rw [← hw.2]
      exact allS_col hS hw.1 hr hC
    have := h.nd.length_le_of_subset sub
    rw [allRows_len] at this
    omega
  · have := dist_lt hS hr hC (h.dist k hk)
    omega
  · obtain ⟨w, hw⟩ := word _ (getD_mem (d := []) hk)
    exact hw.len hS hr
set_option maxHeartbeats 8000000 in
theorem r_Reached_w (g f : Bool) {b : OB} {n : Nat} (hb : Okb b n) {r : List Int} (hr : r.length = n) (hc : ∀ x ∈ r, 0 ≤ x ∧ x ≤ 5) {hp : List HObj} {K : AV → List HObj → Prop}
    (hK : ∀ H xr xf xm xl RL F M LL L G, Rnd b g r hp H RL.length 0 xr xf xm xl RL F M LL L G → K (.tup [xr, xf, xm, xl]) H) : CallW Tryz.prog n_r_Reached [On g b, Ls f r] hp K := by
  have h6 := hb.hi
  have h2 := hb.lo
  have hmany := hb.many
  refine walk func_r_Reached form_r_Reached res_r_Reached (by show 2 ≤ _; decide) ?_
  simp -implicitDefEqProofs (disch := omega) [G_r_Reached, wrap_id]
  refine bsl_of (ys := [Ls f r]) rfl rfl ?_
  simp -implicitDefEqProofs (disch := omega) [wrap_id, zrep]
  refine bsl_of (ys := [I 0]) rfl rfl ?_
  simp -implicitDefEqProofs (disch := omega) [wrap_id, zrep]
  refine bsl_of (ys := [I 1]) rfl rfl ?_
  simp -implicitDefEqProofs (disch := omega) [wrap_id, zrep]
  refine bsl_of (ys := [.sl true 0 []]) rfl rfl ?_
  simp -implicitDefEqProofs (disch := omega) [wrap_id, zrep]
  refine loop_eq (fun q : Nat × List HObj × AV × AV × AV × AV => ⟨[(2, .ref hp.length 0), (8, q.2.2.1), (9, q.2.2.2.1), (10, q.2.2.2.2.1), (11, q.2.2.2.2.2), (12, I (q.1 : Int))], q.2.1⟩)
    (fun q => ∃ RL F M LL L G, Rnd b g r hp q.2.1 q.1 0 q.2.2.1 q.2.2.2.1 q.2.2.2.2.1 q.2.2.2.2.2 RL F M LL L G) (fun q => 50000 - q.1)
    (0, hp ++ [.cells [I b.P, LLs g b.s]], LLs true [(f, r)], Ls true (wI [0]), Ls true (wI [1]), LLs true [(true, [])])
    ⟨[(f, r)], [0], [1], [(true, [])], [[]], [[[]]], ⟨Bfs.init, rfl, .inl ⟨rfl, rfl, rfl, rfl, rfl⟩, by simp [nthH_eq], fun j hj => nthH_front hj, by simp⟩⟩ rfl ?_
  rintro ⟨i, H, xr, xf, xm, xl⟩ ⟨RL, F, M, LL, L, G, c⟩
  simp only at c ⊢
  obtain ⟨B1, B2, B3⟩ := reach_bound hb hr hc c.bfs
  rw [List.length_map] at B1 B2 B3
  refine hideK' fun K0 hK0 => ?_
  have hlen : ∀ K : AV → List (Nat × HObj) → Prop, LenW xr K = K (I (RL.length : Int)) [] := fun K => by
    rcases c.q with ⟨_, rfl, _⟩ | ⟨a, _, _, _, _, _, _, _, _, _, _, _, _, _, rfl, _⟩ <;> rfl
  simp -implicitDefEqProofs (disch := omega) [wrap_id, hlen]
  refine c_split (fun h => ?_) (fun h => ?_)
  · have hi : i < RL.length := by simpa using h
    have ix : ((i : Int) + 1) = ((i + 1 : Nat) : Int) := by omega
    simp -implicitDefEqProofs (disch := omega) [wrap_id]
    refine loop_eq (fun q : Nat × List HObj × AV × AV × AV × AV => ⟨[(2, .ref hp.length 0), (8, q.2.2.1), (9, q.2.2.2.1), (10, q.2.2.2.2.1), (11, q.2.2.2.2.2), (12, I (i : Int)), (13, I (q.1 : Int))], q.2.1⟩)
      (fun q => ∃ RL F M LL L G, Rnd b g r hp q.2.1 i q.1 q.2.2.1 q.2.2.2.1 q.2.2.2.2.1 q.2.2.2.2.2 RL F M LL L G ∧ i < RL.length ∧ q.1 ≤ b.s.length) (fun q => b.s.length - q.1)
      (0, H, xr, xf, xm, xl) ⟨RL, F, M, LL, L, G, c, hi, by simp only; omega⟩ rfl ?_
    clear hlen B1 B2 B3
    rintro ⟨s, H1, yr, yf, ym, yl⟩ ⟨RL1, F1, M1, LL1, L1, G1, c1, hi1, hs1⟩
    simp only at c1 hi1 hs1 ⊢
    obtain ⟨B1, B2, B3⟩ := reach_bound hb hr hc c1.bfs
    rw [List.length_map] at B1 B2 B3
    refine hideK' fun K1 hK1 => ?_
    have bx := c1.box
    simp -implicitDefEqProofs (disch := omega) [wrap_id, bx]
    refine c_split (fun h => ?_) (fun h => ?_)
    · have hs : s < b.s.length := by simpa using h
      have sx : ((s : Int) + 1) = ((s + 1 : Nat) : Int) := by omega
      have len2 : (RL1[i]).2.length = n := by
        have := B3 i hi1
        rw [List.getD_eq_getElem?_getD, List.getElem?_map, List.getElem?_eq_getElem hi1] at this
        exact this
      have pk := hb.at hs
      have af := r_After_ok b.s[s].1 RL1[i].1 b.s[s].2 RL1[i].2 (by omega) (by rw [len2]; exact pk.len) (fun x hx => by rw [len2]; exact pk.rng x hx)
      have ln : (aft b.s[s].2 RL1[i].2).length = n := by rw [aft_len]; exact pk.len
      rw [ne_emp ln (by omega)] at af
      have lL : LL1.length = RL1.length := by
        have h1 := c1.bfs.lL
        have h2 := congrArg List.length c1.words
        simp only [List.length_map] at h1 h2
        omega
      have hiL : i < LL1.length := by omega
      rcases c1.q with ⟨q1, rfl, rfl, rfl, rfl⟩ | ⟨a, c, d, e, z1, z2, z3, z4, n1, n2, n3, n4, n5, n6, rfl, rfl, rfl, rfl, qa, qc, qd, qe⟩
      · have i0 : i = 0 := by omega
        have iR : i < (RL1.map (·.2)).length := by rw [List.length_map]; exact hi1
        have lF : F1.length = 1 := by have := c1.bfs.lF; rw [List.length_map] at this; omega
        have lM : M1.length = 1 := by have := c1.bfs.lM; rw [List.length_map] at this; omega
        have lL5 : L1.length = 1 := by have := c1.bfs.lL; rw [List.length_map] at this; omega
        have iF : i < F1.length := by omega
        have iM : i < M1.length := by omega
        have iFw : i < (wI F1).length := by rw [wI_len]; exact iF
        have iMw : i < (wI M1).length := by rw [wI_len]; exact iM
        have eF : (wI F1)[i] = ((F1.getD i 0 : Nat) : Int) := by
          rw [List.getD_eq_getElem?_getD, List.getElem?_eq_getElem iF]; simp [wI]
        have eM : (wI M1)[i] = ((M1.getD i 0 : Nat) : Int) := by
          rw [List.getD_eq_getElem?_getD, List.getElem?_eq_getElem iM]; simp [wI]
        have bF := B2 i hi1
        have bM : M1.getD i 0 ≤ mostN := by rw [c1.bfs.m i iR]; exact Nat.min_le_left _ _
        obtain ⟨fi, hfi⟩ : ∃ fi, F1.getD i 0 = fi := ⟨_, rfl⟩
        obtain ⟨mi, hmi⟩ : ∃ mi, M1.getD i 0 = mi := ⟨_, rfl⟩
        rw [hfi] at eF bF
        rw [hmi] at eM bM
        have hw : LL1[i].2 = wI (L1.getD i []) := by
          have := congrArg (fun l => l.getD i []) c1.words
          simp only [List.getD_eq_getElem?_getD, List.getElem?_map, List.getElem?_eq_getElem hiL] at this
          have hi5 : i < L1.length := by omega
          rw [List.getElem?_eq_getElem hi5] at this
          rw [List.getD_eq_getElem?_getD, List.getElem?_eq_getElem hi5]
          exact this
        have lw : LL1[i].2.length < 46656 := by
          rw [hw, wI_len, (c1.bfs.l i iR).1 |> fun h => ((c1.bfs.gi iR _).1 h).2]
          exact B2 i hi1
        have sS : s < b.S.length := by rw [S_len]; exact hs
        have gS : b.S.getD s [] = b.s[s].2 := S_getD hs
        have gR : (RL1.map (·.2)).getD i [] = RL1[i].2 := by rw [List.getD_eq_getElem?_getD, List.getElem?_map, List.getElem?_eq_getElem hi1]; rfl
        have lt1 := c1.lt
        simp -implicitDefEqProofs (disch := omega) [wrap_id, bx, hs, hi1, cells_lls]
        refine pureW_of rfl af ?_
        generalize hnx : aft b.s[s].2 RL1[i].2 = nx at *
        simp -implicitDefEqProofs (disch := omega) [wrap_id, cmp2, nthT]
        refine bsl_of rfl rfl ?_
        simp -implicitDefEqProofs (disch := omega) [wrap_id, hiL, cells_lls, zrep_zero]
        generalize hwd : LL1[i].2 = w at *
        refine ⟨⟨by omega, by omega⟩, ?_⟩
        refine bsl_of rfl rfl ?_
        simp -implicitDefEqProofs (disch := omega) [wrap_id, zrep]
        refine ⟨⟨by omega, by omega⟩, ?_⟩
        have tw : List.take w.length (w.map fun n => I n) ++ [AV.v (Value.int IntKind.i64 (s : Int))] = (w ++ [(s : Int)]).map fun n => I n := by
          rw [List.take_of_length_le (by simp)]; simp
        rw [tw]
        have fr : ∀ j, j < H1.length → nthH (H1 ++ [HObj.gone, HObj.cells ((w ++ [(s : Int)]).map fun n => I n)]) j = nthH H1 j := fun j hj => nthH_front hj
        have hl : nthH (H1 ++ [HObj.gone, HObj.cells ((w ++ [(s : Int)]).map fun n => I n)]) (H1.length + 1) = some (.cells ((w ++ [(s : Int)]).map fun n => I n)) := by
          rw [nthH_eq, List.getElem?_append_right (by omega)]; simp
        have l2 : (H1 ++ [HObj.gone, HObj.cells ((w ++ [(s : Int)]).map fun n => I n)]).length = H1.length + 2 := by simp
        generalize H1 ++ [HObj.gone, HObj.cells ((w ++ [(s : Int)]).map fun n => I n)] = H2 at fr hl l2 ⊢
        refine callW_pure rfl (r_find_ok true false RL1 nx (by omega) (fun p hp => ?_) (by omega)) ?_
        · obtain ⟨k, hk, rfl⟩ := List.getElem_of_mem hp
          have := B3 k hk
          rw [List.getD_eq_getElem?_getD, List.getElem?_map, List.getElem?_eq_getElem hk] at this
          have : RL1[k].2.length = n := this
          omega
        by_cases hin : nx ∈ RL1.map (·.2)
        · obtain ⟨k, hkR, ek⟩ := mem_getD (d := []) hin
          have hk : k < RL1.length := by rw [List.length_map] at hkR; exact hkR
          have ik : k = i := by omega
          subst ik
          have ek2 : RL1[k].2 = nx := by
            rw [← ek, List.getD_eq_getElem?_getD, List.getElem?_map, List.getElem?_eq_getElem hk]; rfl
          rw [fnd_at c1.bfs.nd hk ek2]
          have ekS : (RL1.map (·.2)).getD k [] = aft (b.S.getD s []) ((RL1.map (·.2)).getD k []) := by rw [gS, gR, hnx, ek2]
          have st := c1.bfs.skip iR sS hkR ekS (by omega)
          have kn : ((k : Int) < 0) = False := by simp only [eq_iff_iff, iff_false]; omega
          have hf' : ((fi : Int) != (fi : Int) + 1) = true := by simp only [bne_iff_ne, ne_eq]; omega
          simp -implicitDefEqProofs (disch := omega) [wrap_id, kn, iF, iFw, eF, cells_ls, cmp2, nthT, hf']
          rw [hK1]
          refine next_eq (s + 1, H2, LLs true RL1, Ls true (wI F1), Ls true (wI M1), LLs true LL1)
            ⟨RL1, F1, M1, LL1, L1, G1, ⟨st, c1.words, .inl ⟨q1, rfl, rfl, rfl, rfl⟩, (fr _ (by omega)).trans bx, fun j hj => (fr j (by omega)).trans (c1.keep j hj), by simp only; omega⟩, hi1, by simp only; omega⟩ (by simp only; omega) (by simp only [sx])
        · rw [fnd_none hin]
          have st := c1.bfs.push iR sS (by rw [gS, gR, hnx]; exact hin)
          rw [gS, gR, hnx, hfi, hmi] at st
          have fx : ((fi : Int) + 1) = ((fi + 1 : Nat) : Int) := by omega
          have ll2 : H1.length + 1 < H2.length := by omega
          simp -implicitDefEqProofs (disch := omega) [wrap_id]
          refine bsl_of (ys := [Ls false nx]) rfl rfl ?_
          simp -implicitDefEqProofs (disch := omega) [wrap_id, zrep, iF, iFw, eF, cells_ls]
          rw [snoc_lls]
          refine ⟨⟨by omega, by omega⟩, ?_⟩
          obtain ⟨u1, u2, u3⟩ := app_new (H := H2) (o := .cells (llsC (RL1 ++ [(false, nx)])))
          generalize H2 ++ [HObj.cells (llsC (RL1 ++ [(false, nx)]))] = H3 at u1 u2 u3 ⊢
          have sl := (u1 (H1.length + 1) (by omega)).trans hl
          refine bsl_of (ys := [I (fi + 1 : Int)]) rfl rfl ?_
          simp -implicitDefEqProofs (disch := omega) [wrap_id, zrep, iM, iMw, eM, cells_ls]
          rw [fx, snoc_wI]
          refine ⟨⟨by rw [wI_len]; omega, by rw [wI_len]; omega⟩, ?_⟩
          obtain ⟨v1, v2, v3⟩ := app_new (H := H3) (o := .cells ((wI (F1 ++ [fi + 1])).map fun n => I n))
          generalize H3 ++ [HObj.cells ((wI (F1 ++ [fi + 1])).map fun n => I n)] = H4 at v1 v2 v3 ⊢
          have tl := (v1 (H1.length + 1) (by omega)).trans sl
          have tr := (v1 H2.length (by omega)).trans u2
          refine bsl_of (ys := [I (mi : Int)]) rfl rfl ?_
          simp -implicitDefEqProofs (disch := omega) [wrap_id, zrep]
          rw [snoc_wI]
          refine ⟨⟨by rw [wI_len]; omega, by rw [wI_len]; omega⟩, ?_⟩
          obtain ⟨x1, x2, x3⟩ := app_new (H := H4) (o := .cells ((wI (M1 ++ [mi])).map fun n => I n))
          generalize H4 ++ [HObj.cells ((wI (M1 ++ [mi])).map fun n => I n)] = H5 at x1 x2 x3 ⊢
          have ul := (x1 (H1.length + 1) (by omega)).trans tl
          have ur := (x1 H2.length (by omega)).trans tr
          have uf := (x1 H3.length (by omega)).trans v2
          refine bsl_of (ys := [Ls false (w ++ [(s : Int)])]) (ids := [H1.length + 1]) ?_ rfl ?_
          · have := ms_pur ul (n := w.length + 1) (by simp)
            simp only [purifyAll, this]; rfl
          have ll5 : H1.length + 1 < H5.length := by omega
          simp -implicitDefEqProofs (disch := omega) [wrap_id, zrep, ll5]
          rw [snoc_lls]
          refine ⟨⟨by omega, by omega⟩, by omega, ?_⟩
          obtain ⟨y1, y2, y3⟩ := set_app (H := H5) (x := .gone) (o := .cells (llsC (LL1 ++ [(false, w ++ [(s : Int)])]))) ll5
          generalize H5.set (H1.length + 1) HObj.gone ++ [HObj.cells (llsC (LL1 ++ [(false, w ++ [(s : Int)])]))] = H6 at y1 y2 y3 ⊢
          have old : ∀ j, j < H1.length → nthH H6 j = nthH H1 j := fun j hj => by
            rw [y1 j (by omega) (by omega), x1 j (by omega), v1 j (by omega), u1 j (by omega), fr j hj]
          rw [hK1]
          refine next_eq (s + 1, H6, .ms H2.length 0 (RL1.length + 1) 1, .ms H3.length 0 ((wI F1).length + 1) 1, .ms H4.length 0 ((wI M1).length + 1) 1, .ms H5.length 0 (LL1.length + 1) 1)
            ⟨RL1 ++ [(false, nx)], F1 ++ [fi + 1], M1 ++ [mi], LL1 ++ [(false, w ++ [(s : Int)])], _, _, ⟨by rw [List.map_append]; exact st, ?_, .inr ⟨H2.length, H3.length, H4.length, H5.length, ?_⟩, ?_, ?_, by simp only; omega⟩, by rw [List.length_append]; omega, by simp only; omega⟩ (by simp only; omega) (by simp only [sx])
          · rw [List.map_append, List.map_append, c1.words]
            simp only [List.map_cons, List.map_nil, wI_snoc, hw]
          · refine ⟨by omega, by omega, by omega, by omega, by omega, by omega, by omega, by omega, by omega, by omega, ?_, ?_, ?_, ?_, ?_, ?_, ?_, ?_⟩
            · simp only [List.length_append, List.length_singleton]
            · simp only [List.length_append, List.length_singleton, wI_len]
            · simp only [List.length_append, List.length_singleton, wI_len]
            · simp only [List.length_append, List.length_singleton]
            · rw [y1 _ (by omega) (by omega)]; exact ur
            · rw [y1 _ (by omega) (by omega)]; exact uf
            · rw [y1 _ (by omega) (by omega)]; exact x2
            · exact y2
          · rw [old _ (by omega)]; exact bx
          · intro j hj
            rw [old _ (by omega)]; exact c1.keep j hj
      · have la := nthH_lt qa
        have lc := nthH_lt qc
        have ld := nthH_lt qd
        have le := nthH_lt qe
        simp -implicitDefEqProofs (disch := omega) [wrap_id, bx, qa, hs, hi1, cells_lls]
        refine pureW_of rfl af ?_
        generalize hnx : aft b.s[s].2 RL1[i].2 = nx at *
        simp -implicitDefEqProofs (disch := omega) [wrap_id, cmp2, nthT]
        refine bsl_of rfl rfl ?_
        have hw : LL1[i].2 = wI (L1.getD i []) := by
          have := congrArg (fun l => l.getD i []) c1.words
          simp only [List.getD_eq_getElem?_getD, List.getElem?_map, List.getElem?_eq_getElem hiL] at this
          have hi5 : i < L1.length := by have := c1.bfs.lL; rw [List.length_map] at this; omega
          rw [List.getElem?_eq_getElem hi5] at this
          rw [List.getD_eq_getElem?_getD, List.getElem?_eq_getElem hi5]
          exact this
        have iR : i < (RL1.map (·.2)).length := by rw [List.length_map]; exact hi1
        have lw : LL1[i].2.length < 46656 := by
          rw [hw, wI_len, (c1.bfs.l i iR).1 |> fun h => ((c1.bfs.gi iR _).1 h).2]
          exact B2 i hi1
        simp -implicitDefEqProofs (disch := omega) [wrap_id, qe, hiL, cells_lls, zrep_zero]
        generalize hwd : LL1[i].2 = w at *
        refine ⟨⟨by omega, by omega⟩, ?_⟩
        refine bsl_of rfl rfl ?_
        simp -implicitDefEqProofs (disch := omega) [wrap_id, zrep]
        refine ⟨⟨by omega, by omega⟩, ?_⟩
        have tw : List.take w.length (w.map fun n => I n) ++ [AV.v (Value.int IntKind.i64 (s : Int))] = (w ++ [(s : Int)]).map fun n => I n := by
          rw [List.take_of_length_le (by simp)]; simp
        rw [tw]
        have fr : ∀ j, j < H1.length → nthH (H1 ++ [HObj.gone, HObj.cells ((w ++ [(s : Int)]).map fun n => I n)]) j = nthH H1 j := fun j hj => nthH_front hj
        have hl : nthH (H1 ++ [HObj.gone, HObj.cells ((w ++ [(s : Int)]).map fun n => I n)]) (H1.length + 1) = some (.cells ((w ++ [(s : Int)]).map fun n => I n)) := by
          rw [nthH_eq, List.getElem?_append_right (by omega)]; simp
        have l2 : (H1 ++ [HObj.gone, HObj.cells ((w ++ [(s : Int)]).map fun n => I n)]).length = H1.length + 2 := by simp
        generalize H1 ++ [HObj.gone, HObj.cells ((w ++ [(s : Int)]).map fun n => I n)] = H2 at fr hl l2 ⊢
        have ra := (fr a la).trans qa
        have rc := (fr c lc).trans qc
        have rd := (fr d ld).trans qd
        have re := (fr e le).trans qe
        have lF : F1.length = RL1.length := by have := c1.bfs.lF; rw [List.length_map] at this; exact this
        have lM : M1.length = RL1.length := by have := c1.bfs.lM; rw [List.length_map] at this; exact this
        have iF : i < F1.length := by omega
        have iM : i < M1.length := by omega
        have iFw : i < (wI F1).length := by rw [wI_len]; exact iF
        have iMw : i < (wI M1).length := by rw [wI_len]; exact iM
        have eF : (wI F1)[i] = ((F1.getD i 0 : Nat) : Int) := by
          rw [List.getD_eq_getElem?_getD, List.getElem?_eq_getElem iF]; simp [wI]
        have eM : (wI M1)[i] = ((M1.getD i 0 : Nat) : Int) := by
          rw [List.getD_eq_getElem?_getD, List.getElem?_eq_getElem iM]; simp [wI]
        have bF := B2 i hi1
        have bM : M1.getD i 0 ≤ mostN := by rw [c1.bfs.m i iR]; exact Nat.min_le_left _ _
        obtain ⟨fi, hfi⟩ : ∃ fi, F1.getD i 0 = fi := ⟨_, rfl⟩
        obtain ⟨mi, hmi⟩ : ∃ mi, M1.getD i 0 = mi := ⟨_, rfl⟩
        rw [hfi] at eF bF
        rw [hmi] at eM bM
        have sS : s < b.S.length := by rw [S_len]; exact hs
        have gS : b.S.getD s [] = b.s[s].2 := S_getD hs
        have gR : (RL1.map (·.2)).getD i [] = RL1[i].2 := by rw [List.getD_eq_getElem?_getD, List.getElem?_map, List.getElem?_eq_getElem hi1]; rfl
        refine callW_pure (purifyAll2 (lls_pur ra rfl) ls_pur) (r_find_ok false false RL1 nx (by omega) (fun p hp => ?_) (by omega)) ?_
        · obtain ⟨k, hk, rfl⟩ := List.getElem_of_mem hp
          have := B3 k hk
          rw [List.getD_eq_getElem?_getD, List.getElem?_map, List.getElem?_eq_getElem hk] at this
          have : RL1[k].2.length = n := this
          omega
        by_cases hin : nx ∈ RL1.map (·.2)
        · obtain ⟨k, hkR, ek⟩ := mem_getD (d := []) hin
          have hk : k < RL1.length := by rw [List.length_map] at hkR; exact hkR
          have ek2 : RL1[k].2 = nx := by
            rw [← ek, List.getD_eq_getElem?_getD, List.getElem?_map, List.getElem?_eq_getElem hk]; rfl
          rw [fnd_at c1.bfs.nd hk ek2]
          have kF : k < F1.length := by omega
          have kM : k < M1.length := by omega
          have kFw : k < (wI F1).length := by rw [wI_len]; exact kF
          have kMw : k < (wI M1).length := by rw [wI_len]; exact kM
          have eFk : (wI F1)[k] = ((F1.getD k 0 : Nat) : Int) := by
            rw [List.getD_eq_getElem?_getD, List.getElem?_eq_getElem kF]; simp [wI]
          have eMk : (wI M1)[k] = ((M1.getD k 0 : Nat) : Int) := by
            rw [List.getD_eq_getElem?_getD, List.getElem?_eq_getElem kM]; simp [wI]
          have bFk := B2 k hk
          have bMk : M1.getD k 0 ≤ mostN := by rw [c1.bfs.m k hkR]; exact Nat.min_le_left _ _
          have ekS : (RL1.map (·.2)).getD k [] = aft (b.S.getD s []) ((RL1.map (·.2)).getD i []) := by rw [gS, gR, hnx, ek]
          have skip := fun hne => c1.bfs.skip iR sS hkR ekS hne
          have put := fun he => c1.bfs.put iR sS hkR ekS he
          rw [hfi] at skip put
          rw [hmi] at put
          obtain ⟨fk, hfk⟩ : ∃ fk, F1.getD k 0 = fk := ⟨_, rfl⟩
          obtain ⟨mk', hmk⟩ : ∃ mk, M1.getD k 0 = mk := ⟨_, rfl⟩
          rw [hfk] at eFk bFk skip put
          rw [hmk] at eMk bMk put
          have kn : ((k : Int) < 0) = False := by simp only [eq_iff_iff, iff_false]; omega
          simp -implicitDefEqProofs (disch := omega) [wrap_id, kn, rc, kF, iF, kFw, iFw, eF, eFk, cells_ls, cmp2, nthT]
          have lt1 := c1.lt
          by_cases hf : fk = fi + 1
          · have hf' : ((fk : Int) != (fi : Int) + 1) = false := by simp only [bne_eq_false_iff_eq]; omega
            have st := put hf
            have hkL : k < LL1.length := by omega
            have kL5 : k < L1.length := by have := c1.bfs.lL; rw [List.length_map] at this; omega
            have hv : LL1[k].2 = wI (L1.getD k []) := by
              have := congrArg (fun l => l.getD k []) c1.words
              simp only [List.getD_eq_getElem?_getD, List.getElem?_map, List.getElem?_eq_getElem hkL] at this
              rw [List.getElem?_eq_getElem kL5] at this
              rw [List.getD_eq_getElem?_getD, List.getElem?_eq_getElem kL5]
              exact this
            have lv : LL1[k].2.length = fk := by
              rw [hv, wI_len, ((c1.bfs.gmem k hkR _).1 (c1.bfs.l k hkR).1).2.1, hfk]
            have lw2 : w.length = fi := by
              rw [hw, wI_len, ((c1.bfs.gi iR _).1 (c1.bfs.l i iR).1).2, hfi]
            have nx1 : k < M1.length := kM
            have ld2 : d < H2.length := by omega
            have bM1 : mi ≤ 1099511627777 := bM
            have bM2 : mk' ≤ 1099511627777 := bMk
            obtain ⟨mm, hmm⟩ : ∃ mm : Nat, min mostN (mk' + mi) = mm := ⟨_, rfl⟩
            have wm : min (1099511627777 : Int) ((mk' : Int) + mi) = (mm : Int) := by rw [← hmm]; show _ = ((min 1099511627777 (mk' + mi) : Nat) : Int); omega
            rw [hmm] at st
            simp -implicitDefEqProofs (disch := omega) [wrap_id, hf', rd, kM, iM, kMw, iMw, eM, eMk, cells_ls, cmp2, nthT, ld2, wm]
            rw [put_ls kMw]
            refine ⟨by rw [wI_len]; omega, hkL, ?_⟩
            have ws : (wI M1).set k (mm : Int) = wI (M1.set k mm) := by unfold wI; rw [List.map_set]
            rw [ws]
            have f3 : ∀ j, j ≠ d → nthH (H2.set d (.cells ((wI (M1.set k mm)).map fun n => I n))) j = nthH H2 j := fun j hj => nthH_set_ne (Ne.symm hj)
            have d3 : nthH (H2.set d (.cells ((wI (M1.set k mm)).map fun n => I n))) d = some (.cells ((wI (M1.set k mm)).map fun n => I n)) := nthH_set_same ld2
            have l3 : (H2.set d (.cells ((wI (M1.set k mm)).map fun n => I n))).length = H1.length + 2 := by simpa using l2
            generalize H2.set d (.cells ((wI (M1.set k mm)).map fun n => I n)) = H3 at f3 d3 l3 ⊢
            have sa := (f3 a (by omega)).trans ra
            have sc := (f3 c (by omega)).trans rc
            have se := (f3 e (by omega)).trans re
            have sl := (f3 (H1.length + 1) (by omega)).trans hl
            have old : ∀ j, j < H1.length → j ≠ d → nthH H3 j = nthH H1 j := fun j hj hne => (f3 j hne).trans (fr j hj)
            simp -implicitDefEqProofs (disch := omega) [wrap_id, se, hkL, cells_lls]
            refine callW_pure (purifyAll2 (ms_pur sl (by simp)) ls_pur) (r_First_ok false LL1[k].1 (w ++ [(s : Int)]) LL1[k].2 (by simp; omega) (by rw [lv, List.length_append, List.length_singleton, lw2, hf])) ?_
            have eqf : frst (wI (L1.getD i [] ++ [s])) (wI (L1.getD k [])) = frst (w ++ [(s : Int)]) LL1[k].2 := by rw [wI_snoc, ← hw, ← hv]
            rw [eqf] at st
            cases hfr : frst (w ++ [(s : Int)]) LL1[k].2 with
            | true =>
              rw [hfr, if_pos rfl] at st
              have le2 : e < H1.length + 2 := by omega
              simp -implicitDefEqProofs (disch := omega) [wrap_id, se, hkL, l3, le2]
              refine ⟨by omega, ?_⟩
              rw [set_c2 (by simpa using hkL)]
              have le3 : e < H3.length := by omega
              have ne : H1.length + 1 ≠ e := by omega
              have f4 : ∀ j, j ≠ e → nthH (H3.set e (.cells ((llsC LL1).set k (.ms (H1.length + 1) 0 (w.length + 1) 1)))) j = nthH H3 j := fun j hj => nthH_set_ne (Ne.symm hj)
              have e4 : nthH (H3.set e (.cells ((llsC LL1).set k (.ms (H1.length + 1) 0 (w.length + 1) 1)))) e = some (.cells ((llsC LL1).set k (.ms (H1.length + 1) 0 (w.length + 1) 1))) := nthH_set_same le3
              have l4 : (H3.set e (.cells ((llsC LL1).set k (.ms (H1.length + 1) 0 (w.length + 1) 1)))).length = H1.length + 2 := by simpa using l3
              generalize H3.set e (.cells ((llsC LL1).set k (.ms (H1.length + 1) 0 (w.length + 1) 1))) = H4 at f4 e4 l4 ⊢
              have pu : purify1 (hpf H4) (.ms (H1.length + 1) 0 (w.length + 1) 1) = some (Ls false (w ++ [(s : Int)]), [H1.length + 1]) := ms_pur ((f4 _ ne).trans sl) (by simp)
              have wr : writeL H4 (gones [H1.length + 1] ++ [(e, .cells (llsC (LL1.set k (false, w ++ [(s : Int)]))))]) = (H4.set (H1.length + 1) .gone).set e (.cells (llsC (LL1.set k (false, w ++ [(s : Int)])))) := by
                have q1 : H1.length + 1 < H4.length := by omega
                have q2 : e < H4.length := by omega
                simp [writeL, setL, gones, q1, q2]
              have fl := le_freezeCell (fr := [(2, AV.ref hp.length 0), (8, AV.ms a 0 RL1.length 1), (9, AV.ms c 0 F1.length 1), (10, AV.ms d 0 M1.length 1), (11, AV.ms e 0 LL1.length 1), (12, I (i : Int)), (13, I ((s + 1 : Nat) : Int))]) e4 (purifyL_set pu LL1 k hkL) (by simp; omega) Fzn.refl
              rw [wr] at fl
              have q1 : H1.length + 1 < H4.length := by omega
              have q2 : e < (H4.set (H1.length + 1) .gone).length := by rw [List.length_set]; omega
              have f5 : ∀ j, j ≠ e → j ≠ H1.length + 1 → nthH ((H4.set (H1.length + 1) .gone).set e (.cells (llsC (LL1.set k (false, w ++ [(s : Int)]))))) j = nthH H4 j := fun j h1 h2 => by
                rw [nthH_set_ne (Ne.symm h1), nthH_set_ne (Ne.symm h2)]
              have e5 : nthH ((H4.set (H1.length + 1) .gone).set e (.cells (llsC (LL1.set k (false, w ++ [(s : Int)]))))) e = some (.cells (llsC (LL1.set k (false, w ++ [(s : Int)])))) := nthH_set_same q2
              have l5 : ((H4.set (H1.length + 1) .gone).set e (.cells (llsC (LL1.set k (false, w ++ [(s : Int)]))))).length = H1.length + 2 := by rw [List.length_set, List.length_set, l4]
              generalize (H4.set (H1.length + 1) .gone).set e (.cells (llsC (LL1.set k (false, w ++ [(s : Int)])))) = H5 at fl f5 e5 l5
              have old5 : ∀ j, j < H1.length → j ≠ d → j ≠ e → nthH H5 j = nthH H1 j := fun j hj h1 h2 => by
                rw [f5 j h2 (by omega), f4 j h2, old j hj h1]
              rw [hK1, sx]
              refine ⟨(s + 1, H5, .ms a 0 RL1.length 1, .ms c 0 F1.length 1, .ms d 0 M1.length 1, .ms e 0 LL1.length 1),
                ⟨RL1, F1, M1.set k mm, LL1.set k (false, w ++ [(s : Int)]), _, _, ⟨st, ?_, .inr ⟨a, c, d, e, z1, z2, z3, z4, n1, n2, n3, n4, n5, n6, rfl, rfl, by rw [List.length_set], by rw [List.length_set], ?_, ?_, ?_, e5⟩, (old5 _ (by omega) (by omega) (by omega)).trans bx, fun j hj => (old5 j (by omega) (by omega) (by omega)).trans (c1.keep j hj), by simp only; omega⟩, hi1, by simp only; omega⟩, (by simp only; omega), fl⟩
              · rw [List.map_set, c1.words, List.map_set]
                simp only [wI_snoc, hw]
              · rw [f5 a (by omega) (by omega), f4 a (by omega)]; exact sa
              · rw [f5 c (by omega) (by omega), f4 c (by omega)]; exact sc
              · rw [f5 d (by omega) (by omega), f4 d (by omega)]; exact d3
            | false =>
              rw [hfr, if_neg (by decide)] at st
              simp -implicitDefEqProofs (disch := omega) [wrap_id]
              rw [hK1]
              refine next_eq (s + 1, H3, .ms a 0 RL1.length 1, .ms c 0 F1.length 1, .ms d 0 M1.length 1, .ms e 0 LL1.length 1)
                ⟨RL1, F1, M1.set k mm, LL1, L1, _, ⟨st, c1.words, .inr ⟨a, c, d, e, z1, z2, z3, z4, n1, n2, n3, n4, n5, n6, rfl, rfl, by rw [List.length_set], rfl, sa, sc, d3, se⟩, (old _ (by omega) (by omega)).trans bx, fun j hj => (old j (by omega) (by omega)).trans (c1.keep j hj), by simp only; omega⟩, hi1, by simp only; omega⟩ (by simp only; omega) (by simp only [sx])
          · have hf' : ((fk : Int) != (fi : Int) + 1) = true := by simp only [bne_iff_ne, ne_eq]; omega
            simp -implicitDefEqProofs (disch := omega) [wrap_id, hf']
            rw [hK1]
            refine next_eq (s + 1, H2, .ms a 0 RL1.length 1, .ms c 0 F1.length 1, .ms d 0 M1.length 1, .ms e 0 LL1.length 1)
              ⟨RL1, F1, M1, LL1, L1, G1, ⟨skip hf, c1.words, .inr ⟨a, c, d, e, z1, z2, z3, z4, n1, n2, n3, n4, n5, n6, rfl, rfl, rfl, rfl, ra, rc, rd, re⟩, (fr _ (by omega)).trans bx, fun j hj => (fr j (by omega)).trans (c1.keep j hj), by simp only; omega⟩, hi1, by simp only; omega⟩ (by simp only; omega) (by simp only [sx])
        · rw [fnd_none hin]
          have st := c1.bfs.push iR sS (by rw [gS, gR, hnx]; exact hin)
          rw [gS, gR, hnx] at st
          simp -implicitDefEqProofs (disch := omega) [wrap_id]
          refine bsl_of (ys := [Ls false nx]) rfl rfl ?_
          have la2 : a < H2.length := by omega
          simp -implicitDefEqProofs (disch := omega) [wrap_id, zrep, ra, la2]
          rw [take_lls]
          refine ⟨⟨by omega, by omega⟩, iF, ?_⟩
          obtain ⟨u1, u2, u3⟩ := set_app (H := H2) (x := .gone) (o := .cells (llsC (RL1 ++ [(false, nx)]))) la2
          generalize H2.set a HObj.gone ++ [HObj.cells (llsC (RL1 ++ [(false, nx)]))] = H3 at u1 u2 u3 ⊢
          have sc := (u1 c (by omega) (Ne.symm n1)).trans rc
          have sd := (u1 d (by omega) (Ne.symm n2)).trans rd
          have se := (u1 e (by omega) (Ne.symm n3)).trans re
          have sl := (u1 (H1.length + 1) (by omega) (by omega)).trans hl
          rw [hfi, hmi] at st
          have fx : ((fi : Int) + 1) = ((fi + 1 : Nat) : Int) := by omega
          simp -implicitDefEqProofs (disch := omega) [wrap_id, zrep, sc, cells_ls, iFw, eF]
          refine bsl_of (ys := [I (fi + 1 : Int)]) rfl rfl ?_
          have lc3 : c < H3.length := by omega
          simp -implicitDefEqProofs (disch := omega) [wrap_id, zrep, sc, lc3]
          rw [fx, take_wI]
          refine ⟨⟨by rw [wI_len]; exact Nat.le_refl _, by omega, by omega⟩, iM, ?_⟩
          obtain ⟨v1, v2, v3⟩ := set_app (H := H3) (x := .gone) (o := .cells ((wI (F1 ++ [fi + 1])).map fun n => I n)) lc3
          generalize H3.set c HObj.gone ++ [HObj.cells ((wI (F1 ++ [fi + 1])).map fun n => I n)] = H4 at v1 v2 v3 ⊢
          have td := (v1 d (by omega) (Ne.symm n4)).trans sd
          have te := (v1 e (by omega) (Ne.symm n5)).trans se
          have tl := (v1 (H1.length + 1) (by omega) (by omega)).trans sl
          have tr := (v1 H2.length (by omega) (by omega)).trans u2
          simp -implicitDefEqProofs (disch := omega) [wrap_id, zrep, td, cells_ls, iMw, eM]
          refine bsl_of (ys := [I (mi : Int)]) rfl rfl ?_
          have ld4 : d < H4.length := by omega
          simp -implicitDefEqProofs (disch := omega) [wrap_id, zrep, td, ld4]
          rw [take_wI]
          refine ⟨⟨by rw [wI_len]; exact Nat.le_refl _, by omega, by omega⟩, ?_⟩
          obtain ⟨x1, x2, x3⟩ := set_app (H := H4) (x := .gone) (o := .cells ((wI (M1 ++ [mi])).map fun n => I n)) ld4
          generalize H4.set d HObj.gone ++ [HObj.cells ((wI (M1 ++ [mi])).map fun n => I n)] = H5 at x1 x2 x3 ⊢
          have ue := (x1 e (by omega) (Ne.symm n6)).trans te
          have ul := (x1 (H1.length + 1) (by omega) (by omega)).trans tl
          have ur := (x1 H2.length (by omega) (by omega)).trans tr
          have uf := (x1 H3.length (by omega) (by omega)).trans v2
          refine bsl_of (ys := [Ls false (w ++ [(s : Int)])]) (ids := [H1.length + 1]) ?_ rfl ?_
          · have := ms_pur ul (n := w.length + 1) (by simp)
            simp only [purifyAll, this]; rfl
          have ll5 : H1.length + 1 < H5.length := by omega
          have le5 : e < H5.length := by omega
          have ne1 : (H1.length + 1) ≠ e := by omega
          have ue2 : nthH (H5.set (H1.length + 1) HObj.gone) e = some (.cells (llsC LL1)) := by rw [nthH_set_ne ne1]; exact ue
          simp -implicitDefEqProofs (disch := omega) [wrap_id, zrep, ll5, le5, ue2]
          rw [take_lls]
          refine ⟨⟨by omega, by omega⟩, by omega, ?_⟩
          have le6 : e < (H5.set (H1.length + 1) HObj.gone).length := by rw [List.length_set]; omega
          obtain ⟨y1, y2, y3⟩ := set_app (H := H5.set (H1.length + 1) HObj.gone) (x := .gone) (o := .cells (llsC (LL1 ++ [(false, w ++ [(s : Int)])]))) le6
          generalize (H5.set (H1.length + 1) HObj.gone).set e HObj.gone ++ [HObj.cells (llsC (LL1 ++ [(false, w ++ [(s : Int)])]))] = H6 at y1 y2 y3 ⊢
          rw [List.length_set] at y1 y2 y3
          have y4 : ∀ j, j < H5.length → j ≠ e → j ≠ H1.length + 1 → nthH H6 j = nthH H5 j := fun j hj h1 h2 => by
            rw [y1 j hj h1, nthH_set_ne (Ne.symm h2)]
          have old : ∀ j, j < H1.length → j ≠ a → j ≠ c → j ≠ d → j ≠ e → nthH H6 j = nthH H1 j := fun j hj h1 h2 h3 h4 => by
            rw [y4 j (by omega) h4 (by omega), x1 j (by omega) h3, v1 j (by omega) h2, u1 j (by omega) h1, fr j hj]
          have lt1 := c1.lt
          rw [hK1]
          refine next_eq (s + 1, H6, .ms H2.length 0 (RL1.length + 1) 1, .ms H3.length 0 (F1.length + 1) 1, .ms H4.length 0 (M1.length + 1) 1, .ms H5.length 0 (LL1.length + 1) 1)
            ⟨RL1 ++ [(false, nx)], F1 ++ [fi + 1], M1 ++ [mi], LL1 ++ [(false, w ++ [(s : Int)])], _, _, ⟨by rw [List.map_append]; exact st, ?_, .inr ⟨H2.length, H3.length, H4.length, H5.length, ?_⟩, ?_, ?_, by simp only; omega⟩, by rw [List.length_append]; omega, by simp only; omega⟩ (by simp only; omega) (by simp only [sx])
          · rw [List.map_append, List.map_append, c1.words]
            simp only [List.map_cons, List.map_nil, wI_snoc, hw]
          · refine ⟨by omega, by omega, by omega, by omega, by omega, by omega, by omega, by omega, by omega, by omega, ?_, ?_, ?_, ?_, ?_, ?_, ?_, ?_⟩
            · simp only [List.length_append, List.length_singleton]
            · simp only [List.length_append, List.length_singleton]
            · simp only [List.length_append, List.length_singleton]
            · simp only [List.length_append, List.length_singleton]
            · rw [y4 _ (by omega) (by omega) (by omega)]; exact ur
            · rw [y4 _ (by omega) (by omega) (by omega)]; exact uf
            · rw [y4 _ (by omega) (by omega) (by omega)]; exact x2
            · exact y2
          · rw [old _ (by omega) (by omega) (by omega) (by omega) (by omega)]; exact bx
          · intro j hj
            rw [old _ (by omega) (by omega) (by omega) (by omega) (by omega)]; exact c1.keep j hj
    · have hs : s = b.s.length := by simp at h; omega
      subst hs
      subst hK1
      simp -implicitDefEqProofs (disch := omega) [wrap_id]
      rw [hK0]
      have cb := c1.bfs
      rw [← S_len] at cb
      exact next_eq (i + 1, H1, yr, yf, ym, yl) ⟨RL1, F1, M1, LL1, L1, G1, { c1 with bfs := cb.row (by rw [List.length_map]; exact hi1) }⟩ (by simp only; omega) (by simp only [ix])
  · have hi : i = RL.length := by have := c.bfs.ile; simp at h this; omega
    subst hi
    subst hK0
    simp -implicitDefEqProofs (disch := omega) [wrap_id]
    exact hK H xr xf xm xl RL F M LL L G c
end Go.AM

set_option linter.unusedSimpArgs false
set_option linter.unusedVariables false
namespace Go.AM
open Go.RowKit Go.Proofs
theorem fin_of {b : OB} {g : Bool} {r : List Int} {hp H : List HObj} {xr xf xm xl : AV} {RL : List (Bool × List Int)} {F M : List Nat} {LL : List (Bool × List Int)} {L : List (List Nat)} {G : List (List (List Nat))}
    (c : Rnd b g r hp H RL.length 0 xr xf xm xl RL F M LL L G) : FinR b.S r (RL.map (·.2)) F M L := by
  have := c.bfs
  rw [show RL.length = (RL.map (·.2)).length by rw [List.length_map]] at this
  exact this.fin
theorem q_rows {H : List HObj} {z : Nat} {xr xf xm xl : AV} {RL : List (Bool × List Int)} {F M : List Nat} {LL : List (Bool × List Int)} (h : Qs H z xr xf xm xl RL F M LL) : ∃ f ids, purify (hpf H) xr = some (LLs f RL, ids) := by
  rcases h with ⟨_, rfl, _⟩ | ⟨a, c, d, e, _, _, _, _, _, _, _, _, _, _, rfl, _, _, _, qa, _⟩
  · exact ⟨true, [], rfl⟩
  · exact ⟨false, [a], lls_pur qa rfl⟩
theorem q_find {H : List HObj} {z : Nat} {xr xf xm xl : AV} {RL : List (Bool × List Int)} {F M : List Nat} {LL : List (Bool × List Int)} (h : Qs H z xr xf xm xl RL F M LL) {f : Bool} {x : List Int} (hl : RL.length ≤ 1000000) (hz : ∀ p ∈ RL, p.2.length ≤ 1000000) (hx : x.length ≤ 1000000)
    {K : AV → List HObj → Prop} (hK : K (I (fnd RL x)) H) : CallW Tryz.prog n_r_find [xr, Ls f x] H K := by
  obtain ⟨fl, ids, hpu⟩ := q_rows h
  exact callW_pure (purifyAll2 hpu ls_pur) (r_find_ok fl f RL x hl hz hx) hK
theorem rows_small {RL : List (Bool × List Int)} {n : Nat} (h : ∀ k, k < RL.length → ((RL.map (·.2)).getD k []).length = n) : ∀ p ∈ RL, p.2.length = n := fun p hp => by
  obtain ⟨k, hk, rfl⟩ := List.getElem_of_mem hp
  have := h k hk
  rw [List.getD_eq_getElem?_getD, List.getElem?_map, List.getElem?_eq_getElem hk] at this
  exact this
theorem r_Reached_v (g f : Bool) {b : OB} {n : Nat} (hb : Okb b n) {r : List Int} (hr : r.length = n) (hc : ∀ x ∈ r, 0 ≤ x ∧ x ≤ 5) {hp : List HObj} {K : AV → List HObj → Prop}
    (hK : ∀ H fl RL F M LL L, FinR b.S r (RL.map (·.2)) F M L → LL.map (·.2) = L.map wI → RL.length ≤ 46656 → (∀ k, k < RL.length → F.getD k 0 < 46656) → (∀ p ∈ RL, p.2.length = n) → (∀ j, j < hp.length → nthH H j = nthH hp j) →
      K (.tup [LLs fl RL, Ls fl (wI F), Ls fl (wI M), LLs fl LL]) H) : CallW Tryz.prog n_r_Reached [On g b, Ls f r] hp K := by
  refine callW_frz (r_Reached_w g f hb hr hc fun H xr xf xm xl RL F M LL L G c => ?_)
  obtain ⟨B1, B2, B3⟩ := reach_bound hb hr hc c.bfs
  rw [List.length_map] at B1 B2 B3
  have sm := rows_small B3
  have fin := fin_of c
  rcases c.q with ⟨q1, rfl, rfl, rfl, rfl⟩ | ⟨a, cc, d, e, z1, z2, z3, z4, n1, n2, n3, n4, n5, n6, rfl, rfl, rfl, rfl, qa, qc, qd, qe⟩
  · exact ⟨_, [], rfl, hK H true RL F M LL L fin c.words B1 B2 sm c.keep⟩
  · have p1 := lls_pur (n := RL.length) qa rfl
    have p2 := ms_pur (n := F.length) qc (by rw [wI_len])
    have p3 := ms_pur (n := M.length) qd (by rw [wI_len])
    have p4 := lls_pur (n := LL.length) qe rfl
    simp only [purify] at p1 p2 p3 p4
    have la := nthH_lt qa
    have lc := nthH_lt qc
    have ld := nthH_lt qd
    have le := nthH_lt qe
    refine ⟨.tup [LLs false RL, Ls false (wI F), Ls false (wI M), LLs false LL], [a, cc, d, e], ?_, hK _ false RL F M LL L fin c.words B1 B2 sm fun j hj => ?_⟩
    · simp only [purify, purifyL, p1, p2, p3, p4, Option.map_some]; rfl
    · have hl := c.lt
      rw [nthH_gone (fun i hi => ?_) (fun hi => ?_)]
      · exact c.keep j hj
      · simp only [List.mem_cons, List.not_mem_nil, or_false] at hi
        omega
      · simp only [List.mem_cons, List.not_mem_nil, or_false] at hi
        omega
theorem fin_fnd {S : List (List Int)} {r : List Int} {RL : List (Bool × List Int)} {F M : List Nat} {L : List (List Nat)} (h : FinR S r (RL.map (·.2)) F M L) {x : List Int} :
    (NoW S r x ∧ fnd RL x = -1) ∨ ∃ k, k < RL.length ∧ fnd RL x = k ∧ (RL.map (·.2)).getD k [] = x := by
  by_cases hin : x ∈ RL.map (·.2)
  · obtain ⟨k, hk, e⟩ := mem_getD (d := []) hin
    have hk2 : k < RL.length := by rw [List.length_map] at hk; exact hk
    refine .inr ⟨k, hk2, fnd_at h.nd hk2 ?_, e⟩
    rw [List.getD_eq_getElem?_getD, List.getElem?_map, List.getElem?_eq_getElem hk2] at e
    exact e
  · exact .inl ⟨fun w hw => hin (h.all x w hw), fnd_none hin⟩
set_option maxHeartbeats 2000000 in
theorem r_Best_ok (g f h : Bool) (b : OB) (hz : SzO b) (r x : List Int) (hr : r.length ≤ 1000000) (hx : x.length ≤ 1000000) {l : List Int} {e : Int} (ha : AnsB b r x l e) : PureOK Tryz.prog n_r_Best [On g b, Ls f r, Ls h x] (.tup [Ls false l, I e]) := by
  refine pure_of_w weak weak_rep (walk func_r_Best form_r_Best res_r_Best (by show 3 ≤ _; decide) ?_)
  simp -implicitDefEqProofs (disch := omega) [G_r_Best, wrap_id]
  refine callW_pure rfl (r_Rows_ok g f h b hz r x hr hx) ?_
  rcases ha with ⟨h0, rfl, rfl⟩ | ⟨h0, ha⟩
  · have h0' : (rwsE b r x != 0) = true := by simpa using h0
    simp -implicitDefEqProofs (disch := omega) [wrap_id, h0']
    refine callW_pure rfl (r_Rows_ok g f h b hz r x hr hx) ?_
    simp -implicitDefEqProofs (disch := omega) [wrap_id]
    exact ⟨_, rfl, tup_ls (l := [])⟩
  · obtain ⟨n, hb, lr, lx, o1, o2⟩ := rws_ok h0
    have h6 := hb.hi
    simp -implicitDefEqProofs (disch := omega) [wrap_id, h0]
    refine r_Reached_w g f hb lr (rowO_col o1) fun H xr xf xm xl RL F M LL L G c => ?_
    obtain ⟨B1, B2, B3⟩ := reach_bound hb lr (rowO_col o1) c.bfs
    rw [List.length_map] at B1 B2 B3
    have sm := rows_small B3
    have fin := fin_of c
    simp -implicitDefEqProofs (disch := omega) [wrap_id]
    refine q_find c.q (by omega) (fun p hp => by rw [sm p hp]; omega) (by omega) ?_
    rcases fin_fnd fin (x := x) with ⟨nw, ef⟩ | ⟨k, hk, ef, ex⟩
    · rcases ha with ⟨_, rfl, rfl⟩ | ⟨d, w, hd, _⟩
      · rw [ef]
        simp -implicitDefEqProofs (disch := omega) [wrap_id]
        exact ⟨_, rfl, tup_ls (l := [])⟩
      · obtain ⟨⟨v, hv, _⟩, _⟩ := hd
        exact absurd hv (nw v)
    · have hkR : k < (RL.map (·.2)).length := by rw [List.length_map]; exact hk
      have dk := fin.dist k hkR
      rw [ex] at dk
      rcases ha with ⟨nw, _⟩ | ⟨d, w, hd, hw, rfl, rfl⟩
      · obtain ⟨⟨v, hv, _⟩, _⟩ := dk
        exact absurd hv (nw v)
      · have ed := dk.uniq hd
        have lk := fin.l k hkR
        rw [ex, ed] at lk
        have ew := lk.uniq hw
        have kn : ((k : Int) < 0) = False := by simp only [eq_iff_iff, iff_false]; omega
        have lL : LL.length = RL.length := by
          have h1 := c.bfs.lL
          have h2 := congrArg List.length c.words
          simp only [List.length_map] at h1 h2
          omega
        have hkL : k < LL.length := by omega
        have hv : LL[k].2 = wI w := by
          have := congrArg (fun l => l.getD k []) c.words
          have hk5 : k < L.length := by have := c.bfs.lL; rw [List.length_map] at this; omega
          simp only [List.getD_eq_getElem?_getD, List.getElem?_map, List.getElem?_eq_getElem hkL] at this
          rw [List.getElem?_eq_getElem hk5] at this
          rw [← ew, List.getD_eq_getElem?_getD, List.getElem?_eq_getElem hk5]
          exact this
        rw [ef]
        rcases c.q with ⟨_, _, _, _, rfl⟩ | ⟨a, cc, d', e', _, _, _, _, _, _, _, _, _, _, _, _, _, rfl, _, _, _, qe⟩
        · simp -implicitDefEqProofs (disch := omega) [wrap_id, kn, hkL, cells_lls]
          exact ⟨_, by simp [weak, weak1, hv], tup_ls⟩
        · simp -implicitDefEqProofs (disch := omega) [wrap_id, kn, hkL, cells_lls, qe]
          exact ⟨_, by simp [weak, weak1, hv], tup_ls⟩
end Go.AM

set_option linter.unusedSimpArgs false
set_option linter.unusedVariables false
namespace Go.AM
open Go.RowKit Go.Proofs
def AnsF (S : List (List Int)) (r x : List Int) (v : Int) : Prop := (NoW S r x ∧ v = -1) ∨ ∃ d : Nat, Dist S r x d ∧ v = d
theorem wI_getD {F : List Nat} {k : Nat} (h : k < F.length) : ∃ hw : k < (wI F).length, (wI F)[k] = ((F.getD k 0 : Nat) : Int) := by
  refine ⟨by rw [wI_len]; exact h, ?_⟩
  rw [List.getD_eq_getElem?_getD, List.getElem?_eq_getElem h]; simp [wI]
set_option maxHeartbeats 2000000 in
theorem r_FarFrom_ok (g f h : Bool) {b : OB} {n : Nat} (hb : Okb b n) {r x : List Int} (lr : r.length = n) (lx : x.length = n) (hc : ∀ y ∈ r, 0 ≤ y ∧ y ≤ 5) {v : Int} (ha : AnsF b.S r x v) : PureOK Tryz.prog n_r_FarFrom [On g b, Ls f r, Ls h x] (I v) := by
  have h6 := hb.hi
  refine pure_of (walk func_r_FarFrom form_r_FarFrom res_r_FarFrom (by show 3 ≤ _; decide) ?_)
  simp -implicitDefEqProofs (disch := omega) [G_r_FarFrom, wrap_id]
  refine r_Reached_w g f hb lr hc fun H xr xf xm xl RL F M LL L G c => ?_
  obtain ⟨B1, B2, B3⟩ := reach_bound hb lr hc c.bfs
  rw [List.length_map] at B1 B2 B3
  have sm := rows_small B3
  have fin := fin_of c
  simp -implicitDefEqProofs (disch := omega) [wrap_id]
  refine q_find c.q (by omega) (fun p hp => by rw [sm p hp]; omega) (by omega) ?_
  rcases fin_fnd fin (x := x) with ⟨nw, ef⟩ | ⟨k, hk, ef, ex⟩
  · rcases ha with ⟨_, rfl⟩ | ⟨d, hd, _⟩
    · rw [ef]
      simp -implicitDefEqProofs (disch := omega) [wrap_id]
    · obtain ⟨⟨w, hw, _⟩, _⟩ := hd
      exact absurd hw (nw w)
  · have hkR : k < (RL.map (·.2)).length := by rw [List.length_map]; exact hk
    have dk := fin.dist k hkR
    rw [ex] at dk
    rcases ha with ⟨nw, _⟩ | ⟨d, hd, rfl⟩
    · obtain ⟨⟨w, hw, _⟩, _⟩ := dk
      exact absurd hw (nw w)
    · have ed := dk.uniq hd
      have kn : ((k : Int) < 0) = False := by simp only [eq_iff_iff, iff_false]; omega
      have kF : k < F.length := by have := fin.lF; rw [List.length_map] at this; omega
      obtain ⟨kFw, eF⟩ := wI_getD kF
      rw [ed] at eF
      rw [ef]
      rcases c.q with ⟨_, _, rfl, _, _⟩ | ⟨a, cc, d', e', _, _, _, _, _, _, _, _, _, _, _, rfl, _, _, _, qc, _⟩
      · simp -implicitDefEqProofs (disch := omega) [wrap_id, kn, kF, kFw, eF, cells_ls]
      · simp -implicitDefEqProofs (disch := omega) [wrap_id, kn, kF, kFw, eF, cells_ls, qc]
set_option maxHeartbeats 2000000 in
theorem r_Count_ok (g f h : Bool) (b : OB) (hz : SzO b) (r x : List Int) (hr : r.length ≤ 1000000) (hx : x.length ≤ 1000000) {v e : Int} (ha : AnsC b r x v e) : PureOK Tryz.prog n_r_Count [On g b, Ls f r, Ls h x] (.tup [I v, I e]) := by
  refine pure_of (walk func_r_Count form_r_Count res_r_Count (by show 3 ≤ _; decide) ?_)
  simp -implicitDefEqProofs (disch := omega) [G_r_Count, wrap_id]
  refine callW_pure rfl (r_Rows_ok g f h b hz r x hr hx) ?_
  rcases ha with ⟨h0, rfl, rfl⟩ | ⟨h0, ha⟩
  · have h0' : (rwsE b r x != 0) = true := by simpa using h0
    simp -implicitDefEqProofs (disch := omega) [wrap_id, h0']
    refine callW_pure rfl (r_Rows_ok g f h b hz r x hr hx) ?_
    simp -implicitDefEqProofs (disch := omega) [wrap_id]
    exact tup_ii
  · obtain ⟨n, hb, lr, lx, o1, o2⟩ := rws_ok h0
    have h6 := hb.hi
    simp -implicitDefEqProofs (disch := omega) [wrap_id, h0]
    refine r_Reached_w g f hb lr (rowO_col o1) fun H xr xf xm xl RL F M LL L G c => ?_
    obtain ⟨B1, B2, B3⟩ := reach_bound hb lr (rowO_col o1) c.bfs
    rw [List.length_map] at B1 B2 B3
    have sm := rows_small B3
    have fin := fin_of c
    simp -implicitDefEqProofs (disch := omega) [wrap_id]
    refine q_find c.q (by omega) (fun p hp => by rw [sm p hp]; omega) (by omega) ?_
    rcases fin_fnd fin (x := x) with ⟨nw, ef⟩ | ⟨k, hk, ef, ex⟩
    · rcases ha with ⟨_, rfl, rfl⟩ | ⟨d, hd, _⟩
      · rw [ef]
        simp -implicitDefEqProofs (disch := omega) [wrap_id]
        exact tup_ii
      · obtain ⟨⟨w, hw, _⟩, _⟩ := hd
        exact absurd hw (nw w)
    · have hkR : k < (RL.map (·.2)).length := by rw [List.length_map]; exact hk
      have dk := fin.dist k hkR
      rw [ex] at dk
      rcases ha with ⟨nw, _⟩ | ⟨d, hd, ha⟩
      · obtain ⟨⟨w, hw, _⟩, _⟩ := dk
        exact absurd hw (nw w)
      · have ed := dk.uniq hd
        have kn : ((k : Int) < 0) = False := by simp only [eq_iff_iff, iff_false]; omega
        have kM : k < M.length := by have := fin.lM; rw [List.length_map] at this; omega
        obtain ⟨kMw, eM⟩ := wI_getD kM
        have em := fin.m k hkR
        rw [ex, ed] at em
        rw [em] at eM
        rw [ef]
        generalize cntW b.S d r x = cn at ha eM
        rcases ha with ⟨h1, rfl, rfl⟩ | ⟨h1, rfl, rfl⟩
        · have e2 : min mostN cn = 1099511627777 := by rw [Nat.min_eq_left h1]
          rw [e2] at eM
          rcases c.q with ⟨_, _, _, rfl, _⟩ | ⟨a, cc, d', e', _, _, _, _, _, _, _, _, _, _, _, _, rfl, _, _, _, qd, _⟩
          · simp -implicitDefEqProofs (disch := omega) [wrap_id, kn, kM, kMw, eM, cells_ls]
            exact tup_ii
          · simp -implicitDefEqProofs (disch := omega) [wrap_id, kn, kM, kMw, eM, cells_ls, qd]
            exact tup_ii
        · have e2 : min mostN cn = cn := Nat.min_eq_right (by omega)
          rw [e2] at eM
          have c1 : ((1099511627776 : Int) < (cn : Int)) = False := by
            simp only [eq_iff_iff, iff_false]
            have : cn < 1099511627777 := h1
            omega
          rcases c.q with ⟨_, _, _, rfl, _⟩ | ⟨a, cc, d', e', _, _, _, _, _, _, _, _, _, _, _, _, rfl, _, _, _, qd, _⟩
          · simp -implicitDefEqProofs (disch := omega) [wrap_id, kn, kM, kMw, eM, cells_ls, c1]
            exact tup_ii
          · simp -implicitDefEqProofs (disch := omega) [wrap_id, kn, kM, kMw, eM, cells_ls, qd, c1]
            exact tup_ii
theorem on_out {hp : List HObj} {P : Int} {j m : Nat} {l : List (Bool × List Int)} (h : nthH hp j = some (.cells (llsC l))) (hm : m = l.length) : Out (On false ⟨P, l⟩) (.agg [I P, .ms j 0 m 1]) hp := by
  have := lls_pur h hm
  refine out_of (is := [j]) ?_
  simp only [purify] at this
  simp only [purify, purifyL, this]
  rfl
set_option maxHeartbeats 2000000 in
theorem r_without_ok (g : Bool) {b : OB} (hm : b.s.length ≤ 1000) {s : Nat} (hs : s < b.s.length) : PureOK Tryz.prog n_r_without [On g b, I (s : Int)] (On false (wtO b s)) := by
  refine pure_of (callW_of func_r_without form_r_without resc_r_without (by show 2 ≤ _; decide) ?_)
  simp -implicitDefEqProofs (disch := omega) [G_r_without, wrap_id]
  refine bsl_of rfl rfl ?_
  simp -implicitDefEqProofs (disch := omega) [wrap_id, zrep_zero]
  have pcl : ∀ (l : List (Bool × List Int)) (x : AV), x ∈ llsC l → x.isPC = true := fun l x hx => by
    obtain ⟨p, _, rfl⟩ := List.mem_map.1 hx
    rfl
  refine ⟨by omega, ⟨fun x hx => pcl _ x (List.mem_of_mem_take hx), by omega, by omega⟩, ⟨by omega, by omega⟩, ⟨fun x hx => pcl _ x (List.mem_of_mem_drop (List.mem_of_mem_take hx)), by omega, by omega⟩, ?_⟩
  have e1 : List.take s (List.take s (llsC b.s)) ++ List.take (b.s.length - (s + 1)) (List.drop (s + 1) (llsC b.s)) = llsC (b.s.eraseIdx s) := by
    have t1 : List.take (b.s.length - (s + 1)) (List.drop (s + 1) (llsC b.s)) = List.drop (s + 1) (llsC b.s) := List.take_of_length_le (by simp)
    rw [List.take_take, Nat.min_self, t1, List.eraseIdx_eq_take_drop_succ]
    unfold llsC
    rw [List.map_append, List.map_take, List.map_drop]
  have e2 : s + (b.s.length - (s + 1)) = (b.s.eraseIdx s).length := by rw [List.length_eraseIdx, if_pos hs]; omega
  rw [e1, e2]
  exact retC_agg rfl rfl (by simp) (on_out (j := 3) rfl rfl)
def bkO (b : OB) : OB := ⟨b.P, b.s.map fun p => (false, inv p.2)⟩
theorem bkO_ok {b : OB} {n : Nat} (hb : Okb b n) : Okb (bkO b) n := ⟨hb.P, hb.lo, hb.hi, by
  have := hb.many
  show (b.s.map _).length ≤ 6
  rw [List.length_map]; exact this, fun p hp => by
  obtain ⟨q, hq, rfl⟩ := List.mem_map.1 hp
  exact inv_pm (hb.pm q hq)⟩
theorem bkO_S {b : OB} : (bkO b).S = b.S.map inv := by
  unfold bkO OB.S
  rw [List.map_map, List.map_map]
  rfl
set_option maxHeartbeats 4000000 in
theorem r_back_ok (g : Bool) {b : OB} {n : Nat} (hb : Okb b n) : PureOK Tryz.prog n_r_back [On g b] (On b.s.isEmpty (bkO b)) := by
  have h6 := hb.hi
  have hP := hb.P
  have hm := hb.many
  refine pure_of (callW_of func_r_back form_r_back resc_r_back (by show 1 ≤ _; decide) ?_)
  simp -implicitDefEqProofs (disch := omega) [G_r_back, wrap_id]
  refine loop_eq (fun q : Nat × AV × List HObj => ⟨[(1, .ref 0 0), (2, .ref 1 0), (3, .ref 2 0), (4, I (q.1 : Int))], q.2.2⟩)
    (fun q => q.1 ≤ b.s.length ∧ nthH q.2.2 0 = some (.cells [I b.P, LLs g b.s]) ∧ nthH q.2.2 1 = some (.cells [I 0, .sl true 0 []]) ∧ nthH q.2.2 2 = some (.cells [I b.P, q.2.1]) ∧ AccG q.2.2 q.2.1 1 q.1 (llsC ((b.s.take q.1).map fun p => (false, inv p.2))) ∧ ∀ i, rid q.2.1 = some i → 3 ≤ i) (fun q => b.s.length - q.1)
    (0, .sl true 0 [], [.cells [I b.P, LLs g b.s], .cells [I 0, .sl true 0 []], .cells [I b.P, .sl true 0 []]]) ⟨Nat.zero_le _, rfl, rfl, rfl, by simp [AccG.nil], fun i h => by cases h⟩ rfl ?_
  rintro ⟨i, y, H⟩ ⟨c1, c2, c3, c4, c5, c6⟩
  simp only at c1 c2 c3 c4 c5 c6 ⊢
  refine hideK' fun K0 hK0 => ?_
  simp -implicitDefEqProofs (disch := omega) [wrap_id, c2]
  refine c_split (fun h => ?_) (fun h => ?_)
  · have hi : i < b.s.length := by simpa using h
    have ix : ((i : Int) + 1) = ((i + 1 : Nat) : Int) := by omega
    have pm := hb.at hi
    simp -implicitDefEqProofs (disch := omega) [wrap_id, c2, hP]
    refine ⟨n, rfl, rfl, by omega, by omega, rfl, ?_⟩
    rw [zrep_ls]
    have in0 : InvB n b.s[i].2 0 (List.replicate n (0 : Int)) := ⟨by simp, fun q h => by omega⟩
    generalize List.replicate n (0 : Int) = M0 at in0 ⊢
    simp -implicitDefEqProofs (disch := omega) [wrap_id]
    have f1 : ∀ (M : List Int) j, j < H.length → nthH (H ++ [.cells (M.map fun n => I n)]) j = nthH H j := fun M j hj => nthH_front hj
    have e1 : ∀ (M : List Int), nthH (H ++ [.cells (M.map fun n => I n)]) H.length = some (.cells (M.map fun n => I n)) := fun M => app_new.2.1
    refine loop_eq (fun q : Nat × List Int => ⟨[(1, .ref 0 0), (2, .ref 1 0), (3, .ref 2 0), (4, I (i : Int)), (5, .ms H.length 0 n 1), (6, I (q.1 : Int))], H ++ [.cells (q.2.map fun n => I n)]⟩) (fun q => q.1 ≤ n ∧ InvB n b.s[i].2 q.1 q.2) (fun q => n - q.1) (0, M0) ⟨Nat.zero_le _, in0⟩ rfl ?_
    rintro ⟨p, M⟩ ⟨d1, d2⟩
    simp only at d1 d2 ⊢
    have g0 := (f1 M 0 (nthH_lt c2)).trans c2
    have g2 := (f1 M 2 (nthH_lt c4)).trans c4
    refine hideK' fun K1 hK1 => ?_
    simp -implicitDefEqProofs (disch := omega) [wrap_id, g0, hP]
    refine c_split (fun h => ?_) (fun h => ?_)
    · have hp : p < n := by simpa using h
      have px : ((p : Int) + 1) = ((p + 1 : Nat) : Int) := by omega
      have lp : p < b.s[i].2.length := by rw [pm.len]; exact hp
      have r1 := pm.rng _ (List.getElem_mem lp)
      have s1 := sg_at lp
      have v1 : b.s[i].2[p] = ((sg b.s[i].2 p : Nat) : Int) := by omega
      have st := d2.step pm hp
      have sl := pm.sg_lt hp
      have kM : sg b.s[i].2 p < M.length := by rw [d2.1]; exact sl
      generalize sg b.s[i].2 p = v at *
      have g1 := e1 M
      simp -implicitDefEqProofs (disch := omega) [wrap_id, g0, g1, hi, lp, cells_lls, cells_ls, v1, sl]
      rw [put_ls kM]
      refine ⟨by omega, ?_⟩
      rw [hK1]
      exact next_eq (p + 1, M.set v (p : Int)) ⟨by simp only; omega, st⟩ (by simp only; omega) (by simp only [px])
    · have hp : p = n := by simp at h; omega
      subst hp
      subst hK1
      have eM := d2.fin pm
      subst eM
      have l2 := nthH_lt c4
      have g3 := e1 (inv b.s[i].2)
      simp -implicitDefEqProofs (disch := omega) [wrap_id, g2]
      refine bsl_of (ys := [Ls false (inv b.s[i].2)]) (ids := [H.length]) ?_ rfl ?_
      · have := ms_pur (n := p) g3 (by rw [inv_len, pm.len])
        simp only [purifyAll, this]; rfl
      have lh : H.length < (H ++ [HObj.cells ((inv b.s[i].2).map fun n => I n)]).length := by simp
      simp -implicitDefEqProofs (disch := omega) [wrap_id, zrep, lh]
      have q5 : AccG (H ++ [HObj.gone]) y 1 i (llsC ((b.s.take i).map fun p => (false, inv p.2))) := c5.mono fun j hj => nthH_front (c5.lt hj)
      have q0 : nthH (H ++ [HObj.gone]) 0 = _ := (nthH_front (by omega)).trans c2
      have q1 : nthH (H ++ [HObj.gone]) 1 = _ := (nthH_front (by omega)).trans c3
      have q2 : nthH (H ++ [HObj.gone]) 2 = _ := (nthH_front (by omega)).trans c4
      have ql : (H ++ [HObj.gone]).length = H.length + 1 := by simp
      generalize H ++ [HObj.gone] = H2 at q5 q0 q1 q2 ql ⊢
      have h3 := nthH_lt q2
      refine app_accG (ys := [Ls false (inv b.s[i].2)]) q5 (by omega) (by decide) rfl rfl fun ws w1 w2 w3 => ?_
      have n0 : rid y ≠ some 0 := fun e => by have := c6 _ e; omega
      have n1 : rid y ≠ some 1 := fun e => by have := c6 _ e; omega
      have n2 : rid y ≠ some 2 := fun e => by have := c6 _ e; omega
      have r0 := (w1 0 (by omega) n0).trans q0
      have r1 := (w1 1 (by omega) n1).trans q1
      have r2 := (w1 2 (by omega) n2).trans q2
      have l3 := nthH_lt r2
      simp -implicitDefEqProofs (disch := omega) [wrap_id, r2, l3]
      generalize writeL H2 ws = H3 at w2 w3 r0 r1 r2 l3 ⊢
      rw [hK0]
      refine next_eq (i + 1, .ms H2.length 0 (i + 1) 1, H3.set 2 (.cells [I b.P, .ms H2.length 0 (i + 1) 1])) ⟨by simp only; omega, ?_, ?_, ?_, ?_, ?_⟩ (by simp only; omega) (by simp only [ix])
      · simp only; rw [nthH_set_ne (by decide)]; exact r0
      · simp only; rw [nthH_set_ne (by decide)]; exact r1
      · exact nthH_set_same l3
      · simp only
        rw [List.take_succ_eq_append_getElem hi, List.map_append]
        unfold llsC at w3 ⊢
        rw [List.map_append]
        exact w3.mono fun j hj => nthH_set_ne (by simp only [rid] at hj; injection hj with hj; omega)
      · simp only [rid]; intro j hj; injection hj with hj; omega
  · have hi : i = b.s.length := by simp at h; omega
    subst hi
    subst hK0
    rw [List.take_length] at c5
    have l1 := nthH_lt c3
    have fl : (b.s.map fun p => (false, inv p.2)).length = b.s.length := by simp
    rcases c5 with ⟨rfl, e1, e2⟩ | ⟨id, rfl, e1, e2, e3, e4⟩
    · have eb : b.s.isEmpty = true := by rw [emp_len, e1]; rfl
      simp -implicitDefEqProofs (disch := omega) [wrap_id, c4, c3, l1]
      refine retC_agg rfl (nthH_set_same l1) (by simp) ?_
      rw [eb]
      have eb2 : b.s = [] := List.length_eq_zero_iff.1 e1
      unfold bkO On
      rw [eb2, hP]
      exact out_of (is := []) rfl
    · have eb : b.s.isEmpty = false := by rw [emp_len]; exact decide_eq_false (by omega)
      simp -implicitDefEqProofs (disch := omega) [wrap_id, c4, c3, l1]
      refine retC_agg rfl (nthH_set_same l1) (by simp) ?_
      have c7 := c6 id rfl
      rw [eb]
      unfold bkO
      rw [hP]
      exact on_out (by rw [nthH_set_ne (by omega)]; exact e2) (by rw [fl])
end Go.AM

set_option linter.unusedSimpArgs false
set_option linter.unusedVariables false
namespace Go.AM
open Go.RowKit Go.Proofs
theorem ansF_ex (S : List (List Int)) (r x : List Int) : ∃ v, AnsF S r x v := by
  by_cases h : NoW S r x
  · exact ⟨-1, .inl ⟨h, rfl⟩⟩
  · have : ∃ w, Wd S r x w := Classical.byContradiction fun hn => h fun w hw => hn ⟨w, hw⟩
    obtain ⟨w, hw⟩ := this
    obtain ⟨d, hd, _⟩ := Dist.of hw
    exact ⟨d, .inr ⟨d, hd, rfl⟩⟩
theorem ansF_eq {S : List (List Int)} {r x : List Int} {v : Int} (h : AnsF S r x v) (d : Nat) : v = d ↔ Dist S r x d := by
  constructor
  · rintro rfl
    rcases h with ⟨_, h⟩ | ⟨d', h1, h2⟩
    · omega
    · have : d = d' := by omega
      rw [this]; exact h1
  · intro hd
    rcases h with ⟨h, _⟩ | ⟨d', h1, h2⟩
    · obtain ⟨⟨w, hw, _⟩, _⟩ := hd
      exact absurd hw (h w)
    · rw [h2, h1.uniq hd]
theorem getD_snd {l : List (Bool × List Int)} {k : Nat} (h : k < l.length) : (l.map (·.2)).getD k [] = l[k].2 := by
  rw [List.getD_eq_getElem?_getD, List.getElem?_map, List.getElem?_eq_getElem h]; rfl
set_option maxHeartbeats 4000000 in
theorem r_Kind_ok (g f h : Bool) (b : OB) (hz : SzO b) (r x : List Int) (hr : r.length ≤ 1000000) (hx : x.length ≤ 1000000) (s : Int) {kd e : Int} (ha : AnsK b r x s kd e) : PureOK Tryz.prog n_r_Kind [On g b, Ls f r, Ls h x, I s] (.tup [I kd, I e]) := by
  refine pure_of (walk func_r_Kind form_r_Kind res_r_Kind (by show 4 ≤ _; decide) ?_)
  simp -implicitDefEqProofs (disch := omega) [G_r_Kind, wrap_id]
  refine callW_pure rfl (r_Rows_ok g f h b hz r x hr hx) ?_
  rcases ha with ⟨h0, rfl, rfl⟩ | ⟨h0, ha⟩
  · have h0' : (rwsE b r x != 0) = true := by simpa using h0
    simp -implicitDefEqProofs (disch := omega) [wrap_id, h0']
    refine callW_pure rfl (r_Rows_ok g f h b hz r x hr hx) ?_
    simp -implicitDefEqProofs (disch := omega) [wrap_id]
    exact tup_kk
  obtain ⟨n, hb, lr, lx, o1, o2⟩ := rws_ok h0
  have h6 := hb.hi
  have hmany := hb.many
  simp -implicitDefEqProofs (disch := omega) [wrap_id, h0]
  rcases ha with ⟨h1, rfl, rfl⟩ | ⟨h1, ha⟩
  · by_cases q1 : s < 0
    · simp -implicitDefEqProofs (disch := omega) [wrap_id, q1]
      exact tup_kk
    · have q2 : (b.s.length : Int) ≤ s := by omega
      simp -implicitDefEqProofs (disch := omega) [wrap_id, q1, q2]
      exact tup_kk
  obtain ⟨t, rfl⟩ : ∃ t : Nat, s = t := ⟨s.toNat, by omega⟩
  have ht : t < b.s.length := by omega
  have q1 : ((t : Int) < 0) = False := by simp only [eq_iff_iff, iff_false]; omega
  have q2 : ((b.s.length : Int) ≤ (t : Int)) = False := by simp only [eq_iff_iff, iff_false]; omega
  rw [Int.toNat_natCast] at ha
  simp -implicitDefEqProofs (disch := omega) [wrap_id, q1, q2, ht]
  refine r_Reached_v g f hb lr (rowO_col o1) fun H fl RL F M LL L fin words B1 B2 sm keep => ?_
  have bx : nthH H 0 = some (.cells [I b.P, LLs g b.s]) := keep 0 (by simp)
  simp -implicitDefEqProofs (disch := omega) [wrap_id]
  refine callW_pure rfl (r_find_ok fl h RL x (by omega) (fun p hp => by rw [sm p hp]; omega) (by omega)) ?_
  rcases fin_fnd fin (x := x) with ⟨nw, ef⟩ | ⟨k, hk, ef, ex⟩
  · rcases ha with ⟨_, rfl, rfl⟩ | ⟨d, hd, _⟩
    · rw [ef]
      simp -implicitDefEqProofs (disch := omega) [wrap_id]
      exact tup_kk
    · obtain ⟨⟨w, hw, _⟩, _⟩ := hd
      exact absurd hw (nw w)
  have hkR : k < (RL.map (·.2)).length := by rw [List.length_map]; exact hk
  have dk := fin.dist k hkR
  rw [ex] at dk
  rcases ha with ⟨nw, _⟩ | ⟨d, hd, rfl, ha⟩
  · obtain ⟨⟨w, hw, _⟩, _⟩ := dk
    exact absurd hw (nw w)
  have ed := dk.uniq hd
  have kn : ((k : Int) < 0) = False := by simp only [eq_iff_iff, iff_false]; omega
  have lF : F.length = RL.length := by have := fin.lF; rw [List.length_map] at this; exact this
  have kF : k < F.length := by omega
  obtain ⟨kFw, eF⟩ := wI_getD kF
  have bd := B2 k hk
  rw [ed] at eF bd
  rw [ef]
  obtain ⟨v, hv⟩ := ansF_ex (wtO b t).S r x
  have wt := r_without_ok g (b := b) (by omega) ht
  have ff := r_FarFrom_ok false f h (wtO_ok hb t) lr lx (rowO_col o1) hv
  have vd := ansF_eq hv d
  simp -implicitDefEqProofs (disch := omega) [wrap_id, kn, bx]
  refine pureW_of rfl wt ?_
  simp -implicitDefEqProofs (disch := omega) [wrap_id]
  refine pureW_of rfl ff ?_
  simp -implicitDefEqProofs (disch := omega) [wrap_id, kF, kFw, eF, cells_ls, cmp2, nthT]
  by_cases hvd : v = d
  · have hS := vd.1 hvd
    have c1 : (v != (d : Int)) = false := by simpa using hvd
    rcases ha with ⟨h2, _⟩ | ha
    · exact absurd hS h2
    simp -implicitDefEqProofs (disch := omega) [wrap_id, c1, bx]
    refine callW_pure rfl (r_back_ok g hb) ?_
    simp -implicitDefEqProofs (disch := omega) [wrap_id]
    refine r_Reached_v b.s.isEmpty h (bkO_ok hb) lx (rowO_col o2) fun H2 fl2 RL2 F2 M2 LL2 L2 fin2 words2 C1 C2 sm2 keep2 => ?_
    rw [bkO_S] at fin2
    have bx2 : nthH H2 0 = some (.cells [I b.P, LLs g b.s]) := (keep2 0 (nthH_lt bx)).trans bx
    have lF2 : F2.length = RL2.length := by have := fin2.lF; rw [List.length_map] at this; exact this
    simp -implicitDefEqProofs (disch := omega) [wrap_id]
    have overOf : ∀ i k2, i < RL.length → k2 < RL2.length → RL2[k2]?.map (·.2) = some (aft b.s[t].2 ((RL.map (·.2)).getD i [])) → F.getD i 0 + 1 + F2.getD k2 0 = d → Over b.S r x d t := fun i k2 hi hk2 e1 e2 => by
      have hiR : i < (RL.map (·.2)).length := by rw [List.length_map]; exact hi
      have hk2R : k2 < (RL2.map (·.2)).length := by rw [List.length_map]; exact hk2
      have d1 := fin.dist i hiR
      have d2 := fin2.dist k2 hk2R
      rw [getD_snd hk2] at d2
      rw [List.getElem?_eq_getElem hk2] at e1
      simp only [Option.map_some, Option.some.injEq] at e1
      rw [e1] at d2
      refine ⟨_, _, _, d1, ?_, e2⟩
      rw [S_getD ht]
      rw [← Dist.rev_iff hb.pmS (by rw [aft_len]; exact (hb.at ht).len) lx]
      exact d2
    have overTo : Over b.S r x d t → ∃ i k2, i < RL.length ∧ k2 < RL2.length ∧ fnd RL2 (aft b.s[t].2 ((RL.map (·.2)).getD i [])) = k2 ∧ F.getD i 0 + 1 + F2.getD k2 0 = d := by
      rintro ⟨y, m, m', a1, a2, a3⟩
      have a1' := a1
      obtain ⟨⟨w1, hw1, _⟩, _⟩ := a1
      obtain ⟨i, hi, ei⟩ := mem_getD (d := []) (fin.all y w1 hw1)
      have hi' : i < RL.length := by rw [List.length_map] at hi; exact hi
      rw [S_getD ht] at a2
      have a4 := (Dist.rev_iff hb.pmS (by rw [aft_len]; exact (hb.at ht).len) lx).2 a2
      rcases fin_fnd fin2 (x := aft b.s[t].2 y) with ⟨nw, _⟩ | ⟨k2, hk2, e2, e3⟩
      · obtain ⟨⟨w2, hw2, _⟩, _⟩ := a4
        exact absurd hw2 (nw w2)
      · have d1 := fin.dist i hi
        rw [ei] at d1
        have d2 := fin2.dist k2 (by rw [List.length_map]; exact hk2)
        rw [e3] at d2
        refine ⟨i, k2, hi', hk2, by rw [ei]; exact e2, ?_⟩
        rw [d1.uniq a1', d2.uniq a4]
        exact a3
    refine loop_eq (fun i : Nat => ⟨[(3, I (t : Int)), (4, .ref 0 0), (10, LLs fl RL), (11, Ls fl (wI F)), (14, I (k : Int)), (15, LLs fl2 RL2), (16, Ls fl2 (wI F2)), (19, I (i : Int))], H2⟩)
      (fun i => i ≤ RL.length ∧ ∀ i' k2, i' < i → k2 < RL2.length → fnd RL2 (aft b.s[t].2 ((RL.map (·.2)).getD i' [])) = (k2 : Int) → F.getD i' 0 + 1 + F2.getD k2 0 ≠ d) (fun i => RL.length - i) 0 ⟨Nat.zero_le _, fun _ _ h => by omega⟩ rfl ?_
    rintro i ⟨g1, g2⟩
    refine hideK' fun K0 hK0 => ?_
    simp -implicitDefEqProofs (disch := omega) [wrap_id]
    refine c_split (fun hc => ?_) (fun hc => ?_)
    · have hi : i < RL.length := by simpa using hc
      have ix : ((i : Int) + 1) = ((i + 1 : Nat) : Int) := by omega
      have gi := getD_snd hi
      have len2 := sm _ (List.getElem_mem hi)
      have pk := hb.at ht
      have af := r_After_ok b.s[t].1 RL[i].1 b.s[t].2 RL[i].2 (by omega) (by rw [len2]; exact pk.len) (fun x hx => by rw [len2]; exact pk.rng x hx)
      have ln : (aft b.s[t].2 RL[i].2).length = n := by rw [aft_len]; exact pk.len
      have h2 := hb.lo
      rw [ne_emp ln (by omega)] at af
      have iF : i < F.length := by omega
      obtain ⟨iFw, eFi⟩ := wI_getD iF
      have bi := B2 i hi
      simp -implicitDefEqProofs (disch := omega) [wrap_id, bx2, ht, hi, cells_lls]
      refine pureW_of rfl af ?_
      simp -implicitDefEqProofs (disch := omega) [wrap_id]
      refine pureW_of rfl (r_find_ok fl2 false RL2 (aft b.s[t].2 RL[i].2) (by omega) (fun p hp => by rw [sm2 p hp]; omega) (by omega)) ?_
      rcases fin_fnd fin2 (x := aft b.s[t].2 RL[i].2) with ⟨nw2, e2⟩ | ⟨k2, hk2, e2, e3⟩
      · rw [e2]
        simp -implicitDefEqProofs (disch := omega) [wrap_id, cmp2, nthT]
        rw [hK0]
        refine next_eq (i + 1) ⟨by omega, fun i' k2 a1 a2 a3 => ?_⟩ (by omega) (by simp only [ix])
        by_cases ei : i' = i
        · subst ei
          rw [gi, e2] at a3
          omega
        · exact g2 i' k2 (by omega) a2 a3
      · have kF2 : k2 < F2.length := by omega
        obtain ⟨kFw2, eF2⟩ := wI_getD kF2
        have bk2 := C2 k2 hk2
        obtain ⟨u, hu⟩ : ∃ u, F.getD i 0 = u := ⟨_, rfl⟩
        obtain ⟨w, hw⟩ : ∃ w, F2.getD k2 0 = w := ⟨_, rfl⟩
        rw [hu] at eFi bi
        rw [hw] at eF2 bk2
        have k2n : ((k2 : Int) < 0) = False := by simp only [eq_iff_iff, iff_false]; omega
        have k2g : (0 ≤ (k2 : Int)) = True := by simp only [eq_iff_iff, iff_true]; omega
        rw [e2]
        by_cases hd2 : u + 1 + w = d
        · have c2 : ((u : Int) + 1 + w == (d : Int)) = true := by simp only [beq_iff_eq]; omega
          simp -implicitDefEqProofs (disch := omega) [wrap_id, cmp2, nthT, k2g, iF, iFw, eFi, kF2, kFw2, eF2, kF, kFw, eF, cells_ls, c2]
          have ov := overOf i k2 hi hk2 (by rw [getD_snd hk2] at e3; rw [List.getElem?_eq_getElem hk2, gi]; simp only [Option.map_some, e3]) (by rw [hu, hw]; exact hd2)
          rcases ha with ⟨_, _, rfl⟩ | ⟨_, hno, _⟩
          · subst hK0
            simp -implicitDefEqProofs (disch := omega) [wrap_id]
            exact tup_kk
          · exact absurd ov hno
        · have c2 : ((u : Int) + 1 + w == (d : Int)) = false := by simp only [beq_eq_false_iff_ne, ne_eq]; omega
          simp -implicitDefEqProofs (disch := omega) [wrap_id, cmp2, nthT, k2g, iF, iFw, eFi, kF2, kFw2, eF2, kF, kFw, eF, cells_ls, c2]
          rw [hK0]
          refine next_eq (i + 1) ⟨by omega, fun i' k3 a1 a2 a3 => ?_⟩ (by omega) (by simp only [ix])
          by_cases ei : i' = i
          · subst ei
            rw [gi, e2] at a3
            have : k2 = k3 := by omega
            subst this
            rw [hu, hw]; exact hd2
          · exact g2 i' k3 (by omega) a2 a3
    · have hi : i = RL.length := by simp at hc; omega
      subst hi
      have nov : ¬ Over b.S r x d t := fun ov => by
        obtain ⟨i, k2, a1, a2, a3, a4⟩ := overTo ov
        exact g2 i k2 a1 a2 a3 a4
      rcases ha with ⟨_, ov, _⟩ | ⟨_, _, rfl⟩
      · exact absurd ov nov
      · subst hK0
        simp -implicitDefEqProofs (disch := omega) [wrap_id]
        exact tup_kk
  · have c1 : (v != (d : Int)) = true := by simpa using hvd
    rcases ha with ⟨_, rfl⟩ | ⟨h2, _⟩ | ⟨h2, _⟩
    · simp -implicitDefEqProofs (disch := omega) [wrap_id, c1]
      exact tup_kk
    · exact absurd (vd.2 h2) hvd
    · exact absurd (vd.2 h2) hvd
end Go.AM

set_option maxRecDepth 100000
namespace Go.AM
open Go.RowKit Go.Proofs
abbrev n_l_OrderBests : Nat := 4
def G_l_OrderBests : AC := (.seq (.rgn [⟨none, [(.box 4 2 (.t 0)), (.mv 8 (.k (B false)))]⟩] [1, 2, 3, 4]) (.seq (.seq (.rgn [⟨none, [(.ld 21 true 2 (.t 4)), (.call 22 13 [(.t 21)]), (.mv 23 (.t 22))]⟩, ⟨(some (23, false)), [(.ld 24 true 2 (.t 4)), (.call 25 28 [(.t 24)])]⟩, ⟨none, [(.pick 26 (.t 23) (.k (B true)) (.t 25)), (.mv 27 (.t 26))]⟩, ⟨(some (27, false)), [(.mv 28 (.t 1)), (.call 29 14 [(.t 28)])]⟩, ⟨none, [(.pick 30 (.t 27) (.k (B true)) (.t 29)), (.mv 31 (.t 30))]⟩, ⟨(some (31, false)), [(.mv 32 (.t 2)), (.call 33 14 [(.t 32)])]⟩, ⟨none, [(.pick 34 (.t 31) (.k (B true)) (.t 33))]⟩] [1, 2, 3, 4, 34]) (.cond (.t 34) (.seq (.rgn [⟨none, [(.call 35 16 []), (.mv 8 (.t 35))]⟩] [8]) .ret) .skip)) (.seq (.rgn [⟨none, [(.ld 37 true 2 (.t 4)), (.mv 38 (.t 1)), (.mv 39 (.t 2)), (.call 40 29 [(.t 37), (.t 38), (.t 39)]), (.mv 36 (.t 40)), (.ext 41 (.t 36) 0), (.ext 42 (.t 36) 1), (.mv 9 (.t 41)), (.mv 10 (.t 42))]⟩] [1, 2, 3, 4, 9, 10]) (.seq (.rgn [⟨none, [(.ld 44 true 2 (.t 4)), (.mv 45 (.t 1)), (.mv 46 (.t 2)), (.call 47 30 [(.t 44), (.t 45), (.t 46)]), (.mv 43 (.t 47)), (.ext 48 (.t 43) 0), (.ext 49 (.t 43) 1), (.mv 11 (.t 48)), (.mv 12 (.t 49))]⟩] [1, 2, 3, 4, 9, 10, 11, 12]) (.seq (.rgn [⟨none, [(.ld 51 true 2 (.t 4)), (.mv 52 (.t 1)), (.mv 53 (.t 2)), (.mv 54 (.t 3)), (.call 55 31 [(.t 51), (.t 52), (.t 53), (.t 54)]), (.mv 50 (.t 55)), (.ext 56 (.t 50) 0), (.ext 57 (.t 50) 1), (.mv 13 (.t 56)), (.mv 14 (.t 57))]⟩] [1, 2, 3, 4, 9, 10, 11, 12, 13, 14]) (.seq (.rgn [⟨none, [(.ld 59 true 2 (.t 4)), (.mv 60 (.t 1)), (.mv 61 (.t 2)), (.mv 62 (.t 3)), (.call 63 32 [(.t 59), (.t 60), (.t 61), (.t 62)]), (.mv 58 (.t 63)), (.ext 64 (.t 58) 0), (.ext 65 (.t 58) 1), (.mv 15 (.t 64)), (.mv 16 (.t 65))]⟩] [1, 2, 4, 9, 10, 11, 12, 13, 14, 15, 16]) (.seq (.rgn [⟨none, [(.ld 67 true 2 (.t 4)), (.mv 68 (.t 1)), (.mv 69 (.t 2)), (.call 70 33 [(.t 67), (.t 68), (.t 69)]), (.mv 66 (.t 70)), (.ext 71 (.t 66) 0), (.ext 72 (.t 66) 1), (.mv 17 (.t 71)), (.mv 18 (.t 72))]⟩] [1, 2, 4, 9, 10, 11, 12, 13, 14, 15, 16, 17, 18]) (.seq (.rgn [⟨none, [(.ld 74 true 2 (.t 4)), (.mv 75 (.t 1)), (.mv 76 (.t 2)), (.call 77 34 [(.t 74), (.t 75), (.t 76)]), (.mv 73 (.t 77)), (.ext 78 (.t 73) 0), (.ext 79 (.t 73) 1), (.mv 19 (.t 78)), (.mv 20 (.t 79))]⟩] [9, 10, 11, 12, 13, 14, 15, 16, 17, 18, 19, 20]) (.seq (.rgn [⟨none, [(.mv 80 (.t 9)), (.mv 81 (.t 11)), (.call 82 25 [(.t 80), (.t 81)]), (.mv 83 (.t 82))]⟩, ⟨(some (83, true)), [(.mv 84 (.t 10)), (.mv 85 (.t 12)), (.bin 86 .eql (.t 84) (.t 85))]⟩, ⟨none, [(.pick 87 (.t 83) (.t 86) (.k (B false))), (.mv 88 (.t 87))]⟩, ⟨(some (88, true)), [(.mv 89 (.t 13)), (.mv 90 (.t 15)), (.bin 91 .eql (.t 89) (.t 90))]⟩, ⟨none, [(.pick 92 (.t 88) (.t 91) (.k (B false))), (.mv 93 (.t 92))]⟩, ⟨(some (93, true)), [(.mv 94 (.t 14)), (.mv 95 (.t 16)), (.bin 96 .eql (.t 94) (.t 95))]⟩, ⟨none, [(.pick 97 (.t 93) (.t 96) (.k (B false))), (.mv 98 (.t 97))]⟩, ⟨(some (98, true)), [(.mv 99 (.t 17)), (.mv 100 (.t 19)), (.bin 101 .eql (.t 99) (.t 100))]⟩, ⟨none, [(.pick 102 (.t 98) (.t 101) (.k (B false))), (.mv 103 (.t 102))]⟩, ⟨(some (103, true)), [(.mv 104 (.t 18)), (.mv 105 (.t 20)), (.bin 106 .eql (.t 104) (.t 105))]⟩, ⟨none, [(.pick 107 (.t 103) (.t 106) (.k (B false))), (.mv 108 (.t 107))]⟩, ⟨(some (108, true)), [(.call 109 16 [])]⟩, ⟨none, [(.pick 110 (.t 108) (.t 109) (.k (B false))), (.mv 8 (.t 110))]⟩] [8]) .ret)))))))))
theorem func_l_OrderBests : Tryz.prog.funcs[n_l_OrderBests]? = some Tryz.f4 := Tryz.func4
theorem form_l_OrderBests : formOf Tryz.prog Tryz.f4 [8] = some G_l_OrderBests := by kernel_rfl
theorem res_l_OrderBests : resTmps Tryz.f4.results.toList = some [8] := by kernel_rfl
abbrev n_l_great : Nat := 13
def G_l_great : AC := (.seq (.rgn [⟨none, [(.box 1 2 (.t 0)), (.mv 2 (.k (B false)))]⟩] [1]) (.seq (.seq (.rgn [⟨none, [(.fa 4 (.t 1) 1), (.ld 5 false 1 (.t 4)), (.len 6 (.t 5)), (.bin 7 .gtr (.t 6) (.k (I 10)))]⟩] [1, 7]) (.cond (.t 7) (.seq (.rgn [⟨none, [(.mv 2 (.k (B true)))]⟩] [2]) .ret) .skip)) (.seq (.seq (.rgn [⟨none, [(.mv 3 (.k (I 0)))]⟩] [1, 3]) (.block 0 (.loop (.seq (.seq (.rgn [⟨none, [(.mv 8 (.t 3)), (.fa 9 (.t 1) 1), (.ld 10 false 1 (.t 9)), (.len 11 (.t 10)), (.bin 12 .lss (.t 8) (.t 11))]⟩] [1, 3, 12]) (.cond (.t 12) .skip (.exit 0))) (.seq (.block 1 (.seq (.rgn [⟨none, [(.fa 15 (.t 1) 1), (.ld 16 false 1 (.t 15)), (.mv 17 (.t 3)), (.ia 18 1 (.t 16) (.t 17)), (.ld 19 false 1 (.t 18)), (.len 20 (.t 19)), (.bin 21 .gtr (.t 20) (.k (I 10)))]⟩] [1, 3, 21]) (.cond (.t 21) (.seq (.rgn [⟨none, [(.mv 2 (.k (B true)))]⟩] [2]) .ret) .skip))) (.rgn [⟨none, [(.mv 13 (.t 3)), (.bin 14 .add (.t 13) (.k (I 1))), (.mv 3 (.t 14))]⟩] [1, 3])))))) (.seq (.rgn [⟨none, [(.mv 2 (.k (B false)))]⟩] [2]) .ret))))
theorem func_l_great : Tryz.prog.funcs[n_l_great]? = some Tryz.f13 := Tryz.func13
theorem form_l_great : formOf Tryz.prog Tryz.f13 [2] = some G_l_great := by kernel_rfl
theorem res_l_great : resTmps Tryz.f13.results.toList = some [2] := by kernel_rfl
abbrev n_l_long : Nat := 14
def G_l_long : AC := (.seq (.rgn [⟨none, [(.mv 2 (.k (B false)))]⟩] [0]) (.seq (.rgn [⟨none, [(.mv 3 (.t 0)), (.len 4 (.t 3)), (.bin 5 .gtr (.t 4) (.k (I 10))), (.mv 2 (.t 5))]⟩] [2]) .ret))
theorem func_l_long : Tryz.prog.funcs[n_l_long]? = some Tryz.f14 := Tryz.func14
theorem form_l_long : formOf Tryz.prog Tryz.f14 [2] = some G_l_long := by kernel_rfl
theorem res_l_long : resTmps Tryz.f14.results.toList = some [2] := by kernel_rfl
abbrev n_l_wide : Nat := 28
def G_l_wide : AC := (.seq (.rgn [⟨none, [(.box 1 2 (.t 0)), (.mv 2 (.k (B false)))]⟩] [1]) (.seq (.rgn [⟨none, [(.ld 3 true 2 (.t 1)), (.call 4 24 [(.t 3)]), (.bin 5 .eql (.t 4) (.k (I 0))), (.mv 6 (.t 5))]⟩, ⟨(some (6, true)), [(.fa 7 (.t 1) 0), (.ld 8 false 1 (.t 7)), (.bin 9 .gtr (.t 8) (.k (I 5)))]⟩, ⟨none, [(.pick 10 (.t 6) (.t 9) (.k (B false))), (.mv 2 (.t 10))]⟩] [2]) .ret))
theorem func_l_wide : Tryz.prog.funcs[n_l_wide]? = some Tryz.f28 := Tryz.func28
theorem form_l_wide : formOf Tryz.prog Tryz.f28 [2] = some G_l_wide := by kernel_rfl
theorem res_l_wide : resTmps Tryz.f28.results.toList = some [2] := by kernel_rfl
end Go.AM

set_option linter.unusedSimpArgs false
set_option linter.unusedVariables false
namespace Go.AM
open Go.RowKit Go.Proofs
def grtO (b : OB) : Bool := decide (10 < b.s.length) || b.s.any fun p => decide (10 < p.2.length)
theorem l_great_ok (g : Bool) (b : OB) (hb : b.s.length ≤ 9223372036854775807) (hz : ∀ p ∈ b.s, p.2.length ≤ 9223372036854775807) : PureOK Tryz.prog n_l_great [On g b] (B (grtO b)) := by
  refine pure_of (walk func_l_great form_l_great res_l_great (by show 1 ≤ _; decide) ?_)
  simp -implicitDefEqProofs (disch := omega) [G_l_great, wrap_id]
  by_cases h : 10 < b.s.length
  · have h' : (10 : Int) < b.s.length := by omega
    have e : grtO b = true := by simp [grtO, h]
    rw [e]
    simp -implicitDefEqProofs (disch := omega) [wrap_id, h']
  · have h' : ¬ (10 : Int) < b.s.length := by omega
    have e0 : grtO b = b.s.any fun p => decide (10 < p.2.length) := by simp [grtO, h]
    generalize grtO b = E at e0 ⊢
    simp -implicitDefEqProofs (disch := omega) [wrap_id, h']
    refine loop_eq (fun i : Nat => ⟨[(1, .ref 0 0), (3, I (i : Int))], [.cells [I b.P, LLs g b.s]]⟩) (fun i => i ≤ b.s.length ∧ ∀ k (hk : k < b.s.length), k < i → ¬ 10 < b.s[k].2.length) (fun i => b.s.length - i) 0 ⟨by omega, fun k hk h => by omega⟩ rfl ?_
    rintro i ⟨hi, he⟩
    refine hideK' fun K0 hK0 => ?_
    simp -implicitDefEqProofs (disch := omega) [wrap_id]
    refine c_split (fun hc => ?_) (fun hc => ?_)
    · have h1 : i < b.s.length := by simp at hc; omega
      have ix : ((i : Int) + 1) = ((i + 1 : Nat) : Int) := by omega
      have z1 := hz _ (List.getElem_mem h1)
      by_cases e : 10 < b.s[i].2.length
      · have e' : (10 : Int) < b.s[i].2.length := by omega
        have : (b.s.any fun p => decide (10 < p.2.length)) = true := List.any_eq_true.2 ⟨_, List.getElem_mem h1, by simpa using e⟩
        rw [this] at e0
        subst e0
        subst hK0
        simp -implicitDefEqProofs (disch := omega) [wrap_id, cells_lls, h1, e']
      · have e' : ¬ (10 : Int) < b.s[i].2.length := by omega
        simp -implicitDefEqProofs (disch := omega) [wrap_id, cells_lls, h1, e']
        rw [hK0]
        refine next_eq (i + 1) ⟨by omega, fun k hk h2 => ?_⟩ (by omega) (by simp only [ix])
        by_cases ek : k = i
        · subst ek; exact e
        · exact he k hk (by omega)
    · have h1 : i = b.s.length := by simp at hc; omega
      have : (b.s.any fun p => decide (10 < p.2.length)) = false := by
        rw [List.any_eq_false]
        intro p hp
        obtain ⟨k, hk, rfl⟩ := List.getElem_of_mem hp
        simpa using he k hk (by omega)
      rw [this] at e0
      subst e0
      subst hK0
      simp -implicitDefEqProofs (disch := omega) [wrap_id]
theorem grt_sz {b : OB} (h : grtO b = false) : Sz12 b ∧ SzO b := by
  unfold grtO at h
  rw [Bool.or_eq_false_iff] at h
  have h1 : ¬ 10 < b.s.length := by simpa using h.1
  have h2 : ∀ p ∈ b.s, ¬ 10 < p.2.length := fun p hp => by simpa using List.any_eq_false.1 h.2 p hp
  exact ⟨⟨by omega, fun p hp => by have := h2 p hp; omega⟩, ⟨by omega, fun p hp => by have := h2 p hp; omega⟩⟩
theorem l_long_ok (f : Bool) (l : List Int) (hl : l.length ≤ 9223372036854775807) : PureOK Tryz.prog n_l_long [Ls f l] (B (decide (10 < l.length))) := by
  refine pure_of (walk func_l_long form_l_long res_l_long (by show 1 ≤ _; decide) ?_)
  by_cases h : 10 < l.length
  · have h' : (10 : Int) < l.length := by omega
    simp -implicitDefEqProofs (disch := omega) [G_l_long, wrap_id, h, h']
  · have h' : ¬ (10 : Int) < l.length := by omega
    simp -implicitDefEqProofs (disch := omega) [G_l_long, wrap_id, h, h']
def widO (b : OB) : Bool := decide (chkO b = 0 ∧ 5 < b.P)
theorem l_wide_ok (g : Bool) (b : OB) (hb : b.s.length ≤ 1000000) (hz : ∀ p ∈ b.s, p.2.length ≤ 1000000) : PureOK Tryz.prog n_l_wide [On g b] (B (widO b)) := by
  refine pure_of (walk func_l_wide form_l_wide res_l_wide (by show 1 ≤ _; decide) ?_)
  simp -implicitDefEqProofs (disch := omega) [G_l_wide, wrap_id]
  refine callW_pure rfl (r_CheckBench_ok g b hb hz) ?_
  by_cases h : chkO b = 0
  · by_cases h2 : 5 < b.P
    · simp -implicitDefEqProofs (disch := omega) [wrap_id, h, h2, widO]
    · simp -implicitDefEqProofs (disch := omega) [wrap_id, h, h2, widO]
  · have h' : (chkO b == 0) = false := by simpa using h
    simp -implicitDefEqProofs (disch := omega) [wrap_id, h', h, widO]
end Go.AM

set_option linter.unusedSimpArgs false
set_option linter.unusedVariables false
namespace Go.AM
open Go.RowKit Go.Proofs
theorem least_ex {d : Nat} : ∀ {L : List (List Nat)}, L ≠ [] → (∀ w ∈ L, w.length = d) → ∃ w ∈ L, ∀ m ∈ L, frst (wI m) (wI w) = false
  | [a], _, _ => ⟨a, by simp, fun m hm => by rw [List.mem_singleton] at hm; subst hm; exact frst_self _⟩
  | a :: b :: L, _, hl => by
    obtain ⟨w, hw, hm⟩ := least_ex (L := b :: L) (by simp) (fun w hw => hl w (by simp [List.mem_cons.1 hw]))
    have la := hl a (by simp)
    have lw := hl w (List.mem_cons_of_mem _ hw)
    cases hf : frst (wI a) (wI w) with
    | true =>
      refine ⟨a, by simp, fun m hm2 => ?_⟩
      rcases List.mem_cons.1 hm2 with rfl | hm3
      · exact frst_self _
      · have lm := hl m hm2
        exact frst_le_trans (a := wI a) (b := wI w) (c := wI m) (by rw [wI_len, wI_len]; omega) (by rw [wI_len, wI_len]; omega) (frst_asymm hf) (hm m hm3)
    | false =>
      refine ⟨w, List.mem_cons_of_mem _ hw, fun m hm2 => ?_⟩
      rcases List.mem_cons.1 hm2 with rfl | hm3
      · exact hf
      · exact hm m hm3
theorem best_ex {S : List (List Int)} {r x : List Int} {d : Nat} (h : Dist S r x d) : ∃ w, IsBest S d r x w := by
  obtain ⟨⟨w0, hw, hl⟩, _⟩ := h
  have hm := mem_wordsL.2 ⟨hw, hl⟩
  obtain ⟨w, h1, h2⟩ := least_ex (d := d) (L := wordsL S d r x) (fun e => by rw [e] at hm; cases hm) (fun w hw => (mem_wordsL.1 hw).2)
  exact ⟨w, best_words h1 h2⟩
theorem dist_ex {S : List (List Int)} {r x : List Int} (h : ¬ NoW S r x) : ∃ d, Dist S r x d := by
  obtain ⟨w, hw⟩ := not_noW.1 h
  obtain ⟨d, hd, _⟩ := Dist.of hw
  exact ⟨d, hd⟩
theorem dist_le {b : OB} {n : Nat} (hb : Okb b n) {r x : List Int} (lr : r.length = n) (hc : ∀ y ∈ r, 0 ≤ y ∧ y ≤ 5) {d : Nat} (h : Dist b.S r x d) : d < 46656 := far_lt hb.pmS lr hb.hi hc h
theorem ansB_ex (b : OB) (r x : List Int) : ∃ l e, AnsB b r x l e ∧ l.length ≤ 46656 := by
  by_cases h0 : rwsE b r x = 0
  · obtain ⟨n, hb, lr, lx, o1, o2⟩ := rws_ok h0
    by_cases h1 : NoW b.S r x
    · exact ⟨[], 13, .inr ⟨h0, .inl ⟨h1, rfl, rfl⟩⟩, by simp⟩
    · obtain ⟨d, hd⟩ := dist_ex h1
      obtain ⟨w, hw⟩ := best_ex hd
      have := dist_le hb lr (rowO_col o1) hd
      exact ⟨wI w, 0, .inr ⟨h0, .inr ⟨d, w, hd, hw, rfl, rfl⟩⟩, by rw [wI_len, hw.2.1]; omega⟩
  · exact ⟨[], rwsE b r x, .inl ⟨h0, rfl, rfl⟩, by simp⟩
theorem ansC_ex (b : OB) (r x : List Int) : ∃ v e, AnsC b r x v e := by
  by_cases h0 : rwsE b r x = 0
  · by_cases h1 : NoW b.S r x
    · exact ⟨0, 13, .inr ⟨h0, .inl ⟨h1, rfl, rfl⟩⟩⟩
    · obtain ⟨d, hd⟩ := dist_ex h1
      by_cases h2 : mostN ≤ cntW b.S d r x
      · exact ⟨0, 4, .inr ⟨h0, .inr ⟨d, hd, .inl ⟨h2, rfl, rfl⟩⟩⟩⟩
      · exact ⟨_, 0, .inr ⟨h0, .inr ⟨d, hd, .inr ⟨by omega, rfl, rfl⟩⟩⟩⟩
  · exact ⟨0, rwsE b r x, .inl ⟨h0, rfl, rfl⟩⟩
theorem ansK_ex (b : OB) (r x : List Int) (s : Int) : ∃ k e, AnsK b r x s k e := by
  by_cases h0 : rwsE b r x = 0
  · by_cases h2 : 0 ≤ s ∧ s < b.s.length
    · by_cases h1 : NoW b.S r x
      · exact ⟨0, 13, .inr ⟨h0, .inr ⟨h2, .inl ⟨h1, rfl, rfl⟩⟩⟩⟩
      · obtain ⟨d, hd⟩ := dist_ex h1
        by_cases h3 : Dist (wtO b s.toNat).S r x d
        · by_cases h4 : Over b.S r x d s.toNat
          · exact ⟨1, 0, .inr ⟨h0, .inr ⟨h2, .inr ⟨d, hd, rfl, .inr (.inl ⟨h3, h4, rfl⟩)⟩⟩⟩⟩
          · exact ⟨0, 0, .inr ⟨h0, .inr ⟨h2, .inr ⟨d, hd, rfl, .inr (.inr ⟨h3, h4, rfl⟩)⟩⟩⟩⟩
        · exact ⟨2, 0, .inr ⟨h0, .inr ⟨h2, .inr ⟨d, hd, rfl, .inl ⟨h3, rfl⟩⟩⟩⟩⟩
    · exact ⟨0, 3, .inr ⟨h0, .inl ⟨h2, rfl, rfl⟩⟩⟩
  · exact ⟨0, rwsE b r x, .inl ⟨h0, rfl, rfl⟩⟩
end Go.AM

set_option linter.unusedSimpArgs false
set_option linter.unusedVariables false
namespace Go.AM
open Go.RowKit Go.Proofs
set_option maxHeartbeats 4000000 in
theorem lawOrderBests' (g f h : Bool) (b : OB) (r x : List Int) (s : Int) (hb : OBK b) (hr : r.length ≤ 9223372036854775807) (hx : x.length ≤ 9223372036854775807) :
    PureOK Tryz.prog n_l_OrderBests [On g b, Ls f r, Ls h x, I s] (B true) := by
  refine pure_of (walk func_l_OrderBests form_l_OrderBests res_l_OrderBests (by show 4 ≤ _; decide) ?_)
  simp -implicitDefEqProofs (disch := omega) [G_l_OrderBests, wrap_id]
  refine callW_pure rfl (l_great_ok g b hb.many hb.len) ?_
  cases hg : grtO b with
  | true =>
    simp -implicitDefEqProofs (disch := omega) [wrap_id]
    exact callW_pure rfl works_ok (by simp)
  | false =>
    obtain ⟨z1, z2⟩ := grt_sz hg
    simp -implicitDefEqProofs (disch := omega) [wrap_id]
    refine callW_pure rfl (l_wide_ok g b z2.many z2.len) ?_
    cases hw : widO b with
    | true =>
      simp -implicitDefEqProofs (disch := omega) [wrap_id]
      exact callW_pure rfl works_ok (by simp)
    | false =>
    simp -implicitDefEqProofs (disch := omega) [wrap_id]
    refine callW_pure rfl (l_long_ok f r hr) ?_
    by_cases a1 : 10 < r.length
    · rw [decide_eq_true a1]
      simp -implicitDefEqProofs (disch := omega) [wrap_id]
      exact callW_pure rfl works_ok (by simp)
    rw [decide_eq_false a1]
    simp -implicitDefEqProofs (disch := omega) [wrap_id]
    refine callW_pure rfl (l_long_ok h x hx) ?_
    by_cases a2 : 10 < x.length
    · rw [decide_eq_true a2]
      simp -implicitDefEqProofs (disch := omega) [wrap_id]
      exact callW_pure rfl works_ok (by simp)
    rw [decide_eq_false a2]
    simp -implicitDefEqProofs (disch := omega) [wrap_id]
    obtain ⟨l, e, hB, hl⟩ := ansB_ex b r x
    obtain ⟨v, e2, hC⟩ := ansC_ex b r x
    obtain ⟨kd, e3, hK⟩ := ansK_ex b r x s
    refine callW_pure rfl (o_Best_ok g f h b z1 r x (by omega) (by omega) hB) ?_
    simp -implicitDefEqProofs (disch := omega) [wrap_id]
    refine callW_pure rfl (r_Best_ok g f h b z2 r x (by omega) (by omega) hB) ?_
    simp -implicitDefEqProofs (disch := omega) [wrap_id]
    refine callW_pure rfl (o_Kind_ok g f h b z1 r x (by omega) (by omega) s hK) ?_
    simp -implicitDefEqProofs (disch := omega) [wrap_id]
    refine callW_pure rfl (r_Kind_ok g f h b z2 r x (by omega) (by omega) s hK) ?_
    simp -implicitDefEqProofs (disch := omega) [wrap_id]
    refine callW_pure rfl (o_Count_ok g f h b z1 r x (by omega) (by omega) hC) ?_
    simp -implicitDefEqProofs (disch := omega) [wrap_id]
    refine callW_pure rfl (r_Count_ok g f h b z2 r x (by omega) (by omega) hC) ?_
    simp -implicitDefEqProofs (disch := omega) [wrap_id]
    refine callW_pure rfl (l_ints_ok false false l l (by omega) (by omega)) ?_
    simp -implicitDefEqProofs (disch := omega) [wrap_id]
    exact callW_pure rfl works_ok (by simp)
theorem lawOrderBests (b : OB) (r x : List Int) (s : Int) (hb : OBK b) (hr : LOK r) (hx : LOK x) (hs : In64 s) : PureOK Tryz.prog n_l_OrderBests [On false b, Ls false r, Ls false x, I s] (B true) := lawOrderBests' _ _ _ b r x s hb hr.1 hx.1
end Go.AM
