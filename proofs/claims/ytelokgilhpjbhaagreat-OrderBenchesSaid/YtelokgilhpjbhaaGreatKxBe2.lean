/-
  KxBe2: texts joined: FmOF Co1 Co2 Co3 Co4 Co5 Co6 Co7 Co8 FmOL Lo1 Lo4. Own work.
-/
import Derived.Test.YtelokgilhpjbhaaGreatKxBe1
import Derived.Test.YtelokgilhpjbhaaGreatProg

set_option maxRecDepth 100000
namespace Go.AM
open Go.RowKit Go.Proofs
abbrev n_r_Draw : Nat := 18
def G_r_Draw : AC := (.seq (.rgn [⟨none, [(.box 3 2 (.t 0)), (.mv 6 (.k (.sl true 0 []))), (.mv 7 (.k (I 0)))]⟩] [1, 2, 3]) (.seq (.seq (.rgn [⟨none, [(.ld 8 true 2 (.t 3)), (.call 9 24 [(.t 8)]), (.bin 10 .neq (.t 9) (.k (I 0)))]⟩] [1, 2, 3, 10]) (.cond (.t 10) (.seq (.rgn [⟨none, [(.ld 11 true 2 (.t 3)), (.call 12 24 [(.t 11)]), (.mv 6 (.k (.sl true 0 []))), (.mv 7 (.t 12))]⟩] [6, 7]) .ret) .skip)) (.seq (.seq (.rgn [⟨none, [(.ld 13 true 2 (.t 3)), (.mv 14 (.t 1)), (.call 15 67 [(.t 13), (.t 14)]), (.un 16 .not (.t 15))]⟩] [1, 2, 3, 16]) (.cond (.t 16) (.seq (.rgn [⟨none, [(.mv 6 (.k (.sl true 0 []))), (.mv 7 (.k (I 2)))]⟩] [6, 7]) .ret) .skip)) (.seq (.seq (.rgn [⟨none, [(.ld 17 true 2 (.t 3)), (.mv 18 (.t 2)), (.call 19 53 [(.t 17), (.t 18)]), (.bin 20 .neq (.t 19) (.k (I 0)))]⟩] [1, 2, 3, 20]) (.cond (.t 20) (.seq (.rgn [⟨none, [(.ld 21 true 2 (.t 3)), (.mv 22 (.t 2)), (.call 23 53 [(.t 21), (.t 22)]), (.mv 6 (.k (.sl true 0 []))), (.mv 7 (.t 23))]⟩] [6, 7]) .ret) .skip)) (.seq (.rgn [⟨none, [(.ld 24 true 2 (.t 3)), (.mv 25 (.t 1)), (.mv 26 (.t 2)), (.call 27 51 [(.t 24), (.t 25), (.t 26)]), (.mv 6 (.t 27)), (.mv 7 (.k (I 0)))]⟩] [6, 7]) .ret)))))
theorem func_r_Draw : Tryz.prog.funcs[n_r_Draw]? = some Tryz.f18 := Tryz.func18
theorem form_r_Draw : formOf Tryz.prog Tryz.f18 [6, 7] = some G_r_Draw := by kernel_rfl
theorem res_r_Draw : resTmps Tryz.f18.results.toList = some [6, 7] := by kernel_rfl
abbrev n_r_Joint : Nat := 20
def G_r_Joint : AC := (.seq (.rgn [⟨none, [(.box 2 2 (.t 0)), (.mv 4 (.k (.sl true 0 []))), (.mv 5 (.k (I 0)))]⟩] [1, 2]) (.seq (.seq (.rgn [⟨none, [(.ld 6 true 2 (.t 2)), (.call 7 24 [(.t 6)]), (.bin 8 .neq (.t 7) (.k (I 0)))]⟩] [1, 2, 8]) (.cond (.t 8) (.seq (.rgn [⟨none, [(.ld 9 true 2 (.t 2)), (.call 10 24 [(.t 9)]), (.mv 4 (.k (.sl true 0 []))), (.mv 5 (.t 10))]⟩] [4, 5]) .ret) .skip)) (.seq (.seq (.rgn [⟨none, [(.ld 11 true 2 (.t 2)), (.mv 12 (.t 1)), (.call 13 53 [(.t 11), (.t 12)]), (.bin 14 .neq (.t 13) (.k (I 0)))]⟩] [1, 2, 14]) (.cond (.t 14) (.seq (.rgn [⟨none, [(.ld 15 true 2 (.t 2)), (.mv 16 (.t 1)), (.call 17 53 [(.t 15), (.t 16)]), (.mv 4 (.k (.sl true 0 []))), (.mv 5 (.t 17))]⟩] [4, 5]) .ret) .skip)) (.seq (.drw [⟨none, [(.ld 18 true 2 (.t 2)), (.ld 19 true 2 (.t 2)), (.call 20 54 [(.t 19)]), (.mv 21 (.t 1)), (.call 22 51 [(.t 18), (.t 20), (.t 21)]), (.mv 4 (.t 22)), (.mv 5 (.k (I 0)))]⟩] [(0, 1), (0, 2)] [4, 5]) .ret))))
theorem func_r_Joint : Tryz.prog.funcs[n_r_Joint]? = some Tryz.f20 := Tryz.func20
theorem form_r_Joint : formOf Tryz.prog Tryz.f20 [4, 5] = some G_r_Joint := by kernel_rfl
theorem res_r_Joint : resTmps Tryz.f20.results.toList = some [4, 5] := by kernel_rfl
abbrev n_r_Round : Nat := 22
def G_r_Round : AC := (.seq (.rgn [⟨none, [(.box 2 2 (.t 0)), (.mv 4 (.k (I 0))), (.mv 5 (.k (I 0)))]⟩] [1, 2]) (.seq (.rgn [⟨none, [(.ld 11 true 2 (.t 2)), (.mv 12 (.t 1)), (.call 13 20 [(.t 11), (.t 12)]), (.mv 10 (.t 13)), (.ext 14 (.t 10) 0), (.ext 15 (.t 10) 1), (.mv 6 (.t 14)), (.mv 7 (.t 15))]⟩] [2, 6, 7]) (.seq (.seq (.rgn [⟨none, [(.mv 16 (.t 7)), (.bin 17 .neq (.t 16) (.k (I 0)))]⟩] [2, 6, 7, 17]) (.cond (.t 17) (.seq (.rgn [⟨none, [(.mv 18 (.t 7)), (.mv 4 (.k (I 0))), (.mv 5 (.t 18))]⟩] [4, 5]) .ret) .skip)) (.seq (.rgn [⟨none, [(.mv 19 (.t 6)), (.ld 20 true 2 (.t 2)), (.call 21 54 [(.t 20)]), (.call 22 55 [(.t 19), (.t 21)]), (.mv 8 (.t 22))]⟩] [2, 6, 8]) (.seq (.rgn [⟨none, [(.mv 9 (.k (I 1)))]⟩] [2, 6, 8, 9]) (.seq (.block 0 (.loop (.seq (.seq (.rgn [⟨none, [(.mv 23 (.t 8)), (.ld 24 true 2 (.t 2)), (.call 25 54 [(.t 24)]), (.call 26 70 [(.t 23), (.t 25)]), (.un 27 .not (.t 26))]⟩] [2, 6, 8, 9, 27]) (.cond (.t 27) .skip (.exit 0))) (.block 1 (.seq (.rgn [⟨none, [(.mv 28 (.t 6)), (.mv 29 (.t 8)), (.call 30 55 [(.t 28), (.t 29)]), (.mv 8 (.t 30))]⟩] [2, 6, 8, 9]) (.rgn [⟨none, [(.mv 31 (.t 9)), (.bin 32 .add (.t 31) (.k (I 1))), (.mv 9 (.t 32))]⟩] [2, 6, 8, 9])))))) (.seq (.rgn [⟨none, [(.mv 33 (.t 9)), (.mv 4 (.t 33)), (.mv 5 (.k (I 0)))]⟩] [4, 5]) .ret)))))))
theorem func_r_Round : Tryz.prog.funcs[n_r_Round]? = some Tryz.f22 := Tryz.func22
theorem form_r_Round : formOf Tryz.prog Tryz.f22 [4, 5] = some G_r_Round := by kernel_rfl
theorem res_r_Round : resTmps Tryz.f22.results.toList = some [4, 5] := by kernel_rfl
abbrev n_r_CheckBench : Nat := 24
def G_r_CheckBench : AC := (.seq (.rgn [⟨none, [(.box 1 2 (.t 0)), (.mv 2 (.k (I 0)))]⟩] [1]) (.seq (.seq (.rgn [⟨none, [(.fa 4 (.t 1) 0), (.ld 5 false 1 (.t 4)), (.bin 6 .lss (.t 5) (.k (I 2))), (.mv 7 (.t 6))]⟩, ⟨(some (7, false)), [(.fa 8 (.t 1) 0), (.ld 9 false 1 (.t 8)), (.bin 10 .gtr (.t 9) (.k (I 6)))]⟩, ⟨none, [(.pick 11 (.t 7) (.k (B true)) (.t 10))]⟩] [1, 11]) (.cond (.t 11) (.seq (.rgn [⟨none, [(.mv 2 (.k (I 2)))]⟩] [2]) .ret) .skip)) (.seq (.seq (.rgn [⟨none, [(.fa 12 (.t 1) 1), (.ld 13 false 1 (.t 12)), (.len 14 (.t 13)), (.bin 15 .gtr (.t 14) (.k (I 6)))]⟩] [1, 15]) (.cond (.t 15) (.seq (.rgn [⟨none, [(.mv 2 (.k (I 6)))]⟩] [2]) .ret) .skip)) (.seq (.seq (.rgn [⟨none, [(.mv 3 (.k (I 0)))]⟩] [1, 3]) (.block 0 (.loop (.seq (.seq (.rgn [⟨none, [(.mv 16 (.t 3)), (.fa 17 (.t 1) 1), (.ld 18 false 1 (.t 17)), (.len 19 (.t 18)), (.bin 20 .lss (.t 16) (.t 19))]⟩] [1, 3, 20]) (.cond (.t 20) .skip (.exit 0))) (.seq (.block 1 (.seq (.drw [⟨none, [(.fa 23 (.t 1) 1), (.ld 24 false 1 (.t 23)), (.mv 25 (.t 3)), (.ia 26 1 (.t 24) (.t 25)), (.ld 27 false 1 (.t 26)), (.fa 28 (.t 1) 0), (.ld 29 false 1 (.t 28)), (.call 30 77 [(.t 27), (.t 29)]), (.un 31 .not (.t 30))]⟩] [(1, 6), (4, 6)] [1, 3, 31]) (.cond (.t 31) (.seq (.rgn [⟨none, [(.mv 2 (.k (I 15)))]⟩] [2]) .ret) .skip))) (.rgn [⟨none, [(.mv 21 (.t 3)), (.bin 22 .add (.t 21) (.k (I 1))), (.mv 3 (.t 22))]⟩] [1, 3])))))) (.seq (.rgn [⟨none, [(.mv 2 (.k (I 0)))]⟩] [2]) .ret)))))
theorem func_r_CheckBench : Tryz.prog.funcs[n_r_CheckBench]? = some Tryz.f24 := Tryz.func24
theorem form_r_CheckBench : formOf Tryz.prog Tryz.f24 [2] = some G_r_CheckBench := by kernel_rfl
theorem res_r_CheckBench : resTmps Tryz.f24.results.toList = some [2] := by kernel_rfl
abbrev n_r_Same : Nat := 27
def G_r_Same : AC := (.seq (.rgn [⟨none, [(.box 3 2 (.t 0)), (.mv 6 (.k (I 0)))]⟩] [1, 2, 3]) (.seq (.seq (.rgn [⟨none, [(.ld 7 true 2 (.t 3)), (.call 8 24 [(.t 7)]), (.bin 9 .neq (.t 8) (.k (I 0)))]⟩] [1, 2, 3, 9]) (.cond (.t 9) (.seq (.rgn [⟨none, [(.ld 10 true 2 (.t 3)), (.call 11 24 [(.t 10)]), (.mv 6 (.t 11))]⟩] [6]) .ret) .skip)) (.seq (.seq (.rgn [⟨none, [(.mv 12 (.t 1)), (.len 13 (.t 12)), (.bin 14 .gtr (.t 13) (.k (I 720))), (.mv 15 (.t 14))]⟩, ⟨(some (15, false)), [(.mv 16 (.t 2)), (.len 17 (.t 16)), (.bin 18 .gtr (.t 17) (.k (I 720)))]⟩, ⟨none, [(.pick 19 (.t 15) (.k (B true)) (.t 18))]⟩] [1, 2, 3, 19]) (.cond (.t 19) (.seq (.rgn [⟨none, [(.mv 6 (.k (I 6)))]⟩] [6]) .ret) .skip)) (.seq (.seq (.rgn [⟨none, [(.ld 20 true 2 (.t 3)), (.mv 21 (.t 1)), (.call 22 53 [(.t 20), (.t 21)]), (.bin 23 .neq (.t 22) (.k (I 0))), (.mv 24 (.t 23))]⟩, ⟨(some (24, false)), [(.ld 25 true 2 (.t 3)), (.mv 26 (.t 2)), (.call 27 53 [(.t 25), (.t 26)]), (.bin 28 .neq (.t 27) (.k (I 0)))]⟩, ⟨none, [(.pick 29 (.t 24) (.k (B true)) (.t 28))]⟩] [1, 2, 3, 29]) (.cond (.t 29) (.seq (.rgn [⟨none, [(.mv 6 (.k (I 3)))]⟩] [6]) .ret) .skip)) (.seq (.seq (.drw [⟨none, [(.ld 30 true 2 (.t 3)), (.ld 31 true 2 (.t 3)), (.call 32 54 [(.t 31)]), (.mv 33 (.t 1)), (.call 34 51 [(.t 30), (.t 32), (.t 33)]), (.ld 35 true 2 (.t 3)), (.ld 36 true 2 (.t 3)), (.call 37 54 [(.t 36)]), (.mv 38 (.t 2)), (.call 39 51 [(.t 35), (.t 37), (.t 38)]), (.call 40 70 [(.t 34), (.t 39)]), (.un 41 .not (.t 40))]⟩] [(0, 1), (0, 2), (0, 5), (1, 5), (2, 5), (4, 5), (0, 6), (1, 6), (2, 6), (4, 6), (5, 6), (5, 7)] [41]) (.cond (.t 41) (.seq (.rgn [⟨none, [(.mv 6 (.k (I 18)))]⟩] [6]) .ret) .skip)) (.seq (.rgn [⟨none, [(.mv 6 (.k (I 0)))]⟩] [6]) .ret))))))
theorem func_r_Same : Tryz.prog.funcs[n_r_Same]? = some Tryz.f27 := Tryz.func27
theorem form_r_Same : formOf Tryz.prog Tryz.f27 [6] = some G_r_Same := by kernel_rfl
theorem res_r_Same : resTmps Tryz.f27.results.toList = some [6] := by kernel_rfl
abbrev n_r_All : Nat := 51
def G_r_All : AC := (.seq (.rgn [⟨none, [(.box 3 2 (.t 0)), (.mv 6 (.k (.sl true 0 [])))]⟩] [1, 2, 3]) (.seq (.rgn [⟨none, [(.bsl 9 0 1 [(I 0)] []), (.mv 10 (.t 1)), (.app 11 1 8 (.t 9) (.t 10)), (.mv 7 (.t 11))]⟩] [2, 3, 7]) (.seq (.seq (.rgn [⟨none, [(.mv 8 (.k (I 0)))]⟩] [2, 3, 7, 8]) (.block 0 (.loop (.seq (.seq (.rgn [⟨none, [(.mv 12 (.t 8)), (.mv 13 (.t 2)), (.len 14 (.t 13)), (.bin 15 .lss (.t 12) (.t 14))]⟩] [2, 3, 7, 8, 15]) (.cond (.t 15) .skip (.exit 0))) (.seq (.block 1 (.drw [⟨none, [(.fa 18 (.t 3) 1), (.ld 19 false 1 (.t 18)), (.mv 20 (.t 2)), (.mv 21 (.t 8)), (.ia 22 1 (.t 20) (.t 21)), (.ld 23 false 1 (.t 22)), (.ia 24 1 (.t 19) (.t 23)), (.ld 25 false 1 (.t 24)), (.mv 26 (.t 7)), (.call 27 55 [(.t 25), (.t 26)]), (.mv 7 (.t 27))]⟩] [(1, 5)] [2, 3, 7, 8])) (.rgn [⟨none, [(.mv 16 (.t 8)), (.bin 17 .add (.t 16) (.k (I 1))), (.mv 8 (.t 17))]⟩] [2, 3, 7, 8])))))) (.seq (.rgn [⟨none, [(.mv 28 (.t 7)), (.mv 6 (.t 28))]⟩] [6]) .ret))))
theorem func_r_All : Tryz.prog.funcs[n_r_All]? = some Tryz.f51 := Tryz.func51
theorem form_r_All : formOf Tryz.prog Tryz.f51 [6] = some G_r_All := by kernel_rfl
theorem res_r_All : resTmps Tryz.f51.results.toList = some [6] := by kernel_rfl
abbrev n_r_IsList : Nat := 53
def G_r_IsList : AC := (.seq (.rgn [⟨none, [(.box 2 2 (.t 0)), (.mv 4 (.k (I 0)))]⟩] [1, 2]) (.seq (.seq (.rgn [⟨none, [(.mv 6 (.t 1)), (.len 7 (.t 6)), (.bin 8 .gtr (.t 7) (.k (I 720)))]⟩] [1, 2, 8]) (.cond (.t 8) (.seq (.rgn [⟨none, [(.mv 4 (.k (I 6)))]⟩] [4]) .ret) .skip)) (.seq (.seq (.rgn [⟨none, [(.mv 5 (.k (I 0)))]⟩] [1, 2, 5]) (.block 0 (.loop (.seq (.seq (.rgn [⟨none, [(.mv 9 (.t 5)), (.mv 10 (.t 1)), (.len 11 (.t 10)), (.bin 12 .lss (.t 9) (.t 11))]⟩] [1, 2, 5, 12]) (.cond (.t 12) .skip (.exit 0))) (.seq (.block 1 (.seq (.drw [⟨none, [(.mv 15 (.t 1)), (.mv 16 (.t 5)), (.ia 17 1 (.t 15) (.t 16)), (.ld 18 false 1 (.t 17)), (.bin 19 .lss (.t 18) (.k (I 0))), (.mv 20 (.t 19))]⟩, ⟨(some (20, false)), [(.mv 21 (.t 1)), (.mv 22 (.t 5)), (.ia 23 1 (.t 21) (.t 22)), (.ld 24 false 1 (.t 23)), (.fa 25 (.t 2) 1), (.ld 26 false 1 (.t 25)), (.len 27 (.t 26)), (.bin 28 .geq (.t 24) (.t 27))]⟩, ⟨none, [(.pick 29 (.t 20) (.k (B true)) (.t 28))]⟩] [(9, 11)] [1, 2, 5, 29]) (.cond (.t 29) (.seq (.rgn [⟨none, [(.mv 4 (.k (I 3)))]⟩] [4]) .ret) .skip))) (.rgn [⟨none, [(.mv 13 (.t 5)), (.bin 14 .add (.t 13) (.k (I 1))), (.mv 5 (.t 14))]⟩] [1, 2, 5])))))) (.seq (.rgn [⟨none, [(.mv 4 (.k (I 0)))]⟩] [4]) .ret))))
theorem func_r_IsList : Tryz.prog.funcs[n_r_IsList]? = some Tryz.f53 := Tryz.func53
theorem form_r_IsList : formOf Tryz.prog Tryz.f53 [4] = some G_r_IsList := by kernel_rfl
theorem res_r_IsList : resTmps Tryz.f53.results.toList = some [4] := by kernel_rfl
abbrev n_r_Places : Nat := 54
def G_r_Places : AC := (.seq (.rgn [⟨none, [(.box 1 2 (.t 0)), (.mv 2 (.k (.sl true 0 [])))]⟩] [1]) (.seq (.rgn [⟨none, [(.mv 3 (.k (.sl true 0 [])))]⟩] [1, 3]) (.seq (.seq (.rgn [⟨none, [(.mv 4 (.k (I 0)))]⟩] [1, 3, 4]) (.block 0 (.loop (.seq (.seq (.rgn [⟨none, [(.mv 5 (.t 4)), (.fa 6 (.t 1) 0), (.ld 7 false 1 (.t 6)), (.bin 8 .lss (.t 5) (.t 7))]⟩] [1, 3, 4, 8]) (.cond (.t 8) .skip (.exit 0))) (.seq (.block 1 (.rgn [⟨none, [(.mv 11 (.t 3)), (.mv 12 (.t 4)), (.bsl 13 1 1 [(I 0)] [(0, (.t 12))]), (.app 14 1 8 (.t 11) (.t 13)), (.mv 3 (.t 14))]⟩] [1, 3, 4])) (.rgn [⟨none, [(.mv 9 (.t 4)), (.bin 10 .add (.t 9) (.k (I 1))), (.mv 4 (.t 10))]⟩] [1, 3, 4])))))) (.seq (.rgn [⟨none, [(.mv 15 (.t 3)), (.mv 2 (.t 15))]⟩] [2]) .ret))))
theorem func_r_Places : Tryz.prog.funcs[n_r_Places]? = some Tryz.f54 := Tryz.func54
theorem form_r_Places : formOf Tryz.prog Tryz.f54 [2] = some G_r_Places := by kernel_rfl
theorem res_r_Places : resTmps Tryz.f54.results.toList = some [2] := by kernel_rfl
abbrev n_r_After : Nat := 55
def G_r_After : AC := (.seq (.rgn [⟨none, [(.mv 4 (.k (.sl true 0 [])))]⟩] [0, 1]) (.seq (.rgn [⟨none, [(.mv 5 (.k (.sl true 0 [])))]⟩] [0, 1, 5]) (.seq (.seq (.rgn [⟨none, [(.mv 6 (.k (I 0)))]⟩] [0, 1, 5, 6]) (.block 0 (.loop (.seq (.seq (.rgn [⟨none, [(.mv 7 (.t 6)), (.mv 8 (.t 1)), (.len 9 (.t 8)), (.bin 10 .lss (.t 7) (.t 9))]⟩] [0, 1, 5, 6, 10]) (.cond (.t 10) .skip (.exit 0))) (.seq (.block 1 (.rgn [⟨none, [(.mv 13 (.t 5)), (.mv 14 (.t 1)), (.mv 15 (.t 0)), (.mv 16 (.t 6)), (.ia 17 1 (.t 15) (.t 16)), (.ld 18 false 1 (.t 17)), (.ia 19 1 (.t 14) (.t 18)), (.ld 20 false 1 (.t 19)), (.bsl 21 1 1 [(I 0)] [(0, (.t 20))]), (.app 22 1 8 (.t 13) (.t 21)), (.mv 5 (.t 22))]⟩] [0, 1, 5, 6])) (.rgn [⟨none, [(.mv 11 (.t 6)), (.bin 12 .add (.t 11) (.k (I 1))), (.mv 6 (.t 12))]⟩] [0, 1, 5, 6])))))) (.seq (.rgn [⟨none, [(.mv 23 (.t 5)), (.mv 4 (.t 23))]⟩] [4]) .ret))))
theorem func_r_After : Tryz.prog.funcs[n_r_After]? = some Tryz.f55 := Tryz.func55
theorem form_r_After : formOf Tryz.prog Tryz.f55 [4] = some G_r_After := by kernel_rfl
theorem res_r_After : resTmps Tryz.f55.results.toList = some [4] := by kernel_rfl
abbrev n_r_IsRow : Nat := 67
def G_r_IsRow : AC := (.seq (.rgn [⟨none, [(.box 2 2 (.t 0)), (.mv 4 (.k (B false)))]⟩] [1, 2]) (.seq (.seq (.rgn [⟨none, [(.mv 6 (.t 1)), (.len 7 (.t 6)), (.fa 8 (.t 2) 0), (.ld 9 false 1 (.t 8)), (.bin 10 .neq (.t 7) (.t 9))]⟩] [1, 10]) (.cond (.t 10) (.seq (.rgn [⟨none, [(.mv 4 (.k (B false)))]⟩] [4]) .ret) .skip)) (.seq (.seq (.rgn [⟨none, [(.mv 5 (.k (I 0)))]⟩] [1, 5]) (.block 0 (.loop (.seq (.seq (.rgn [⟨none, [(.mv 11 (.t 5)), (.mv 12 (.t 1)), (.len 13 (.t 12)), (.bin 14 .lss (.t 11) (.t 13))]⟩] [1, 5, 14]) (.cond (.t 14) .skip (.exit 0))) (.seq (.block 1 (.seq (.rgn [⟨none, [(.mv 17 (.t 1)), (.mv 18 (.t 5)), (.ia 19 1 (.t 17) (.t 18)), (.ld 20 false 1 (.t 19)), (.bin 21 .lss (.t 20) (.k (I 0))), (.mv 22 (.t 21))]⟩, ⟨(some (22, false)), [(.mv 23 (.t 1)), (.mv 24 (.t 5)), (.ia 25 1 (.t 23) (.t 24)), (.ld 26 false 1 (.t 25)), (.bin 27 .gtr (.t 26) (.k (I 5)))]⟩, ⟨none, [(.pick 28 (.t 22) (.k (B true)) (.t 27))]⟩] [1, 5, 28]) (.cond (.t 28) (.seq (.rgn [⟨none, [(.mv 4 (.k (B false)))]⟩] [4]) .ret) .skip))) (.rgn [⟨none, [(.mv 15 (.t 5)), (.bin 16 .add (.t 15) (.k (I 1))), (.mv 5 (.t 16))]⟩] [1, 5])))))) (.seq (.rgn [⟨none, [(.mv 4 (.k (B true)))]⟩] [4]) .ret))))
theorem func_r_IsRow : Tryz.prog.funcs[n_r_IsRow]? = some Tryz.f67 := Tryz.func67
theorem form_r_IsRow : formOf Tryz.prog Tryz.f67 [4] = some G_r_IsRow := by kernel_rfl
theorem res_r_IsRow : resTmps Tryz.f67.results.toList = some [4] := by kernel_rfl
abbrev n_r_Equal : Nat := 70
def G_r_Equal : AC := (.seq (.rgn [⟨none, [(.mv 4 (.k (B false)))]⟩] [0, 1]) (.seq (.seq (.rgn [⟨none, [(.mv 6 (.t 0)), (.len 7 (.t 6)), (.mv 8 (.t 1)), (.len 9 (.t 8)), (.bin 10 .neq (.t 7) (.t 9))]⟩] [0, 1, 10]) (.cond (.t 10) (.seq (.rgn [⟨none, [(.mv 4 (.k (B false)))]⟩] [4]) .ret) .skip)) (.seq (.seq (.rgn [⟨none, [(.mv 5 (.k (I 0)))]⟩] [0, 1, 5]) (.block 0 (.loop (.seq (.seq (.rgn [⟨none, [(.mv 11 (.t 5)), (.mv 12 (.t 0)), (.len 13 (.t 12)), (.bin 14 .lss (.t 11) (.t 13))]⟩] [0, 1, 5, 14]) (.cond (.t 14) .skip (.exit 0))) (.seq (.block 1 (.seq (.drw [⟨none, [(.mv 17 (.t 0)), (.mv 18 (.t 5)), (.ia 19 1 (.t 17) (.t 18)), (.ld 20 false 1 (.t 19)), (.mv 21 (.t 1)), (.mv 22 (.t 5)), (.ia 23 1 (.t 21) (.t 22)), (.ld 24 false 1 (.t 23)), (.bin 25 .neq (.t 20) (.t 24))]⟩] [(3, 7)] [0, 1, 5, 25]) (.cond (.t 25) (.seq (.rgn [⟨none, [(.mv 4 (.k (B false)))]⟩] [4]) .ret) .skip))) (.rgn [⟨none, [(.mv 15 (.t 5)), (.bin 16 .add (.t 15) (.k (I 1))), (.mv 5 (.t 16))]⟩] [0, 1, 5])))))) (.seq (.rgn [⟨none, [(.mv 4 (.k (B true)))]⟩] [4]) .ret))))
theorem func_r_Equal : Tryz.prog.funcs[n_r_Equal]? = some Tryz.f70 := Tryz.func70
theorem form_r_Equal : formOf Tryz.prog Tryz.f70 [4] = some G_r_Equal := by kernel_rfl
theorem res_r_Equal : resTmps Tryz.f70.results.toList = some [4] := by kernel_rfl
abbrev n_r_isStroke : Nat := 77
def G_r_isStroke : AC := (.seq (.rgn [⟨none, [(.mv 4 (.k (B false)))]⟩] [0, 1]) (.seq (.seq (.rgn [⟨none, [(.mv 8 (.t 0)), (.len 9 (.t 8)), (.mv 10 (.t 1)), (.bin 11 .neq (.t 9) (.t 10))]⟩] [0, 1, 11]) (.cond (.t 11) (.seq (.rgn [⟨none, [(.mv 4 (.k (B false)))]⟩] [4]) .ret) .skip)) (.seq (.seq (.rgn [⟨none, [(.mv 5 (.k (I 0)))]⟩] [0, 1, 5]) (.block 0 (.loop (.seq (.seq (.rgn [⟨none, [(.mv 12 (.t 5)), (.mv 13 (.t 1)), (.bin 14 .lss (.t 12) (.t 13))]⟩] [0, 1, 5, 14]) (.cond (.t 14) .skip (.exit 0))) (.seq (.block 1 (.seq (.rgn [⟨none, [(.mv 6 (.k (I 0)))]⟩] [0, 1, 5, 6]) (.seq (.seq (.rgn [⟨none, [(.mv 7 (.k (I 0)))]⟩] [0, 1, 5, 6, 7]) (.block 2 (.loop (.seq (.seq (.rgn [⟨none, [(.mv 17 (.t 7)), (.mv 18 (.t 0)), (.len 19 (.t 18)), (.bin 20 .lss (.t 17) (.t 19))]⟩] [0, 1, 5, 6, 7, 20]) (.cond (.t 20) .skip (.exit 2))) (.seq (.block 3 (.seq (.rgn [⟨none, [(.mv 23 (.t 0)), (.mv 24 (.t 7)), (.ia 25 1 (.t 23) (.t 24)), (.ld 26 false 1 (.t 25)), (.mv 27 (.t 5)), (.bin 28 .eql (.t 26) (.t 27))]⟩] [0, 1, 5, 6, 7, 28]) (.cond (.t 28) (.rgn [⟨none, [(.mv 29 (.t 6)), (.bin 30 .add (.t 29) (.k (I 1))), (.mv 6 (.t 30))]⟩] [0, 1, 5, 6, 7]) .skip))) (.rgn [⟨none, [(.mv 21 (.t 7)), (.bin 22 .add (.t 21) (.k (I 1))), (.mv 7 (.t 22))]⟩] [0, 1, 5, 6, 7])))))) (.seq (.rgn [⟨none, [(.mv 31 (.t 6)), (.bin 32 .neq (.t 31) (.k (I 1)))]⟩] [0, 1, 5, 32]) (.cond (.t 32) (.seq (.rgn [⟨none, [(.mv 4 (.k (B false)))]⟩] [4]) .ret) .skip))))) (.rgn [⟨none, [(.mv 15 (.t 5)), (.bin 16 .add (.t 15) (.k (I 1))), (.mv 5 (.t 16))]⟩] [0, 1, 5])))))) (.seq (.rgn [⟨none, [(.mv 4 (.k (B true)))]⟩] [4]) .ret))))
theorem func_r_isStroke : Tryz.prog.funcs[n_r_isStroke]? = some Tryz.f77 := Tryz.func77
theorem form_r_isStroke : formOf Tryz.prog Tryz.f77 [4] = some G_r_isStroke := by kernel_rfl
theorem res_r_isStroke : resTmps Tryz.f77.results.toList = some [4] := by kernel_rfl
end Go.AM

set_option linter.unusedSimpArgs false
set_option linter.unusedVariables false
namespace Go.AM
open Go.RowKit Go.Proofs
theorem count_take {l : List Int} {i : Nat} {p : Int} (h : i < l.length) : (l.take (i + 1)).count p = (l.take i).count p + if l[i] = p then 1 else 0 := by
  rw [List.take_succ_eq_append_getElem h, List.count_append, List.count_singleton]
  by_cases e : l[i] = p
  · simp [e]
  · simp [e]
set_option maxHeartbeats 1000000 in
theorem r_isStroke_ok (f : Bool) (l : List Int) (P : Int) (hl : l.length ≤ 1000000) : PureOK Tryz.prog n_r_isStroke [Ls f l, I P] (B (strO P l)) := by
  refine pure_of (walk func_r_isStroke form_r_isStroke res_r_isStroke (by show 2 ≤ _; decide) ?_)
  simp -implicitDefEqProofs (disch := omega) [G_r_isStroke, wrap_id]
  by_cases hP : (l.length : Int) = P
  · subst hP
    simp -implicitDefEqProofs (disch := omega) [wrap_id]
    refine loop_eq (fun p : Nat => ⟨[(0, Ls f l), (1, I (l.length : Int)), (5, I (p : Int))], []⟩) (fun p => p ≤ l.length ∧ ((List.range p).all fun p => l.count (p : Int) == 1) = true) (fun p => l.length - p) 0 ⟨Nat.zero_le _, rfl⟩ rfl ?_
    rintro p ⟨hp, ha⟩
    refine hideK' fun K0 hK0 => ?_
    simp -implicitDefEqProofs (disch := omega) [wrap_id]
    refine c_split (fun h => ?_) (fun h => ?_)
    · have hp : p < l.length := by simp at h; omega
      have px : ((p : Int) + 1) = ((p + 1 : Nat) : Int) := by omega
      simp -implicitDefEqProofs (disch := omega) [wrap_id]
      refine loop_eq (fun i : Nat => ⟨[(0, Ls f l), (1, I (l.length : Int)), (5, I (p : Int)), (6, I ((l.take i).count (p : Int) : Nat)), (7, I (i : Int))], []⟩) (fun i => i ≤ l.length) (fun i => l.length - i) 0 (Nat.zero_le _) rfl ?_
      intro i hi
      refine hideK' fun K1 hK1 => ?_
      simp -implicitDefEqProofs (disch := omega) [wrap_id]
      refine c_split (fun h => ?_) (fun h => ?_)
      · have hi : i < l.length := by simp at h; omega
        have ix : ((i : Int) + 1) = ((i + 1 : Nat) : Int) := by omega
        have ct := count_take (p := (p : Int)) hi
        have cl : (l.take i).count (p : Int) ≤ l.length := Nat.le_trans List.count_le_length (by rw [List.length_take]; omega)
        generalize hc : (l.take i).count (p : Int) = c at *
        have cx : ((c : Int) + 1) = ((c + 1 : Nat) : Int) := by omega
        by_cases e : l[i] = (p : Int)
        · rw [if_pos e] at ct
          simp -implicitDefEqProofs (disch := omega) [wrap_id, cells_ls, hi, e]
          rw [hK1]
          exact next_eq (i + 1) (by omega) (by omega) (by simp only [ix, cx, ct])
        · rw [if_neg e] at ct
          have e' : (l[i] == (p : Int)) = false := by simpa using e
          simp -implicitDefEqProofs (disch := omega) [wrap_id, cells_ls, hi, e, e']
          rw [hK1]
          exact next_eq (i + 1) (by omega) (by omega) (by simp only [ix, ct]; rfl)
      · have hi : i = l.length := by simp at h; omega
        subst hi
        subst hK1
        have cl := List.count_le_length (a := (p : Int)) (l := l)
        have tk : l.take l.length = l := List.take_of_length_le (Nat.le_refl _)
        by_cases e : l.count (p : Int) = 1
        · simp -implicitDefEqProofs (disch := omega) [wrap_id, e, tk]
          rw [hK0]
          refine next_eq (p + 1) ⟨by omega, ?_⟩ (by omega) (by simp only [px])
          rw [range_all_succ, ha, e]; rfl
        · have e' : ((l.count (p : Int) : Int) != 1) = true := by simp only [bne_iff_ne, ne_eq]; omega
          have hf : strO (l.length : Int) l = false := by
            unfold strO
            have : ((List.range l.length).all fun p => l.count (p : Int) == 1) = false := by
              rw [List.all_eq_false]
              exact ⟨p, List.mem_range.2 hp, by simp [e]⟩
            rw [this, Bool.and_false]
          simp -implicitDefEqProofs (disch := omega) [wrap_id, e', tk]
          rw [hf] at hK0
          subst hK0
          simp -implicitDefEqProofs (disch := omega) [wrap_id]
    · have hp : p = l.length := by simp at h; omega
      subst hp
      have ht : strO (l.length : Int) l = true := by unfold strO; rw [ha]; simp
      rw [ht] at hK0
      subst hK0
      simp -implicitDefEqProofs (disch := omega) [wrap_id]
  · have hP' : ((l.length : Int) != P) = true := by simpa using hP
    have hf : strO P l = false := by unfold strO; rw [decide_eq_false hP]; rfl
    simp -implicitDefEqProofs (disch := omega) [wrap_id, hP', hf]
end Go.AM

set_option linter.unusedSimpArgs false
set_option linter.unusedVariables false
namespace Go.AM
open Go.RowKit Go.Proofs
theorem r_Equal_ok (f g : Bool) (l m : List Int) (hl : l.length ≤ 1000000) (hm : m.length ≤ 1000000) : PureOK Tryz.prog n_r_Equal [Ls f l, Ls g m] (B (decide (l = m))) := by
  refine pure_of (walk func_r_Equal form_r_Equal res_r_Equal (by show 2 ≤ _; decide) ?_)
  simp -implicitDefEqProofs (disch := omega) [G_r_Equal, wrap_id]
  refine c_split (fun h => ?_) (fun h => ?_)
  · simp at h; simp -implicitDefEqProofs (disch := omega) [wrap_id, h]
    intro e; subst e; exact h rfl
  · simp at h; simp -implicitDefEqProofs (disch := omega) [wrap_id, h]
    refine loop_eq (fun i : Nat => ⟨[(0, Ls f l), (1, Ls g m), (5, I i)], []⟩) (fun i => i ≤ l.length ∧ l.take i = m.take i) (fun i => l.length - i) 0 ⟨by omega, rfl⟩ rfl ?_
    intro i ⟨hi, he⟩
    simp -implicitDefEqProofs (disch := omega) [wrap_id]
    refine c_split (fun h => ?_) (fun h => ?_)
    · simp at h
      have h2 : i < m.length := by omega
      simp -implicitDefEqProofs (disch := omega) [wrap_id, cells_ls, h, h2]
      refine c_split (fun h3 => ?_) (fun h3 => ?_)
      · simp at h3; simp -implicitDefEqProofs (disch := omega) [wrap_id]
        intro e; subst e; exact h3 rfl
      · simp at h3; simp -implicitDefEqProofs (disch := omega) [wrap_id]
        refine next_eq (i + 1) ⟨by omega, ?_⟩ (by omega) (by simp)
        rw [List.take_add_one, List.take_add_one, he]; simp [h, h2, h3]
    · simp at h; simp -implicitDefEqProofs (disch := omega) [wrap_id]
      have e1 : l.take i = l := List.take_of_length_le h
      have e2 : m.take i = m := List.take_of_length_le (by omega)
      rw [← e1, he, e2]
set_option maxHeartbeats 1000000 in
theorem r_CheckBench_ok (g : Bool) (b : OB) (hb : b.s.length ≤ 1000000) (hs : ∀ p ∈ b.s, p.2.length ≤ 1000000) : PureOK Tryz.prog n_r_CheckBench [On g b] (I (chkO b)) := by
  refine pure_of (walk func_r_CheckBench form_r_CheckBench res_r_CheckBench (by show 1 ≤ _; decide) ?_)
  simp -implicitDefEqProofs (disch := omega) [G_r_CheckBench, wrap_id]
  by_cases h1 : b.P < 2
  · have e : chkO b = 2 := by unfold chkO; rw [if_pos (.inl h1)]
    simp -implicitDefEqProofs (disch := omega) [wrap_id, h1, e]
  by_cases h2 : 6 < b.P
  · have e : chkO b = 2 := by unfold chkO; rw [if_pos (.inr h2)]
    simp -implicitDefEqProofs (disch := omega) [wrap_id, h1, h2, e]
  by_cases h3 : 6 < b.s.length
  · have h3' : (6 : Int) < b.s.length := by omega
    have e : chkO b = 6 := by unfold chkO; rw [if_neg (by omega), if_pos h3]
    simp -implicitDefEqProofs (disch := omega) [wrap_id, h1, h2, h3', e]
  have h3' : ¬ (6 : Int) < b.s.length := by omega
  have e : chkO b = if b.s.all (fun p => strO b.P p.2) then 0 else 15 := by unfold chkO; rw [if_neg (by omega), if_neg h3]
  rw [e]
  simp -implicitDefEqProofs (disch := omega) [wrap_id, h1, h2, h3']
  refine loop_eq (fun i : Nat => ⟨[(1, .ref 0 0), (3, I (i : Int))], [.cells [I b.P, LLs g b.s]]⟩) (fun i => i ≤ b.s.length ∧ ∀ k (hk : k < b.s.length), k < i → strO b.P b.s[k].2 = true) (fun i => b.s.length - i) 0 ⟨Nat.zero_le _, fun k _ h => by omega⟩ rfl ?_
  rintro i ⟨hi, ha⟩
  refine hideK' fun K0 hK0 => ?_
  simp -implicitDefEqProofs (disch := omega) [wrap_id]
  refine c_split (fun h => ?_) (fun h => ?_)
  · have hi : i < b.s.length := by simp at h; omega
    have ix : ((i : Int) + 1) = ((i + 1 : Nat) : Int) := by omega
    simp -implicitDefEqProofs (disch := omega) [wrap_id, cells_lls, hi]
    refine pureW_of rfl (r_isStroke_ok _ _ b.P (hs _ (List.getElem_mem hi))) ?_
    cases hst : strO b.P b.s[i].2 with
    | true =>
      simp -implicitDefEqProofs (disch := omega) [wrap_id, cmp2, nthT]
      rw [hK0]
      refine next_eq (i + 1) ⟨by omega, fun k hk hki => ?_⟩ (by omega) (by simp only [ix])
      by_cases hk2 : k = i
      · subst hk2; exact hst
      · exact ha k hk (by omega)
    | false =>
      have hf : b.s.all (fun p => strO b.P p.2) = false := by
        rw [List.all_eq_false]
        exact ⟨b.s[i], List.getElem_mem hi, by simp [hst]⟩
      rw [hf] at hK0
      subst hK0
      simp -implicitDefEqProofs (disch := omega) [wrap_id, cmp2, nthT]
  · have hi : i = b.s.length := by simp at h; omega
    subst hi
    have ht : b.s.all (fun p => strO b.P p.2) = true := by
      rw [List.all_eq_true]
      intro p hp
      obtain ⟨k, hk, rfl⟩ := List.getElem_of_mem hp
      exact ha k hk hk
    rw [ht] at hK0
    subst hK0
    simp -implicitDefEqProofs (disch := omega) [wrap_id]
set_option maxHeartbeats 1000000 in
theorem r_IsRow_ok (g f : Bool) (b : OB) (l : List Int) (hl : l.length ≤ 1000000) : PureOK Tryz.prog n_r_IsRow [On g b, Ls f l] (B (rowO b l)) := by
  refine pure_of (walk func_r_IsRow form_r_IsRow res_r_IsRow (by show 2 ≤ _; decide) ?_)
  simp -implicitDefEqProofs (disch := omega) [G_r_IsRow, wrap_id]
  by_cases h1 : (l.length : Int) = b.P
  · have e : rowO b l = l.all fun n => decide (0 ≤ n) && decide (n ≤ 5) := by unfold rowO; rw [decide_eq_true h1]; rfl
    have h1' : ((l.length : Int) != b.P) = false := by simpa using h1
    rw [e]
    simp -implicitDefEqProofs (disch := omega) [wrap_id, h1']
    refine loop_eq (fun i : Nat => ⟨[(1, Ls f l), (5, I (i : Int))], [.cells [I b.P, LLs g b.s]]⟩) (fun i => i ≤ l.length ∧ ∀ k (hk : k < l.length), k < i → 0 ≤ l[k] ∧ l[k] ≤ 5) (fun i => l.length - i) 0 ⟨Nat.zero_le _, fun k _ h => by omega⟩ rfl ?_
    rintro i ⟨hi, ha⟩
    refine hideK' fun K0 hK0 => ?_
    simp -implicitDefEqProofs (disch := omega) [wrap_id]
    refine c_split (fun h => ?_) (fun h => ?_)
    · have hi : i < l.length := by simp at h; omega
      have ix : ((i : Int) + 1) = ((i + 1 : Nat) : Int) := by omega
      have bad : ¬ (0 ≤ l[i] ∧ l[i] ≤ 5) → (l.all fun n => decide (0 ≤ n) && decide (n ≤ 5)) = false := fun hn => by
        rw [List.all_eq_false]
        exact ⟨l[i], List.getElem_mem hi, by simpa using hn⟩
      by_cases q1 : l[i] < 0
      · rw [bad (by omega)] at hK0
        subst hK0
        simp -implicitDefEqProofs (disch := omega) [wrap_id, cells_ls, hi, q1]
      by_cases q2 : 5 < l[i]
      · rw [bad (by omega)] at hK0
        subst hK0
        simp -implicitDefEqProofs (disch := omega) [wrap_id, cells_ls, hi, q1, q2]
      simp -implicitDefEqProofs (disch := omega) [wrap_id, cells_ls, hi, q1, q2]
      rw [hK0]
      refine next_eq (i + 1) ⟨by omega, fun k hk hki => ?_⟩ (by omega) (by simp only [ix])
      by_cases hk2 : k = i
      · subst hk2; omega
      · exact ha k hk (by omega)
    · have hi : i = l.length := by simp at h; omega
      subst hi
      have ht : (l.all fun n => decide (0 ≤ n) && decide (n ≤ 5)) = true := by
        rw [List.all_eq_true]
        intro p hp
        obtain ⟨k, hk, rfl⟩ := List.getElem_of_mem hp
        simpa using ha k hk hk
      rw [ht] at hK0
      subst hK0
      simp -implicitDefEqProofs (disch := omega) [wrap_id]
  · have e : rowO b l = false := by unfold rowO; rw [decide_eq_false h1]; rfl
    have h1' : ((l.length : Int) != b.P) = true := by simpa using h1
    simp -implicitDefEqProofs (disch := omega) [wrap_id, h1', e]
end Go.AM

set_option linter.unusedSimpArgs false
set_option linter.unusedVariables false
namespace Go.AM
open Go.RowKit Go.Proofs
set_option maxHeartbeats 1000000 in
theorem r_After_ok (f g : Bool) (s r : List Int) (hl : r.length ≤ 1000) (hs : s.length = r.length) (hi : ∀ x ∈ s, 0 ≤ x ∧ x < r.length) : PureOK Tryz.prog n_r_After [Ls f s, Ls g r] (Ls (aft s r).isEmpty (aft s r)) := by
  refine pure_of (walk func_r_After form_r_After res_r_After (by show 2 ≤ _; decide) ?_)
  simp -implicitDefEqProofs (disch := omega) [G_r_After, wrap_id]
  have al : (aft s r).length = s.length := aft_len
  refine loop_eq (fun q : Nat × AV × List HObj => ⟨[(0, Ls f s), (1, Ls g r), (5, q.2.1), (6, I (q.1 : Int))], q.2.2⟩) (fun q => q.1 ≤ r.length ∧ AccR q.2.2 q.2.1 ((aft s r).take q.1)) (fun q => r.length - q.1) (0, .sl true 0 [], []) ⟨Nat.zero_le _, .inl ⟨rfl, by simp⟩⟩ rfl ?_
  rintro ⟨i, x, H⟩ ⟨c1, c2⟩
  simp only at c1 c2 ⊢
  refine hideK' fun K0 hK0 => ?_
  simp -implicitDefEqProofs (disch := omega) [wrap_id]
  refine c_split (fun h => ?_) (fun h => ?_)
  · have hir : i < r.length := by simp at h; omega
    have his : i < s.length := by omega
    have ix : ((i : Int) + 1) = ((i + 1 : Nat) : Int) := by omega
    obtain ⟨b1, b2⟩ := hi s[i] (List.getElem_mem his)
    obtain ⟨n, hn⟩ : ∃ n : Nat, s[i] = n := ⟨s[i].toNat, by omega⟩
    have hnr : n < r.length := by omega
    have tk : (aft s r).take (i + 1) = (aft s r).take i ++ [r[n]] := by
      rw [List.take_succ_eq_append_getElem (by omega), aft_get (by omega)]
      simp [hn, hnr]
    have tl : ((aft s r).take i).length = i := by rw [List.length_take]; omega
    simp -implicitDefEqProofs (disch := omega) [wrap_id, cells_ls, hir, his, hn, hnr]
    refine bsl_of (ys := [I r[n]]) rfl rfl ?_
    simp -implicitDefEqProofs (disch := omega) [wrap_id, zrep]
    refine app_row c2.row (by omega) fun ws w1 w2 w3 => ?_
    simp -implicitDefEqProofs (disch := omega) [wrap_id]
    rw [hK0]
    refine next_eq (i + 1, .ms H.length 0 (i + 1) 1, writeL H ws) ⟨by simp only; omega, .inr ⟨H.length, ?_, ?_, ?_⟩⟩ (by simp only; omega) (by simp only [ix, tl])
    · rw [List.length_take, Nat.min_eq_left (by omega)]
    · simp only [tk]; simp
    · simp only [tk]; exact w3
  · have hir : i = r.length := by simp at h; omega
    subst hir
    subst hK0
    have tk : (aft s r).take r.length = aft s r := List.take_of_length_le (by omega)
    rw [tk] at c2
    simp -implicitDefEqProofs (disch := omega) [wrap_id]
    exact out_acc c2
end Go.AM

set_option linter.unusedSimpArgs false
set_option linter.unusedVariables false
namespace Go.AM
open Go.RowKit Go.Proofs
set_option maxHeartbeats 1000000 in
theorem r_IsList_ok (g f : Bool) (b : OB) (l : List Int) (hl : l.length ≤ 1000000) : PureOK Tryz.prog n_r_IsList [On g b, Ls f l] (I (lstO b l)) := by
  refine pure_of (walk func_r_IsList form_r_IsList res_r_IsList (by show 2 ≤ _; decide) ?_)
  simp -implicitDefEqProofs (disch := omega) [G_r_IsList, wrap_id]
  by_cases h1 : 720 < l.length
  · have h1' : (720 : Int) < l.length := by omega
    have e : lstO b l = 6 := by unfold lstO; rw [if_pos h1]
    simp -implicitDefEqProofs (disch := omega) [wrap_id, h1', e]
  · have h1' : ¬ (720 : Int) < l.length := by omega
    have e : lstO b l = if l.all fun n => decide (0 ≤ n) && decide (n < b.s.length) then 0 else 3 := by unfold lstO; rw [if_neg h1]
    rw [e]
    generalize hA : (l.all fun n => decide (0 ≤ n) && decide (n < b.s.length)) = A
    simp -implicitDefEqProofs (disch := omega) [wrap_id, h1']
    refine loop_eq (fun i : Nat => ⟨[(1, Ls f l), (2, .ref 0 0), (5, I (i : Int))], [.cells [I b.P, LLs g b.s]]⟩) (fun i => i ≤ l.length ∧ ∀ k (hk : k < l.length), k < i → 0 ≤ l[k] ∧ l[k] < b.s.length) (fun i => l.length - i) 0 ⟨Nat.zero_le _, fun k _ h => by omega⟩ rfl ?_
    rintro i ⟨hi, ha⟩
    refine hideK' fun K0 hK0 => ?_
    simp -implicitDefEqProofs (disch := omega) [wrap_id]
    refine c_split (fun h => ?_) (fun h => ?_)
    · have hi : i < l.length := by simp at h; omega
      have ix : ((i : Int) + 1) = ((i + 1 : Nat) : Int) := by omega
      have bad : ¬ (0 ≤ l[i] ∧ l[i] < b.s.length) → A = false := fun hn => by
        rw [← hA, List.all_eq_false]
        exact ⟨l[i], List.getElem_mem hi, by simpa using hn⟩
      by_cases q1 : l[i] < 0
      · rw [bad (by omega)] at hK0
        subst hK0
        simp -implicitDefEqProofs (disch := omega) [wrap_id, cells_ls, hi, q1, cmp2, nthT]
      by_cases q2 : (b.s.length : Int) ≤ l[i]
      · rw [bad (by omega)] at hK0
        subst hK0
        simp -implicitDefEqProofs (disch := omega) [wrap_id, cells_ls, hi, q1, q2, cmp2, nthT]
      simp -implicitDefEqProofs (disch := omega) [wrap_id, cells_ls, hi, q1, q2, cmp2, nthT]
      rw [hK0]
      refine next_eq (i + 1) ⟨by omega, fun k hk hki => ?_⟩ (by omega) (by simp only [ix])
      by_cases hk2 : k = i
      · subst hk2; omega
      · exact ha k hk (by omega)
    · have hi : i = l.length := by simp at h; omega
      subst hi
      have ht : A = true := by
        rw [← hA, List.all_eq_true]
        intro p hp
        obtain ⟨k, hk, rfl⟩ := List.getElem_of_mem hp
        simpa using ha k hk hk
      rw [ht] at hK0
      subst hK0
      simp -implicitDefEqProofs (disch := omega) [wrap_id]
end Go.AM

set_option linter.unusedSimpArgs false
set_option linter.unusedVariables false
namespace Go.AM
open Go.RowKit Go.Proofs
set_option maxHeartbeats 1000000 in
theorem r_Places_ok (g : Bool) (b : OB) (n : Nat) (hn : b.P = n) (h6 : n ≤ 6) : PureOK Tryz.prog n_r_Places [On g b] (Ls (plcL n).isEmpty (plcL n)) := by
  refine pure_of (walk func_r_Places form_r_Places res_r_Places (by show 1 ≤ _; decide) ?_)
  simp -implicitDefEqProofs (disch := omega) [G_r_Places, wrap_id]
  refine loop_eq (fun q : Nat × AV × List HObj => ⟨[(1, .ref 0 0), (3, q.2.1), (4, I (q.1 : Int))], q.2.2⟩) (fun q => q.1 ≤ n ∧ AccR q.2.2 q.2.1 (plcL q.1) ∧ nthH q.2.2 0 = some (.cells [I b.P, LLs g b.s]) ∧ rid q.2.1 ≠ some 0) (fun q => n - q.1) (0, .sl true 0 [], [.cells [I b.P, LLs g b.s]]) ⟨Nat.zero_le _, .inl ⟨rfl, rfl⟩, rfl, by simp [rid]⟩ rfl ?_
  rintro ⟨i, x, H⟩ ⟨c1, c2, c3, c4⟩
  simp only at c1 c2 c3 c4 ⊢
  have l0 := nthH_lt c3
  refine hideK' fun K0 hK0 => ?_
  simp -implicitDefEqProofs (disch := omega) [wrap_id, c3, ldr_some, hn]
  refine c_split (fun h => ?_) (fun h => ?_)
  · have hir : i < n := by simp at h; omega
    have ix : ((i : Int) + 1) = ((i + 1 : Nat) : Int) := by omega
    have tk : plcL (i + 1) = plcL i ++ [(i : Int)] := by simp [plcL, List.range_succ]
    have tl := plcL_len (n := i)
    simp -implicitDefEqProofs (disch := omega) [wrap_id]
    refine bsl_of (ys := [I (i : Int)]) rfl rfl ?_
    simp -implicitDefEqProofs (disch := omega) [wrap_id, zrep]
    refine app_row c2.row (by omega) fun ws w1 w2 w3 => ?_
    simp -implicitDefEqProofs (disch := omega) [wrap_id]
    rw [hK0]
    refine next_eq (i + 1, .ms H.length 0 (i + 1) 1, writeL H ws) ⟨by simp only; omega, .inr ⟨H.length, ?_, ?_, ?_⟩, ?_, ?_⟩ (by simp only; omega) (by simp only [ix, tl])
    · rw [plcL_len]
    · simp only [tk]; simp
    · simp only [tk]; exact w3
    · rw [w1 0 l0 c4]; exact c3
    · simp only [rid]; intro e; injection e; omega
  · have hir : i = n := by simp at h; omega
    subst hir
    subst hK0
    simp -implicitDefEqProofs (disch := omega) [wrap_id]
    exact out_acc c2
end Go.AM

set_option linter.unusedSimpArgs false
set_option linter.unusedVariables false
namespace Go.AM
open Go.RowKit Go.Proofs
def Cur (hp : List HObj) (x : AV) (l : List Int) : Prop := (∃ id, 0 < id ∧ x = .ms id 0 l.length 1 ∧ nthH hp id = some (.cells (l.map fun n => I n))) ∨ x = Ls false l
set_option maxHeartbeats 1000000 in
theorem r_All_ok (g f h : Bool) {b : OB} {n : Nat} (hb : Okb b n) (r l : List Int) (hr : r.length = n) (hl : LsO b l) (hll : l.length ≤ 1000000) : PureOK Tryz.prog n_r_All [On g b, Ls f r, Ls h l] (Ls false (allI b l r)) := by
  have h6 := hb.hi
  have h2 := hb.lo
  refine pure_of (walk func_r_All form_r_All res_r_All (by show 3 ≤ _; decide) ?_)
  simp -implicitDefEqProofs (disch := omega) [G_r_All, wrap_id]
  refine bsl_of rfl rfl ?_
  simp -implicitDefEqProofs (disch := omega) [wrap_id, zrep]
  refine ⟨⟨by omega, by omega⟩, ?_⟩
  refine loop_eq (fun q : Nat × AV × List HObj => ⟨[(2, Ls h l), (3, .ref 0 0), (7, q.2.1), (8, I (q.1 : Int))], q.2.2⟩) (fun q => q.1 ≤ l.length ∧ nthH q.2.2 0 = some (.cells [I b.P, LLs g b.s]) ∧ Cur q.2.2 q.2.1 (allI b (l.take q.1) r)) (fun q => l.length - q.1) (0, .ms 1 0 r.length 1, [.cells [I b.P, LLs g b.s], .cells (r.map fun n => I n)]) ⟨Nat.zero_le _, rfl, .inl ⟨1, by omega, rfl, rfl⟩⟩ rfl ?_
  rintro ⟨i, x, H⟩ ⟨c1, c2, c3⟩
  simp only at c1 c2 c3 ⊢
  have l0 := nthH_lt c2
  refine hideK' fun K0 hK0 => ?_
  simp -implicitDefEqProofs (disch := omega) [wrap_id]
  refine c_split (fun hc => ?_) (fun hc => ?_)
  · have hi : i < l.length := by simp at hc; omega
    have ix : ((i : Int) + 1) = ((i + 1 : Nat) : Int) := by omega
    obtain ⟨b1, b2⟩ := hl l[i] (List.getElem_mem hi)
    obtain ⟨k, hk⟩ : ∃ k : Nat, l[i] = k := ⟨l[i].toNat, by omega⟩
    have hks : k < b.s.length := by omega
    have pk := hb.at hks
    have cl : (allI b (l.take i) r).length = n := allI_len hb (fun s hs => hl s (List.mem_of_mem_take hs)) hr
    have sn := allI_snoc (b := b) (r := r) hi
    rw [hk, Int.toNat_natCast, S_getD hks] at sn
    have af := r_After_ok b.s[k].1 false b.s[k].2 (allI b (l.take i) r) (by omega) (by rw [cl]; exact pk.len) (fun x hx => by rw [cl]; exact pk.rng x hx)
    rw [← sn] at af
    have cl2 : (allI b (l.take (i + 1)) r).length = n := by rw [sn, aft_len]; exact pk.len
    have ne : (allI b (l.take (i + 1)) r).isEmpty = false := by
      cases hq : allI b (l.take (i + 1)) r with
      | nil => rw [hq] at cl2; simp at cl2; omega
      | cons => rfl
    rw [ne] at af
    rcases c3 with ⟨id, hid, rfl, hm⟩ | rfl
    · have lid := nthH_lt hm
      simp -implicitDefEqProofs (disch := omega) [wrap_id, c2, hi, hk, hks, cells_ls, cells_lls]
      refine pureW_of (purifyAll2 ls_pur (ms_pur hm rfl)) af ?_
      simp -implicitDefEqProofs (disch := omega) [wrap_id, cmp2, nthT]
      have e : ¬ id = 0 := by omega
      simp only [lid, if_true]
      rw [hK0]
      refine next_eq (i + 1, Ls false (allI b (l.take (i + 1)) r), H.set id .gone) ⟨by simp only; omega, (by simp only; rw [nthH_set_ne e]; exact c2), .inr rfl⟩ (by simp only; omega) (by simp only [ix])
    · simp -implicitDefEqProofs (disch := omega) [wrap_id, c2, hi, hk, hks, cells_ls, cells_lls]
      refine pureW_of (purifyAll2 ls_pur ls_pur) af ?_
      simp -implicitDefEqProofs (disch := omega) [wrap_id, cmp2, nthT]
      rw [hK0]
      exact next_eq (i + 1, Ls false (allI b (l.take (i + 1)) r), H) ⟨by simp only; omega, c2, .inr rfl⟩ (by simp only; omega) (by simp only [ix])
  · have hi : i = l.length := by simp at hc; omega
    subst hi
    subst hK0
    rw [List.take_length] at c3
    simp -implicitDefEqProofs (disch := omega) [wrap_id]
    rcases c3 with ⟨id, hid, rfl, hm⟩ | rfl
    · exact out_of (ms_pur hm rfl)
    · exact out_of ls_pur
end Go.AM

set_option linter.unusedSimpArgs false
set_option linter.unusedVariables false
namespace Go.AM
open Go.RowKit Go.Proofs
set_option maxHeartbeats 1000000 in
theorem r_Draw_ok (g f h : Bool) (b : OB) (hz : SzO b) (r l : List Int) (hr : r.length ≤ 1000000) (hl : l.length ≤ 1000000) : PureOK Tryz.prog n_r_Draw [On g b, Ls f r, Ls h l] (.tup [Ls (drwL b r l).isEmpty (drwL b r l), I (drwE b r l)]) := by
  refine pure_of (walk func_r_Draw form_r_Draw res_r_Draw (by show 3 ≤ _; decide) ?_)
  simp -implicitDefEqProofs (disch := omega) [G_r_Draw, wrap_id]
  refine callW_pure rfl (r_CheckBench_ok g b hz.many hz.len) ?_
  by_cases h0 : chkO b = 0
  · obtain ⟨n, hb⟩ := okb_of h0
    simp -implicitDefEqProofs (disch := omega) [wrap_id, h0]
    refine callW_pure rfl (r_IsRow_ok g f b r hr) ?_
    cases h1 : rowO b r with
    | true =>
      simp -implicitDefEqProofs (disch := omega) [wrap_id, h1]
      refine callW_pure rfl (r_IsList_ok g h b l hl) ?_
      by_cases h2 : lstO b l = 0
      · obtain ⟨q1, q2⟩ := lstO_ok h2
        have e1 : drwE b r l = 0 := by unfold drwE; rw [if_neg (by omega), h1, h2]; rfl
        have e2 : drwL b r l = allI b l r := by unfold drwL; rw [if_pos e1]
        have hrn := rowO_len hb h1
        rw [e1, e2, ne_emp (allI_len hb q1 hrn) (by have := hb.lo; omega)]
        simp -implicitDefEqProofs (disch := omega) [wrap_id, h2]
        refine callW_pure rfl (r_All_ok g f h hb r l hrn q1 hl) ?_
        simp -implicitDefEqProofs (disch := omega) [wrap_id]
        exact tup_ls
      · have e1 : drwE b r l = lstO b l := by unfold drwE; rw [if_neg (by omega), h1]; rfl
        have e2 : drwL b r l = [] := by unfold drwL; rw [if_neg (by rw [e1]; exact h2)]
        have h2' : (lstO b l != 0) = true := by simpa using h2
        simp -implicitDefEqProofs (disch := omega) [wrap_id, h2']
        refine callW_pure rfl (r_IsList_ok g h b l hl) ?_
        simp -implicitDefEqProofs (disch := omega) [wrap_id, e1, e2]
        exact tup_ls (l := [])
    | false =>
      have e1 : drwE b r l = 2 := by unfold drwE; rw [if_neg (by omega), if_pos h1]
      have e2 : drwL b r l = [] := by unfold drwL; rw [if_neg (by rw [e1]; decide)]
      simp -implicitDefEqProofs (disch := omega) [wrap_id, h1, e1, e2]
      exact tup_ls (l := [])
  · have e1 : drwE b r l = chkO b := by unfold drwE; rw [if_pos h0]
    have e2 : drwL b r l = [] := by unfold drwL; rw [if_neg (by rw [e1]; exact h0)]
    have h0' : (chkO b != 0) = true := by simpa using h0
    simp -implicitDefEqProofs (disch := omega) [wrap_id, h0']
    refine callW_pure rfl (r_CheckBench_ok g b hz.many hz.len) ?_
    simp -implicitDefEqProofs (disch := omega) [wrap_id, e1, e2]
    exact tup_ls (l := [])
set_option maxHeartbeats 1000000 in
theorem r_Joint_ok (g h : Bool) (b : OB) (hz : SzO b) (l : List Int) (hl : l.length ≤ 1000000) : PureOK Tryz.prog n_r_Joint [On g b, Ls h l] (.tup [Ls (jntL b l).isEmpty (jntL b l), I (jntE b l)]) := by
  refine pure_of (walk func_r_Joint form_r_Joint res_r_Joint (by show 2 ≤ _; decide) ?_)
  simp -implicitDefEqProofs (disch := omega) [G_r_Joint, wrap_id]
  refine callW_pure rfl (r_CheckBench_ok g b hz.many hz.len) ?_
  by_cases h0 : chkO b = 0
  · obtain ⟨n, hb⟩ := okb_of h0
    simp -implicitDefEqProofs (disch := omega) [wrap_id, h0]
    refine callW_pure rfl (r_IsList_ok g h b l hl) ?_
    by_cases h2 : lstO b l = 0
    · obtain ⟨q1, q2⟩ := lstO_ok h2
      have eP : b.P.toNat = n := by have := hb.P; omega
      have e1 : jntE b l = 0 := by unfold jntE; rw [if_neg (by omega), h2]
      have e2 : jntL b l = allI b l (plcL n) := by unfold jntL; rw [if_pos e1, eP]
      rw [e1, e2, ne_emp (allI_len hb q1 plcL_len) (by have := hb.lo; omega)]
      simp -implicitDefEqProofs (disch := omega) [wrap_id, h2]
      refine pureW_of rfl (r_Places_ok g b n hb.P hb.hi) ?_
      simp -implicitDefEqProofs (disch := omega) [wrap_id]
      refine pureW_of rfl (r_All_ok g _ h hb (plcL n) l plcL_len q1 hl) ?_
      simp -implicitDefEqProofs (disch := omega) [wrap_id, cmp2, nthT]
      exact tup_ls
    · have e1 : jntE b l = lstO b l := by unfold jntE; rw [if_neg (by omega)]
      have e2 : jntL b l = [] := by unfold jntL; rw [if_neg (by rw [e1]; exact h2)]
      have h2' : (lstO b l != 0) = true := by simpa using h2
      simp -implicitDefEqProofs (disch := omega) [wrap_id, h2']
      refine callW_pure rfl (r_IsList_ok g h b l hl) ?_
      simp -implicitDefEqProofs (disch := omega) [wrap_id, e1, e2]
      exact tup_ls (l := [])
  · have e1 : jntE b l = chkO b := by unfold jntE; rw [if_pos h0]
    have e2 : jntL b l = [] := by unfold jntL; rw [if_neg (by rw [e1]; exact h0)]
    have h0' : (chkO b != 0) = true := by simpa using h0
    simp -implicitDefEqProofs (disch := omega) [wrap_id, h0']
    refine callW_pure rfl (r_CheckBench_ok g b hz.many hz.len) ?_
    simp -implicitDefEqProofs (disch := omega) [wrap_id, e1, e2]
    exact tup_ls (l := [])
set_option maxHeartbeats 2000000 in
theorem r_Same_ok (g h k : Bool) (b : OB) (hz : SzO b) (l m : List Int) (hl : l.length ≤ 1000000) (hm : m.length ≤ 1000000) : PureOK Tryz.prog n_r_Same [On g b, Ls h l, Ls k m] (I (smeE b l m)) := by
  refine pure_of (walk func_r_Same form_r_Same res_r_Same (by show 3 ≤ _; decide) ?_)
  simp -implicitDefEqProofs (disch := omega) [G_r_Same, wrap_id]
  refine callW_pure rfl (r_CheckBench_ok g b hz.many hz.len) ?_
  by_cases h0 : chkO b = 0
  · obtain ⟨n, hb⟩ := okb_of h0
    have eP : b.P.toNat = n := by have := hb.P; omega
    simp -implicitDefEqProofs (disch := omega) [wrap_id, h0]
    by_cases h1 : 720 < l.length
    · have h1' : (720 : Int) < l.length := by omega
      have e : smeE b l m = 6 := by unfold smeE; rw [if_neg (by omega), if_pos (.inl h1)]
      simp -implicitDefEqProofs (disch := omega) [wrap_id, h1', e]
    have h1' : ¬ (720 : Int) < l.length := by omega
    by_cases h2 : 720 < m.length
    · have h2' : (720 : Int) < m.length := by omega
      have e : smeE b l m = 6 := by unfold smeE; rw [if_neg (by omega), if_pos (.inr h2)]
      simp -implicitDefEqProofs (disch := omega) [wrap_id, h1', h2', e]
    have h2' : ¬ (720 : Int) < m.length := by omega
    simp -implicitDefEqProofs (disch := omega) [wrap_id, h1', h2']
    refine callW_pure rfl (r_IsList_ok g h b l hl) ?_
    by_cases h3 : lstO b l = 0
    · simp -implicitDefEqProofs (disch := omega) [wrap_id, h3]
      refine callW_pure rfl (r_IsList_ok g k b m hm) ?_
      by_cases h4 : lstO b m = 0
      · obtain ⟨q1, q2⟩ := lstO_ok h3
        obtain ⟨q3, q4⟩ := lstO_ok h4
        have a1 := allI_len hb q1 (r := plcL n) plcL_len
        have a2 := allI_len hb q3 (r := plcL n) plcL_len
        have h6 := hb.hi
        simp -implicitDefEqProofs (disch := omega) [wrap_id, h4]
        refine pureW_of rfl (r_Places_ok g b n hb.P hb.hi) ?_
        simp -implicitDefEqProofs (disch := omega) [wrap_id]
        refine pureW_of rfl (r_All_ok g _ h hb (plcL n) l plcL_len q1 hl) ?_
        simp -implicitDefEqProofs (disch := omega) [wrap_id]
        refine pureW_of rfl (r_Places_ok g b n hb.P hb.hi) ?_
        simp -implicitDefEqProofs (disch := omega) [wrap_id]
        refine pureW_of rfl (r_All_ok g _ k hb (plcL n) m plcL_len q3 hm) ?_
        simp -implicitDefEqProofs (disch := omega) [wrap_id]
        refine pureW_of rfl (r_Equal_ok _ _ (allI b l (plcL n)) (allI b m (plcL n)) (by omega) (by omega)) ?_
        by_cases h5 : allI b l (plcL n) = allI b m (plcL n)
        · have e : smeE b l m = 0 := by unfold smeE; rw [if_neg (by omega), if_neg (by omega), if_neg (by omega), eP, if_pos h5]
          simp -implicitDefEqProofs (disch := omega) [wrap_id, cmp2, nthT, h5, e]
        · have e : smeE b l m = 18 := by unfold smeE; rw [if_neg (by omega), if_neg (by omega), if_neg (by omega), eP, if_neg h5]
          simp -implicitDefEqProofs (disch := omega) [wrap_id, cmp2, nthT, h5, e]
      · have e : smeE b l m = 3 := by unfold smeE; rw [if_neg (by omega), if_neg (by omega), if_pos (.inr h4)]
        have h4' : (lstO b m != 0) = true := by simpa using h4
        simp -implicitDefEqProofs (disch := omega) [wrap_id, h4', e]
    · have e : smeE b l m = 3 := by unfold smeE; rw [if_neg (by omega), if_neg (by omega), if_pos (.inl h3)]
      have h3' : (lstO b l != 0) = true := by simpa using h3
      simp -implicitDefEqProofs (disch := omega) [wrap_id, h3', e]
  · have e1 : smeE b l m = chkO b := by unfold smeE; rw [if_pos h0]
    have h0' : (chkO b != 0) = true := by simpa using h0
    simp -implicitDefEqProofs (disch := omega) [wrap_id, h0']
    refine callW_pure rfl (r_CheckBench_ok g b hz.many hz.len) ?_
    simp -implicitDefEqProofs (disch := omega) [wrap_id, e1]
end Go.AM

set_option linter.unusedSimpArgs false
set_option linter.unusedVariables false
namespace Go.AM
open Go.RowKit Go.Proofs
theorem pwr_len {j : List Int} {n : Nat} (h : j.length = n) : ∀ m, (pwr j m).length = n
  | 0 => by simp [pwr, plcL_len, h]
  | m + 1 => by simp [pwr, aft_len, h]
set_option maxHeartbeats 1000000 in
theorem r_Round_ok (g h : Bool) (b : OB) (hz : SzO b) (l : List Int) (hl : l.length ≤ 1000000) : PureOK Tryz.prog n_r_Round [On g b, Ls h l] (.tup [I (rndV b l), I (jntE b l)]) := by
  refine pure_of (walk func_r_Round form_r_Round res_r_Round (by show 2 ≤ _; decide) ?_)
  simp -implicitDefEqProofs (disch := omega) [G_r_Round, wrap_id]
  refine callW_pure rfl (r_Joint_ok g h b hz l hl) ?_
  by_cases h0 : jntE b l = 0
  · obtain ⟨n, hb, q1, q2, e, pm⟩ := jnt_pm h0
    have hlen := pm.len
    have h6 := hb.hi
    have h2 := hb.lo
    have ne := ne_emp hlen (by omega)
    have ok := ord_ok h2 h6 pm
    have ev : rndV b l = (ordN (jntL b l) : Int) := by unfold rndV; rw [if_pos h0]
    rw [ev]
    generalize jntL b l = j at *
    have p1 : (plcL n).isEmpty = false := ne_emp plcL_len (by omega)
    have pn : ∀ m, (pwr j m).isEmpty = false := fun m => ne_emp (pwr_len hlen m) (by omega)
    have a0 := fun f => r_After_ok false f j (plcL n) (by rw [plcL_len]; omega) (by rw [plcL_len]; exact hlen) (fun x hx => by rw [plcL_len]; exact pm.rng x hx)
    have ej : aft j (plcL n) = pwr j 1 := by simp [pwr, hlen]
    simp only [ej, pn] at a0
    simp -implicitDefEqProofs (disch := omega) [wrap_id, h0, ne]
    refine callW_pure rfl (r_Places_ok g b n hb.P hb.hi) ?_
    simp -implicitDefEqProofs (disch := omega) [wrap_id]
    refine callW_pure rfl (a0 _) ?_
    simp -implicitDefEqProofs (disch := omega) [wrap_id]
    refine loop_eq (fun m : Nat => ⟨[(2, .ref 0 0), (6, Ls false j), (8, Ls false (pwr j m)), (9, I (m : Int))], [.cells [I b.P, LLs g b.s]]⟩) (fun m => 1 ≤ m ∧ m ≤ ordN j) (fun m => 7 - m) 1 ⟨by omega, ok.lo⟩ rfl ?_
    rintro m ⟨m1, m2⟩
    have m6 := ok.hi
    refine hideK' fun K0 hK0 => ?_
    simp -implicitDefEqProofs (disch := omega) [wrap_id]
    refine callW_pure rfl (r_Places_ok g b n hb.P hb.hi) ?_
    simp -implicitDefEqProofs (disch := omega) [wrap_id]
    have pl := pwr_len hlen m
    refine callW_pure rfl (r_Equal_ok _ _ (pwr j m) (plcL n) (by omega) (by rw [plcL_len]; omega)) ?_
    by_cases hm : m = ordN j
    · have e1 : pwr j m = plcL n := by rw [hm, ok.id, hlen]
      subst hK0
      simp -implicitDefEqProofs (disch := omega) [wrap_id, e1]
      subst hm
      exact out_of (is := []) rfl
    · have e1 : ¬ pwr j m = plcL n := fun e => ok.least m m1 (by omega) (by rw [hlen]; exact e)
      have a1 := r_After_ok false false j (pwr j m) (by omega) (by omega) (fun x hx => by rw [pl]; exact pm.rng x hx)
      have mx : ((m : Int) + 1) = ((m + 1 : Nat) : Int) := by omega
      rw [show aft j (pwr j m) = pwr j (m + 1) from rfl, pn] at a1
      simp -implicitDefEqProofs (disch := omega) [wrap_id, e1]
      refine callW_pure rfl a1 ?_
      simp -implicitDefEqProofs (disch := omega) [wrap_id]
      rw [hK0]
      exact next_eq (m + 1) ⟨by omega, by omega⟩ (by omega) (by simp only [mx])
  · have ev : rndV b l = 0 := by unfold rndV; rw [if_neg h0]
    have h0' : (jntE b l != 0) = true := by simpa using h0
    simp -implicitDefEqProofs (disch := omega) [wrap_id, h0', ev]
    exact out_of (is := []) rfl
end Go.AM

set_option maxRecDepth 100000
namespace Go.AM
open Go.RowKit Go.Proofs
abbrev n_l_OrderBenches : Nat := 3
def G_l_OrderBenches : AC := (.seq (.rgn [⟨none, [(.box 4 2 (.t 0)), (.mv 8 (.k (B false)))]⟩] [1, 2, 3, 4]) (.seq (.seq (.rgn [⟨none, [(.ld 21 true 2 (.t 4)), (.call 22 13 [(.t 21)]), (.mv 23 (.t 22))]⟩, ⟨(some (23, false)), [(.mv 24 (.t 1)), (.call 25 14 [(.t 24)])]⟩, ⟨none, [(.pick 26 (.t 23) (.k (B true)) (.t 25)), (.mv 27 (.t 26))]⟩, ⟨(some (27, false)), [(.mv 28 (.t 2)), (.call 29 15 [(.t 28)])]⟩, ⟨none, [(.pick 30 (.t 27) (.k (B true)) (.t 29)), (.mv 31 (.t 30))]⟩, ⟨(some (31, false)), [(.mv 32 (.t 3)), (.call 33 15 [(.t 32)])]⟩, ⟨none, [(.pick 34 (.t 31) (.k (B true)) (.t 33))]⟩] [1, 2, 3, 4, 34]) (.cond (.t 34) (.seq (.rgn [⟨none, [(.call 35 16 []), (.mv 8 (.t 35))]⟩] [8]) .ret) .skip)) (.seq (.rgn [⟨none, [(.ld 37 true 2 (.t 4)), (.mv 38 (.t 1)), (.mv 39 (.t 2)), (.call 40 17 [(.t 37), (.t 38), (.t 39)]), (.mv 36 (.t 40)), (.ext 41 (.t 36) 0), (.ext 42 (.t 36) 1), (.mv 9 (.t 41)), (.mv 10 (.t 42))]⟩] [1, 2, 3, 4, 9, 10]) (.seq (.rgn [⟨none, [(.ld 44 true 2 (.t 4)), (.mv 45 (.t 1)), (.mv 46 (.t 2)), (.call 47 18 [(.t 44), (.t 45), (.t 46)]), (.mv 43 (.t 47)), (.ext 48 (.t 43) 0), (.ext 49 (.t 43) 1), (.mv 11 (.t 48)), (.mv 12 (.t 49))]⟩] [2, 3, 4, 9, 10, 11, 12]) (.seq (.rgn [⟨none, [(.ld 51 true 2 (.t 4)), (.mv 52 (.t 2)), (.call 53 19 [(.t 51), (.t 52)]), (.mv 50 (.t 53)), (.ext 54 (.t 50) 0), (.ext 55 (.t 50) 1), (.mv 13 (.t 54)), (.mv 14 (.t 55))]⟩] [2, 3, 4, 9, 10, 11, 12, 13, 14]) (.seq (.rgn [⟨none, [(.ld 57 true 2 (.t 4)), (.mv 58 (.t 2)), (.call 59 20 [(.t 57), (.t 58)]), (.mv 56 (.t 59)), (.ext 60 (.t 56) 0), (.ext 61 (.t 56) 1), (.mv 15 (.t 60)), (.mv 16 (.t 61))]⟩] [2, 3, 4, 9, 10, 11, 12, 13, 14, 15, 16]) (.seq (.rgn [⟨none, [(.ld 63 true 2 (.t 4)), (.mv 64 (.t 2)), (.call 65 21 [(.t 63), (.t 64)]), (.mv 62 (.t 65)), (.ext 66 (.t 62) 0), (.ext 67 (.t 62) 1), (.mv 17 (.t 66)), (.mv 18 (.t 67))]⟩] [2, 3, 4, 9, 10, 11, 12, 13, 14, 15, 16, 17, 18]) (.seq (.rgn [⟨none, [(.ld 69 true 2 (.t 4)), (.mv 70 (.t 2)), (.call 71 22 [(.t 69), (.t 70)]), (.mv 68 (.t 71)), (.ext 72 (.t 68) 0), (.ext 73 (.t 68) 1), (.mv 19 (.t 72)), (.mv 20 (.t 73))]⟩] [2, 3, 4, 9, 10, 11, 12, 13, 14, 15, 16, 17, 18, 19, 20]) (.seq (.drw [⟨none, [(.ld 74 true 2 (.t 4)), (.call 75 23 [(.t 74)]), (.ld 76 true 2 (.t 4)), (.call 77 24 [(.t 76)]), (.bin 78 .eql (.t 75) (.t 77)), (.mv 79 (.t 78))]⟩, ⟨(some (79, true)), [(.mv 80 (.t 9)), (.mv 81 (.t 11)), (.call 82 25 [(.t 80), (.t 81)])]⟩, ⟨none, [(.pick 83 (.t 79) (.t 82) (.k (B false))), (.mv 84 (.t 83))]⟩, ⟨(some (84, true)), [(.mv 85 (.t 10)), (.mv 86 (.t 12)), (.bin 87 .eql (.t 85) (.t 86))]⟩, ⟨none, [(.pick 88 (.t 84) (.t 87) (.k (B false))), (.mv 89 (.t 88))]⟩, ⟨(some (89, true)), [(.mv 90 (.t 13)), (.mv 91 (.t 15)), (.call 92 25 [(.t 90), (.t 91)])]⟩, ⟨none, [(.pick 93 (.t 89) (.t 92) (.k (B false))), (.mv 94 (.t 93))]⟩, ⟨(some (94, true)), [(.mv 95 (.t 14)), (.mv 96 (.t 16)), (.bin 97 .eql (.t 95) (.t 96))]⟩, ⟨none, [(.pick 98 (.t 94) (.t 97) (.k (B false))), (.mv 99 (.t 98))]⟩, ⟨(some (99, true)), [(.mv 100 (.t 17)), (.mv 101 (.t 19)), (.bin 102 .eql (.t 100) (.t 101))]⟩, ⟨none, [(.pick 103 (.t 99) (.t 102) (.k (B false))), (.mv 104 (.t 103))]⟩, ⟨(some (104, true)), [(.mv 105 (.t 18)), (.mv 106 (.t 20)), (.bin 107 .eql (.t 105) (.t 106))]⟩, ⟨none, [(.pick 108 (.t 104) (.t 107) (.k (B false))), (.mv 109 (.t 108))]⟩, ⟨(some (109, true)), [(.ld 110 true 2 (.t 4)), (.mv 111 (.t 2)), (.mv 112 (.t 3)), (.call 113 26 [(.t 110), (.t 111), (.t 112)]), (.ld 114 true 2 (.t 4)), (.mv 115 (.t 2)), (.mv 116 (.t 3)), (.call 117 27 [(.t 114), (.t 115), (.t 116)]), (.bin 118 .eql (.t 113) (.t 117))]⟩, ⟨none, [(.pick 119 (.t 109) (.t 118) (.k (B false))), (.mv 120 (.t 119))]⟩, ⟨(some (120, true)), [(.call 121 16 [])]⟩, ⟨none, [(.pick 122 (.t 120) (.t 121) (.k (B false))), (.mv 8 (.t 122))]⟩] [(0, 2), (1, 2), (36, 40), (39, 40)] [8]) .ret)))))))))
theorem func_l_OrderBenches : Tryz.prog.funcs[n_l_OrderBenches]? = some Tryz.f3 := Tryz.func3
theorem form_l_OrderBenches : formOf Tryz.prog Tryz.f3 [8] = some G_l_OrderBenches := by kernel_rfl
theorem res_l_OrderBenches : resTmps Tryz.f3.results.toList = some [8] := by kernel_rfl
abbrev n_l_great : Nat := 13
def G_l_great : AC := (.seq (.rgn [⟨none, [(.box 1 2 (.t 0)), (.mv 2 (.k (B false)))]⟩] [1]) (.seq (.seq (.rgn [⟨none, [(.fa 4 (.t 1) 1), (.ld 5 false 1 (.t 4)), (.len 6 (.t 5)), (.bin 7 .gtr (.t 6) (.k (I 10)))]⟩] [1, 7]) (.cond (.t 7) (.seq (.rgn [⟨none, [(.mv 2 (.k (B true)))]⟩] [2]) .ret) .skip)) (.seq (.seq (.rgn [⟨none, [(.mv 3 (.k (I 0)))]⟩] [1, 3]) (.block 0 (.loop (.seq (.seq (.rgn [⟨none, [(.mv 8 (.t 3)), (.fa 9 (.t 1) 1), (.ld 10 false 1 (.t 9)), (.len 11 (.t 10)), (.bin 12 .lss (.t 8) (.t 11))]⟩] [1, 3, 12]) (.cond (.t 12) .skip (.exit 0))) (.seq (.block 1 (.seq (.rgn [⟨none, [(.fa 15 (.t 1) 1), (.ld 16 false 1 (.t 15)), (.mv 17 (.t 3)), (.ia 18 1 (.t 16) (.t 17)), (.ld 19 false 1 (.t 18)), (.len 20 (.t 19)), (.bin 21 .gtr (.t 20) (.k (I 10)))]⟩] [1, 3, 21]) (.cond (.t 21) (.seq (.rgn [⟨none, [(.mv 2 (.k (B true)))]⟩] [2]) .ret) .skip))) (.rgn [⟨none, [(.mv 13 (.t 3)), (.bin 14 .add (.t 13) (.k (I 1))), (.mv 3 (.t 14))]⟩] [1, 3])))))) (.seq (.rgn [⟨none, [(.mv 2 (.k (B false)))]⟩] [2]) .ret))))
theorem func_l_great : Tryz.prog.funcs[n_l_great]? = some Tryz.f13 := Tryz.func13
theorem form_l_great : formOf Tryz.prog Tryz.f13 [2] = some G_l_great := by kernel_rfl
theorem res_l_great : resTmps Tryz.f13.results.toList = some [2] := by kernel_rfl
abbrev n_l_long : Nat := 14
def G_l_long : AC := (.seq (.rgn [⟨none, [(.mv 2 (.k (B false)))]⟩] [0]) (.seq (.rgn [⟨none, [(.mv 3 (.t 0)), (.len 4 (.t 3)), (.bin 5 .gtr (.t 4) (.k (I 10))), (.mv 2 (.t 5))]⟩] [2]) .ret))
theorem func_l_long : Tryz.prog.funcs[n_l_long]? = some Tryz.f14 := Tryz.func14
theorem form_l_long : formOf Tryz.prog Tryz.f14 [2] = some G_l_long := by kernel_rfl
theorem res_l_long : resTmps Tryz.f14.results.toList = some [2] := by kernel_rfl
abbrev n_l_drawn : Nat := 15
def G_l_drawn : AC := (.seq (.rgn [⟨none, [(.mv 2 (.k (B false)))]⟩] [0]) (.seq (.rgn [⟨none, [(.mv 3 (.t 0)), (.len 4 (.t 3)), (.bin 5 .gtr (.t 4) (.k (I 60))), (.mv 6 (.t 5))]⟩, ⟨(some (6, true)), [(.mv 7 (.t 0)), (.len 8 (.t 7)), (.bin 9 .leq (.t 8) (.k (I 720)))]⟩, ⟨none, [(.pick 10 (.t 6) (.t 9) (.k (B false))), (.mv 11 (.t 10))]⟩, ⟨(some (11, false)), [(.mv 12 (.t 0)), (.len 13 (.t 12)), (.bin 14 .gtr (.t 13) (.k (I 730)))]⟩, ⟨none, [(.pick 15 (.t 11) (.k (B true)) (.t 14)), (.mv 2 (.t 15))]⟩] [2]) .ret))
theorem func_l_drawn : Tryz.prog.funcs[n_l_drawn]? = some Tryz.f15 := Tryz.func15
theorem form_l_drawn : formOf Tryz.prog Tryz.f15 [2] = some G_l_drawn := by kernel_rfl
theorem res_l_drawn : resTmps Tryz.f15.results.toList = some [2] := by kernel_rfl
end Go.AM

set_option linter.unusedSimpArgs false
set_option linter.unusedVariables false
namespace Go.AM
open Go.RowKit Go.Proofs
def grtO (b : OB) : Bool := decide (10 < b.s.length) || b.s.any fun p => decide (10 < p.2.length)
theorem l_great_ok (g : Bool) (b : OB) (hb : b.s.length ≤ 9223372036854775807) (hz : ∀ p ∈ b.s, p.2.length ≤ 9223372036854775807) : PureOK Tryz.prog n_l_great [On g b] (B (grtO b)) := by
  refine pure_of (walk func_l_great form_l_great res_l_great (by show 1 ≤ _; decide) ?_)
  simp -implicitDefEqProofs (disch := omega) [G_l_great, wrap_id]
  by_cases h : 10 < b.s.length
  · have h' : (10 : Int) < b.s.length := by omega
    have e : grtO b = true := by simp [grtO, h]
    rw [e]
    simp -implicitDefEqProofs (disch := omega) [wrap_id, h']
  · have h' : ¬ (10 : Int) < b.s.length := by omega
    have e0 : grtO b = b.s.any fun p => decide (10 < p.2.length) := by simp [grtO, h]
    generalize grtO b = E at e0 ⊢
    simp -implicitDefEqProofs (disch := omega) [wrap_id, h']
    refine loop_eq (fun i : Nat => ⟨[(1, .ref 0 0), (3, I (i : Int))], [.cells [I b.P, LLs g b.s]]⟩) (fun i => i ≤ b.s.length ∧ ∀ k (hk : k < b.s.length), k < i → ¬ 10 < b.s[k].2.length) (fun i => b.s.length - i) 0 ⟨by omega, fun k hk h => by omega⟩ rfl ?_
    rintro i ⟨hi, he⟩
    refine hideK' fun K0 hK0 => ?_
    simp -implicitDefEqProofs (disch := omega) [wrap_id]
    refine c_split (fun hc => ?_) (fun hc => ?_)
    · have h1 : i < b.s.length := by simp at hc; omega
      have ix : ((i : Int) + 1) = ((i + 1 : Nat) : Int) := by omega
      have z1 := hz _ (List.getElem_mem h1)
      by_cases e : 10 < b.s[i].2.length
      · have e' : (10 : Int) < b.s[i].2.length := by omega
        have : (b.s.any fun p => decide (10 < p.2.length)) = true := List.any_eq_true.2 ⟨_, List.getElem_mem h1, by simpa using e⟩
        rw [this] at e0
        subst e0
        subst hK0
        simp -implicitDefEqProofs (disch := omega) [wrap_id, cells_lls, h1, e']
      · have e' : ¬ (10 : Int) < b.s[i].2.length := by omega
        simp -implicitDefEqProofs (disch := omega) [wrap_id, cells_lls, h1, e']
        rw [hK0]
        refine next_eq (i + 1) ⟨by omega, fun k hk h2 => ?_⟩ (by omega) (by simp only [ix])
        by_cases ek : k = i
        · subst ek; exact e
        · exact he k hk (by omega)
    · have h1 : i = b.s.length := by simp at hc; omega
      have : (b.s.any fun p => decide (10 < p.2.length)) = false := by
        rw [List.any_eq_false]
        intro p hp
        obtain ⟨k, hk, rfl⟩ := List.getElem_of_mem hp
        simpa using he k hk (by omega)
      rw [this] at e0
      subst e0
      subst hK0
      simp -implicitDefEqProofs (disch := omega) [wrap_id]
theorem grt_sz {b : OB} (h : grtO b = false) : Sz12 b ∧ SzO b := by
  unfold grtO at h
  rw [Bool.or_eq_false_iff] at h
  have h1 : ¬ 10 < b.s.length := by simpa using h.1
  have h2 : ∀ p ∈ b.s, ¬ 10 < p.2.length := fun p hp => by simpa using List.any_eq_false.1 h.2 p hp
  exact ⟨⟨by omega, fun p hp => by have := h2 p hp; omega⟩, ⟨by omega, fun p hp => by have := h2 p hp; omega⟩⟩
theorem l_long_ok (f : Bool) (l : List Int) (hl : l.length ≤ 9223372036854775807) : PureOK Tryz.prog n_l_long [Ls f l] (B (decide (10 < l.length))) := by
  refine pure_of (walk func_l_long form_l_long res_l_long (by show 1 ≤ _; decide) ?_)
  by_cases h : 10 < l.length
  · have h' : (10 : Int) < l.length := by omega
    simp -implicitDefEqProofs (disch := omega) [G_l_long, wrap_id, h, h']
  · have h' : ¬ (10 : Int) < l.length := by omega
    simp -implicitDefEqProofs (disch := omega) [G_l_long, wrap_id, h, h']
theorem l_drawn_ok (f : Bool) (l : List Int) (hl : l.length ≤ 9223372036854775807) : PureOK Tryz.prog n_l_drawn [Ls f l] (B (decide (60 < l.length ∧ l.length ≤ 720 ∨ 730 < l.length))) := by
  refine pure_of (walk func_l_drawn form_l_drawn res_l_drawn (by show 1 ≤ _; decide) ?_)
  by_cases h : 60 < l.length
  · have h' : (60 : Int) < l.length := by omega
    by_cases h2 : l.length ≤ 720
    · have h2' : (l.length : Int) ≤ 720 := by omega
      simp -implicitDefEqProofs (disch := omega) [G_l_drawn, wrap_id, h, h', h2, h2']
    · have h2' : ¬ (l.length : Int) ≤ 720 := by omega
      by_cases h3 : 730 < l.length
      · have h3' : (730 : Int) < l.length := by omega
        simp -implicitDefEqProofs (disch := omega) [G_l_drawn, wrap_id, h, h', h2, h2', h3, h3']
      · have h3' : ¬ (730 : Int) < l.length := by omega
        simp -implicitDefEqProofs (disch := omega) [G_l_drawn, wrap_id, h, h', h2, h2', h3, h3']
  · have h' : ¬ (60 : Int) < l.length := by omega
    have h3 : ¬ 730 < l.length := by omega
    have h3' : ¬ (730 : Int) < l.length := by omega
    simp -implicitDefEqProofs (disch := omega) [G_l_drawn, wrap_id, h, h', h3, h3']
end Go.AM

set_option linter.unusedSimpArgs false
set_option linter.unusedVariables false
namespace Go.AM
open Go.RowKit Go.Proofs
theorem drw_ok {b : OB} {r l : List Int} (h : drwE b r l = 0) : ∃ n, Okb b n ∧ r.length = n ∧ rowO b r = true ∧ LsO b l ∧ l.length ≤ 720 ∧ drwL b r l = allI b l r ∧ (drwL b r l).length = n := by
  have h0 := h
  unfold drwE at h
  by_cases h1 : chkO b = 0
  · rw [if_neg (by omega)] at h
    obtain ⟨n, hb⟩ := okb_of h1
    by_cases h2 : rowO b r = false
    · rw [if_pos h2] at h; cases h
    · rw [if_neg h2] at h
      have h2' : rowO b r = true := by simpa using h2
      have lr := rowO_len hb h2'
      obtain ⟨a1, a2⟩ := lstO_ok h
      have e : drwL b r l = allI b l r := by unfold drwL; rw [if_pos h0]
      exact ⟨n, hb, lr, h2', a1, a2, e, by rw [e]; exact allI_len hb a1 lr⟩
  · rw [if_pos h1] at h; exact absurd h h1
theorem drw_le {b : OB} {r l : List Int} : (drwL b r l).length ≤ 6 := by
  by_cases h : drwE b r l = 0
  · obtain ⟨n, hb, _, _, _, _, _, e⟩ := drw_ok h
    have := hb.hi
    omega
  · unfold drwL; rw [if_neg h]; simp
theorem jnt_ok {b : OB} {l : List Int} (h : jntE b l = 0) : ∃ n, Okb b n ∧ LsO b l ∧ l.length ≤ 720 ∧ jntL b l = allI b l (plcL n) ∧ (jntL b l).length = n := by
  have h0 := h
  unfold jntE at h
  by_cases h1 : chkO b = 0
  · rw [if_neg (by omega)] at h
    obtain ⟨n, hb⟩ := okb_of h1
    obtain ⟨a1, a2⟩ := lstO_ok h
    have eP : b.P.toNat = n := by have := hb.P; omega
    have e : jntL b l = allI b l (plcL n) := by unfold jntL; rw [if_pos h0, eP]
    exact ⟨n, hb, a1, a2, e, by rw [e]; exact allI_len hb a1 plcL_len⟩
  · rw [if_pos h1] at h; exact absurd h h1
theorem jnt_le {b : OB} {l : List Int} : (jntL b l).length ≤ 6 := by
  by_cases h : jntE b l = 0
  · obtain ⟨n, hb, _, _, _, e⟩ := jnt_ok h
    have := hb.hi
    omega
  · unfold jntL; rw [if_neg h]; simp
set_option maxHeartbeats 4000000 in
theorem lawOrderBenches' (g f h k : Bool) (b : OB) (r one two : List Int) (hb : OBK b) (hr : r.length ≤ 9223372036854775807) (h1 : one.length ≤ 9223372036854775807) (h2 : two.length ≤ 9223372036854775807) :
    PureOK Tryz.prog n_l_OrderBenches [On g b, Ls f r, Ls h one, Ls k two] (B true) := by
  refine pure_of (walk func_l_OrderBenches form_l_OrderBenches res_l_OrderBenches (by show 4 ≤ _; decide) ?_)
  simp -implicitDefEqProofs (disch := omega) [G_l_OrderBenches, wrap_id]
  refine callW_pure rfl (l_great_ok g b hb.many hb.len) ?_
  cases hg : grtO b with
  | true =>
    simp -implicitDefEqProofs (disch := omega) [wrap_id]
    exact callW_pure rfl works_ok (by simp)
  | false =>
    obtain ⟨z1, z2⟩ := grt_sz hg
    simp -implicitDefEqProofs (disch := omega) [wrap_id]
    refine callW_pure rfl (l_long_ok f r hr) ?_
    by_cases a1 : 10 < r.length
    · rw [decide_eq_true a1]
      simp -implicitDefEqProofs (disch := omega) [wrap_id]
      exact callW_pure rfl works_ok (by simp)
    rw [decide_eq_false a1]
    simp -implicitDefEqProofs (disch := omega) [wrap_id]
    refine callW_pure rfl (l_drawn_ok h one h1) ?_
    by_cases a2 : 60 < one.length ∧ one.length ≤ 720 ∨ 730 < one.length
    · rw [decide_eq_true a2]
      simp -implicitDefEqProofs (disch := omega) [wrap_id]
      exact callW_pure rfl works_ok (by simp)
    rw [decide_eq_false a2]
    simp -implicitDefEqProofs (disch := omega) [wrap_id]
    refine callW_pure rfl (l_drawn_ok k two h2) ?_
    by_cases a3 : 60 < two.length ∧ two.length ≤ 720 ∨ 730 < two.length
    · rw [decide_eq_true a3]
      simp -implicitDefEqProofs (disch := omega) [wrap_id]
      exact callW_pure rfl works_ok (by simp)
    rw [decide_eq_false a3]
    simp -implicitDefEqProofs (disch := omega) [wrap_id]
    have dl := drw_le (b := b) (r := r) (l := one)
    have jl := jnt_le (b := b) (l := one)
    refine callW_pure rfl (o_Draw_ok g f h b z1 r one (by omega) (by omega)) ?_
    simp -implicitDefEqProofs (disch := omega) [wrap_id]
    refine callW_pure rfl (r_Draw_ok g f h b z2 r one (by omega) (by omega)) ?_
    simp -implicitDefEqProofs (disch := omega) [wrap_id]
    refine callW_pure rfl (o_Joint_ok g h b z1 one (by omega)) ?_
    simp -implicitDefEqProofs (disch := omega) [wrap_id]
    refine callW_pure rfl (r_Joint_ok g h b z2 one (by omega)) ?_
    simp -implicitDefEqProofs (disch := omega) [wrap_id]
    refine callW_pure rfl (o_Round_ok g h b z1 one (by omega)) ?_
    simp -implicitDefEqProofs (disch := omega) [wrap_id]
    refine callW_pure rfl (r_Round_ok g h b z2 one (by omega)) ?_
    simp -implicitDefEqProofs (disch := omega) [wrap_id]
    refine pureW_of rfl (o_CheckBench_ok g b z1.many z1.len) ?_
    simp -implicitDefEqProofs (disch := omega) [wrap_id, cmp2, nthT]
    refine pureW_of rfl (r_CheckBench_ok g b z2.many z2.len) ?_
    simp -implicitDefEqProofs (disch := omega) [wrap_id, cmp2, nthT]
    refine pureW_of rfl (l_ints_ok _ _ (drwL b r one) (drwL b r one) (by omega) (by omega)) ?_
    simp -implicitDefEqProofs (disch := omega) [wrap_id, cmp2, nthT]
    refine pureW_of rfl (l_ints_ok _ _ (jntL b one) (jntL b one) (by omega) (by omega)) ?_
    simp -implicitDefEqProofs (disch := omega) [wrap_id, cmp2, nthT]
    refine pureW_of rfl (o_Same_ok g h k b z1 one two (by omega) (by omega)) ?_
    simp -implicitDefEqProofs (disch := omega) [wrap_id, cmp2, nthT]
    refine pureW_of rfl (r_Same_ok g h k b z2 one two (by omega) (by omega)) ?_
    simp -implicitDefEqProofs (disch := omega) [wrap_id, cmp2, nthT]
    refine pureW_of rfl works_ok ?_
    simp -implicitDefEqProofs (disch := omega) [wrap_id, cmp2, nthT]
theorem lawOrderBenches (b : OB) (r one two : List Int) (hb : OBK b) (hr : LOK r) (h1 : LOK one) (h2 : LOK two) : PureOK Tryz.prog n_l_OrderBenches [On false b, Ls false r, Ls false one, Ls false two] (B true) := lawOrderBenches' _ _ _ _ b r one two hb hr.1 h1.1 h2.1
end Go.AM
