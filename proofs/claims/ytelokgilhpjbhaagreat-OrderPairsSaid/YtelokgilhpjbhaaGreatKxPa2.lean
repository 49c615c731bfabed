/-
  KxPa2: texts joined: FmOF Co1 Co2 Co7 Co9 Co10 Co11 FmOL Lo1 Lo5 Lo8. Own work.
-/
import Derived.Test.YtelokgilhpjbhaaGreatKxPa1
import Derived.Test.YtelokgilhpjbhaaGreatProg

set_option maxRecDepth 100000
namespace Go.AM
open Go.RowKit Go.Proofs
abbrev n_r_CheckBench : Nat := 24
def G_r_CheckBench : AC := (.seq (.rgn [⟨none, [(.box 1 2 (.t 0)), (.mv 2 (.k (I 0)))]⟩] [1]) (.seq (.seq (.rgn [⟨none, [(.fa 4 (.t 1) 0), (.ld 5 false 1 (.t 4)), (.bin 6 .lss (.t 5) (.k (I 2))), (.mv 7 (.t 6))]⟩, ⟨(some (7, false)), [(.fa 8 (.t 1) 0), (.ld 9 false 1 (.t 8)), (.bin 10 .gtr (.t 9) (.k (I 6)))]⟩, ⟨none, [(.pick 11 (.t 7) (.k (B true)) (.t 10))]⟩] [1, 11]) (.cond (.t 11) (.seq (.rgn [⟨none, [(.mv 2 (.k (I 2)))]⟩] [2]) .ret) .skip)) (.seq (.seq (.rgn [⟨none, [(.fa 12 (.t 1) 1), (.ld 13 false 1 (.t 12)), (.len 14 (.t 13)), (.bin 15 .gtr (.t 14) (.k (I 6)))]⟩] [1, 15]) (.cond (.t 15) (.seq (.rgn [⟨none, [(.mv 2 (.k (I 6)))]⟩] [2]) .ret) .skip)) (.seq (.seq (.rgn [⟨none, [(.mv 3 (.k (I 0)))]⟩] [1, 3]) (.block 0 (.loop (.seq (.seq (.rgn [⟨none, [(.mv 16 (.t 3)), (.fa 17 (.t 1) 1), (.ld 18 false 1 (.t 17)), (.len 19 (.t 18)), (.bin 20 .lss (.t 16) (.t 19))]⟩] [1, 3, 20]) (.cond (.t 20) .skip (.exit 0))) (.seq (.block 1 (.seq (.drw [⟨none, [(.fa 23 (.t 1) 1), (.ld 24 false 1 (.t 23)), (.mv 25 (.t 3)), (.ia 26 1 (.t 24) (.t 25)), (.ld 27 false 1 (.t 26)), (.fa 28 (.t 1) 0), (.ld 29 false 1 (.t 28)), (.call 30 77 [(.t 27), (.t 29)]), (.un 31 .not (.t 30))]⟩] [(1, 6), (4, 6)] [1, 3, 31]) (.cond (.t 31) (.seq (.rgn [⟨none, [(.mv 2 (.k (I 15)))]⟩] [2]) .ret) .skip))) (.rgn [⟨none, [(.mv 21 (.t 3)), (.bin 22 .add (.t 21) (.k (I 1))), (.mv 3 (.t 22))]⟩] [1, 3])))))) (.seq (.rgn [⟨none, [(.mv 2 (.k (I 0)))]⟩] [2]) .ret)))))
theorem func_r_CheckBench : Tryz.prog.funcs[n_r_CheckBench]? = some Tryz.f24 := Tryz.func24
theorem form_r_CheckBench : formOf Tryz.prog Tryz.f24 [2] = some G_r_CheckBench := by kernel_rfl
theorem res_r_CheckBench : resTmps Tryz.f24.results.toList = some [2] := by kernel_rfl
abbrev n_r_Pairs : Nat := 41
def G_r_Pairs : AC := (.seq (.rgn [⟨none, [(.box 3 2 (.t 0)), (.mv 6 (.k (.sl true 0 []))), (.mv 7 (.k (I 0)))]⟩] [1, 2, 3]) (.seq (.seq (.rgn [⟨none, [(.ld 8 true 2 (.t 3)), (.call 9 24 [(.t 8)]), (.bin 10 .neq (.t 9) (.k (I 0)))]⟩] [1, 2, 3, 10]) (.cond (.t 10) (.seq (.rgn [⟨none, [(.ld 11 true 2 (.t 3)), (.call 12 24 [(.t 11)]), (.mv 6 (.k (.sl true 0 []))), (.mv 7 (.t 12))]⟩] [6, 7]) .ret) .skip)) (.seq (.seq (.rgn [⟨none, [(.ld 13 true 2 (.t 3)), (.mv 14 (.t 1)), (.mv 15 (.t 2)), (.call 16 95 [(.t 13), (.t 14), (.t 15)]), (.un 17 .not (.t 16))]⟩] [1, 2, 3, 17]) (.cond (.t 17) (.seq (.rgn [⟨none, [(.mv 6 (.k (.sl true 0 []))), (.mv 7 (.k (I 3)))]⟩] [6, 7]) .ret) .skip)) (.seq (.rgn [⟨none, [(.ld 18 true 2 (.t 3)), (.mv 19 (.t 1)), (.mv 20 (.t 2)), (.call 21 96 [(.t 18), (.t 19), (.t 20)]), (.mv 6 (.t 21)), (.mv 7 (.k (I 0)))]⟩] [6, 7]) .ret))))
theorem func_r_Pairs : Tryz.prog.funcs[n_r_Pairs]? = some Tryz.f41 := Tryz.func41
theorem form_r_Pairs : formOf Tryz.prog Tryz.f41 [6, 7] = some G_r_Pairs := by kernel_rfl
theorem res_r_Pairs : resTmps Tryz.f41.results.toList = some [6, 7] := by kernel_rfl
abbrev n_r_Pair : Nat := 43
def G_r_Pair : AC := (.seq (.rgn [⟨none, [(.box 3 2 (.t 0)), (.al 6 [(I 0), (I 0), (I 0), (I 0)]), (.mv 7 (.k (I 0)))]⟩] [1, 2, 3, 6]) (.seq (.seq (.rgn [⟨none, [(.ld 12 true 2 (.t 3)), (.mv 13 (.t 1)), (.mv 14 (.t 2)), (.call 15 79 [(.t 12), (.t 13), (.t 14)]), (.bin 16 .neq (.t 15) (.k (I 0)))]⟩] [1, 2, 3, 6, 16]) (.cond (.t 16) (.seq (.rgn [⟨none, [(.bld 17 [(I 0), (I 0), (I 0), (I 0)] []), (.ld 18 true 2 (.t 3)), (.mv 19 (.t 1)), (.mv 20 (.t 2)), (.call 21 79 [(.t 18), (.t 19), (.t 20)]), (.st 4 (.t 6) (.t 17)), (.mv 7 (.t 21))]⟩] [6, 7]) .ret) .skip)) (.seq (.seq (.rgn [⟨none, [(.mv 8 (.k (I 0)))]⟩] [1, 2, 3, 6, 8]) (.block 0 (.loop (.seq (.seq (.rgn [⟨none, [(.mv 22 (.t 8)), (.fa 23 (.t 3) 0), (.ld 24 false 1 (.t 23)), (.bin 25 .lss (.t 22) (.t 24))]⟩] [1, 2, 3, 6, 8, 25]) (.cond (.t 25) .skip (.exit 0))) (.seq (.block 1 (.seq (.rgn [⟨none, [(.mv 9 (.k (I 0)))]⟩] [1, 2, 3, 6, 8, 9]) (.block 2 (.loop (.seq (.seq (.rgn [⟨none, [(.mv 28 (.t 9)), (.fa 29 (.t 3) 0), (.ld 30 false 1 (.t 29)), (.bin 31 .lss (.t 28) (.t 30))]⟩] [1, 2, 3, 6, 8, 9, 31]) (.cond (.t 31) .skip (.exit 2))) (.seq (.block 3 (.seq (.seq (.rgn [⟨none, [(.mv 34 (.t 8)), (.mv 35 (.t 9)), (.bin 36 .eql (.t 34) (.t 35))]⟩] [1, 2, 3, 6, 8, 9, 36]) (.cond (.t 36) (.exit 3) .skip)) (.seq (.rgn [⟨none, [(.mv 10 (.k (I 0)))]⟩] [1, 2, 3, 6, 8, 9, 10]) (.block 4 (.loop (.seq (.seq (.rgn [⟨none, [(.mv 37 (.t 10)), (.bin 38 .lss (.t 37) (.k (I 36)))]⟩] [1, 2, 3, 6, 8, 9, 10, 38]) (.cond (.t 38) .skip (.exit 4))) (.seq (.block 5 (.seq (.rgn [⟨none, [(.mv 41 (.t 8)), (.mv 42 (.t 9)), (.bld 43 [(I 0), (I 0)] [(0, 1, (.t 41)), (1, 1, (.t 42))]), (.mv 44 (.t 10)), (.bin 45 .quo (.t 44) (.k (I 6))), (.mv 46 (.t 10)), (.bin 47 .rem (.t 46) (.k (I 6))), (.bld 48 [(I 0), (I 0)] [(0, 1, (.t 45)), (1, 1, (.t 47))]), (.bld 49 [(I 0), (I 0), (I 0), (I 0)] [(0, 2, (.t 43)), (2, 2, (.t 48))]), (.al 11 [(I 0), (I 0), (I 0), (I 0)]), (.st 4 (.t 11) (.t 49))]⟩] [1, 2, 3, 6, 8, 9, 10, 11]) (.seq (.rgn [⟨none, [(.ld 50 true 2 (.t 3)), (.mv 51 (.t 1)), (.mv 52 (.t 2)), (.ld 53 true 4 (.t 11)), (.call 54 46 [(.t 50), (.t 51), (.t 52), (.t 53)]), (.bin 55 .eql (.t 54) (.k (I 0)))]⟩] [1, 2, 3, 6, 8, 9, 10, 11, 55]) (.cond (.t 55) (.seq (.rgn [⟨none, [(.ld 56 true 4 (.t 11)), (.st 4 (.t 6) (.t 56)), (.mv 7 (.k (I 0)))]⟩] [6, 7]) .ret) .skip)))) (.rgn [⟨none, [(.mv 39 (.t 10)), (.bin 40 .add (.t 39) (.k (I 1))), (.mv 10 (.t 40))]⟩] [1, 2, 3, 6, 8, 9, 10])))))))) (.rgn [⟨none, [(.mv 32 (.t 9)), (.bin 33 .add (.t 32) (.k (I 1))), (.mv 9 (.t 33))]⟩] [1, 2, 3, 6, 8, 9]))))))) (.rgn [⟨none, [(.mv 26 (.t 8)), (.bin 27 .add (.t 26) (.k (I 1))), (.mv 8 (.t 27))]⟩] [1, 2, 3, 6, 8])))))) (.seq (.rgn [⟨none, [(.bld 57 [(I 0), (I 0), (I 0), (I 0)] []), (.st 4 (.t 6) (.t 57)), (.mv 7 (.k (I 5)))]⟩] [6, 7]) .ret))))
theorem func_r_Pair : Tryz.prog.funcs[n_r_Pair]? = some Tryz.f43 := Tryz.func43
theorem form_r_Pair : formOf Tryz.prog Tryz.f43 [6, 7] = some G_r_Pair := by kernel_rfl
theorem resc_r_Pair : resCs Tryz.prog Tryz.f43.results.toList = some [(6, some (true, 4)), (7, none)] := by kernel_rfl
abbrev n_r_CheckPair : Nat := 46
def G_r_CheckPair : AC := (.seq (.rgn [⟨none, [(.box 4 2 (.t 0)), (.box 7 4 (.t 3)), (.mv 8 (.k (I 0)))]⟩] [1, 2, 4, 7]) (.seq (.seq (.rgn [⟨none, [(.ld 10 true 2 (.t 4)), (.mv 11 (.t 1)), (.mv 12 (.t 2)), (.call 13 79 [(.t 10), (.t 11), (.t 12)]), (.bin 14 .neq (.t 13) (.k (I 0)))]⟩] [1, 2, 4, 7, 14]) (.cond (.t 14) (.seq (.rgn [⟨none, [(.ld 15 true 2 (.t 4)), (.mv 16 (.t 1)), (.mv 17 (.t 2)), (.call 18 79 [(.t 15), (.t 16), (.t 17)]), (.mv 8 (.t 18))]⟩] [8]) .ret) .skip)) (.seq (.seq (.rgn [⟨none, [(.ld 19 true 2 (.t 4)), (.fa 20 (.t 7) 0), (.iaa 21 2 1 (.t 20) (.k (I 0))), (.ld 22 false 1 (.t 21)), (.fa 23 (.t 7) 0), (.iaa 24 2 1 (.t 23) (.k (I 1))), (.ld 25 false 1 (.t 24)), (.call 26 95 [(.t 19), (.t 22), (.t 25)]), (.un 27 .not (.t 26)), (.mv 28 (.t 27))]⟩, ⟨(some (28, false)), [(.fa 29 (.t 7) 2), (.iaa 30 2 1 (.t 29) (.k (I 0))), (.ld 31 false 1 (.t 30)), (.bin 32 .lss (.t 31) (.k (I 0)))]⟩, ⟨none, [(.pick 33 (.t 28) (.k (B true)) (.t 32)), (.mv 34 (.t 33))]⟩, ⟨(some (34, false)), [(.fa 35 (.t 7) 2), (.iaa 36 2 1 (.t 35) (.k (I 0))), (.ld 37 false 1 (.t 36)), (.bin 38 .gtr (.t 37) (.k (I 5)))]⟩, ⟨none, [(.pick 39 (.t 34) (.k (B true)) (.t 38)), (.mv 40 (.t 39))]⟩, ⟨(some (40, false)), [(.fa 41 (.t 7) 2), (.iaa 42 2 1 (.t 41) (.k (I 1))), (.ld 43 false 1 (.t 42)), (.bin 44 .lss (.t 43) (.k (I 0)))]⟩, ⟨none, [(.pick 45 (.t 40) (.k (B true)) (.t 44)), (.mv 46 (.t 45))]⟩, ⟨(some (46, false)), [(.fa 47 (.t 7) 2), (.iaa 48 2 1 (.t 47) (.k (I 1))), (.ld 49 false 1 (.t 48)), (.bin 50 .gtr (.t 49) (.k (I 5)))]⟩, ⟨none, [(.pick 51 (.t 46) (.k (B true)) (.t 50))]⟩] [1, 2, 4, 7, 51]) (.cond (.t 51) (.seq (.rgn [⟨none, [(.mv 8 (.k (I 3)))]⟩] [8]) .ret) .skip)) (.seq (.rgn [⟨none, [(.ld 52 true 2 (.t 4)), (.fa 53 (.t 7) 0), (.iaa 54 2 1 (.t 53) (.k (I 0))), (.ld 55 false 1 (.t 54)), (.fa 56 (.t 7) 0), (.iaa 57 2 1 (.t 56) (.k (I 1))), (.ld 58 false 1 (.t 57)), (.call 59 96 [(.t 52), (.t 55), (.t 58)]), (.mv 9 (.t 59))]⟩] [1, 2, 7, 9]) (.seq (.seq (.drw [⟨none, [(.mv 60 (.t 9)), (.mv 61 (.t 1)), (.fa 62 (.t 7) 2), (.ld 63 true 2 (.t 62)), (.call 64 101 [(.t 60), (.t 61), (.t 63)]), (.mv 65 (.t 9)), (.mv 66 (.t 2)), (.fa 67 (.t 7) 2), (.ld 68 true 2 (.t 67)), (.call 69 101 [(.t 65), (.t 66), (.t 68)]), (.bin 70 .eql (.t 64) (.t 69))]⟩] [(3, 8), (4, 8)] [70]) (.cond (.t 70) (.seq (.rgn [⟨none, [(.mv 8 (.k (I 14)))]⟩] [8]) .ret) .skip)) (.seq (.rgn [⟨none, [(.mv 8 (.k (I 0)))]⟩] [8]) .ret))))))
theorem func_r_CheckPair : Tryz.prog.funcs[n_r_CheckPair]? = some Tryz.f46 := Tryz.func46
theorem form_r_CheckPair : formOf Tryz.prog Tryz.f46 [8] = some G_r_CheckPair := by kernel_rfl
theorem res_r_CheckPair : resTmps Tryz.f46.results.toList = some [8] := by kernel_rfl
abbrev n_r_IsRow : Nat := 67
def G_r_IsRow : AC := (.seq (.rgn [⟨none, [(.box 2 2 (.t 0)), (.mv 4 (.k (B false)))]⟩] [1, 2]) (.seq (.seq (.rgn [⟨none, [(.mv 6 (.t 1)), (.len 7 (.t 6)), (.fa 8 (.t 2) 0), (.ld 9 false 1 (.t 8)), (.bin 10 .neq (.t 7) (.t 9))]⟩] [1, 10]) (.cond (.t 10) (.seq (.rgn [⟨none, [(.mv 4 (.k (B false)))]⟩] [4]) .ret) .skip)) (.seq (.seq (.rgn [⟨none, [(.mv 5 (.k (I 0)))]⟩] [1, 5]) (.block 0 (.loop (.seq (.seq (.rgn [⟨none, [(.mv 11 (.t 5)), (.mv 12 (.t 1)), (.len 13 (.t 12)), (.bin 14 .lss (.t 11) (.t 13))]⟩] [1, 5, 14]) (.cond (.t 14) .skip (.exit 0))) (.seq (.block 1 (.seq (.rgn [⟨none, [(.mv 17 (.t 1)), (.mv 18 (.t 5)), (.ia 19 1 (.t 17) (.t 18)), (.ld 20 false 1 (.t 19)), (.bin 21 .lss (.t 20) (.k (I 0))), (.mv 22 (.t 21))]⟩, ⟨(some (22, false)), [(.mv 23 (.t 1)), (.mv 24 (.t 5)), (.ia 25 1 (.t 23) (.t 24)), (.ld 26 false 1 (.t 25)), (.bin 27 .gtr (.t 26) (.k (I 5)))]⟩, ⟨none, [(.pick 28 (.t 22) (.k (B true)) (.t 27))]⟩] [1, 5, 28]) (.cond (.t 28) (.seq (.rgn [⟨none, [(.mv 4 (.k (B false)))]⟩] [4]) .ret) .skip))) (.rgn [⟨none, [(.mv 15 (.t 5)), (.bin 16 .add (.t 15) (.k (I 1))), (.mv 5 (.t 16))]⟩] [1, 5])))))) (.seq (.rgn [⟨none, [(.mv 4 (.k (B true)))]⟩] [4]) .ret))))
theorem func_r_IsRow : Tryz.prog.funcs[n_r_IsRow]? = some Tryz.f67 := Tryz.func67
theorem form_r_IsRow : formOf Tryz.prog Tryz.f67 [4] = some G_r_IsRow := by kernel_rfl
theorem res_r_IsRow : resTmps Tryz.f67.results.toList = some [4] := by kernel_rfl
abbrev n_r_isStroke : Nat := 77
def G_r_isStroke : AC := (.seq (.rgn [⟨none, [(.mv 4 (.k (B false)))]⟩] [0, 1]) (.seq (.seq (.rgn [⟨none, [(.mv 8 (.t 0)), (.len 9 (.t 8)), (.mv 10 (.t 1)), (.bin 11 .neq (.t 9) (.t 10))]⟩] [0, 1, 11]) (.cond (.t 11) (.seq (.rgn [⟨none, [(.mv 4 (.k (B false)))]⟩] [4]) .ret) .skip)) (.seq (.seq (.rgn [⟨none, [(.mv 5 (.k (I 0)))]⟩] [0, 1, 5]) (.block 0 (.loop (.seq (.seq (.rgn [⟨none, [(.mv 12 (.t 5)), (.mv 13 (.t 1)), (.bin 14 .lss (.t 12) (.t 13))]⟩] [0, 1, 5, 14]) (.cond (.t 14) .skip (.exit 0))) (.seq (.block 1 (.seq (.rgn [⟨none, [(.mv 6 (.k (I 0)))]⟩] [0, 1, 5, 6]) (.seq (.seq (.rgn [⟨none, [(.mv 7 (.k (I 0)))]⟩] [0, 1, 5, 6, 7]) (.block 2 (.loop (.seq (.seq (.rgn [⟨none, [(.mv 17 (.t 7)), (.mv 18 (.t 0)), (.len 19 (.t 18)), (.bin 20 .lss (.t 17) (.t 19))]⟩] [0, 1, 5, 6, 7, 20]) (.cond (.t 20) .skip (.exit 2))) (.seq (.block 3 (.seq (.rgn [⟨none, [(.mv 23 (.t 0)), (.mv 24 (.t 7)), (.ia 25 1 (.t 23) (.t 24)), (.ld 26 false 1 (.t 25)), (.mv 27 (.t 5)), (.bin 28 .eql (.t 26) (.t 27))]⟩] [0, 1, 5, 6, 7, 28]) (.cond (.t 28) (.rgn [⟨none, [(.mv 29 (.t 6)), (.bin 30 .add (.t 29) (.k (I 1))), (.mv 6 (.t 30))]⟩] [0, 1, 5, 6, 7]) .skip))) (.rgn [⟨none, [(.mv 21 (.t 7)), (.bin 22 .add (.t 21) (.k (I 1))), (.mv 7 (.t 22))]⟩] [0, 1, 5, 6, 7])))))) (.seq (.rgn [⟨none, [(.mv 31 (.t 6)), (.bin 32 .neq (.t 31) (.k (I 1)))]⟩] [0, 1, 5, 32]) (.cond (.t 32) (.seq (.rgn [⟨none, [(.mv 4 (.k (B false)))]⟩] [4]) .ret) .skip))))) (.rgn [⟨none, [(.mv 15 (.t 5)), (.bin 16 .add (.t 15) (.k (I 1))), (.mv 5 (.t 16))]⟩] [0, 1, 5])))))) (.seq (.rgn [⟨none, [(.mv 4 (.k (B true)))]⟩] [4]) .ret))))
theorem func_r_isStroke : Tryz.prog.funcs[n_r_isStroke]? = some Tryz.f77 := Tryz.func77
theorem form_r_isStroke : formOf Tryz.prog Tryz.f77 [4] = some G_r_isStroke := by kernel_rfl
theorem res_r_isStroke : resTmps Tryz.f77.results.toList = some [4] := by kernel_rfl
abbrev n_r_Rows : Nat := 79
def G_r_Rows : AC := (.seq (.rgn [⟨none, [(.box 3 2 (.t 0)), (.mv 6 (.k (I 0)))]⟩] [1, 2, 3]) (.seq (.seq (.rgn [⟨none, [(.ld 7 true 2 (.t 3)), (.call 8 24 [(.t 7)]), (.bin 9 .neq (.t 8) (.k (I 0)))]⟩] [1, 2, 3, 9]) (.cond (.t 9) (.seq (.rgn [⟨none, [(.ld 10 true 2 (.t 3)), (.call 11 24 [(.t 10)]), (.mv 6 (.t 11))]⟩] [6]) .ret) .skip)) (.seq (.seq (.rgn [⟨none, [(.ld 12 true 2 (.t 3)), (.mv 13 (.t 1)), (.call 14 67 [(.t 12), (.t 13)]), (.un 15 .not (.t 14)), (.mv 16 (.t 15))]⟩, ⟨(some (16, false)), [(.ld 17 true 2 (.t 3)), (.mv 18 (.t 2)), (.call 19 67 [(.t 17), (.t 18)]), (.un 20 .not (.t 19))]⟩, ⟨none, [(.pick 21 (.t 16) (.k (B true)) (.t 20))]⟩] [21]) (.cond (.t 21) (.seq (.rgn [⟨none, [(.mv 6 (.k (I 2)))]⟩] [6]) .ret) .skip)) (.seq (.rgn [⟨none, [(.mv 6 (.k (I 0)))]⟩] [6]) .ret))))
theorem func_r_Rows : Tryz.prog.funcs[n_r_Rows]? = some Tryz.f79 := Tryz.func79
theorem form_r_Rows : formOf Tryz.prog Tryz.f79 [6] = some G_r_Rows := by kernel_rfl
theorem res_r_Rows : resTmps Tryz.f79.results.toList = some [6] := by kernel_rfl
abbrev n_r_ArePlaces : Nat := 95
def G_r_ArePlaces : AC := (.seq (.rgn [⟨none, [(.box 3 2 (.t 0)), (.mv 6 (.k (B false)))]⟩] [1, 2, 3]) (.seq (.rgn [⟨none, [(.mv 7 (.t 1)), (.bin 8 .geq (.t 7) (.k (I 0))), (.mv 9 (.t 8))]⟩, ⟨(some (9, true)), [(.mv 10 (.t 1)), (.fa 11 (.t 3) 0), (.ld 12 false 1 (.t 11)), (.bin 13 .lss (.t 10) (.t 12))]⟩, ⟨none, [(.pick 14 (.t 9) (.t 13) (.k (B false))), (.mv 15 (.t 14))]⟩, ⟨(some (15, true)), [(.mv 16 (.t 2)), (.bin 17 .geq (.t 16) (.k (I 0)))]⟩, ⟨none, [(.pick 18 (.t 15) (.t 17) (.k (B false))), (.mv 19 (.t 18))]⟩, ⟨(some (19, true)), [(.mv 20 (.t 2)), (.fa 21 (.t 3) 0), (.ld 22 false 1 (.t 21)), (.bin 23 .lss (.t 20) (.t 22))]⟩, ⟨none, [(.pick 24 (.t 19) (.t 23) (.k (B false))), (.mv 25 (.t 24))]⟩, ⟨(some (25, true)), [(.mv 26 (.t 1)), (.mv 27 (.t 2)), (.bin 28 .neq (.t 26) (.t 27))]⟩, ⟨none, [(.pick 29 (.t 25) (.t 28) (.k (B false))), (.mv 6 (.t 29))]⟩] [6]) .ret))
theorem func_r_ArePlaces : Tryz.prog.funcs[n_r_ArePlaces]? = some Tryz.f95 := Tryz.func95
theorem form_r_ArePlaces : formOf Tryz.prog Tryz.f95 [6] = some G_r_ArePlaces := by kernel_rfl
theorem res_r_ArePlaces : resTmps Tryz.f95.results.toList = some [6] := by kernel_rfl
abbrev n_r_PairsOf : Nat := 96
def G_r_PairsOf : AC := (.seq (.rgn [⟨none, [(.box 3 2 (.t 0)), (.mv 6 (.k (.sl true 0 [])))]⟩] [1, 2, 3]) (.seq (.rgn [⟨none, [(.mks 17 1 8 [(I 0)] (.k (I 36)) (.k (I 36))), (.mv 7 (.t 17))]⟩] [1, 2, 3, 7]) (.seq (.rgn [⟨none, [(.mv 18 (.t 7)), (.mv 19 (.t 1)), (.bin 20 .mul (.k (I 6)) (.t 19)), (.mv 21 (.t 2)), (.bin 22 .add (.t 20) (.t 21)), (.ia 23 1 (.t 18) (.t 22)), (.st 1 (.t 23) (.k (I 1)))]⟩] [3, 7]) (.seq (.seq (.rgn [⟨none, [(.mv 8 (.k (I 0)))]⟩] [3, 7, 8]) (.block 0 (.loop (.seq (.seq (.rgn [⟨none, [(.mv 24 (.t 8)), (.bin 25 .lss (.t 24) (.k (I 36)))]⟩] [3, 7, 8, 25]) (.cond (.t 25) .skip (.exit 0))) (.seq (.block 1 (.seq (.rgn [⟨none, [(.mv 9 (.k (I 0)))]⟩] [3, 7, 8, 9]) (.block 2 (.loop (.seq (.seq (.rgn [⟨none, [(.mv 28 (.t 9)), (.fa 29 (.t 3) 0), (.ld 30 false 1 (.t 29)), (.bin 31 .lss (.t 28) (.t 30))]⟩] [3, 7, 8, 9, 31]) (.cond (.t 31) .skip (.exit 2))) (.seq (.block 3 (.seq (.rgn [⟨none, [(.mv 10 (.k (I 0)))]⟩] [3, 7, 8, 9, 10]) (.block 4 (.loop (.seq (.seq (.rgn [⟨none, [(.mv 34 (.t 10)), (.fa 35 (.t 3) 0), (.ld 36 false 1 (.t 35)), (.bin 37 .lss (.t 34) (.t 36))]⟩] [3, 7, 8, 9, 10, 37]) (.cond (.t 37) .skip (.exit 4))) (.seq (.block 5 (.seq (.rgn [⟨none, [(.mv 11 (.k (I 0)))]⟩] [3, 7, 8, 9, 10, 11]) (.block 6 (.loop (.seq (.seq (.rgn [⟨none, [(.mv 40 (.t 11)), (.fa 41 (.t 3) 1), (.ld 42 false 1 (.t 41)), (.len 43 (.t 42)), (.bin 44 .lss (.t 40) (.t 43))]⟩] [3, 7, 8, 9, 10, 11, 44]) (.cond (.t 44) .skip (.exit 6))) (.seq (.block 7 (.seq (.drw [⟨none, [(.fa 47 (.t 3) 1), (.ld 48 false 1 (.t 47)), (.mv 49 (.t 11)), (.ia 50 1 (.t 48) (.t 49)), (.ld 51 false 1 (.t 50)), (.mv 52 (.t 9)), (.ia 53 1 (.t 51) (.t 52)), (.ld 54 false 1 (.t 53)), (.fa 55 (.t 3) 1), (.ld 56 false 1 (.t 55)), (.mv 57 (.t 11)), (.ia 58 1 (.t 56) (.t 57)), (.ld 59 false 1 (.t 58)), (.mv 60 (.t 10)), (.ia 61 1 (.t 59) (.t 60)), (.ld 62 false 1 (.t 61)), (.mv 12 (.t 54)), (.mv 13 (.t 62))]⟩] [(1, 9), (4, 9), (7, 9), (1, 12), (4, 12), (7, 12), (1, 15), (4, 15), (7, 15)] [3, 7, 8, 9, 10, 11, 12, 13]) (.seq (.rgn [⟨none, [(.mv 63 (.t 7)), (.mv 64 (.t 9)), (.bin 65 .mul (.k (I 6)) (.t 64)), (.mv 66 (.t 10)), (.bin 67 .add (.t 65) (.t 66)), (.ia 68 1 (.t 63) (.t 67)), (.ld 69 false 1 (.t 68)), (.bin 70 .eql (.t 69) (.k (I 1))), (.mv 71 (.t 70))]⟩, ⟨(some (71, false)), [(.mv 72 (.t 7)), (.mv 73 (.t 12)), (.bin 74 .mul (.k (I 6)) (.t 73)), (.mv 75 (.t 13)), (.bin 76 .add (.t 74) (.t 75)), (.ia 77 1 (.t 72) (.t 76)), (.ld 78 false 1 (.t 77)), (.bin 79 .eql (.t 78) (.k (I 1)))]⟩, ⟨none, [(.pick 80 (.t 71) (.k (B true)) (.t 79))]⟩] [3, 7, 8, 9, 10, 11, 12, 13, 80]) (.cond (.t 80) (.rgn [⟨none, [(.mv 81 (.t 7)), (.mv 82 (.t 9)), (.bin 83 .mul (.k (I 6)) (.t 82)), (.mv 84 (.t 10)), (.bin 85 .add (.t 83) (.t 84)), (.mv 86 (.t 7)), (.mv 87 (.t 12)), (.bin 88 .mul (.k (I 6)) (.t 87)), (.mv 89 (.t 13)), (.bin 90 .add (.t 88) (.t 89)), (.ia 91 1 (.t 81) (.t 85)), (.st 1 (.t 91) (.k (I 1))), (.ia 92 1 (.t 86) (.t 90)), (.st 1 (.t 92) (.k (I 1)))]⟩] [3, 7, 8, 9, 10, 11]) .skip)))) (.rgn [⟨none, [(.mv 45 (.t 11)), (.bin 46 .add (.t 45) (.k (I 1))), (.mv 11 (.t 46))]⟩] [3, 7, 8, 9, 10, 11]))))))) (.rgn [⟨none, [(.mv 38 (.t 10)), (.bin 39 .add (.t 38) (.k (I 1))), (.mv 10 (.t 39))]⟩] [3, 7, 8, 9, 10]))))))) (.rgn [⟨none, [(.mv 32 (.t 9)), (.bin 33 .add (.t 32) (.k (I 1))), (.mv 9 (.t 33))]⟩] [3, 7, 8, 9]))))))) (.rgn [⟨none, [(.mv 26 (.t 8)), (.bin 27 .add (.t 26) (.k (I 1))), (.mv 8 (.t 27))]⟩] [3, 7, 8])))))) (.seq (.rgn [⟨none, [(.mv 14 (.k (.sl true 0 [])))]⟩] [3, 7, 14]) (.seq (.seq (.rgn [⟨none, [(.mv 15 (.k (I 0)))]⟩] [3, 7, 14, 15]) (.block 8 (.loop (.seq (.seq (.rgn [⟨none, [(.mv 93 (.t 15)), (.fa 94 (.t 3) 0), (.ld 95 false 1 (.t 94)), (.bin 96 .lss (.t 93) (.t 95))]⟩] [3, 7, 14, 15, 96]) (.cond (.t 96) .skip (.exit 8))) (.seq (.block 9 (.seq (.rgn [⟨none, [(.mv 16 (.k (I 0)))]⟩] [3, 7, 14, 15, 16]) (.block 10 (.loop (.seq (.seq (.rgn [⟨none, [(.mv 99 (.t 16)), (.fa 100 (.t 3) 0), (.ld 101 false 1 (.t 100)), (.bin 102 .lss (.t 99) (.t 101))]⟩] [3, 7, 14, 15, 16, 102]) (.cond (.t 102) .skip (.exit 10))) (.seq (.block 11 (.seq (.rgn [⟨none, [(.mv 105 (.t 7)), (.mv 106 (.t 15)), (.bin 107 .mul (.k (I 6)) (.t 106)), (.mv 108 (.t 16)), (.bin 109 .add (.t 107) (.t 108)), (.ia 110 1 (.t 105) (.t 109)), (.ld 111 false 1 (.t 110)), (.bin 112 .eql (.t 111) (.k (I 1)))]⟩] [3, 7, 14, 15, 16, 112]) (.cond (.t 112) (.rgn [⟨none, [(.mv 113 (.t 14)), (.mv 114 (.t 15)), (.mv 115 (.t 16)), (.bld 116 [(I 0), (I 0)] [(0, 1, (.t 114)), (1, 1, (.t 115))]), (.bsl 117 1 2 [(I 0), (I 0)] [(0, (.t 116))]), (.app 118 2 16 (.t 113) (.t 117)), (.mv 14 (.t 118))]⟩] [3, 7, 14, 15, 16]) .skip))) (.rgn [⟨none, [(.mv 103 (.t 16)), (.bin 104 .add (.t 103) (.k (I 1))), (.mv 16 (.t 104))]⟩] [3, 7, 14, 15, 16]))))))) (.rgn [⟨none, [(.mv 97 (.t 15)), (.bin 98 .add (.t 97) (.k (I 1))), (.mv 15 (.t 98))]⟩] [3, 7, 14, 15])))))) (.seq (.rgn [⟨none, [(.mv 119 (.t 14)), (.mv 6 (.t 119))]⟩] [6]) .ret)))))))
theorem func_r_PairsOf : Tryz.prog.funcs[n_r_PairsOf]? = some Tryz.f96 := Tryz.func96
theorem form_r_PairsOf : formOf Tryz.prog Tryz.f96 [6] = some G_r_PairsOf := by kernel_rfl
theorem res_r_PairsOf : resTmps Tryz.f96.results.toList = some [6] := by kernel_rfl
abbrev n_r_times : Nat := 101
def G_r_times : AC := (.seq (.rgn [⟨none, [(.box 5 2 (.t 2)), (.mv 6 (.k (I 0)))]⟩] [0, 1, 5]) (.seq (.rgn [⟨none, [(.mv 7 (.k (I 0)))]⟩] [0, 1, 5, 7]) (.seq (.seq (.rgn [⟨none, [(.mv 8 (.k (I 0)))]⟩] [0, 1, 5, 7, 8]) (.block 0 (.loop (.seq (.seq (.rgn [⟨none, [(.mv 9 (.t 8)), (.mv 10 (.t 0)), (.len 11 (.t 10)), (.bin 12 .lss (.t 9) (.t 11))]⟩] [0, 1, 5, 7, 8, 12]) (.cond (.t 12) .skip (.exit 0))) (.seq (.block 1 (.seq (.drw [⟨none, [(.mv 15 (.t 1)), (.mv 16 (.t 0)), (.mv 17 (.t 8)), (.ia 18 2 (.t 16) (.t 17)), (.iaa 19 2 1 (.t 18) (.k (I 0))), (.ld 20 false 1 (.t 19)), (.ia 21 1 (.t 15) (.t 20)), (.ld 22 false 1 (.t 21)), (.iaa 23 2 1 (.t 5) (.k (I 0))), (.ld 24 false 1 (.t 23)), (.bin 25 .eql (.t 22) (.t 24)), (.mv 26 (.t 25))]⟩, ⟨(some (26, true)), [(.mv 27 (.t 1)), (.mv 28 (.t 0)), (.mv 29 (.t 8)), (.ia 30 2 (.t 28) (.t 29)), (.iaa 31 2 1 (.t 30) (.k (I 1))), (.ld 32 false 1 (.t 31)), (.ia 33 1 (.t 27) (.t 32)), (.ld 34 false 1 (.t 33)), (.iaa 35 2 1 (.t 5) (.k (I 1))), (.ld 36 false 1 (.t 35)), (.bin 37 .eql (.t 34) (.t 36))]⟩, ⟨none, [(.pick 38 (.t 26) (.t 37) (.k (B false)))]⟩] [(5, 9), (7, 9), (17, 21), (19, 21)] [0, 1, 5, 7, 8, 38]) (.cond (.t 38) (.rgn [⟨none, [(.mv 39 (.t 7)), (.bin 40 .add (.t 39) (.k (I 1))), (.mv 7 (.t 40))]⟩] [0, 1, 5, 7, 8]) .skip))) (.rgn [⟨none, [(.mv 13 (.t 8)), (.bin 14 .add (.t 13) (.k (I 1))), (.mv 8 (.t 14))]⟩] [0, 1, 5, 7, 8])))))) (.seq (.rgn [⟨none, [(.mv 41 (.t 7)), (.mv 6 (.t 41))]⟩] [6]) .ret))))
theorem func_r_times : Tryz.prog.funcs[n_r_times]? = some Tryz.f101 := Tryz.func101
theorem form_r_times : formOf Tryz.prog Tryz.f101 [6] = some G_r_times := by kernel_rfl
theorem res_r_times : resTmps Tryz.f101.results.toList = some [6] := by kernel_rfl
end Go.AM

set_option linter.unusedSimpArgs false
set_option linter.unusedVariables false
namespace Go.AM
open Go.RowKit Go.Proofs
theorem count_take {l : List Int} {i : Nat} {p : Int} (h : i < l.length) : (l.take (i + 1)).count p = (l.take i).count p + if l[i] = p then 1 else 0 := by
  rw [List.take_succ_eq_append_getElem h, List.count_append, List.count_singleton]
  by_cases e : l[i] = p
  · simp [e]
  · simp [e]
set_option maxHeartbeats 1000000 in
theorem r_isStroke_ok (f : Bool) (l : List Int) (P : Int) (hl : l.length ≤ 1000000) : PureOK Tryz.prog n_r_isStroke [Ls f l, I P] (B (strO P l)) := by
  refine pure_of (walk func_r_isStroke form_r_isStroke res_r_isStroke (by show 2 ≤ _; decide) ?_)
  simp -implicitDefEqProofs (disch := omega) [G_r_isStroke, wrap_id]
  by_cases hP : (l.length : Int) = P
  · subst hP
    simp -implicitDefEqProofs (disch := omega) [wrap_id]
    refine loop_eq (fun p : Nat => ⟨[(0, Ls f l), (1, I (l.length : Int)), (5, I (p : Int))], []⟩) (fun p => p ≤ l.length ∧ ((List.range p).all fun p => l.count (p : Int) == 1) = true) (fun p => l.length - p) 0 ⟨Nat.zero_le _, rfl⟩ rfl ?_
    rintro p ⟨hp, ha⟩
    refine hideK' fun K0 hK0 => ?_
    simp -implicitDefEqProofs (disch := omega) [wrap_id]
    refine c_split (fun h => ?_) (fun h => ?_)
    · have hp : p < l.length := by simp at h; omega
      have px : ((p : Int) + 1) = ((p + 1 : Nat) : Int) := by omega
      simp -implicitDefEqProofs (disch := omega) [wrap_id]
      refine loop_eq (fun i : Nat => ⟨[(0, Ls f l), (1, I (l.length : Int)), (5, I (p : Int)), (6, I ((l.take i).count (p : Int) : Nat)), (7, I (i : Int))], []⟩) (fun i => i ≤ l.length) (fun i => l.length - i) 0 (Nat.zero_le _) rfl ?_
      intro i hi
      refine hideK' fun K1 hK1 => ?_
      simp -implicitDefEqProofs (disch := omega) [wrap_id]
      refine c_split (fun h => ?_) (fun h => ?_)
      · have hi : i < l.length := by simp at h; omega
        have ix : ((i : Int) + 1) = ((i + 1 : Nat) : Int) := by omega
        have ct := count_take (p := (p : Int)) hi
        have cl : (l.take i).count (p : Int) ≤ l.length := Nat.le_trans List.count_le_length (by rw [List.length_take]; omega)
        generalize hc : (l.take i).count (p : Int) = c at *
        have cx : ((c : Int) + 1) = ((c + 1 : Nat) : Int) := by omega
        by_cases e : l[i] = (p : Int)
        · rw [if_pos e] at ct
          simp -implicitDefEqProofs (disch := omega) [wrap_id, cells_ls, hi, e]
          rw [hK1]
          exact next_eq (i + 1) (by omega) (by omega) (by simp only [ix, cx, ct])
        · rw [if_neg e] at ct
          have e' : (l[i] == (p : Int)) = false := by simpa using e
          simp -implicitDefEqProofs (disch := omega) [wrap_id, cells_ls, hi, e, e']
          rw [hK1]
          exact next_eq (i + 1) (by omega) (by omega) (by simp only [ix, ct]; rfl)
      · have hi : i = l.length := by simp at h; omega
        subst hi
        subst hK1
        have cl := List.count_le_length (a := (p : Int)) (l := l)
        have tk : l.take l.length = l := List.take_of_length_le (Nat.le_refl _)
        by_cases e : l.count (p : Int) = 1
        · simp -implicitDefEqProofs (disch := omega) [wrap_id, e, tk]
          rw [hK0]
          refine next_eq (p + 1) ⟨by omega, ?_⟩ (by omega) (by simp only [px])
          rw [range_all_succ, ha, e]; rfl
        · have e' : ((l.count (p : Int) : Int) != 1) = true := by simp only [bne_iff_ne, ne_eq]; omega
          have hf : strO (l.length : Int) l = false := by
            unfold strO
            have : ((List.range l.length).all fun p => l.count (p : Int) == 1) = false := by
              rw [List.all_eq_false]
              exact ⟨p, List.mem_range.2 hp, by simp [e]⟩
            rw [this, Bool.and_false]
          simp -implicitDefEqProofs (disch := omega) [wrap_id, e', tk]
          rw [hf] at hK0
          subst hK0
          simp -implicitDefEqProofs (disch := omega) [wrap_id]
    · have hp : p = l.length := by simp at h; omega
      subst hp
      have ht : strO (l.length : Int) l = true := by unfold strO; rw [ha]; simp
      rw [ht] at hK0
      subst hK0
      simp -implicitDefEqProofs (disch := omega) [wrap_id]
  · have hP' : ((l.length : Int) != P) = true := by simpa using hP
    have hf : strO P l = false := by unfold strO; rw [decide_eq_false hP]; rfl
    simp -implicitDefEqProofs (disch := omega) [wrap_id, hP', hf]
end Go.AM

set_option linter.unusedSimpArgs false
set_option linter.unusedVariables false
namespace Go.AM
open Go.RowKit Go.Proofs
set_option maxHeartbeats 1000000 in
theorem r_CheckBench_ok (g : Bool) (b : OB) (hb : b.s.length ≤ 1000000) (hs : ∀ p ∈ b.s, p.2.length ≤ 1000000) : PureOK Tryz.prog n_r_CheckBench [On g b] (I (chkO b)) := by
  refine pure_of (walk func_r_CheckBench form_r_CheckBench res_r_CheckBench (by show 1 ≤ _; decide) ?_)
  simp -implicitDefEqProofs (disch := omega) [G_r_CheckBench, wrap_id]
  by_cases h1 : b.P < 2
  · have e : chkO b = 2 := by unfold chkO; rw [if_pos (.inl h1)]
    simp -implicitDefEqProofs (disch := omega) [wrap_id, h1, e]
  by_cases h2 : 6 < b.P
  · have e : chkO b = 2 := by unfold chkO; rw [if_pos (.inr h2)]
    simp -implicitDefEqProofs (disch := omega) [wrap_id, h1, h2, e]
  by_cases h3 : 6 < b.s.length
  · have h3' : (6 : Int) < b.s.length := by omega
    have e : chkO b = 6 := by unfold chkO; rw [if_neg (by omega), if_pos h3]
    simp -implicitDefEqProofs (disch := omega) [wrap_id, h1, h2, h3', e]
  have h3' : ¬ (6 : Int) < b.s.length := by omega
  have e : chkO b = if b.s.all (fun p => strO b.P p.2) then 0 else 15 := by unfold chkO; rw [if_neg (by omega), if_neg h3]
  rw [e]
  simp -implicitDefEqProofs (disch := omega) [wrap_id, h1, h2, h3']
  refine loop_eq (fun i : Nat => ⟨[(1, .ref 0 0), (3, I (i : Int))], [.cells [I b.P, LLs g b.s]]⟩) (fun i => i ≤ b.s.length ∧ ∀ k (hk : k < b.s.length), k < i → strO b.P b.s[k].2 = true) (fun i => b.s.length - i) 0 ⟨Nat.zero_le _, fun k _ h => by omega⟩ rfl ?_
  rintro i ⟨hi, ha⟩
  refine hideK' fun K0 hK0 => ?_
  simp -implicitDefEqProofs (disch := omega) [wrap_id]
  refine c_split (fun h => ?_) (fun h => ?_)
  · have hi : i < b.s.length := by simp at h; omega
    have ix : ((i : Int) + 1) = ((i + 1 : Nat) : Int) := by omega
    simp -implicitDefEqProofs (disch := omega) [wrap_id, cells_lls, hi]
    refine pureW_of rfl (r_isStroke_ok _ _ b.P (hs _ (List.getElem_mem hi))) ?_
    cases hst : strO b.P b.s[i].2 with
    | true =>
      simp -implicitDefEqProofs (disch := omega) [wrap_id, cmp2, nthT]
      rw [hK0]
      refine next_eq (i + 1) ⟨by omega, fun k hk hki => ?_⟩ (by omega) (by simp only [ix])
      by_cases hk2 : k = i
      · subst hk2; exact hst
      · exact ha k hk (by omega)
    | false =>
      have hf : b.s.all (fun p => strO b.P p.2) = false := by
        rw [List.all_eq_false]
        exact ⟨b.s[i], List.getElem_mem hi, by simp [hst]⟩
      rw [hf] at hK0
      subst hK0
      simp -implicitDefEqProofs (disch := omega) [wrap_id, cmp2, nthT]
  · have hi : i = b.s.length := by simp at h; omega
    subst hi
    have ht : b.s.all (fun p => strO b.P p.2) = true := by
      rw [List.all_eq_true]
      intro p hp
      obtain ⟨k, hk, rfl⟩ := List.getElem_of_mem hp
      exact ha k hk hk
    rw [ht] at hK0
    subst hK0
    simp -implicitDefEqProofs (disch := omega) [wrap_id]
set_option maxHeartbeats 1000000 in
theorem r_IsRow_ok (g f : Bool) (b : OB) (l : List Int) (hl : l.length ≤ 1000000) : PureOK Tryz.prog n_r_IsRow [On g b, Ls f l] (B (rowO b l)) := by
  refine pure_of (walk func_r_IsRow form_r_IsRow res_r_IsRow (by show 2 ≤ _; decide) ?_)
  simp -implicitDefEqProofs (disch := omega) [G_r_IsRow, wrap_id]
  by_cases h1 : (l.length : Int) = b.P
  · have e : rowO b l = l.all fun n => decide (0 ≤ n) && decide (n ≤ 5) := by unfold rowO; rw [decide_eq_true h1]; rfl
    have h1' : ((l.length : Int) != b.P) = false := by simpa using h1
    rw [e]
    simp -implicitDefEqProofs (disch := omega) [wrap_id, h1']
    refine loop_eq (fun i : Nat => ⟨[(1, Ls f l), (5, I (i : Int))], [.cells [I b.P, LLs g b.s]]⟩) (fun i => i ≤ l.length ∧ ∀ k (hk : k < l.length), k < i → 0 ≤ l[k] ∧ l[k] ≤ 5) (fun i => l.length - i) 0 ⟨Nat.zero_le _, fun k _ h => by omega⟩ rfl ?_
    rintro i ⟨hi, ha⟩
    refine hideK' fun K0 hK0 => ?_
    simp -implicitDefEqProofs (disch := omega) [wrap_id]
    refine c_split (fun h => ?_) (fun h => ?_)
    · have hi : i < l.length := by simp at h; omega
      have ix : ((i : Int) + 1) = ((i + 1 : Nat) : Int) := by omega
      have bad : ¬ (0 ≤ l[i] ∧ l[i] ≤ 5) → (l.all fun n => decide (0 ≤ n) && decide (n ≤ 5)) = false := fun hn => by
        rw [List.all_eq_false]
        exact ⟨l[i], List.getElem_mem hi, by simpa using hn⟩
      by_cases q1 : l[i] < 0
      · rw [bad (by omega)] at hK0
        subst hK0
        simp -implicitDefEqProofs (disch := omega) [wrap_id, cells_ls, hi, q1]
      by_cases q2 : 5 < l[i]
      · rw [bad (by omega)] at hK0
        subst hK0
        simp -implicitDefEqProofs (disch := omega) [wrap_id, cells_ls, hi, q1, q2]
      simp -implicitDefEqProofs (disch := omega) [wrap_id, cells_ls, hi, q1, q2]
      rw [hK0]
      refine next_eq (i + 1) ⟨by omega, fun k hk hki => ?_⟩ (by omega) (by simp only [ix])
      by_cases hk2 : k = i
      · subst hk2; omega
      · exact ha k hk (by omega)
    · have hi : i = l.length := by simp at h; omega
      subst hi
      have ht : (l.all fun n => decide (0 ≤ n) && decide (n ≤ 5)) = true := by
        rw [List.all_eq_true]
        intro p hp
        obtain ⟨k, hk, rfl⟩ := List.getElem_of_mem hp
        simpa using ha k hk hk
      rw [ht] at hK0
      subst hK0
      simp -implicitDefEqProofs (disch := omega) [wrap_id]
  · have e : rowO b l = false := by unfold rowO; rw [decide_eq_false h1]; rfl
    have h1' : ((l.length : Int) != b.P) = true := by simpa using h1
    simp -implicitDefEqProofs (disch := omega) [wrap_id, h1', e]
end Go.AM

set_option linter.unusedSimpArgs false
set_option linter.unusedVariables false
namespace Go.AM
open Go.RowKit Go.Proofs
set_option maxHeartbeats 1000000 in
theorem r_Rows_ok (g f h : Bool) (b : OB) (hz : SzO b) (r x : List Int) (hr : r.length ≤ 1000000) (hx : x.length ≤ 1000000) : PureOK Tryz.prog n_r_Rows [On g b, Ls f r, Ls h x] (I (rwsE b r x)) := by
  refine pure_of (walk func_r_Rows form_r_Rows res_r_Rows (by show 3 ≤ _; decide) ?_)
  simp -implicitDefEqProofs (disch := omega) [G_r_Rows, wrap_id]
  refine callW_pure rfl (r_CheckBench_ok g b hz.many hz.len) ?_
  by_cases h0 : chkO b = 0
  · simp -implicitDefEqProofs (disch := omega) [wrap_id, h0]
    refine callW_pure rfl (r_IsRow_ok g f b r hr) ?_
    cases h1 : rowO b r with
    | true =>
      simp -implicitDefEqProofs (disch := omega) [wrap_id, h1]
      refine callW_pure rfl (r_IsRow_ok g h b x hx) ?_
      cases h2 : rowO b x with
      | true =>
        have e : rwsE b r x = 0 := by unfold rwsE; rw [if_neg (by omega), if_neg (by simp [h1, h2])]
        simp -implicitDefEqProofs (disch := omega) [wrap_id, h2, e]
      | false =>
        have e : rwsE b r x = 2 := by unfold rwsE; rw [if_neg (by omega), if_pos (.inr h2)]
        simp -implicitDefEqProofs (disch := omega) [wrap_id, h2, e]
    | false =>
      have e : rwsE b r x = 2 := by unfold rwsE; rw [if_neg (by omega), if_pos (.inl h1)]
      simp -implicitDefEqProofs (disch := omega) [wrap_id, h1, e]
  · have e1 : rwsE b r x = chkO b := by unfold rwsE; rw [if_pos h0]
    have h0' : (chkO b != 0) = true := by simpa using h0
    simp -implicitDefEqProofs (disch := omega) [wrap_id, h0']
    refine callW_pure rfl (r_CheckBench_ok g b hz.many hz.len) ?_
    simp -implicitDefEqProofs (disch := omega) [wrap_id, e1]
end Go.AM

set_option linter.unusedSimpArgs false
set_option linter.unusedVariables false
namespace Go.AM
open Go.RowKit Go.Proofs
set_option maxHeartbeats 4000000 in
theorem r_PairsOf_ok (g : Bool) {b : OB} {n : Nat} (hb : Okb b n) {one two : Nat} (h1 : one < n) (h2 : two < n) {p : Nat × Nat → Bool} (hp : ∀ q : Nat × Nat, q.1 < n → q.2 < n → (p q = true ↔ Rch n b.S (one, two) q)) :
    PureOK Tryz.prog n_r_PairsOf [On g b, I (one : Int), I (two : Int)] (Ps (prsL (prsN n) p).isEmpty (prsL (prsN n) p)) := by
  have h6 := hb.hi
  have hP := hb.P
  have hm := hb.many
  have hS : PmS n b.S := fun s hs => by
    obtain ⟨q, hq, rfl⟩ := List.mem_map.1 hs
    exact hb.pm q hq
  have hq : (one, two).1 < n ∧ (one, two).2 < n := ⟨h1, h2⟩
  refine pure_of (walk func_r_PairsOf form_r_PairsOf res_r_PairsOf (by show 3 ≤ _; decide) ?_)
  simp -implicitDefEqProofs (disch := omega) [G_r_PairsOf, wrap_id]
  refine ⟨36, rfl, rfl, by decide, by decide, rfl, ?_⟩
  have e0 : (6 * (one : Int) + two).toNat = 6 * one + two := by omega
  have l0 : 6 * one + two < (List.replicate 36 (0 : Int)).length := by rw [List.length_replicate]; omega
  have u1 : (6 * (one : Int) + two) < 36 := by omega
  have in0 := InvP.init (S := b.S) h6 hq
  rw [zrep_ls]
  generalize List.replicate 36 (0 : Int) = M0 at l0 in0 ⊢
  simp -implicitDefEqProofs (disch := omega) [wrap_id, e0, u1]
  rw [put_ls l0]
  refine ⟨by omega, by omega, ?_⟩
  refine loop_eq (fun q : Nat × List Int => ⟨[(3, .ref 0 0), (7, .ms 1 0 36 1), (8, I (q.1 : Int))], [.cells [I b.P, LLs g b.s], .cells (q.2.map fun n => I n)]⟩) (fun q => q.1 ≤ 36 ∧ InvP n b.S (one, two) q.1 0 0 0 q.2) (fun q => 36 - q.1) (0, _) ⟨by omega, in0⟩ rfl ?_
  rintro ⟨R, M⟩ ⟨c1, c2⟩
  simp only at c1 c2 ⊢
  refine hideK' fun K0 hK0 => ?_
  simp -implicitDefEqProofs (disch := omega) [wrap_id]
  refine c_split (fun hc => ?_) (fun hc => ?_)
  · have hR : R < 36 := by simp at hc; omega
    have Rx : ((R : Int) + 1) = ((R + 1 : Nat) : Int) := by omega
    simp -implicitDefEqProofs (disch := omega) [wrap_id]
    refine loop_eq (fun q : Nat × List Int => ⟨[(3, .ref 0 0), (7, .ms 1 0 36 1), (8, I (R : Int)), (9, I (q.1 : Int))], [.cells [I b.P, LLs g b.s], .cells (q.2.map fun n => I n)]⟩) (fun q => q.1 ≤ n ∧ InvP n b.S (one, two) R q.1 0 0 q.2) (fun q => n - q.1) (0, M) ⟨by omega, c2⟩ rfl ?_
    rintro ⟨i, M1⟩ ⟨d1, d2⟩
    simp only at d1 d2 ⊢
    refine hideK' fun K1 hK1 => ?_
    simp -implicitDefEqProofs (disch := omega) [wrap_id, hP]
    refine c_split (fun hc => ?_) (fun hc => ?_)
    · have hi : i < n := by simp at hc; omega
      have ix : ((i : Int) + 1) = ((i + 1 : Nat) : Int) := by omega
      simp -implicitDefEqProofs (disch := omega) [wrap_id]
      refine loop_eq (fun q : Nat × List Int => ⟨[(3, .ref 0 0), (7, .ms 1 0 36 1), (8, I (R : Int)), (9, I (i : Int)), (10, I (q.1 : Int))], [.cells [I b.P, LLs g b.s], .cells (q.2.map fun n => I n)]⟩) (fun q => q.1 ≤ n ∧ InvP n b.S (one, two) R i q.1 0 q.2) (fun q => n - q.1) (0, M1) ⟨by omega, d2⟩ (by simp only [hP]; rfl) ?_
      rintro ⟨k, M2⟩ ⟨f1, f2⟩
      simp only at f1 f2 ⊢
      refine hideK' fun K2 hK2 => ?_
      simp -implicitDefEqProofs (disch := omega) [wrap_id, hP]
      refine c_split (fun hc => ?_) (fun hc => ?_)
      · have hk : k < n := by simp at hc; omega
        have kx : ((k : Int) + 1) = ((k + 1 : Nat) : Int) := by omega
        simp -implicitDefEqProofs (disch := omega) [wrap_id]
        refine loop_eq (fun q : Nat × List Int => ⟨[(3, .ref 0 0), (7, .ms 1 0 36 1), (8, I (R : Int)), (9, I (i : Int)), (10, I (k : Int)), (11, I (q.1 : Int))], [.cells [I b.P, LLs g b.s], .cells (q.2.map fun n => I n)]⟩) (fun q => q.1 ≤ b.s.length ∧ InvP n b.S (one, two) R i k q.1 q.2) (fun q => b.s.length - q.1) (0, M2) ⟨by omega, f2⟩ (by simp only [hP]; rfl) ?_
        rintro ⟨s, M3⟩ ⟨m1, m2⟩
        simp only at m1 m2 ⊢
        refine hideK' fun K3 hK3 => ?_
        simp -implicitDefEqProofs (disch := omega) [wrap_id]
        refine c_split (fun hc => ?_) (fun hc => ?_)
        · have hs : s < b.s.length := by simp at hc; omega
          have sx : ((s : Int) + 1) = ((s + 1 : Nat) : Int) := by omega
          have ps := hb.at hs
          have hl := m2.1.len
          have li : i < b.s[s].2.length := by rw [ps.len]; exact hi
          have lk : k < b.s[s].2.length := by rw [ps.len]; exact hk
          have st := m2.step hS h6 hq hi hk (by rw [S_len]; exact hs) (S_getD hs)
          have g1 := sg_at li
          have g2 := sg_at lk
          have r1 := ps.rng _ (List.getElem_mem li)
          have r2 := ps.rng _ (List.getElem_mem lk)
          have v1 : b.s[s].2[i] = ((sg b.s[s].2 i : Nat) : Int) := by omega
          have v2 : b.s[s].2[k] = ((sg b.s[s].2 k : Nat) : Int) := by omega
          have x1 : sg b.s[s].2 i < n := by omega
          have x2 : sg b.s[s].2 k < n := by omega
          generalize sg b.s[s].2 i = x at *
          generalize sg b.s[s].2 k = y at *
          have t1 : (6 * (i : Int) + k).toNat = 6 * i + k := by omega
          have t2 : (6 * (x : Int) + y).toNat = 6 * x + y := by omega
          have y1 : 6 * i + k < M3.length := by omega
          have y2 : 6 * x + y < M3.length := by omega
          simp -implicitDefEqProofs (disch := omega) [wrap_id, cells_lls, cells_ls, hs, li, lk, v1, v2, cmp2, nthT, t1, t2, y1, y2]
          have e1 : M3.getD (6 * i + k) 0 = M3[6 * i + k] := by rw [List.getD_eq_getElem?_getD, List.getElem?_eq_getElem y1]; rfl
          have e2 : M3.getD (6 * x + y) 0 = M3[6 * x + y] := by rw [List.getD_eq_getElem?_getD, List.getElem?_eq_getElem y2]; rfl
          rw [e1, e2] at st
          refine ⟨⟨by omega, by omega⟩, ?_⟩
          have z2 : 6 * x + y < (M3.set (6 * i + k) 1).length := by simpa using y2
          have w1 : 6 * (i : Int) + k < 36 := by omega
          have w2 : 6 * (x : Int) + y < 36 := by omega
          by_cases c1 : M3[6 * i + k] = 1
          · rw [if_pos (.inl c1)] at st
            simp -implicitDefEqProofs (disch := omega) [wrap_id, c1, t1, t2, y1, y2, w1, w2]
            rw [put_ls y1]
            refine ⟨by omega, by omega, ?_⟩
            simp -implicitDefEqProofs (disch := omega) [wrap_id, t2, y2, w2]
            rw [put_ls2 y2]
            refine ⟨by omega, by omega, ?_⟩
            rw [hK3]
            exact next_eq (s + 1, _) ⟨by simp only; omega, st⟩ (by simp only; omega) (by simp only [sx])
          · by_cases c2 : M3[6 * x + y] = 1
            · rw [if_pos (.inr c2)] at st
              have c1' : (M3[6 * i + k] == 1) = false := by simpa using c1
              simp -implicitDefEqProofs (disch := omega) [wrap_id, c1', c2, t1, t2, y1, y2, w1, w2, cells_ls]
              rw [put_ls y1]
              refine ⟨by omega, by omega, by omega, ?_⟩
              simp -implicitDefEqProofs (disch := omega) [wrap_id, t2, y2, w2]
              rw [put_ls2 y2]
              refine ⟨by omega, by omega, ?_⟩
              rw [hK3]
              exact next_eq (s + 1, _) ⟨by simp only; omega, st⟩ (by simp only; omega) (by simp only [sx])
            · rw [if_neg (by simp only [c1, c2, or_self, not_false_eq_true])] at st
              have c1' : (M3[6 * i + k] == 1) = false := by simpa using c1
              have c2' : (M3[6 * x + y] == 1) = false := by simpa using c2
              simp -implicitDefEqProofs (disch := omega) [wrap_id, c1', c2', t1, t2, y1, y2, w1, w2, cells_ls]
              refine ⟨by omega, ?_⟩
              rw [hK3]
              exact next_eq (s + 1, M3) ⟨by simp only; omega, st⟩ (by simp only; omega) (by simp only [sx])
        · have hs : s = b.s.length := by simp at hc; omega
          subst hs
          subst hK3
          simp -implicitDefEqProofs (disch := omega) [wrap_id]
          rw [hK2]
          have m3 := m2
          rw [← S_len] at m3
          exact next_eq (k + 1, M3) ⟨by simp only; omega, m3.k⟩ (by simp only; omega) (by simp only [kx])
      · have hk : k = n := by simp at hc; omega
        subst hk
        subst hK2
        simp -implicitDefEqProofs (disch := omega) [wrap_id]
        rw [hK1]
        exact next_eq (i + 1, M2) ⟨by simp only; omega, f2.i⟩ (by simp only; omega) (by simp only [ix, hP])
    · have hi : i = n := by simp at hc; omega
      subst hi
      subst hK1
      simp -implicitDefEqProofs (disch := omega) [wrap_id]
      rw [hK0]
      exact next_eq (R + 1, M1) ⟨by simp only; omega, d2.R⟩ (by simp only; omega) (by simp only [Rx, hP])
  · have hR : R = 36 := by simp at hc; omega
    subst hR
    subst hK0
    have fin := fun {i k : Nat} (hi : i < n) (hk : k < n) => c2.fin h6 hq hi hk
    have hl := c2.1.len
    simp -implicitDefEqProofs (disch := omega) [wrap_id]
    refine loop_eq (fun q : Nat × AV × List HObj => ⟨[(3, .ref 0 0), (7, .ms 1 0 36 1), (14, q.2.1), (15, I (q.1 : Int))], q.2.2⟩) (fun q => q.1 ≤ n ∧ nthH q.2.2 0 = some (.cells [I b.P, LLs g b.s]) ∧ nthH q.2.2 1 = some (.cells (M.map fun n => I n)) ∧ AccP q.2.2 q.2.1 (prsL (prsTo n q.1 0) p) ∧ rid q.2.1 ≠ some 0 ∧ rid q.2.1 ≠ some 1) (fun q => n - q.1) (0, .sl true 0 [], [.cells [I b.P, LLs g b.s], .cells (M.map fun n => I n)]) ⟨by omega, rfl, rfl, AccG.nil, by simp [rid], by simp [rid]⟩ rfl ?_
    rintro ⟨i, x, H⟩ ⟨d1, d2, d3, d4, d5, d6⟩
    simp only at d1 d2 d3 d4 d5 d6 ⊢
    refine hideK' fun K1 hK1 => ?_
    simp -implicitDefEqProofs (disch := omega) [wrap_id, hP, d2]
    refine c_split (fun hc => ?_) (fun hc => ?_)
    · have hi : i < n := by simp at hc; omega
      have ix : ((i : Int) + 1) = ((i + 1 : Nat) : Int) := by omega
      simp -implicitDefEqProofs (disch := omega) [wrap_id]
      refine loop_eq (fun q : Nat × AV × List HObj => ⟨[(3, .ref 0 0), (7, .ms 1 0 36 1), (14, q.2.1), (15, I (i : Int)), (16, I (q.1 : Int))], q.2.2⟩) (fun q => q.1 ≤ n ∧ nthH q.2.2 0 = some (.cells [I b.P, LLs g b.s]) ∧ nthH q.2.2 1 = some (.cells (M.map fun n => I n)) ∧ AccP q.2.2 q.2.1 (prsL (prsTo n i q.1) p) ∧ rid q.2.1 ≠ some 0 ∧ rid q.2.1 ≠ some 1) (fun q => n - q.1) (0, x, H) ⟨by omega, d2, d3, d4, d5, d6⟩ rfl ?_
      rintro ⟨k, y, H2⟩ ⟨f1, f2, f3, f4, f5, f6⟩
      simp only at f1 f2 f3 f4 f5 f6 ⊢
      refine hideK' fun K2 hK2 => ?_
      simp -implicitDefEqProofs (disch := omega) [wrap_id, hP, f2]
      refine c_split (fun hc => ?_) (fun hc => ?_)
      · have hk : k < n := by simp at hc; omega
        have kx : ((k : Int) + 1) = ((k + 1 : Nat) : Int) := by omega
        have t1 : (6 * (i : Int) + k).toNat = 6 * i + k := by omega
        have y1 : 6 * i + k < M.length := by omega
        have u2 : 6 * (i : Int) + k < 36 := by omega
        have fk := (fin hi hk).trans (hp (i, k) hi hk).symm
        have e1 : M.getD (6 * i + k) 0 = M[6 * i + k] := by rw [List.getD_eq_getElem?_getD, List.getElem?_eq_getElem y1]; rfl
        rw [e1] at fk
        have sn := prsL_snoc (l := prsTo n i k) (p := p) (q := (i, k))
        rw [← prsTo_k] at sn
        simp -implicitDefEqProofs (disch := omega) [wrap_id, f3, t1, y1, u2, cells_ls]
        refine ⟨by omega, c_split (fun hm => ?_) (fun hm => ?_)⟩
        · have hpk := fk.1 (by simpa using hm)
          rw [if_pos hpk] at sn
          simp -implicitDefEqProofs (disch := omega) [wrap_id, f3]
          refine bsl_of (ys := [.agg [I (i : Int), I (k : Int)]]) rfl rfl ?_
          simp -implicitDefEqProofs (disch := omega) [wrap_id, zrep]
          refine app_accG (ys := [I (i : Int), I (k : Int)]) f4 (by have := prsTo_le h6 (show i ≤ 6 by omega) (show k ≤ 6 by omega) p; omega) (by decide) rfl rfl fun ws w1 w2 w3 => ?_
          simp -implicitDefEqProofs (disch := omega) [wrap_id]
          rw [hK2]
          have l0 := nthH_lt f2
          have l1 := nthH_lt f3
          refine next_eq (k + 1, .ms H2.length 0 ((prsL (prsTo n i k) p).length + 1) 2, writeL H2 ws) ⟨by simp only; omega, (w1 0 l0 f5).trans f2, (w1 1 l1 f6).trans f3, ?_, ?_, ?_⟩ (by simp only; omega) (by simp only [kx])
          · simp only [sn]
            unfold AccP
            rw [flat2_app, List.length_append]
            exact w3
          · simp only [rid]; intro e; injection e; omega
          · simp only [rid]; intro e; injection e; omega
        · have hpk : ¬ p (i, k) = true := fun e => by have := fk.2 e; simp [this] at hm
          rw [if_neg hpk, List.append_nil] at sn
          simp -implicitDefEqProofs (disch := omega) [wrap_id]
          rw [hK2]
          exact next_eq (k + 1, y, H2) ⟨by simp only; omega, f2, f3, by simp only [sn]; exact f4, f5, f6⟩ (by simp only; omega) (by simp only [kx])
      · have hk : k = n := by simp at hc; omega
        subst hk
        subst hK2
        simp -implicitDefEqProofs (disch := omega) [wrap_id]
        rw [hK1]
        exact next_eq (i + 1, y, H2) ⟨by simp only; omega, f2, f3, by simp only [← prsTo_i]; exact f4, f5, f6⟩ (by simp only; omega) (by simp only [ix])
    · have hi : i = n := by simp at hc; omega
      subst hi
      subst hK1
      simp -implicitDefEqProofs (disch := omega) [wrap_id]
      rw [prsTo_n] at d4
      exact AccP.out d4
end Go.AM

set_option linter.unusedSimpArgs false
set_option linter.unusedVariables false
namespace Go.AM
open Go.RowKit Go.Proofs
set_option maxHeartbeats 1000000 in
theorem r_ArePlaces_ok (g : Bool) (b : OB) (one two : Int) : PureOK Tryz.prog n_r_ArePlaces [On g b, I one, I two] (B (aplO b one two)) := by
  refine pure_of (walk func_r_ArePlaces form_r_ArePlaces res_r_ArePlaces (by show 3 ≤ _; decide) ?_)
  unfold aplO
  simp -implicitDefEqProofs (disch := omega) [G_r_ArePlaces, wrap_id]
  by_cases h1 : 0 ≤ one
  · by_cases h2 : one < b.P
    · by_cases h3 : 0 ≤ two
      · by_cases h4 : two < b.P
        · by_cases h5 : one = two
          · subst h5
            simp -implicitDefEqProofs (disch := omega) [wrap_id, h1, h2]
          · have h5' : (one != two) = true := by simpa using h5
            simp -implicitDefEqProofs (disch := omega) [wrap_id, h1, h2, h3, h4, h5, h5']
        · simp -implicitDefEqProofs (disch := omega) [wrap_id, h1, h2, h3, h4]
      · simp -implicitDefEqProofs (disch := omega) [wrap_id, h1, h2, h3]
    · simp -implicitDefEqProofs (disch := omega) [wrap_id, h1, h2]
  · simp -implicitDefEqProofs (disch := omega) [wrap_id, h1]
theorem flat2_n1 {c : List (Int × Int)} {i : Nat} (h : i < c.length) : nthA (flat2 c) (i * 2) = some (I c[i].1) := by
  have h := congrArg (fun l => l[0]?) (flat2_view h)
  simp only [List.getElem?_take, List.getElem?_drop] at h
  rw [nthA_eq]
  simpa using h
theorem flat2_n2 {c : List (Int × Int)} {i : Nat} (h : i < c.length) : nthA (flat2 c) (i * 2 + 1) = some (I c[i].2) := by
  have h := congrArg (fun l => l[1]?) (flat2_view h)
  simp only [List.getElem?_take, List.getElem?_drop] at h
  rw [nthA_eq]
  simpa using h
set_option maxHeartbeats 2000000 in
theorem r_times_ok (f g : Bool) (c : List (Int × Int)) (r : List Int) (a d : Int) (hc : c.length ≤ 1000000) (hr : ∀ p ∈ c, 0 ≤ p.1 ∧ p.1 < r.length ∧ 0 ≤ p.2 ∧ p.2 < r.length) : PureOK Tryz.prog n_r_times [Ps f c, Ls g r, .agg [I a, I d]] (I (timS c r a d : Nat)) := by
  refine pure_of (walk func_r_times form_r_times res_r_times (by show 3 ≤ _; decide) ?_)
  simp -implicitDefEqProofs (disch := omega) [G_r_times, wrap_id]
  refine loop_eq (fun i : Nat => ⟨[(0, Ps f c), (1, Ls g r), (5, .ref 0 0), (7, I (((c.take i).countP (timP r a d) : Nat) : Int)), (8, I (i : Int))], [.cells [I a, I d]]⟩) (fun i => i ≤ c.length) (fun i => c.length - i) 0 (Nat.zero_le _) rfl ?_
  intro i hi
  refine hideK' fun K0 hK0 => ?_
  simp -implicitDefEqProofs (disch := omega) [wrap_id]
  refine c_split (fun h => ?_) (fun h => ?_)
  · have hi : i < c.length := by simp at h; omega
    have ix : ((i : Int) + 1) = ((i + 1 : Nat) : Int) := by omega
    have ct := countP_take (p := timP r a d) hi
    have cl : (c.take i).countP (timP r a d) ≤ i := Nat.le_trans List.countP_le_length (by rw [List.length_take]; omega)
    obtain ⟨b1, b2, b3, b4⟩ := hr c[i] (List.getElem_mem hi)
    obtain ⟨x, hx⟩ : ∃ x : Nat, c[i].1 = x := ⟨c[i].1.toNat, by omega⟩
    obtain ⟨y, hy⟩ : ∃ y : Nat, c[i].2 = y := ⟨c[i].2.toNat, by omega⟩
    have e0 : c[i] = ((x : Int), (y : Int)) := Prod.ext hx hy
    have x1 : x < r.length := by omega
    have y1 : y < r.length := by omega
    rw [e0] at ct
    simp only [timP, Int.toNat_natCast, getD_I x1, getD_I y1] at ct
    generalize hq : (c.take i).countP (timP r a d) = m at *
    have mx : ((m : Int) + 1) = ((m + 1 : Nat) : Int) := by omega
    have fl := flat2_len c
    have sp : c.length * 2 = (flat2 c).length := by omega
    have g1 := flat2_n1 hi
    have g2 := flat2_n2 hi
    rw [e0] at g1 g2
    simp only at g1 g2
    by_cases q1 : r[x] = a
    · have q1' : (r[x] == a) = true := by simpa using q1
      by_cases q2 : r[y] = d
      · have q2' : (r[y] == d) = true := by simpa using q2
        rw [q1, q2] at ct
        simp only [decide_true, Bool.and_self, if_true] at ct
        simp -implicitDefEqProofs (disch := omega) [wrap_id, hi, fl, g1, g2, x1, y1, cells_ls, q1', q2', cmp2, nthT]
        rw [hK0]
        exact next_eq (i + 1) (by omega) (by omega) (by simp only [ix, mx, ct])
      · have q2' : (r[y] == d) = false := by simpa using q2
        simp only [decide_eq_false q2, Bool.and_false, Bool.false_eq_true, if_false, Nat.add_zero] at ct
        simp -implicitDefEqProofs (disch := omega) [wrap_id, hi, fl, g1, g2, x1, y1, cells_ls, q1', q2', cmp2, nthT]
        rw [hK0]
        exact next_eq (i + 1) (by omega) (by omega) (by simp only [ix, ct])
    · have q1' : (r[x] == a) = false := by simpa using q1
      simp only [decide_eq_false q1, Bool.false_and, Bool.false_eq_true, if_false, Nat.add_zero] at ct
      simp -implicitDefEqProofs (disch := omega) [wrap_id, hi, fl, g1, g2, x1, y1, cells_ls, q1', cmp2, nthT]
      rw [hK0]
      exact next_eq (i + 1) (by omega) (by omega) (by simp only [ix, ct])
  · have hi : i = c.length := by simp at h; omega
    subst hi
    subst hK0
    simp -implicitDefEqProofs (disch := omega) [wrap_id, timS]
theorem r_PairsOf_ok' (g : Bool) {b : OB} {n : Nat} (hb : Okb b n) {one two : Int} (ha : aplO b one two = true) {pp : Nat × Nat → Nat × Nat → Bool} (hp : PPok b pp) :
    PureOK Tryz.prog n_r_PairsOf [On g b, I one, I two] (Ps (prsV b one two pp).isEmpty (prsV b one two pp)) := by
  unfold aplO at ha
  have ha := of_decide_eq_true ha
  have hP := hb.P
  obtain ⟨x, rfl⟩ : ∃ x : Nat, one = x := ⟨one.toNat, by omega⟩
  obtain ⟨y, rfl⟩ : ∃ y : Nat, two = y := ⟨two.toNat, by omega⟩
  have eP : b.P.toNat = n := by omega
  unfold prsV
  rw [eP]
  exact r_PairsOf_ok g hb (by omega) (by omega) fun q q1 q2 => hp n hb (x, y) q (by simp only; omega) (by simp only; omega) q1 q2
set_option maxHeartbeats 1000000 in
theorem r_Pairs_ok (g : Bool) (b : OB) (hz : SzO b) (one two : Int) {pp : Nat × Nat → Nat × Nat → Bool} (hp : PPok b pp) : PureOK Tryz.prog n_r_Pairs [On g b, I one, I two] (.tup [Ps (prsA b one two pp).isEmpty (prsA b one two pp), I (prsE b one two)]) := by
  refine pure_of (walk func_r_Pairs form_r_Pairs res_r_Pairs (by show 3 ≤ _; decide) ?_)
  simp -implicitDefEqProofs (disch := omega) [G_r_Pairs, wrap_id]
  refine callW_pure rfl (r_CheckBench_ok g b hz.many hz.len) ?_
  by_cases h0 : chkO b = 0
  · obtain ⟨n, hb⟩ := okb_of h0
    simp -implicitDefEqProofs (disch := omega) [wrap_id, h0]
    refine callW_pure rfl (r_ArePlaces_ok g b one two) ?_
    cases ha : aplO b one two with
    | true =>
      have e1 : prsE b one two = 0 := by unfold prsE; rw [if_neg (by omega), if_pos ha]
      have e2 : prsA b one two pp = prsV b one two pp := by unfold prsA; rw [if_pos e1]
      rw [e1, e2]
      simp -implicitDefEqProofs (disch := omega) [wrap_id]
      refine callW_pure rfl (r_PairsOf_ok' g hb ha hp) ?_
      simp -implicitDefEqProofs (disch := omega) [wrap_id]
      exact out_of (is := []) rfl
    | false =>
      have e1 : prsE b one two = 3 := by unfold prsE; rw [if_neg (by omega), if_neg (by simp [ha])]
      have e2 : prsA b one two pp = [] := by unfold prsA; rw [if_neg (by omega)]
      rw [e1, e2]
      simp -implicitDefEqProofs (disch := omega) [wrap_id]
      exact out_of (is := []) rfl
  · have e1 : prsE b one two = chkO b := by unfold prsE; rw [if_pos h0]
    have e2 : prsA b one two pp = [] := by unfold prsA; rw [if_neg (by omega)]
    have h0' : (chkO b != 0) = true := by simpa using h0
    rw [e1, e2]
    simp -implicitDefEqProofs (disch := omega) [wrap_id, h0']
    refine callW_pure rfl (r_CheckBench_ok g b hz.many hz.len) ?_
    simp -implicitDefEqProofs (disch := omega) [wrap_id]
    exact out_of (is := []) rfl
set_option maxHeartbeats 2000000 in
theorem r_CheckPair_ok (g f h : Bool) (b : OB) (hz : SzO b) (r x : List Int) (hr : r.length ≤ 1000000) (hx : x.length ≤ 1000000) (one two c d : Int) {pp : Nat × Nat → Nat × Nat → Bool} (hp : PPok b pp) :
    PureOK Tryz.prog n_r_CheckPair [On g b, Ls f r, Ls h x, Pt one two c d] (I (ckpE b r x one two c d pp)) := by
  refine pure_of (walk func_r_CheckPair form_r_CheckPair res_r_CheckPair (by show 4 ≤ _; decide) ?_)
  simp -implicitDefEqProofs (disch := omega) [G_r_CheckPair, wrap_id]
  refine callW_pure rfl (r_Rows_ok g f h b hz r x hr hx) ?_
  by_cases h0 : rwsE b r x = 0
  · obtain ⟨n, hb, lr, lx, _, _⟩ := rws_ok h0
    have h6 := hb.hi
    simp -implicitDefEqProofs (disch := omega) [wrap_id, h0]
    refine callW_pure rfl (r_ArePlaces_ok g b one two) ?_
    cases ha : aplO b one two with
    | false =>
      have e : ckpE b r x one two c d pp = 3 := by unfold ckpE; rw [if_neg (by omega), if_pos (.inl ha)]
      simp -implicitDefEqProofs (disch := omega) [wrap_id, e]
    | true =>
      have bad : colO c d = false → ckpE b r x one two c d pp = 3 := fun hc => by unfold ckpE; rw [if_neg (by omega), if_pos (.inr hc)]
      by_cases q1 : c < 0
      · have e := bad (decide_eq_false (by omega))
        simp -implicitDefEqProofs (disch := omega) [wrap_id, e, q1]
      by_cases q2 : 5 < c
      · have e := bad (decide_eq_false (by omega))
        simp -implicitDefEqProofs (disch := omega) [wrap_id, e, q1, q2]
      by_cases q3 : d < 0
      · have e := bad (decide_eq_false (by omega))
        simp -implicitDefEqProofs (disch := omega) [wrap_id, e, q1, q2, q3]
      by_cases q4 : 5 < d
      · have e := bad (decide_eq_false (by omega))
        simp -implicitDefEqProofs (disch := omega) [wrap_id, e, q1, q2, q3, q4]
      have hc : colO c d = true := decide_eq_true (by omega)
      have pl := prsV_len hb (one := one) (two := two) (pp := pp)
      have pr := prsV_rng hb (one := one) (two := two) (pp := pp)
      simp -implicitDefEqProofs (disch := omega) [wrap_id, q1, q2, q3, q4]
      refine callW_pure rfl (r_PairsOf_ok' g hb ha hp) ?_
      simp -implicitDefEqProofs (disch := omega) [wrap_id]
      refine pureW_of rfl (r_times_ok _ f (prsV b one two pp) r c d (by omega) (by rw [lr]; exact pr)) ?_
      simp -implicitDefEqProofs (disch := omega) [wrap_id]
      refine pureW_of rfl (r_times_ok _ h (prsV b one two pp) x c d (by omega) (by rw [lx]; exact pr)) ?_
      have e : ckpE b r x one two c d pp = if timS (prsV b one two pp) r c d = timS (prsV b one two pp) x c d then 14 else 0 := by unfold ckpE; rw [if_neg (by omega), if_neg (by simp [ha, hc])]
      rw [e]
      by_cases ht : timS (prsV b one two pp) r c d = timS (prsV b one two pp) x c d
      · simp -implicitDefEqProofs (disch := omega) [wrap_id, cmp2, nthT, ht]
      · have ht' : (((timS (prsV b one two pp) r c d : Nat) : Int) == ((timS (prsV b one two pp) x c d : Nat) : Int)) = false := by simp only [beq_eq_false_iff_ne, ne_eq]; omega
        simp -implicitDefEqProofs (disch := omega) [wrap_id, cmp2, nthT, ht, ht']
  · have e1 : ckpE b r x one two c d pp = rwsE b r x := by unfold ckpE; rw [if_pos h0]
    have h0' : (rwsE b r x != 0) = true := by simpa using h0
    simp -implicitDefEqProofs (disch := omega) [wrap_id, h0', e1]
    refine callW_pure rfl (r_Rows_ok g f h b hz r x hr hx) ?_
    simp -implicitDefEqProofs (disch := omega) [wrap_id]
end Go.AM

set_option linter.unusedSimpArgs false
set_option linter.unusedVariables false
namespace Go.AM
open Go.RowKit Go.Proofs
def tripTo (n i k c : Nat) : List (Nat × Nat × Nat) :=
  ((List.range i).flatMap fun a => (List.range n).flatMap fun d => (List.range 36).map fun e => (a, d, e)) ++ (((List.range k).flatMap fun d => (List.range 36).map fun e => (i, d, e)) ++ (List.range c).map fun e => (i, k, e))
theorem tripTo_c {n i k c : Nat} : tripTo n i k (c + 1) = tripTo n i k c ++ [(i, k, c)] := by simp [tripTo, List.range_succ]
theorem tripTo_k {n i k : Nat} : tripTo n i k 36 = tripTo n i (k + 1) 0 := by
  unfold tripTo
  rw [show List.range (k + 1) = List.range k ++ [k] from List.range_succ, List.flatMap_append]
  simp only [List.flatMap_cons, List.flatMap_nil, List.append_nil, List.range_zero, List.map_nil]
theorem tripTo_i {n i : Nat} : tripTo n i n 0 = tripTo n (i + 1) 0 0 := by
  unfold tripTo
  rw [show List.range (i + 1) = List.range i ++ [i] from List.range_succ, List.flatMap_append]
  simp only [List.flatMap_cons, List.flatMap_nil, List.append_nil, List.range_zero, List.map_nil]
theorem tripTo_n {n : Nat} : tripTo n n 0 0 = trip n := by simp [tripTo, trip]
theorem trip_c {n i k : Nat} {c d : Nat} (h : c ≤ d) : tripTo n i k c <+: tripTo n i k d := by
  induction d with
  | zero => have : c = 0 := by omega
            subst this; exact List.prefix_refl _
  | succ d ih =>
    by_cases e : c = d + 1
    · subst e; exact List.prefix_refl _
    · rw [tripTo_c]; exact (ih (by omega)).trans (List.prefix_append _ _)
theorem trip_k {n i : Nat} {k d : Nat} (h : k ≤ d) : tripTo n i k 0 <+: tripTo n i d 0 := by
  induction d with
  | zero => have : k = 0 := by omega
            subst this; exact List.prefix_refl _
  | succ d ih =>
    by_cases e : k = d + 1
    · subst e; exact List.prefix_refl _
    · rw [← tripTo_k]; exact (ih (by omega)).trans (trip_c (by omega))
theorem trip_i {n : Nat} {i d : Nat} (h : i ≤ d) : tripTo n i 0 0 <+: tripTo n d 0 0 := by
  induction d with
  | zero => have : i = 0 := by omega
            subst this; exact List.prefix_refl _
  | succ d ih =>
    by_cases e : i = d + 1
    · subst e; exact List.prefix_refl _
    · rw [← tripTo_i]; exact (ih (by omega)).trans (trip_k (by omega))
theorem trip_pre {n i k c : Nat} (hi : i < n) (hk : k < n) (hc : c ≤ 36) : tripTo n i k c <+: trip n := by
  rw [← tripTo_n]
  refine (trip_c hc).trans ?_
  rw [tripTo_k]
  refine (trip_k (show k + 1 ≤ n by omega)).trans ?_
  rw [tripTo_i]
  exact trip_i (by omega)
theorem find_here {α : Type} {p : α → Bool} {A L : List α} {t : α} (h : (A ++ [t]) <+: L) (hn : A.find? p = none) (ht : p t = true) : L.find? p = some t := by
  obtain ⟨R, rfl⟩ := h
  rw [List.find?_append, List.find?_append, hn]
  simp [ht]
theorem find_snoc {α : Type} {p : α → Bool} {A : List α} {t : α} (hn : A.find? p = none) (ht : p t = false) : (A ++ [t]).find? p = none := by
  rw [List.find?_append, hn]
  simp [ht]
theorem ckp_tst {b : OB} {n : Nat} (hb : Okb b n) {r x : List Int} (h0 : rwsE b r x = 0) {pp : Nat × Nat → Nat × Nat → Bool} {i k c : Nat} (hi : i < n) (hk : k < n) (hc : c < 36) (hne : i ≠ k) :
    tstO b r x pp (i, k, c) = decide (ckpE b r x i k (c / 6 : Nat) (c % 6 : Nat) pp = 0) := by
  have hP := hb.P
  have ha : aplO b i k = true := decide_eq_true (by omega)
  have hcc : colO ((c / 6 : Nat) : Int) ((c % 6 : Nat) : Int) = true := by
    unfold colO
    rw [decide_eq_true_iff]
    have h1 : c / 6 ≤ 5 := by omega
    have h2 : c % 6 ≤ 5 := by omega
    generalize c / 6 = u at *
    generalize c % 6 = v at *
    omega
  unfold tstO ckpE
  rw [if_neg (by omega), if_neg (fun h => h.elim (fun h => by rw [ha] at h; cases h) (fun h => by rw [hcc] at h; cases h))]
  simp only [decide_eq_true hne, Bool.true_and]
  split
  · rename_i e; rw [decide_eq_false (fun h => h e), decide_eq_false (by decide)]
  · rename_i e; rw [decide_eq_true e, decide_eq_true rfl]
set_option maxHeartbeats 4000000 in
theorem r_Pair_ok (g f h : Bool) (b : OB) (hz : SzO b) (r x : List Int) (hr : r.length ≤ 1000000) (hx : x.length ≤ 1000000) {pp : Nat × Nat → Nat × Nat → Bool} (hp : PPok b pp) :
    PureOK Tryz.prog n_r_Pair [On g b, Ls f r, Ls h x] (.tup [prT b r x pp, I (prE b r x pp)]) := by
  refine pure_of (callW_of func_r_Pair form_r_Pair resc_r_Pair (by show 3 ≤ _; decide) ?_)
  simp -implicitDefEqProofs (disch := omega) [G_r_Pair, wrap_id]
  refine callW_pure rfl (r_Rows_ok g f h b hz r x hr hx) ?_
  by_cases h0 : rwsE b r x = 0
  · obtain ⟨n, hb, lr, lx, _, _⟩ := rws_ok h0
    simp -implicitDefEqProofs (disch := omega) [wrap_id, h0]
    have hP := hb.P
    have h6 := hb.hi
    have eP : b.P.toNat = n := by omega
    have ef : fstT b r x pp = (trip n).find? (tstO b r x pp) := by unfold fstT; rw [eP]
    refine loop_eq (fun i : Nat × List HObj => ⟨[(1, Ls f r), (2, Ls h x), (3, .ref 0 0), (6, .ref 1 0), (8, I (i.1 : Int))], [.cells [I b.P, LLs g b.s], .cells [I 0, I 0, I 0, I 0]] ++ i.2⟩) (fun i => i.1 ≤ n ∧ (tripTo n i.1 0 0).find? (tstO b r x pp) = none) (fun i => n - i.1) (0, []) ⟨by omega, rfl⟩ (by simp) ?_
    rintro ⟨i, J⟩ ⟨c1, c2⟩
    simp only at c1 c2 ⊢
    refine hideK' fun K0 hK0 => ?_
    simp -implicitDefEqProofs (disch := omega) [wrap_id, hP]
    refine c_split (fun hc => ?_) (fun hc => ?_)
    · have hi : i < n := by simp at hc; omega
      have ix : ((i : Int) + 1) = ((i + 1 : Nat) : Int) := by omega
      simp -implicitDefEqProofs (disch := omega) [wrap_id]
      refine loop_eq (fun k : Nat × List HObj => ⟨[(1, Ls f r), (2, Ls h x), (3, .ref 0 0), (6, .ref 1 0), (8, I (i : Int)), (9, I (k.1 : Int))], [.cells [I b.P, LLs g b.s], .cells [I 0, I 0, I 0, I 0]] ++ k.2⟩) (fun k => k.1 ≤ n ∧ (tripTo n i k.1 0).find? (tstO b r x pp) = none) (fun k => n - k.1) (0, J) ⟨by omega, c2⟩ (by simp [hP]) ?_
      rintro ⟨k, J1⟩ ⟨d1, d2⟩
      simp only at d1 d2 ⊢
      refine hideK' fun K1 hK1 => ?_
      simp -implicitDefEqProofs (disch := omega) [wrap_id, hP]
      refine c_split (fun hc => ?_) (fun hc => ?_)
      · have hk : k < n := by simp at hc; omega
        have kx : ((k : Int) + 1) = ((k + 1 : Nat) : Int) := by omega
        by_cases hik : i = k
        · subst hik
          have all : ∀ c ≤ 36, (tripTo n i i c).find? (tstO b r x pp) = none := fun c => by
            induction c with
            | zero => exact fun _ => d2
            | succ c ih => intro hc; rw [tripTo_c]; exact find_snoc (ih (by omega)) (by simp [tstO])
          have d3 := all 36 (Nat.le_refl _)
          rw [tripTo_k] at d3
          simp -implicitDefEqProofs (disch := omega) [wrap_id]
          rw [hK1]
          exact next_eq (i + 1, J1) ⟨by simp only; omega, d3⟩ (by simp only; omega) (by simp only [kx, hP]; rfl)
        · have hik' : ((i : Int) == (k : Int)) = false := by simp only [beq_eq_false_iff_ne, ne_eq]; omega
          simp -implicitDefEqProofs (disch := omega) [wrap_id, hik']
          refine loop_eq (fun c : Nat × List HObj => ⟨[(1, Ls f r), (2, Ls h x), (3, .ref 0 0), (6, .ref 1 0), (8, I (i : Int)), (9, I (k : Int)), (10, I (c.1 : Int))], [.cells [I b.P, LLs g b.s], .cells [I 0, I 0, I 0, I 0]] ++ c.2⟩) (fun c => c.1 ≤ 36 ∧ (tripTo n i k c.1).find? (tstO b r x pp) = none) (fun c => 36 - c.1) (0, J1) ⟨by omega, d2⟩ (by simp [hP]) ?_
          rintro ⟨c, J2⟩ ⟨f1, f2⟩
          simp only at f1 f2 ⊢
          refine hideK' fun K2 hK2 => ?_
          simp -implicitDefEqProofs (disch := omega) [wrap_id, hP]
          refine c_split (fun hc => ?_) (fun hc => ?_)
          · have hc : c < 36 := by simp at hc; omega
            have cx : ((c : Int) + 1) = ((c + 1 : Nat) : Int) := by omega
            obtain ⟨u, hu⟩ : ∃ u : Nat, c / 6 = u := ⟨_, rfl⟩
            obtain ⟨v, hv⟩ : ∃ v : Nat, c % 6 = v := ⟨_, rfl⟩
            have q1 : (c : Int).tdiv 6 = (u : Int) := by rw [← hu, Int.tdiv_eq_ediv_of_nonneg (by omega)]; rfl
            have q2 : (c : Int).tmod 6 = (v : Int) := by rw [← hv, Int.tmod_eq_emod_of_nonneg (by omega)]; rfl
            have tt := ckp_tst hb h0 (pp := pp) hi hk hc hik
            rw [hu, hv] at tt
            simp -implicitDefEqProofs (disch := omega) [wrap_id, q1, q2]
            have ck := r_CheckPair_ok g f h b hz r x hr hx i k u v hp
            rw [On, hP] at ck
            refine callW_pure rfl ck ?_
            by_cases hz : ckpE b r x i k u v pp = 0
            · have hf : (trip n).find? (tstO b r x pp) = some (i, k, c) := find_here (A := tripTo n i k c) (by rw [← tripTo_c]; exact trip_pre hi hk (by omega)) f2 (by rw [tt]; exact decide_eq_true hz)
              have e1 : prE b r x pp = 0 := by unfold prE; rw [if_neg (by omega), ef, hf]; rfl
              have e2 : prT b r x pp = Pt i k u v := by unfold prT; rw [if_neg (by omega), ef, hf]; simp only [hu, hv]
              rw [e1, e2] at hK0
              subst hK2
              subst hK1
              subst hK0
              simp -implicitDefEqProofs (disch := omega) [wrap_id, hz]
              exact retC_agg_v rfl rfl (by simp) out_pt
            · have hz' : (ckpE b r x i k u v pp == 0) = false := by simpa using hz
              simp -implicitDefEqProofs (disch := omega) [wrap_id, hz']
              rw [hK2]
              refine next_eq (c + 1, _) ⟨by simp only; omega, ?_⟩ (by simp only; omega) (by simp only [cx, hP]; rfl)
              simp only [tripTo_c]
              exact find_snoc f2 (by rw [tt]; exact decide_eq_false hz)
          · have hc : c = 36 := by simp at hc; omega
            subst hc
            subst hK2
            simp -implicitDefEqProofs (disch := omega) [wrap_id]
            rw [hK1]
            exact next_eq (k + 1, J2) ⟨by simp only; omega, by simp only [← tripTo_k]; exact f2⟩ (by simp only; omega) (by simp only [kx, hP]; rfl)
      · have hk : k = n := by simp at hc; omega
        subst hk
        subst hK1
        simp -implicitDefEqProofs (disch := omega) [wrap_id]
        rw [hK0]
        exact next_eq (i + 1, J1) ⟨by simp only; omega, by simp only [← tripTo_i]; exact d2⟩ (by simp only; omega) (by simp only [ix, hP]; rfl)
    · have hi : i = n := by simp at hc; omega
      subst hi
      rw [tripTo_n, ← ef] at c2
      have e1 : prE b r x pp = 5 := by unfold prE; rw [if_neg (by omega), if_pos c2]
      have e2 : prT b r x pp = Pt 0 0 0 0 := by unfold prT; rw [if_neg (by omega), c2]
      rw [e1, e2] at hK0
      subst hK0
      simp -implicitDefEqProofs (disch := omega) [wrap_id]
      exact retC_agg_v rfl rfl (by simp) out_pt
  · have e1 : prE b r x pp = rwsE b r x := by unfold prE; rw [if_pos h0]
    have e2 : prT b r x pp = Pt 0 0 0 0 := by unfold prT; rw [if_pos h0]
    have h0' : (rwsE b r x != 0) = true := by simpa using h0
    simp -implicitDefEqProofs (disch := omega) [wrap_id, h0', e1, e2]
    refine callW_pure rfl (r_Rows_ok g f h b hz r x hr hx) ?_
    simp -implicitDefEqProofs (disch := omega) [wrap_id]
    exact retC_agg_v rfl rfl (by simp) out_pt
end Go.AM

set_option maxRecDepth 100000
namespace Go.AM
open Go.RowKit Go.Proofs
abbrev n_l_OrderPairs : Nat := 6
def G_l_OrderPairs : AC := (.seq (.rgn [⟨none, [(.box 6 2 (.t 0)), (.box 11 4 (.t 5)), (.mv 12 (.k (B false)))]⟩] [1, 2, 3, 4, 6, 11]) (.seq (.seq (.rgn [⟨none, [(.ld 21 true 2 (.t 6)), (.call 22 13 [(.t 21)]), (.mv 23 (.t 22))]⟩, ⟨(some (23, false)), [(.ld 24 true 2 (.t 6)), (.call 25 28 [(.t 24)])]⟩, ⟨none, [(.pick 26 (.t 23) (.k (B true)) (.t 25)), (.mv 27 (.t 26))]⟩, ⟨(some (27, false)), [(.mv 28 (.t 1)), (.call 29 14 [(.t 28)])]⟩, ⟨none, [(.pick 30 (.t 27) (.k (B true)) (.t 29)), (.mv 31 (.t 30))]⟩, ⟨(some (31, false)), [(.mv 32 (.t 2)), (.call 33 14 [(.t 32)])]⟩, ⟨none, [(.pick 34 (.t 31) (.k (B true)) (.t 33))]⟩] [1, 2, 3, 4, 6, 11, 34]) (.cond (.t 34) (.seq (.rgn [⟨none, [(.call 35 16 []), (.mv 12 (.t 35))]⟩] [12]) .ret) .skip)) (.seq (.rgn [⟨none, [(.ld 37 true 2 (.t 6)), (.mv 38 (.t 3)), (.mv 39 (.t 4)), (.call 40 40 [(.t 37), (.t 38), (.t 39)]), (.mv 36 (.t 40)), (.ext 41 (.t 36) 0), (.ext 42 (.t 36) 1), (.mv 13 (.t 41)), (.mv 14 (.t 42))]⟩] [1, 2, 3, 4, 6, 11, 13, 14]) (.seq (.rgn [⟨none, [(.ld 44 true 2 (.t 6)), (.mv 45 (.t 3)), (.mv 46 (.t 4)), (.call 47 41 [(.t 44), (.t 45), (.t 46)]), (.mv 43 (.t 47)), (.ext 48 (.t 43) 0), (.ext 49 (.t 43) 1), (.mv 15 (.t 48)), (.mv 16 (.t 49))]⟩] [1, 2, 6, 11, 13, 14, 15, 16]) (.seq (.rgn [⟨none, [(.ld 51 true 2 (.t 6)), (.mv 52 (.t 1)), (.mv 53 (.t 2)), (.call 54 42 [(.t 51), (.t 52), (.t 53)]), (.mv 50 (.t 54)), (.ext 55 (.t 50) 0), (.ext 56 (.t 50) 1), (.al 17 [(I 0), (I 0), (I 0), (I 0)]), (.st 4 (.t 17) (.t 55)), (.mv 18 (.t 56))]⟩] [1, 2, 6, 11, 13, 14, 15, 16, 17, 18]) (.seq (.rgn [⟨none, [(.ld 58 true 2 (.t 6)), (.mv 59 (.t 1)), (.mv 60 (.t 2)), (.call 61 43 [(.t 58), (.t 59), (.t 60)]), (.mv 57 (.t 61)), (.ext 62 (.t 57) 0), (.ext 63 (.t 57) 1), (.al 19 [(I 0), (I 0), (I 0), (I 0)]), (.st 4 (.t 19) (.t 62)), (.mv 20 (.t 63))]⟩] [1, 2, 6, 11, 13, 14, 15, 16, 17, 18, 19, 20]) (.seq (.drw [⟨none, [(.mv 64 (.t 13)), (.mv 65 (.t 15)), (.call 66 44 [(.t 64), (.t 65)]), (.mv 67 (.t 66))]⟩, ⟨(some (67, true)), [(.mv 68 (.t 14)), (.mv 69 (.t 16)), (.bin 70 .eql (.t 68) (.t 69))]⟩, ⟨none, [(.pick 71 (.t 67) (.t 70) (.k (B false))), (.mv 72 (.t 71))]⟩, ⟨(some (72, true)), [(.ld 73 true 4 (.t 17)), (.ld 74 true 4 (.t 19)), (.eqk 75 false (true, [.int, .int, .int, .int]) (.t 73) (.t 74))]⟩, ⟨none, [(.pick 76 (.t 72) (.t 75) (.k (B false))), (.mv 77 (.t 76))]⟩, ⟨(some (77, true)), [(.mv 78 (.t 18)), (.mv 79 (.t 20)), (.bin 80 .eql (.t 78) (.t 79))]⟩, ⟨none, [(.pick 81 (.t 77) (.t 80) (.k (B false))), (.mv 82 (.t 81))]⟩, ⟨(some (82, true)), [(.ld 83 true 2 (.t 6)), (.mv 84 (.t 1)), (.mv 85 (.t 2)), (.ld 86 true 4 (.t 11)), (.call 87 45 [(.t 83), (.t 84), (.t 85), (.t 86)]), (.ld 88 true 2 (.t 6)), (.mv 89 (.t 1)), (.mv 90 (.t 2)), (.ld 91 true 4 (.t 11)), (.call 92 46 [(.t 88), (.t 89), (.t 90), (.t 91)]), (.bin 93 .eql (.t 87) (.t 92))]⟩, ⟨none, [(.pick 94 (.t 82) (.t 93) (.k (B false))), (.mv 95 (.t 94))]⟩, ⟨(some (95, true)), [(.call 96 16 [])]⟩, ⟨none, [(.pick 97 (.t 95) (.t 96) (.k (B false))), (.mv 12 (.t 97))]⟩] [(9, 10), (19, 22), (19, 24), (22, 24), (23, 24), (19, 27), (22, 27), (23, 27), (24, 27)] [12]) .ret)))))))
theorem func_l_OrderPairs : Tryz.prog.funcs[n_l_OrderPairs]? = some Tryz.f6 := Tryz.func6
theorem form_l_OrderPairs : formOf Tryz.prog Tryz.f6 [12] = some G_l_OrderPairs := by kernel_rfl
theorem res_l_OrderPairs : resTmps Tryz.f6.results.toList = some [12] := by kernel_rfl
abbrev n_l_great : Nat := 13
def G_l_great : AC := (.seq (.rgn [⟨none, [(.box 1 2 (.t 0)), (.mv 2 (.k (B false)))]⟩] [1]) (.seq (.seq (.rgn [⟨none, [(.fa 4 (.t 1) 1), (.ld 5 false 1 (.t 4)), (.len 6 (.t 5)), (.bin 7 .gtr (.t 6) (.k (I 10)))]⟩] [1, 7]) (.cond (.t 7) (.seq (.rgn [⟨none, [(.mv 2 (.k (B true)))]⟩] [2]) .ret) .skip)) (.seq (.seq (.rgn [⟨none, [(.mv 3 (.k (I 0)))]⟩] [1, 3]) (.block 0 (.loop (.seq (.seq (.rgn [⟨none, [(.mv 8 (.t 3)), (.fa 9 (.t 1) 1), (.ld 10 false 1 (.t 9)), (.len 11 (.t 10)), (.bin 12 .lss (.t 8) (.t 11))]⟩] [1, 3, 12]) (.cond (.t 12) .skip (.exit 0))) (.seq (.block 1 (.seq (.rgn [⟨none, [(.fa 15 (.t 1) 1), (.ld 16 false 1 (.t 15)), (.mv 17 (.t 3)), (.ia 18 1 (.t 16) (.t 17)), (.ld 19 false 1 (.t 18)), (.len 20 (.t 19)), (.bin 21 .gtr (.t 20) (.k (I 10)))]⟩] [1, 3, 21]) (.cond (.t 21) (.seq (.rgn [⟨none, [(.mv 2 (.k (B true)))]⟩] [2]) .ret) .skip))) (.rgn [⟨none, [(.mv 13 (.t 3)), (.bin 14 .add (.t 13) (.k (I 1))), (.mv 3 (.t 14))]⟩] [1, 3])))))) (.seq (.rgn [⟨none, [(.mv 2 (.k (B false)))]⟩] [2]) .ret))))
theorem func_l_great : Tryz.prog.funcs[n_l_great]? = some Tryz.f13 := Tryz.func13
theorem form_l_great : formOf Tryz.prog Tryz.f13 [2] = some G_l_great := by kernel_rfl
theorem res_l_great : resTmps Tryz.f13.results.toList = some [2] := by kernel_rfl
abbrev n_l_long : Nat := 14
def G_l_long : AC := (.seq (.rgn [⟨none, [(.mv 2 (.k (B false)))]⟩] [0]) (.seq (.rgn [⟨none, [(.mv 3 (.t 0)), (.len 4 (.t 3)), (.bin 5 .gtr (.t 4) (.k (I 10))), (.mv 2 (.t 5))]⟩] [2]) .ret))
theorem func_l_long : Tryz.prog.funcs[n_l_long]? = some Tryz.f14 := Tryz.func14
theorem form_l_long : formOf Tryz.prog Tryz.f14 [2] = some G_l_long := by kernel_rfl
theorem res_l_long : resTmps Tryz.f14.results.toList = some [2] := by kernel_rfl
abbrev n_l_wide : Nat := 28
def G_l_wide : AC := (.seq (.rgn [⟨none, [(.box 1 2 (.t 0)), (.mv 2 (.k (B false)))]⟩] [1]) (.seq (.rgn [⟨none, [(.ld 3 true 2 (.t 1)), (.call 4 24 [(.t 3)]), (.bin 5 .eql (.t 4) (.k (I 0))), (.mv 6 (.t 5))]⟩, ⟨(some (6, true)), [(.fa 7 (.t 1) 0), (.ld 8 false 1 (.t 7)), (.bin 9 .gtr (.t 8) (.k (I 5)))]⟩, ⟨none, [(.pick 10 (.t 6) (.t 9) (.k (B false))), (.mv 2 (.t 10))]⟩] [2]) .ret))
theorem func_l_wide : Tryz.prog.funcs[n_l_wide]? = some Tryz.f28 := Tryz.func28
theorem form_l_wide : formOf Tryz.prog Tryz.f28 [2] = some G_l_wide := by kernel_rfl
theorem res_l_wide : resTmps Tryz.f28.results.toList = some [2] := by kernel_rfl
end Go.AM

set_option linter.unusedSimpArgs false
set_option linter.unusedVariables false
namespace Go.AM
open Go.RowKit Go.Proofs
def grtO (b : OB) : Bool := decide (10 < b.s.length) || b.s.any fun p => decide (10 < p.2.length)
theorem l_great_ok (g : Bool) (b : OB) (hb : b.s.length ≤ 9223372036854775807) (hz : ∀ p ∈ b.s, p.2.length ≤ 9223372036854775807) : PureOK Tryz.prog n_l_great [On g b] (B (grtO b)) := by
  refine pure_of (walk func_l_great form_l_great res_l_great (by show 1 ≤ _; decide) ?_)
  simp -implicitDefEqProofs (disch := omega) [G_l_great, wrap_id]
  by_cases h : 10 < b.s.length
  · have h' : (10 : Int) < b.s.length := by omega
    have e : grtO b = true := by simp [grtO, h]
    rw [e]
    simp -implicitDefEqProofs (disch := omega) [wrap_id, h']
  · have h' : ¬ (10 : Int) < b.s.length := by omega
    have e0 : grtO b = b.s.any fun p => decide (10 < p.2.length) := by simp [grtO, h]
    generalize grtO b = E at e0 ⊢
    simp -implicitDefEqProofs (disch := omega) [wrap_id, h']
    refine loop_eq (fun i : Nat => ⟨[(1, .ref 0 0), (3, I (i : Int))], [.cells [I b.P, LLs g b.s]]⟩) (fun i => i ≤ b.s.length ∧ ∀ k (hk : k < b.s.length), k < i → ¬ 10 < b.s[k].2.length) (fun i => b.s.length - i) 0 ⟨by omega, fun k hk h => by omega⟩ rfl ?_
    rintro i ⟨hi, he⟩
    refine hideK' fun K0 hK0 => ?_
    simp -implicitDefEqProofs (disch := omega) [wrap_id]
    refine c_split (fun hc => ?_) (fun hc => ?_)
    · have h1 : i < b.s.length := by simp at hc; omega
      have ix : ((i : Int) + 1) = ((i + 1 : Nat) : Int) := by omega
      have z1 := hz _ (List.getElem_mem h1)
      by_cases e : 10 < b.s[i].2.length
      · have e' : (10 : Int) < b.s[i].2.length := by omega
        have : (b.s.any fun p => decide (10 < p.2.length)) = true := List.any_eq_true.2 ⟨_, List.getElem_mem h1, by simpa using e⟩
        rw [this] at e0
        subst e0
        subst hK0
        simp -implicitDefEqProofs (disch := omega) [wrap_id, cells_lls, h1, e']
      · have e' : ¬ (10 : Int) < b.s[i].2.length := by omega
        simp -implicitDefEqProofs (disch := omega) [wrap_id, cells_lls, h1, e']
        rw [hK0]
        refine next_eq (i + 1) ⟨by omega, fun k hk h2 => ?_⟩ (by omega) (by simp only [ix])
        by_cases ek : k = i
        · subst ek; exact e
        · exact he k hk (by omega)
    · have h1 : i = b.s.length := by simp at hc; omega
      have : (b.s.any fun p => decide (10 < p.2.length)) = false := by
        rw [List.any_eq_false]
        intro p hp
        obtain ⟨k, hk, rfl⟩ := List.getElem_of_mem hp
        simpa using he k hk (by omega)
      rw [this] at e0
      subst e0
      subst hK0
      simp -implicitDefEqProofs (disch := omega) [wrap_id]
theorem grt_sz {b : OB} (h : grtO b = false) : Sz12 b ∧ SzO b := by
  unfold grtO at h
  rw [Bool.or_eq_false_iff] at h
  have h1 : ¬ 10 < b.s.length := by simpa using h.1
  have h2 : ∀ p ∈ b.s, ¬ 10 < p.2.length := fun p hp => by simpa using List.any_eq_false.1 h.2 p hp
  exact ⟨⟨by omega, fun p hp => by have := h2 p hp; omega⟩, ⟨by omega, fun p hp => by have := h2 p hp; omega⟩⟩
theorem l_long_ok (f : Bool) (l : List Int) (hl : l.length ≤ 9223372036854775807) : PureOK Tryz.prog n_l_long [Ls f l] (B (decide (10 < l.length))) := by
  refine pure_of (walk func_l_long form_l_long res_l_long (by show 1 ≤ _; decide) ?_)
  by_cases h : 10 < l.length
  · have h' : (10 : Int) < l.length := by omega
    simp -implicitDefEqProofs (disch := omega) [G_l_long, wrap_id, h, h']
  · have h' : ¬ (10 : Int) < l.length := by omega
    simp -implicitDefEqProofs (disch := omega) [G_l_long, wrap_id, h, h']
def widO (b : OB) : Bool := decide (chkO b = 0 ∧ 5 < b.P)
theorem l_wide_ok (g : Bool) (b : OB) (hb : b.s.length ≤ 1000000) (hz : ∀ p ∈ b.s, p.2.length ≤ 1000000) : PureOK Tryz.prog n_l_wide [On g b] (B (widO b)) := by
  refine pure_of (walk func_l_wide form_l_wide res_l_wide (by show 1 ≤ _; decide) ?_)
  simp -implicitDefEqProofs (disch := omega) [G_l_wide, wrap_id]
  refine callW_pure rfl (r_CheckBench_ok g b hb hz) ?_
  by_cases h : chkO b = 0
  · by_cases h2 : 5 < b.P
    · simp -implicitDefEqProofs (disch := omega) [wrap_id, h, h2, widO]
    · simp -implicitDefEqProofs (disch := omega) [wrap_id, h, h2, widO]
  · have h' : (chkO b == 0) = false := by simpa using h
    simp -implicitDefEqProofs (disch := omega) [wrap_id, h', h, widO]
end Go.AM

set_option linter.unusedSimpArgs false
set_option linter.unusedVariables false
namespace Go.AM
open Go.RowKit Go.Proofs
theorem pp_ex (b : OB) : ∃ pp, PPok b pp := by
  refine ⟨fun a q => @decide (Rch b.P.toNat b.S a q) (Classical.propDecidable _), fun n hb a q _ _ _ _ => ?_⟩
  have : b.P.toNat = n := by have := hb.P; omega
  have k := @decide_eq_true_iff (Rch b.P.toNat b.S a q) (Classical.propDecidable _)
  rw [this] at k ⊢
  exact k
theorem prs_le {b : OB} {one two : Int} {pp : Nat × Nat → Nat × Nat → Bool} : (prsA b one two pp).length ≤ 36 := by
  by_cases h : prsE b one two = 0
  · have hc : chkO b = 0 := by
      unfold prsE at h
      by_cases hc : chkO b = 0
      · exact hc
      · rw [if_pos hc] at h; exact h
    obtain ⟨n, hb⟩ := okb_of hc
    have hP := hb.P
    have h6 := hb.hi
    unfold prsA
    rw [if_pos h]
    unfold prsV prsL
    rw [List.length_map]
    refine Nat.le_trans (List.length_filter_le _ _) ?_
    have : b.P.toNat = n := by omega
    rw [this]
    have e : (prsN n).length = n * n := by simp only [prsN, List.length_flatMap, List.length_map, List.length_range, List.map_const', List.sum_replicate_nat]
    rw [e]
    exact Nat.mul_le_mul h6 h6
  · unfold prsA; rw [if_neg h]; simp
end Go.AM

set_option linter.unusedSimpArgs false
set_option linter.unusedVariables false
namespace Go.AM
open Go.RowKit Go.Proofs
set_option maxHeartbeats 8000000 in
theorem lawOrderPairs' (g f h : Bool) (b : OB) (r x : List Int) (one two p1 p2 c d : Int) (hb : OBK b) (hr : r.length ≤ 9223372036854775807) (hx : x.length ≤ 9223372036854775807) :
    PureOK Tryz.prog n_l_OrderPairs [On g b, Ls f r, Ls h x, I one, I two, Pt p1 p2 c d] (B true) := by
  refine pure_of (walk func_l_OrderPairs form_l_OrderPairs res_l_OrderPairs (by show 6 ≤ _; decide) ?_)
  simp -implicitDefEqProofs (disch := omega) [G_l_OrderPairs, wrap_id]
  refine callW_pure rfl (l_great_ok g b hb.many hb.len) ?_
  cases hg : grtO b with
  | true =>
    simp -implicitDefEqProofs (disch := omega) [wrap_id]
    exact callW_pure rfl works_ok (by simp)
  | false =>
    obtain ⟨z1, z2⟩ := grt_sz hg
    simp -implicitDefEqProofs (disch := omega) [wrap_id]
    refine callW_pure rfl (l_wide_ok g b z2.many z2.len) ?_
    cases hw : widO b with
    | true =>
      simp -implicitDefEqProofs (disch := omega) [wrap_id]
      exact callW_pure rfl works_ok (by simp)
    | false =>
    simp -implicitDefEqProofs (disch := omega) [wrap_id]
    refine callW_pure rfl (l_long_ok f r hr) ?_
    by_cases a1 : 10 < r.length
    · rw [decide_eq_true a1]
      simp -implicitDefEqProofs (disch := omega) [wrap_id]
      exact callW_pure rfl works_ok (by simp)
    rw [decide_eq_false a1]
    simp -implicitDefEqProofs (disch := omega) [wrap_id]
    refine callW_pure rfl (l_long_ok h x hx) ?_
    by_cases a2 : 10 < x.length
    · rw [decide_eq_true a2]
      simp -implicitDefEqProofs (disch := omega) [wrap_id]
      exact callW_pure rfl works_ok (by simp)
    rw [decide_eq_false a2]
    simp -implicitDefEqProofs (disch := omega) [wrap_id]
    obtain ⟨pp, hp⟩ := pp_ex b
    have pl := prs_le (b := b) (one := one) (two := two) (pp := pp)
    refine callW_pure rfl (o_Pairs_ok g b z1 one two hp) ?_
    simp -implicitDefEqProofs (disch := omega) [wrap_id]
    refine callW_pure rfl (r_Pairs_ok g b z2 one two hp) ?_
    simp -implicitDefEqProofs (disch := omega) [wrap_id]
    have eT : ∃ u1 u2 u3 u4 : Int, prT b r x pp = Pt u1 u2 u3 u4 := by
      unfold prT
      split
      · exact ⟨_, _, _, _, rfl⟩
      · split
        · exact ⟨_, _, _, _, rfl⟩
        · exact ⟨_, _, _, _, rfl⟩
    obtain ⟨u1, u2, u3, u4, eT⟩ := eT
    have P1 := o_Pair_ok g f h b z1 r x (by omega) (by omega) hp
    have P2 := r_Pair_ok g f h b z2 r x (by omega) (by omega) hp
    rw [eT] at P1 P2
    refine callW_pure rfl (P1) ?_
    simp -implicitDefEqProofs (disch := omega) [wrap_id]
    refine callW_pure rfl (P2) ?_
    simp -implicitDefEqProofs (disch := omega) [wrap_id]
    refine pureW_of rfl (l_twos_ok _ _ (prsA b one two pp) (prsA b one two pp) (by omega) (by omega)) ?_
    simp -implicitDefEqProofs (disch := omega) [wrap_id, cmp2, nthT]
    have ek : eqK (true, [Leaf.int, Leaf.int, Leaf.int, Leaf.int]) (rowV [u1, u2, u3, u4]) (rowV [u1, u2, u3, u4]) = some true := by
      have := eqK_row (n := 4) (l := [u1, u2, u3, u4]) (m := [u1, u2, u3, u4]) rfl rfl
      rw [decide_eq_true rfl] at this
      exact this
    rw [eqk_of (neg := false) (a := rowV [u1, u2, u3, u4]) (b := rowV [u1, u2, u3, u4]) rfl rfl ek]
    simp -implicitDefEqProofs (disch := omega) [wrap_id, cmp2, nthT]
    refine pureW_of rfl (o_CheckPair_ok g f h b z1 r x (by omega) (by omega) p1 p2 c d hp) ?_
    simp -implicitDefEqProofs (disch := omega) [wrap_id, cmp2, nthT]
    refine pureW_of rfl (r_CheckPair_ok g f h b z2 r x (by omega) (by omega) p1 p2 c d hp) ?_
    simp -implicitDefEqProofs (disch := omega) [wrap_id, cmp2, nthT]
    refine pureW_of rfl (works_ok) ?_
    simp -implicitDefEqProofs (disch := omega) [wrap_id, cmp2, nthT]
theorem lawOrderPairs (b : OB) (r x : List Int) (one two p1 p2 c d : Int) (hb : OBK b) (hr : LOK r) (hx : LOK x) (h1 : In64 one) (h2 : In64 two) (h3 : P4OK p1 p2 c d) : PureOK Tryz.prog n_l_OrderPairs [On false b, Ls false r, Ls false x, I one, I two, Pt p1 p2 c d] (B true) := lawOrderPairs' _ _ _ b r x one two p1 p2 c d hb hr.1 hx.1
end Go.AM
