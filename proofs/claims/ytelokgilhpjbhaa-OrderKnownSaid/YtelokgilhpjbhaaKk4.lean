/-
  Kk4: texts joined: FmOF Co1 Co2 Co4 Co6 Co7 Co8 Co9 Co10 Co11 Co12 Co13 Co14 Co15 Co16 Co17 FmOS Do1 Do2 Do3 Do4 Do5 Do6 Do7 Do8 Do9 Do10 Do26 Do11. Own work.
-/
import Derived.Test.YtelokgilhpjbhaaKk3
import Derived.Test.YtelokgilhpjbhaaProg

set_option maxRecDepth 100000
namespace Go.AM
open Go.RowKit Go.Proofs
abbrev n_o_Draw : Nat := 7
def G_o_Draw : AC := (.seq (.rgn [⟨none, [(.box 3 2 (.t 0)), (.mv 6 (.k (.sl true 0 []))), (.mv 7 (.k (I 0)))]⟩] [1, 2, 3]) (.seq (.rgn [⟨none, [(.ld 15 true 2 (.t 3)), (.mv 16 (.t 1)), (.bsl 17 1 1 [(.sl true 0 [])] [(0, (.t 16))]), (.call 18 19 [(.t 15), (.t 17)]), (.mv 14 (.t 18)), (.ext 19 (.t 14) 0), (.ext 20 (.t 14) 1), (.mv 8 (.t 19)), (.mv 9 (.t 20))]⟩] [1, 2, 3, 8, 9]) (.seq (.seq (.rgn [⟨none, [(.mv 21 (.t 9)), (.bin 22 .neq (.t 21) (.k (I 0)))]⟩] [1, 2, 3, 8, 9, 22]) (.cond (.t 22) (.seq (.rgn [⟨none, [(.mv 23 (.t 9)), (.mv 6 (.k (.sl true 0 []))), (.mv 7 (.t 23))]⟩] [6, 7]) .ret) .skip)) (.seq (.seq (.rgn [⟨none, [(.ld 24 true 2 (.t 3)), (.mv 25 (.t 2)), (.bsl 26 1 1 [(.sl true 0 [])] [(0, (.t 25))]), (.call 27 20 [(.t 24), (.t 26)]), (.mv 10 (.t 27))]⟩] [1, 2, 8, 10]) (.seq (.rgn [⟨none, [(.mv 28 (.t 10)), (.bin 29 .neq (.t 28) (.k (I 0)))]⟩] [1, 2, 8, 10, 29]) (.cond (.t 29) (.seq (.rgn [⟨none, [(.mv 30 (.t 10)), (.mv 6 (.k (.sl true 0 []))), (.mv 7 (.t 30))]⟩] [6, 7]) .ret) .skip))) (.seq (.rgn [⟨none, [(.mv 31 (.t 1)), (.call 32 21 [(.t 31)]), (.al 11 [(I 0), (I 0), (I 0), (I 0), (I 0), (I 0)]), (.st 6 (.t 11) (.t 32))]⟩] [2, 8, 11]) (.seq (.seq (.rgn [⟨none, [(.mv 33 (.t 2)), (.len 34 (.t 33)), (.mv 35 (.k (I 0)))]⟩] [8, 11, 33, 34, 35]) (.block 0 (.loop (.seq (.rgn [⟨none, [(.bin 36 .lss (.t 35) (.t 34))]⟩] [8, 11, 33, 34, 35, 36]) (.seq (.cond (.t 36) .skip (.exit 0)) (.seq (.block 1 (.seq (.rgn [⟨none, [(.ia 37 1 (.t 33) (.t 35)), (.ld 38 false 1 (.t 37)), (.mv 13 (.t 38))]⟩] [8, 11, 13, 33, 34, 35]) (.rgn [⟨none, [(.mv 39 (.t 8)), (.ld 40 true 6 (.t 11)), (.mv 41 (.t 13)), (.call 42 22 [(.t 39), (.t 40), (.t 41)]), (.st 6 (.t 11) (.t 42))]⟩] [8, 11, 33, 34, 35]))) (.rgn [⟨none, [(.bin 43 .add (.t 35) (.k (I 1))), (.mv 35 (.t 43))]⟩] [8, 11, 33, 34, 35]))))))) (.seq (.rgn [⟨none, [(.mv 44 (.t 8)), (.ld 45 true 6 (.t 11)), (.call 46 23 [(.t 44), (.t 45)]), (.mv 6 (.t 46)), (.mv 7 (.k (I 0)))]⟩] [6, 7]) .ret)))))))
theorem func_o_Draw : Try.prog.funcs[n_o_Draw]? = some Try.f7 := Try.func7
theorem form_o_Draw : formOf Try.prog Try.f7 [6, 7] = some G_o_Draw := by kernel_rfl
theorem res_o_Draw : resTmps Try.f7.results.toList = some [6, 7] := by kernel_rfl
abbrev n_o_Joint : Nat := 8
def G_o_Joint : AC := (.seq (.rgn [⟨none, [(.box 2 2 (.t 0)), (.mv 4 (.k (.sl true 0 []))), (.mv 5 (.k (I 0)))]⟩] [1, 2]) (.seq (.seq (.rgn [⟨none, [(.ld 7 true 2 (.t 2)), (.call 8 24 [(.t 7)]), (.mv 6 (.t 8))]⟩] [1, 2, 6]) (.seq (.rgn [⟨none, [(.mv 9 (.t 6)), (.bin 10 .neq (.t 9) (.k (I 0)))]⟩] [1, 2, 6, 10]) (.cond (.t 10) (.seq (.rgn [⟨none, [(.mv 11 (.t 6)), (.mv 4 (.k (.sl true 0 []))), (.mv 5 (.t 11))]⟩] [4, 5]) .ret) .skip))) (.seq (.drw [⟨none, [(.ld 12 true 2 (.t 2)), (.ld 13 true 2 (.t 2)), (.call 14 25 [(.t 13)]), (.call 15 26 [(.t 14)]), (.mv 16 (.t 1)), (.call 17 7 [(.t 12), (.t 15), (.t 16)]), (.ext 18 (.t 17) 0), (.ext 19 (.t 17) 1), (.mv 4 (.t 18)), (.mv 5 (.t 19))]⟩] [(0, 1), (0, 2), (0, 3)] [4, 5]) .ret)))
theorem func_o_Joint : Try.prog.funcs[n_o_Joint]? = some Try.f8 := Try.func8
theorem form_o_Joint : formOf Try.prog Try.f8 [4, 5] = some G_o_Joint := by kernel_rfl
theorem res_o_Joint : resTmps Try.f8.results.toList = some [4, 5] := by kernel_rfl
abbrev n_o_Round : Nat := 9
def G_o_Round : AC := (.seq (.rgn [⟨none, [(.box 2 2 (.t 0)), (.mv 4 (.k (I 0))), (.mv 5 (.k (I 0)))]⟩] [1, 2]) (.seq (.rgn [⟨none, [(.ld 14 true 2 (.t 2)), (.mv 15 (.t 1)), (.call 16 8 [(.t 14), (.t 15)]), (.mv 13 (.t 16)), (.ext 17 (.t 13) 0), (.ext 18 (.t 13) 1), (.mv 6 (.t 17)), (.mv 7 (.t 18))]⟩] [6, 7]) (.seq (.seq (.rgn [⟨none, [(.mv 19 (.t 7)), (.bin 20 .neq (.t 19) (.k (I 0)))]⟩] [6, 7, 20]) (.cond (.t 20) (.seq (.rgn [⟨none, [(.mv 21 (.t 7)), (.mv 4 (.k (I 0))), (.mv 5 (.t 21))]⟩] [4, 5]) .ret) .skip)) (.seq (.rgn [⟨none, [(.mv 8 (.k (I 1)))]⟩] [6, 8]) (.seq (.seq (.rgn [⟨none, [(.mv 22 (.t 6)), (.len 23 (.t 22)), (.mv 24 (.k (I 0)))]⟩] [6, 8, 23, 24]) (.block 0 (.loop (.seq (.rgn [⟨none, [(.bin 25 .lss (.t 24) (.t 23))]⟩] [6, 8, 23, 24, 25]) (.seq (.cond (.t 25) .skip (.exit 0)) (.seq (.block 1 (.seq (.rgn [⟨none, [(.mv 26 (.t 24)), (.mv 9 (.t 26))]⟩] [6, 8, 9, 23, 24]) (.seq (.rgn [⟨none, [(.mv 10 (.k (I 1)))]⟩] [6, 8, 9, 10, 23, 24]) (.seq (.seq (.rgn [⟨none, [(.mv 27 (.t 6)), (.mv 28 (.t 9)), (.ia 29 1 (.t 27) (.t 28)), (.ld 30 false 1 (.t 29)), (.mv 11 (.t 30))]⟩] [6, 8, 9, 10, 11, 23, 24]) (.block 2 (.loop (.seq (.seq (.rgn [⟨none, [(.mv 31 (.t 11)), (.mv 32 (.t 9)), (.bin 33 .neq (.t 31) (.t 32))]⟩] [6, 8, 9, 10, 11, 23, 24, 33]) (.cond (.t 33) .skip (.exit 2))) (.seq (.block 3 (.rgn [⟨none, [(.mv 38 (.t 10)), (.bin 39 .add (.t 38) (.k (I 1))), (.mv 10 (.t 39))]⟩] [6, 8, 9, 10, 11, 23, 24])) (.rgn [⟨none, [(.mv 34 (.t 6)), (.mv 35 (.t 11)), (.ia 36 1 (.t 34) (.t 35)), (.ld 37 false 1 (.t 36)), (.mv 11 (.t 37))]⟩] [6, 8, 9, 10, 11, 23, 24])))))) (.seq (.rgn [⟨none, [(.mv 40 (.t 8)), (.mv 12 (.t 40))]⟩] [6, 8, 10, 12, 23, 24]) (.block 4 (.loop (.seq (.seq (.rgn [⟨none, [(.mv 41 (.t 8)), (.mv 42 (.t 10)), (.bin 43 .rem (.t 41) (.t 42)), (.bin 44 .neq (.t 43) (.k (I 0)))]⟩] [6, 8, 10, 12, 23, 24, 44]) (.cond (.t 44) .skip (.exit 4))) (.block 5 (.rgn [⟨none, [(.mv 45 (.t 8)), (.mv 46 (.t 12)), (.bin 47 .add (.t 45) (.t 46)), (.mv 8 (.t 47))]⟩] [6, 8, 10, 12, 23, 24])))))))))) (.rgn [⟨none, [(.bin 48 .add (.t 24) (.k (I 1))), (.mv 24 (.t 48))]⟩] [6, 8, 23, 24]))))))) (.seq (.rgn [⟨none, [(.mv 49 (.t 8)), (.mv 4 (.t 49)), (.mv 5 (.k (I 0)))]⟩] [4, 5]) .ret))))))
theorem func_o_Round : Try.prog.funcs[n_o_Round]? = some Try.f9 := Try.func9
theorem form_o_Round : formOf Try.prog Try.f9 [4, 5] = some G_o_Round := by kernel_rfl
theorem res_o_Round : resTmps Try.f9.results.toList = some [4, 5] := by kernel_rfl
abbrev n_o_Best : Nat := 10
def G_o_Best : AC := (.seq (.rgn [⟨none, [(.box 3 2 (.t 0)), (.mv 6 (.k (.sl true 0 []))), (.mv 7 (.k (I 0)))]⟩] [1, 2, 3]) (.seq (.rgn [⟨none, [(.ld 14 true 2 (.t 3)), (.mv 15 (.t 1)), (.mv 16 (.t 2)), (.bsl 17 2 1 [(.sl true 0 [])] [(0, (.t 15)), (1, (.t 16))]), (.call 18 19 [(.t 14), (.t 17)]), (.mv 13 (.t 18)), (.ext 19 (.t 13) 0), (.ext 20 (.t 13) 1), (.mv 8 (.t 19)), (.mv 9 (.t 20))]⟩] [1, 2, 8, 9]) (.seq (.seq (.rgn [⟨none, [(.mv 21 (.t 9)), (.bin 22 .neq (.t 21) (.k (I 0)))]⟩] [1, 2, 8, 9, 22]) (.cond (.t 22) (.seq (.rgn [⟨none, [(.mv 23 (.t 9)), (.mv 6 (.k (.sl true 0 []))), (.mv 7 (.t 23))]⟩] [6, 7]) .ret) .skip)) (.seq (.rgn [⟨none, [(.mv 25 (.t 8)), (.mv 26 (.t 1)), (.call 27 21 [(.t 26)]), (.mv 28 (.t 2)), (.call 29 21 [(.t 28)]), (.call 30 27 [(.t 25), (.t 27), (.t 29)]), (.mv 24 (.t 30)), (.ext 31 (.t 24) 0), (.ext 32 (.t 24) 1), (.mv 10 (.t 31)), (.mv 11 (.t 32))]⟩] [10, 11]) (.seq (.seq (.rgn [⟨none, [(.mv 33 (.t 11)), (.un 34 .not (.t 33))]⟩] [10, 34]) (.cond (.t 34) (.seq (.rgn [⟨none, [(.mv 6 (.k (.sl true 0 []))), (.mv 7 (.k (I 13)))]⟩] [6, 7]) .ret) .skip)) (.seq (.rgn [⟨none, [(.mv 35 (.t 10)), (.len 36 (.t 35)), (.mks 37 1 8 [(I 0)] (.t 36) (.t 36)), (.mv 12 (.t 37))]⟩] [10, 12]) (.seq (.rgn [⟨none, [(.mv 38 (.t 12)), (.mv 39 (.t 10)), (.cpy 40 1 (.t 38) (.t 39))]⟩] [12]) (.seq (.rgn [⟨none, [(.mv 41 (.t 12)), (.mv 6 (.t 41)), (.mv 7 (.k (I 0)))]⟩] [6, 7]) .ret))))))))
theorem func_o_Best : Try.prog.funcs[n_o_Best]? = some Try.f10 := Try.func10
theorem form_o_Best : formOf Try.prog Try.f10 [6, 7] = some G_o_Best := by kernel_rfl
theorem res_o_Best : resTmps Try.f10.results.toList = some [6, 7] := by kernel_rfl
abbrev n_o_Pairs : Nat := 11
def G_o_Pairs : AC := (.seq (.rgn [⟨none, [(.box 3 2 (.t 0)), (.mv 6 (.k (.sl true 0 []))), (.mv 7 (.k (I 0)))]⟩] [1, 2, 3]) (.seq (.rgn [⟨none, [(.ld 11 true 2 (.t 3)), (.call 12 19 [(.t 11), (.k (.sl true 0 []))]), (.mv 10 (.t 12)), (.ext 13 (.t 10) 0), (.ext 14 (.t 10) 1), (.mv 8 (.t 13)), (.mv 9 (.t 14))]⟩] [1, 2, 3, 8, 9]) (.seq (.block 0 (.seq (.rgn [⟨none, [(.mv 16 (.t 9)), (.bin 17 .neq (.t 16) (.k (I 0))), (.mv 15 (.t 17))]⟩] [1, 2, 3, 8, 9, 15]) (.cond (.t 15) (.seq (.rgn [⟨none, [(.mv 18 (.t 9)), (.mv 6 (.k (.sl true 0 []))), (.mv 7 (.t 18))]⟩] [6, 7]) .ret) (.seq (.rgn [⟨none, [(.mv 20 (.t 1)), (.mv 21 (.t 2)), (.bin 22 .eql (.t 20) (.t 21)), (.mv 23 (.t 22))]⟩, ⟨(some (23, false)), [(.fa 24 (.t 3) 0), (.ld 25 false 1 (.t 24)), (.bin 26 .sub (.t 25) (.k (I 1))), (.mv 27 (.t 1)), (.mv 28 (.t 2)), (.bsl 29 2 1 [(I 0)] [(0, (.t 27)), (1, (.t 28))]), (.call 30 28 [(.k (I 0)), (.t 26), (.t 29)]), (.un 31 .not (.t 30))]⟩, ⟨none, [(.pick 32 (.t 23) (.k (B true)) (.t 31)), (.mv 19 (.t 32))]⟩] [1, 2, 8, 19]) (.cond (.t 19) (.seq (.rgn [⟨none, [(.mv 6 (.k (.sl true 0 []))), (.mv 7 (.k (I 3)))]⟩] [6, 7]) .ret) .skip))))) (.seq (.rgn [⟨none, [(.mv 33 (.t 8)), (.mv 34 (.t 1)), (.mv 35 (.t 2)), (.call 36 29 [(.t 33), (.t 34), (.t 35)]), (.mv 6 (.t 36)), (.mv 7 (.k (I 0)))]⟩] [6, 7]) .ret))))
theorem func_o_Pairs : Try.prog.funcs[n_o_Pairs]? = some Try.f11 := Try.func11
theorem form_o_Pairs : formOf Try.prog Try.f11 [6, 7] = some G_o_Pairs := by kernel_rfl
theorem res_o_Pairs : resTmps Try.f11.results.toList = some [6, 7] := by kernel_rfl
abbrev n_o_CheckPair : Nat := 12
def G_o_CheckPair : AC := (.seq (.rgn [⟨none, [(.box 4 2 (.t 0)), (.box 7 4 (.t 3)), (.mv 8 (.k (I 0)))]⟩] [1, 2, 4, 7]) (.seq (.rgn [⟨none, [(.ld 15 true 2 (.t 4)), (.mv 16 (.t 1)), (.mv 17 (.t 2)), (.bsl 18 2 1 [(.sl true 0 [])] [(0, (.t 16)), (1, (.t 17))]), (.call 19 19 [(.t 15), (.t 18)]), (.mv 14 (.t 19)), (.ext 20 (.t 14) 0), (.ext 21 (.t 14) 1), (.mv 9 (.t 20)), (.mv 10 (.t 21))]⟩] [1, 2, 4, 7, 9, 10]) (.seq (.drw [⟨none, [(.fa 22 (.t 7) 0), (.iaa 23 2 1 (.t 22) (.k (I 0))), (.ld 24 false 1 (.t 23)), (.fa 25 (.t 7) 0), (.iaa 26 2 1 (.t 25) (.k (I 1))), (.ld 27 false 1 (.t 26)), (.mv 11 (.t 24)), (.mv 12 (.t 27))]⟩] [(2, 5)] [1, 2, 4, 7, 9, 10, 11, 12]) (.seq (.block 0 (.seq (.rgn [⟨none, [(.mv 29 (.t 10)), (.bin 30 .neq (.t 29) (.k (I 0))), (.mv 28 (.t 30))]⟩] [1, 2, 4, 7, 9, 10, 11, 12, 28]) (.cond (.t 28) (.seq (.rgn [⟨none, [(.mv 31 (.t 10)), (.mv 8 (.t 31))]⟩] [8]) .ret) (.seq (.rgn [⟨none, [(.mv 33 (.t 11)), (.mv 34 (.t 12)), (.bin 35 .eql (.t 33) (.t 34)), (.mv 36 (.t 35))]⟩, ⟨(some (36, false)), [(.fa 37 (.t 4) 0), (.ld 38 false 1 (.t 37)), (.bin 39 .sub (.t 38) (.k (I 1))), (.mv 40 (.t 11)), (.mv 41 (.t 12)), (.bsl 42 2 1 [(I 0)] [(0, (.t 40)), (1, (.t 41))]), (.call 43 28 [(.k (I 0)), (.t 39), (.t 42)]), (.un 44 .not (.t 43))]⟩, ⟨none, [(.pick 45 (.t 36) (.k (B true)) (.t 44)), (.mv 46 (.t 45))]⟩, ⟨(some (46, false)), [(.fa 47 (.t 7) 2), (.slp 48 1 2 (.t 47) none none none), (.call 49 28 [(.k (I 0)), (.k (I 5)), (.t 48)]), (.un 50 .not (.t 49))]⟩, ⟨none, [(.pick 51 (.t 46) (.k (B true)) (.t 50)), (.mv 32 (.t 51))]⟩] [1, 2, 7, 9, 11, 12, 32]) (.cond (.t 32) (.seq (.rgn [⟨none, [(.mv 8 (.k (I 3)))]⟩] [8]) .ret) .skip))))) (.seq (.rgn [⟨none, [(.mv 52 (.t 9)), (.mv 53 (.t 11)), (.mv 54 (.t 12)), (.call 55 29 [(.t 52), (.t 53), (.t 54)]), (.mv 13 (.t 55))]⟩] [1, 2, 7, 13]) (.seq (.seq (.drw [⟨none, [(.mv 56 (.t 13)), (.mv 57 (.t 1)), (.fa 58 (.t 7) 2), (.ld 59 true 2 (.t 58)), (.call 60 30 [(.t 56), (.t 57), (.t 59)]), (.mv 61 (.t 13)), (.mv 62 (.t 2)), (.fa 63 (.t 7) 2), (.ld 64 true 2 (.t 63)), (.call 65 30 [(.t 61), (.t 62), (.t 64)]), (.bin 66 .eql (.t 60) (.t 65))]⟩] [(3, 8), (4, 8)] [66]) (.cond (.t 66) (.seq (.rgn [⟨none, [(.mv 8 (.k (I 14)))]⟩] [8]) .ret) .skip)) (.seq (.rgn [⟨none, [(.mv 8 (.k (I 0)))]⟩] [8]) .ret)))))))
theorem func_o_CheckPair : Try.prog.funcs[n_o_CheckPair]? = some Try.f12 := Try.func12
theorem form_o_CheckPair : formOf Try.prog Try.f12 [8] = some G_o_CheckPair := by kernel_rfl
theorem res_o_CheckPair : resTmps Try.f12.results.toList = some [8] := by kernel_rfl
abbrev n_o_Kind : Nat := 14
def G_o_Kind : AC := (.seq (.rgn [⟨none, [(.box 4 2 (.t 0)), (.mv 8 (.k (I 0))), (.mv 9 (.k (I 0)))]⟩] [1, 2, 3, 4]) (.seq (.rgn [⟨none, [(.ld 16 true 2 (.t 4)), (.mv 17 (.t 1)), (.mv 18 (.t 2)), (.bsl 19 2 1 [(.sl true 0 [])] [(0, (.t 17)), (1, (.t 18))]), (.call 20 19 [(.t 16), (.t 19)]), (.mv 15 (.t 20)), (.ext 21 (.t 15) 0), (.ext 22 (.t 15) 1), (.mv 10 (.t 21)), (.mv 11 (.t 22))]⟩] [1, 2, 3, 4, 10, 11]) (.seq (.block 0 (.seq (.rgn [⟨none, [(.mv 24 (.t 11)), (.bin 25 .neq (.t 24) (.k (I 0))), (.mv 23 (.t 25))]⟩] [1, 2, 3, 4, 10, 11, 23]) (.cond (.t 23) (.seq (.rgn [⟨none, [(.mv 26 (.t 11)), (.mv 8 (.k (I 0))), (.mv 9 (.t 26))]⟩] [8, 9]) .ret) (.seq (.rgn [⟨none, [(.fa 28 (.t 4) 1), (.ld 29 false 1 (.t 28)), (.len 30 (.t 29)), (.bin 31 .sub (.t 30) (.k (I 1))), (.mv 32 (.t 3)), (.bsl 33 1 1 [(I 0)] [(0, (.t 32))]), (.call 34 28 [(.k (I 0)), (.t 31), (.t 33)]), (.un 35 .not (.t 34)), (.mv 27 (.t 35))]⟩] [1, 2, 3, 10, 27]) (.cond (.t 27) (.seq (.rgn [⟨none, [(.mv 8 (.k (I 0))), (.mv 9 (.k (I 3)))]⟩] [8, 9]) .ret) .skip))))) (.seq (.rgn [⟨none, [(.mv 37 (.t 10)), (.mv 38 (.t 1)), (.call 39 21 [(.t 38)]), (.mv 40 (.t 2)), (.call 41 21 [(.t 40)]), (.mv 42 (.t 3)), (.call 43 31 [(.t 37), (.t 39), (.t 41), (.t 42)]), (.mv 36 (.t 43)), (.ext 44 (.t 36) 0), (.ext 45 (.t 36) 1), (.ext 46 (.t 36) 2), (.mv 12 (.t 44)), (.mv 13 (.t 45)), (.mv 14 (.t 46))]⟩] [12, 13, 14]) (.seq (.block 1 (.seq (.rgn [⟨none, [(.mv 48 (.t 14)), (.un 49 .not (.t 48)), (.mv 47 (.t 49))]⟩] [12, 13, 47]) (.cond (.t 47) (.seq (.rgn [⟨none, [(.mv 8 (.k (I 0))), (.mv 9 (.k (I 13)))]⟩] [8, 9]) .ret) (.seq (.rgn [⟨none, [(.mv 51 (.t 13)), (.bin 52 .eql (.t 51) (.k (I 0))), (.mv 50 (.t 52))]⟩] [12, 13, 50]) (.cond (.t 50) (.seq (.rgn [⟨none, [(.mv 8 (.k (I 0))), (.mv 9 (.k (I 0)))]⟩] [8, 9]) .ret) (.seq (.rgn [⟨none, [(.mv 54 (.t 13)), (.mv 55 (.t 12)), (.bin 56 .eql (.t 54) (.t 55)), (.mv 53 (.t 56))]⟩] [53]) (.cond (.t 53) (.seq (.rgn [⟨none, [(.mv 8 (.k (I 2))), (.mv 9 (.k (I 0)))]⟩] [8, 9]) .ret) .skip))))))) (.seq (.rgn [⟨none, [(.mv 8 (.k (I 1))), (.mv 9 (.k (I 0)))]⟩] [8, 9]) .ret))))))
theorem func_o_Kind : Try.prog.funcs[n_o_Kind]? = some Try.f14 := Try.func14
theorem form_o_Kind : formOf Try.prog Try.f14 [8, 9] = some G_o_Kind := by kernel_rfl
theorem res_o_Kind : resTmps Try.f14.results.toList = some [8, 9] := by kernel_rfl
abbrev n_o_open : Nat := 19
def G_o_open : AC := (.seq (.rgn [⟨none, [(.box 2 2 (.t 0)), (.mv 4 (.k (.v (.pointer none)))), (.mv 5 (.k (I 0)))]⟩] [1, 2]) (.seq (.seq (.rgn [⟨none, [(.ld 8 true 2 (.t 2)), (.call 9 24 [(.t 8)]), (.mv 6 (.t 9))]⟩] [1, 2, 6]) (.seq (.rgn [⟨none, [(.mv 10 (.t 6)), (.bin 11 .neq (.t 10) (.k (I 0)))]⟩] [1, 2, 6, 11]) (.cond (.t 11) (.seq (.rgn [⟨none, [(.mv 12 (.t 6)), (.mv 4 (.k (.v (.pointer none)))), (.mv 5 (.t 12))]⟩] [4, 5]) .ret) .skip))) (.seq (.rgn [⟨none, [(.ld 13 true 2 (.t 2)), (.call 14 25 [(.t 13)]), (.al 7 [(.v (.pointer none))]), (.st 1 (.t 7) (.t 14))]⟩] [1, 7]) (.seq (.seq (.rgn [⟨none, [(.mv 15 (.t 1)), (.mkf 16 (.func 39) [] [(.t 7)]), (.call 17 38 [(.t 15), (.t 16)])]⟩] [7, 17]) (.cond (.t 17) (.seq (.rgn [⟨none, [(.mv 4 (.k (.v (.pointer none)))), (.mv 5 (.k (I 2)))]⟩] [4, 5]) .ret) .skip)) (.seq (.rgn [⟨none, [(.ld 18 false 1 (.t 7)), (.mv 4 (.t 18)), (.mv 5 (.k (I 0)))]⟩] [4, 5]) .ret)))))
theorem func_o_open : Try.prog.funcs[n_o_open]? = some Try.f19 := Try.func19
theorem form_o_open : formOf Try.prog Try.f19 [4, 5] = some G_o_open := by kernel_rfl
theorem res_o_open : resTmps Try.f19.results.toList = some [4, 5] := by kernel_rfl
abbrev n_o_listed : Nat := 20
def G_o_listed : AC := (.seq (.rgn [⟨none, [(.box 2 2 (.t 0)), (.mv 4 (.k (I 0)))]⟩] [1, 2]) (.seq (.block 0 (.seq (.rgn [⟨none, [(.mv 6 (.t 1)), (.call 7 38 [(.t 6), (.k (.fn (.func 41) [] []))]), (.mv 5 (.t 7))]⟩] [1, 2, 5]) (.cond (.t 5) (.seq (.rgn [⟨none, [(.mv 4 (.k (I 6)))]⟩] [4]) .ret) (.seq (.rgn [⟨none, [(.mv 9 (.t 1)), (.mkf 10 (.func 42) [] [(.t 2)]), (.call 11 38 [(.t 9), (.t 10)]), (.mv 8 (.t 11))]⟩] [8]) (.cond (.t 8) (.seq (.rgn [⟨none, [(.mv 4 (.k (I 3)))]⟩] [4]) .ret) .skip))))) (.seq (.rgn [⟨none, [(.mv 4 (.k (I 0)))]⟩] [4]) .ret)))
theorem func_o_listed : Try.prog.funcs[n_o_listed]? = some Try.f20 := Try.func20
theorem form_o_listed : formOf Try.prog Try.f20 [4] = some G_o_listed := by kernel_rfl
theorem res_o_listed : resTmps Try.f20.results.toList = some [4] := by kernel_rfl
abbrev n_o_rowOf : Nat := 21
def G_o_rowOf : AC := (.seq (.rgn [⟨none, [(.al 2 [(I 0), (I 0), (I 0), (I 0), (I 0), (I 0)])]⟩] [0, 2]) (.seq (.rgn [⟨none, [(.al 3 [(I 0), (I 0), (I 0), (I 0), (I 0), (I 0)])]⟩] [0, 2, 3]) (.seq (.rgn [⟨none, [(.slp 4 1 6 (.t 3) none none none), (.clr 1 [(I 0)] (.t 4))]⟩] [0, 2, 3]) (.seq (.rgn [⟨none, [(.slp 5 1 6 (.t 3) none none none), (.mv 6 (.t 0)), (.cpy 7 1 (.t 5) (.t 6))]⟩] [2, 3]) (.seq (.rgn [⟨none, [(.ld 8 true 6 (.t 3)), (.st 6 (.t 2) (.t 8))]⟩] [2]) .ret)))))
theorem func_o_rowOf : Try.prog.funcs[n_o_rowOf]? = some Try.f21 := Try.func21
theorem form_o_rowOf : formOf Try.prog Try.f21 [2] = some G_o_rowOf := by kernel_rfl
theorem resc_o_rowOf : resCs Try.prog Try.f21.results.toList = some [(2, some (true, 6))] := by kernel_rfl
abbrev n_d_drawn : Nat := 22
def G_d_drawn : AC := (.seq (.rgn [⟨none, [(.box 4 6 (.t 1)), (.al 6 [(I 0), (I 0), (I 0), (I 0), (I 0), (I 0)])]⟩] [0, 2, 4, 6]) (.seq (.rgn [⟨none, [(.al 7 [(I 0), (I 0), (I 0), (I 0), (I 0), (I 0)])]⟩] [0, 2, 4, 6, 7]) (.seq (.seq (.rgn [⟨none, [(.mv 10 (.t 0)), (.nilc 11 (.t 10)), (.fa 12 (.t 11) 0), (.fa 13 (.t 12) 1), (.ld 14 false 1 (.t 13)), (.mv 15 (.t 2)), (.ia 16 1 (.t 14) (.t 15)), (.ld 17 false 1 (.t 16)), (.len 18 (.t 17)), (.mv 19 (.k (I 0)))]⟩] [4, 6, 7, 17, 18, 19]) (.block 0 (.loop (.seq (.rgn [⟨none, [(.bin 20 .lss (.t 19) (.t 18))]⟩] [4, 6, 7, 17, 18, 19, 20]) (.seq (.cond (.t 20) .skip (.exit 0)) (.seq (.block 1 (.seq (.rgn [⟨none, [(.mv 21 (.t 19)), (.ia 22 1 (.t 17) (.t 19)), (.ld 23 false 1 (.t 22)), (.mv 8 (.t 21)), (.mv 9 (.t 23))]⟩] [4, 6, 7, 8, 9, 17, 18, 19]) (.rgn [⟨none, [(.mv 24 (.t 8)), (.mv 25 (.t 9)), (.iaa 26 6 1 (.t 4) (.t 25)), (.ld 27 false 1 (.t 26)), (.iaa 28 6 1 (.t 7) (.t 24)), (.st 1 (.t 28) (.t 27))]⟩] [4, 6, 7, 17, 18, 19]))) (.rgn [⟨none, [(.bin 29 .add (.t 19) (.k (I 1))), (.mv 19 (.t 29))]⟩] [4, 6, 7, 17, 18, 19]))))))) (.seq (.rgn [⟨none, [(.ld 30 true 6 (.t 7)), (.st 6 (.t 6) (.t 30))]⟩] [6]) .ret))))
theorem func_d_drawn : Try.prog.funcs[n_d_drawn]? = some Try.f22 := Try.func22
theorem form_d_drawn : formOf Try.prog Try.f22 [6] = some G_d_drawn := by kernel_rfl
theorem resc_d_drawn : resCs Try.prog Try.f22.results.toList = some [(6, some (true, 6))] := by kernel_rfl
abbrev n_d_list : Nat := 23
def G_d_list : AC := (.seq (.rgn [⟨none, [(.box 3 6 (.t 1)), (.mv 4 (.k (.sl true 0 [])))]⟩] [0, 3]) (.seq (.rgn [⟨none, [(.mv 6 (.t 0)), (.nilc 7 (.t 6)), (.fa 8 (.t 7) 0), (.fa 9 (.t 8) 0), (.ld 10 false 1 (.t 9)), (.mks 11 1 8 [(I 0)] (.t 10) (.t 10)), (.mv 5 (.t 11))]⟩] [3, 5]) (.seq (.rgn [⟨none, [(.mv 12 (.t 5)), (.slp 13 1 6 (.t 3) none none none), (.cpy 14 1 (.t 12) (.t 13))]⟩] [5]) (.seq (.rgn [⟨none, [(.mv 15 (.t 5)), (.mv 4 (.t 15))]⟩] [4]) .ret))))
theorem func_d_list : Try.prog.funcs[n_d_list]? = some Try.f23 := Try.func23
theorem form_d_list : formOf Try.prog Try.f23 [4] = some G_d_list := by kernel_rfl
theorem res_d_list : resTmps Try.f23.results.toList = some [4] := by kernel_rfl
abbrev n_o_CheckBench : Nat := 24
def G_o_CheckBench : AC := (.seq (.rgn [⟨none, [(.box 1 2 (.t 0)), (.mv 2 (.k (I 0)))]⟩] [1]) (.seq (.rgn [⟨none, [(.fa 6 (.t 1) 0), (.ld 7 false 1 (.t 6)), (.mx 8 false (.t 7) (.k (I 6))), (.mx 9 true (.k (I 0)) (.t 8)), (.mks 10 1 8 [(I 0)] (.t 9) (.t 9)), (.al 3 [(.sl true 0 [])]), (.st 1 (.t 3) (.t 10))]⟩] [1, 3]) (.seq (.seq (.rgn [⟨none, [(.ld 11 false 1 (.t 3)), (.len 12 (.t 11)), (.mv 13 (.k (I 0)))]⟩] [1, 3, 12, 13]) (.block 0 (.loop (.seq (.rgn [⟨none, [(.bin 14 .lss (.t 13) (.t 12))]⟩] [1, 3, 12, 13, 14]) (.seq (.cond (.t 14) .skip (.exit 0)) (.seq (.block 1 (.seq (.rgn [⟨none, [(.mv 15 (.t 13)), (.mv 4 (.t 15))]⟩] [1, 3, 4, 12, 13]) (.rgn [⟨none, [(.ld 16 false 1 (.t 3)), (.mv 17 (.t 4)), (.mv 18 (.t 4)), (.ia 19 1 (.t 16) (.t 17)), (.st 1 (.t 19) (.t 18))]⟩] [1, 3, 12, 13]))) (.rgn [⟨none, [(.bin 20 .add (.t 13) (.k (I 1))), (.mv 13 (.t 20))]⟩] [1, 3, 12, 13]))))))) (.seq (.rgn [⟨none, [(.mkf 21 (.func 43) [] [(.t 3)]), (.mv 5 (.t 21))]⟩] [1, 5]) (.seq (.block 2 (.seq (.rgn [⟨none, [(.fa 23 (.t 1) 0), (.ld 24 false 1 (.t 23)), (.bsl 25 1 1 [(I 0)] [(0, (.t 24))]), (.call 26 28 [(.k (I 2)), (.k (I 6)), (.t 25)]), (.un 27 .not (.t 26)), (.mv 22 (.t 27))]⟩] [1, 5, 22]) (.cond (.t 22) (.seq (.rgn [⟨none, [(.mv 2 (.k (I 2)))]⟩] [2]) .ret) (.seq (.rgn [⟨none, [(.fa 29 (.t 1) 1), (.ld 30 false 1 (.t 29)), (.len 31 (.t 30)), (.bin 32 .gtr (.t 31) (.k (I 6))), (.mv 28 (.t 32))]⟩] [1, 5, 28]) (.cond (.t 28) (.seq (.rgn [⟨none, [(.mv 2 (.k (I 6)))]⟩] [2]) .ret) (.seq (.rgn [⟨none, [(.fa 34 (.t 1) 1), (.ld 35 false 1 (.t 34)), (.mv 36 (.t 5)), (.call 37 38 [(.t 35), (.t 36)]), (.mv 33 (.t 37))]⟩] [33]) (.cond (.t 33) (.seq (.rgn [⟨none, [(.mv 2 (.k (I 15)))]⟩] [2]) .ret) .skip))))))) (.seq (.rgn [⟨none, [(.mv 2 (.k (I 0)))]⟩] [2]) .ret))))))
theorem func_o_CheckBench : Try.prog.funcs[n_o_CheckBench]? = some Try.f24 := Try.func24
theorem form_o_CheckBench : formOf Try.prog Try.f24 [2] = some G_o_CheckBench := by kernel_rfl
theorem res_o_CheckBench : resTmps Try.f24.results.toList = some [2] := by kernel_rfl
abbrev n_o_newDesk : Nat := 25
def G_o_newDesk : AC := (.seq (.rgn [⟨none, [(.box 1 2 (.t 0)), (.mv 2 (.k (.v (.pointer none))))]⟩] [1]) (.seq (.rgn [⟨none, [(.ld 9 true 2 (.t 1)), (.bld 10 [(I 0), (.sl true 0 []), (.sl true 0 [])] [(0, 2, (.t 9))]), (.box 11 3 (.t 10)), (.mv 3 (.t 11))]⟩] [1, 3]) (.seq (.seq (.rgn [⟨none, [(.fa 12 (.t 1) 1), (.ld 13 false 1 (.t 12)), (.len 14 (.t 13)), (.mv 15 (.k (I 0)))]⟩] [3, 13, 14, 15]) (.block 0 (.loop (.seq (.rgn [⟨none, [(.bin 16 .lss (.t 15) (.t 14))]⟩] [3, 13, 14, 15, 16]) (.seq (.cond (.t 16) .skip (.exit 0)) (.seq (.block 1 (.seq (.rgn [⟨none, [(.ia 17 1 (.t 13) (.t 15)), (.ld 18 false 1 (.t 17)), (.mv 5 (.t 18))]⟩] [3, 5, 13, 14, 15]) (.seq (.rgn [⟨none, [(.al 6 [(I 0), (I 0), (I 0), (I 0), (I 0), (I 0)])]⟩] [3, 5, 6, 13, 14, 15]) (.seq (.seq (.rgn [⟨none, [(.mv 19 (.t 5)), (.len 20 (.t 19)), (.mv 21 (.k (I 0)))]⟩] [3, 6, 13, 14, 15, 19, 20, 21]) (.block 2 (.loop (.seq (.rgn [⟨none, [(.bin 22 .lss (.t 21) (.t 20))]⟩] [3, 6, 13, 14, 15, 19, 20, 21, 22]) (.seq (.cond (.t 22) .skip (.exit 2)) (.seq (.block 3 (.seq (.rgn [⟨none, [(.mv 23 (.t 21)), (.ia 24 1 (.t 19) (.t 21)), (.ld 25 false 1 (.t 24)), (.mv 7 (.t 23)), (.mv 8 (.t 25))]⟩] [3, 6, 7, 8, 13, 14, 15, 19, 20, 21]) (.rgn [⟨none, [(.mv 26 (.t 8)), (.mv 27 (.t 7)), (.iaa 28 6 1 (.t 6) (.t 26)), (.st 1 (.t 28) (.t 27))]⟩] [3, 6, 13, 14, 15, 19, 20, 21]))) (.rgn [⟨none, [(.bin 29 .add (.t 21) (.k (I 1))), (.mv 21 (.t 29))]⟩] [3, 6, 13, 14, 15, 19, 20, 21]))))))) (.drw [⟨none, [(.mv 30 (.t 3)), (.mv 31 (.t 3)), (.nilc 32 (.t 31)), (.fa 33 (.t 32) 2), (.ld 34 false 1 (.t 33)), (.ld 35 true 6 (.t 6)), (.bsl 36 1 6 [(I 0), (I 0), (I 0), (I 0), (I 0), (I 0)] [(0, (.t 35))]), (.app 37 6 48 (.t 34) (.t 36)), (.nilc 38 (.t 30)), (.fa 39 (.t 38) 2), (.st 1 (.t 39) (.t 37))]⟩] [(4, 5), (4, 6)] [3, 13, 14, 15]))))) (.rgn [⟨none, [(.bin 40 .add (.t 15) (.k (I 1))), (.mv 15 (.t 40))]⟩] [3, 13, 14, 15]))))))) (.seq (.rgn [⟨none, [(.mv 41 (.t 3)), (.mv 2 (.t 41))]⟩] [2]) .ret))))
theorem func_o_newDesk : Try.prog.funcs[n_o_newDesk]? = some Try.f25 := Try.func25
theorem form_o_newDesk : formOf Try.prog Try.f25 [2] = some G_o_newDesk := by kernel_rfl
theorem res_o_newDesk : resTmps Try.f25.results.toList = some [2] := by kernel_rfl
abbrev n_d_places : Nat := 26
def G_d_places : AC := (.seq (.rgn [⟨none, [(.mv 2 (.k (.sl true 0 [])))]⟩] [0]) (.seq (.rgn [⟨none, [(.mv 3 (.k (.sl true 0 [])))]⟩] [0, 3]) (.seq (.seq (.rgn [⟨none, [(.mv 5 (.t 0)), (.nilc 6 (.t 5)), (.fa 7 (.t 6) 0), (.fa 8 (.t 7) 0), (.ld 9 false 1 (.t 8)), (.mv 10 (.k (I 0)))]⟩] [3, 9, 10]) (.block 0 (.loop (.seq (.rgn [⟨none, [(.bin 11 .lss (.t 10) (.t 9))]⟩] [3, 9, 10, 11]) (.seq (.cond (.t 11) .skip (.exit 0)) (.seq (.block 1 (.seq (.rgn [⟨none, [(.mv 12 (.t 10)), (.mv 4 (.t 12))]⟩] [3, 4, 9, 10]) (.rgn [⟨none, [(.mv 13 (.t 3)), (.mv 14 (.t 4)), (.bsl 15 1 1 [(I 0)] [(0, (.t 14))]), (.app 16 1 8 (.t 13) (.t 15)), (.mv 3 (.t 16))]⟩] [3, 9, 10]))) (.rgn [⟨none, [(.bin 17 .add (.t 10) (.k (I 1))), (.mv 10 (.t 17))]⟩] [3, 9, 10]))))))) (.seq (.rgn [⟨none, [(.mv 18 (.t 3)), (.mv 2 (.t 18))]⟩] [2]) .ret))))
theorem func_d_places : Try.prog.funcs[n_d_places]? = some Try.f26 := Try.func26
theorem form_d_places : formOf Try.prog Try.f26 [2] = some G_d_places := by kernel_rfl
theorem res_d_places : resTmps Try.f26.results.toList = some [2] := by kernel_rfl
abbrev n_d_shortest : Nat := 27
def G_d_shortest : AC := (.seq (.rgn [⟨none, [(.box 4 6 (.t 1)), (.box 5 6 (.t 2)), (.mv 6 (.k (.sl true 0 []))), (.mv 7 (.k (B false)))]⟩] [0, 4, 5, 6, 7]) (.scope (.seq (.rgn [⟨none, [(.mv 18 (.t 0)), (.mkf 19 (.func 47) [(.t 18)] []), (.mv 8 (.t 19))]⟩] [0, 4, 5, 6, 7, 8]) (.seq (.rgn [⟨none, [(.mv 20 (.t 0)), (.ld 21 true 6 (.t 5)), (.mv 22 (.t 8)), (.call 23 48 [(.t 20), (.t 21), (.t 22)]), (.al 9 [(.v (.map none))]), (.st 1 (.t 9) (.t 23))]⟩] [0, 4, 5, 6, 7, 9]) (.seq (.rgn [⟨none, [(.ld 25 false 1 (.t 9)), (.ld 26 true 6 (.t 4)), (.lku 27 (true, [.int, .int, .int, .int, .int, .int]) (I 0) true (.t 25) (.t 26)), (.mv 24 (.t 27)), (.ext 28 (.t 24) 0), (.ext 29 (.t 24) 1), (.al 10 [(I 0)]), (.st 1 (.t 10) (.t 28)), (.mv 11 (.t 29))]⟩] [0, 4, 5, 6, 7, 9, 10, 11]) (.seq (.seq (.rgn [⟨none, [(.mv 30 (.t 11)), (.un 31 .not (.t 30))]⟩] [0, 4, 5, 6, 7, 9, 10, 31]) (.cond (.t 31) (.seq (.rgn [⟨none, [(.mv 6 (.k (.sl true 0 []))), (.mv 7 (.k (B false)))]⟩] [6, 7]) .ret) .skip)) (.seq (.rgn [⟨none, [(.al 12 [(.sl true 0 [])])]⟩] [0, 4, 5, 6, 7, 9, 10, 12]) (.seq (.rgn [⟨none, [(.ld 32 true 6 (.t 4)), (.al 13 [(I 0), (I 0), (I 0), (I 0), (I 0), (I 0)]), (.st 6 (.t 13) (.t 32))]⟩] [0, 5, 6, 7, 9, 10, 12, 13]) (.seq (.label 0) (.seq (.block 0 (.loop (.block 1 (.seq (.seq (.rgn [⟨none, [(.ld 33 true 6 (.t 13)), (.ld 34 true 6 (.t 5)), (.eqk 35 false (true, [.int, .int, .int, .int, .int, .int]) (.t 33) (.t 34))]⟩] [0, 5, 6, 7, 9, 10, 12, 13, 35]) (.cond (.t 35) (.exit 0) .skip)) (.seq (.rgn [⟨none, [(.ld 36 false 1 (.t 10)), (.bin 37 .sub (.t 36) (.k (I 1))), (.st 1 (.t 10) (.t 37))]⟩] [0, 5, 6, 7, 9, 10, 12, 13]) (.seq (.seq (.rgn [⟨none, [(.mv 38 (.t 0)), (.ld 39 true 6 (.t 13)), (.mv 40 (.t 0)), (.mkf 41 (.func 22) [(.t 40)] []), (.call 42 49 [(.t 38), (.t 39), (.t 41)])]⟩] [0, 5, 6, 7, 9, 10, 12, 13, 42]) (.block 2 (.rf (.t 42) [43, 44] (.seq (.rgn [⟨none, [(.mv 14 (.t 43))]⟩] [0, 5, 6, 7, 9, 10, 12, 13, 14, 44]) (.rgn [⟨none, [(.al 15 [(I 0), (I 0), (I 0), (I 0), (I 0), (I 0)]), (.st 6 (.t 15) (.t 44))]⟩] [0, 5, 6, 7, 9, 10, 12, 13, 14, 15])) (.block 3 (.seq (.rgn [⟨none, [(.ld 46 false 1 (.t 9)), (.ld 47 true 6 (.t 15)), (.lku 48 (true, [.int, .int, .int, .int, .int, .int]) (I 0) true (.t 46) (.t 47)), (.mv 45 (.t 48)), (.ext 49 (.t 45) 0), (.ext 50 (.t 45) 1), (.mv 16 (.t 49)), (.mv 17 (.t 50))]⟩] [0, 5, 6, 7, 9, 10, 12, 13, 14, 15, 16, 17]) (.seq (.rgn [⟨none, [(.mv 51 (.t 17)), (.mv 52 (.t 51))]⟩, ⟨(some (52, true)), [(.mv 53 (.t 16)), (.ld 54 false 1 (.t 10)), (.bin 55 .eql (.t 53) (.t 54))]⟩, ⟨none, [(.pick 56 (.t 52) (.t 55) (.k (B false)))]⟩] [0, 5, 6, 7, 9, 10, 12, 13, 14, 15, 56]) (.cond (.t 56) (.seq (.rgn [⟨none, [(.ld 57 false 1 (.t 12)), (.ld 58 false 1 (.t 12)), (.len 59 (.t 58)), (.ld 60 false 1 (.t 12)), (.len 61 (.t 60)), (.slc 62 1 (.t 57) none (some (.t 59)) (some (.t 61))), (.mv 63 (.t 14)), (.bsl 64 1 1 [(I 0)] [(0, (.t 63))]), (.app 65 1 8 (.t 62) (.t 64)), (.st 1 (.t 12) (.t 65))]⟩] [0, 5, 6, 7, 9, 10, 12, 13, 15]) (.seq (.rgn [⟨none, [(.ld 66 true 6 (.t 15)), (.st 6 (.t 13) (.t 66))]⟩] [0, 5, 6, 7, 9, 10, 12, 13]) (.exit 1))) .skip)))) [12]))) (.exit 0))))))) (.seq (.rgn [⟨none, [(.ld 67 false 1 (.t 12)), (.mv 6 (.t 67)), (.mv 7 (.k (B true)))]⟩] [6, 7]) .ret)))))))))))
theorem func_d_shortest : Try.prog.funcs[n_d_shortest]? = some Try.f27 := Try.func27
theorem form_d_shortest : formOf Try.prog Try.f27 [6, 7] = some G_d_shortest := by kernel_rfl
theorem res_d_shortest : resTmps Try.f27.results.toList = some [6, 7] := by kernel_rfl
abbrev n_o_within : Nat := 28
def G_o_within : AC := (.seq (.rgn [⟨none, [(.box 3 1 (.t 0)), (.box 4 1 (.t 1)), (.mv 6 (.k (B false)))]⟩] [2, 3, 4]) (.seq (.rgn [⟨none, [(.mv 7 (.t 2)), (.mkf 8 (.func 51) [] [(.t 3), (.t 4)]), (.call 9 50 [(.t 7), (.t 8)]), (.un 10 .not (.t 9)), (.mv 6 (.t 10))]⟩] [6]) .ret))
theorem func_o_within : Try.prog.funcs[n_o_within]? = some Try.f28 := Try.func28
theorem form_o_within : formOf Try.prog Try.f28 [6] = some G_o_within := by kernel_rfl
theorem res_o_within : resTmps Try.f28.results.toList = some [6] := by kernel_rfl
abbrev n_d_pairs : Nat := 29
def G_d_pairs : AC := (.seq (.rgn [⟨none, [(.mv 6 (.k (.sl true 0 [])))]⟩] [0, 1, 2]) (.seq (.rgn [⟨none, [(.al 7 [(I 0), (I 0), (I 0), (I 0), (I 0), (I 0), (I 0), (I 0), (I 0), (I 0), (I 0), (I 0), (I 0), (I 0), (I 0), (I 0), (I 0), (I 0), (I 0), (I 0), (I 0), (I 0), (I 0), (I 0), (I 0), (I 0), (I 0), (I 0), (I 0), (I 0), (I 0), (I 0), (I 0), (I 0), (I 0), (I 0)])]⟩] [0, 1, 2, 7]) (.seq (.rgn [⟨none, [(.mv 17 (.t 1)), (.mv 18 (.t 2)), (.iaa 19 6 6 (.t 7) (.t 17)), (.iaa 20 6 1 (.t 19) (.t 18)), (.st 1 (.t 20) (.k (I 1)))]⟩] [0, 1, 2, 7]) (.seq (.rgn [⟨none, [(.mv 21 (.t 1)), (.mv 22 (.t 2)), (.bld 23 [(I 0), (I 0)] [(0, 1, (.t 21)), (1, 1, (.t 22))]), (.bsl 24 1 2 [(I 0), (I 0)] [(0, (.t 23))]), (.mv 8 (.t 24))]⟩] [0, 7, 8]) (.seq (.block 0 (.loop (.seq (.seq (.rgn [⟨none, [(.mv 25 (.t 8)), (.len 26 (.t 25)), (.bin 27 .gtr (.t 26) (.k (I 0)))]⟩] [0, 7, 8, 27]) (.cond (.t 27) .skip (.exit 0))) (.block 1 (.seq (.rgn [⟨none, [(.mv 28 (.t 8)), (.ia 29 2 (.t 28) (.k (I 0))), (.ld 30 true 2 (.t 29)), (.al 9 [(I 0), (I 0)]), (.st 2 (.t 9) (.t 30))]⟩] [0, 7, 8, 9]) (.seq (.rgn [⟨none, [(.mv 31 (.t 8)), (.slc 32 2 (.t 31) (some (.k (I 1))) none none), (.mv 8 (.t 32))]⟩] [0, 7, 8, 9]) (.seq (.rgn [⟨none, [(.mv 33 (.t 0)), (.nilc 34 (.t 33)), (.fa 35 (.t 34) 0), (.fa 36 (.t 35) 1), (.ld 37 false 1 (.t 36)), (.len 38 (.t 37)), (.mv 39 (.k (I 0)))]⟩] [0, 7, 8, 9, 38, 39]) (.block 2 (.loop (.seq (.rgn [⟨none, [(.bin 40 .lss (.t 39) (.t 38))]⟩] [0, 7, 8, 9, 38, 39, 40]) (.seq (.cond (.t 40) .skip (.exit 2)) (.seq (.block 3 (.seq (.rgn [⟨none, [(.mv 41 (.t 39)), (.mv 10 (.t 41))]⟩] [0, 7, 8, 9, 10, 38, 39]) (.seq (.drw [⟨none, [(.mv 42 (.t 0)), (.nilc 43 (.t 42)), (.fa 44 (.t 43) 2), (.ld 45 false 1 (.t 44)), (.mv 46 (.t 10)), (.iaa 47 2 1 (.t 9) (.k (I 0))), (.ld 48 false 1 (.t 47)), (.ia 49 6 (.t 45) (.t 46)), (.iaa 50 6 1 (.t 49) (.t 48)), (.ld 51 false 1 (.t 50)), (.mv 52 (.t 0)), (.nilc 53 (.t 52)), (.fa 54 (.t 53) 2), (.ld 55 false 1 (.t 54)), (.mv 56 (.t 10)), (.iaa 57 2 1 (.t 9) (.k (I 1))), (.ld 58 false 1 (.t 57)), (.ia 59 6 (.t 55) (.t 56)), (.iaa 60 6 1 (.t 59) (.t 58)), (.ld 61 false 1 (.t 60)), (.bld 62 [(I 0), (I 0)] [(0, 1, (.t 51)), (1, 1, (.t 61))]), (.al 11 [(I 0), (I 0)]), (.st 2 (.t 11) (.t 62))]⟩] [(3, 6), (3, 13), (6, 13), (9, 13), (3, 16), (6, 16), (9, 16), (13, 16), (3, 19), (6, 19), (9, 19), (3, 21), (6, 21), (9, 21), (13, 21), (16, 21), (19, 21)] [0, 7, 8, 9, 11, 38, 39]) (.seq (.drw [⟨none, [(.iaa 63 2 1 (.t 11) (.k (I 0))), (.ld 64 false 1 (.t 63)), (.iaa 65 2 1 (.t 11) (.k (I 1))), (.ld 66 false 1 (.t 65)), (.iaa 67 6 6 (.t 7) (.t 64)), (.iaa 68 6 1 (.t 67) (.t 66)), (.ld 69 false 1 (.t 68)), (.bin 70 .eql (.t 69) (.k (I 0)))]⟩] [(1, 3)] [0, 7, 8, 9, 11, 38, 39, 70]) (.cond (.t 70) (.seq (.drw [⟨none, [(.iaa 71 2 1 (.t 11) (.k (I 0))), (.ld 72 false 1 (.t 71)), (.iaa 73 2 1 (.t 11) (.k (I 1))), (.ld 74 false 1 (.t 73)), (.iaa 75 6 6 (.t 7) (.t 72)), (.iaa 76 6 1 (.t 75) (.t 74)), (.st 1 (.t 76) (.k (I 1)))]⟩] [(1, 3)] [0, 7, 8, 9, 11, 38, 39]) (.rgn [⟨none, [(.mv 77 (.t 8)), (.ld 78 true 2 (.t 11)), (.bsl 79 1 2 [(I 0), (I 0)] [(0, (.t 78))]), (.app 80 2 16 (.t 77) (.t 79)), (.mv 8 (.t 80))]⟩] [0, 7, 8, 9, 38, 39])) .skip))))) (.rgn [⟨none, [(.bin 81 .add (.t 39) (.k (I 1))), (.mv 39 (.t 81))]⟩] [0, 7, 8, 9, 38, 39]))))))))))))) (.seq (.rgn [⟨none, [(.mv 12 (.k (.sl true 0 [])))]⟩] [7, 12]) (.seq (.seq (.rgn [⟨none, [(.ld 82 true 36 (.t 7)), (.mv 83 (.k (I 0)))]⟩] [12, 82, 83]) (.block 4 (.loop (.seq (.rgn [⟨none, [(.bin 84 .lss (.t 83) (.k (I 6)))]⟩] [12, 82, 83, 84]) (.seq (.cond (.t 84) .skip (.exit 4)) (.seq (.block 5 (.seq (.rgn [⟨none, [(.mv 85 (.t 83)), (.idx 86 6 true 6 (.t 82) (.t 83)), (.al 14 [(I 0), (I 0), (I 0), (I 0), (I 0), (I 0)]), (.mv 13 (.t 85)), (.st 6 (.t 14) (.t 86))]⟩] [12, 13, 14, 82, 83]) (.seq (.seq (.rgn [⟨none, [(.ld 87 true 6 (.t 14)), (.bld 88 [(I 0), (I 0), (I 0), (I 0), (I 0), (I 0)] []), (.eqk 89 false (true, [.int, .int, .int, .int, .int, .int]) (.t 87) (.t 88))]⟩] [12, 13, 14, 82, 83, 89]) (.cond (.t 89) (.exit 5) .skip)) (.seq (.rgn [⟨none, [(.ld 90 true 6 (.t 14)), (.mv 91 (.k (I 0)))]⟩] [12, 13, 82, 83, 90, 91]) (.block 6 (.loop (.seq (.rgn [⟨none, [(.bin 92 .lss (.t 91) (.k (I 6)))]⟩] [12, 13, 82, 83, 90, 91, 92]) (.seq (.cond (.t 92) .skip (.exit 6)) (.seq (.block 7 (.seq (.rgn [⟨none, [(.mv 93 (.t 91)), (.idx 94 6 false 1 (.t 90) (.t 91)), (.mv 15 (.t 93)), (.mv 16 (.t 94))]⟩] [12, 13, 15, 16, 82, 83, 90, 91]) (.seq (.rgn [⟨none, [(.mv 95 (.t 16)), (.bin 96 .eql (.t 95) (.k (I 1)))]⟩] [12, 13, 15, 82, 83, 90, 91, 96]) (.cond (.t 96) (.rgn [⟨none, [(.mv 97 (.t 12)), (.mv 98 (.t 13)), (.mv 99 (.t 15)), (.bld 100 [(I 0), (I 0)] [(0, 1, (.t 98)), (1, 1, (.t 99))]), (.bsl 101 1 2 [(I 0), (I 0)] [(0, (.t 100))]), (.app 102 2 16 (.t 97) (.t 101)), (.mv 12 (.t 102))]⟩] [12, 13, 82, 83, 90, 91]) .skip)))) (.rgn [⟨none, [(.bin 103 .add (.t 91) (.k (I 1))), (.mv 91 (.t 103))]⟩] [12, 13, 82, 83, 90, 91])))))))))) (.rgn [⟨none, [(.bin 104 .add (.t 83) (.k (I 1))), (.mv 83 (.t 104))]⟩] [12, 82, 83]))))))) (.seq (.rgn [⟨none, [(.mv 105 (.t 12)), (.mv 6 (.t 105))]⟩] [6]) .ret))))))))
theorem func_d_pairs : Try.prog.funcs[n_d_pairs]? = some Try.f29 := Try.func29
theorem form_d_pairs : formOf Try.prog Try.f29 [6] = some G_d_pairs := by kernel_rfl
theorem res_d_pairs : resTmps Try.f29.results.toList = some [6] := by kernel_rfl
abbrev n_o_times : Nat := 30
def G_o_times : AC := (.seq (.rgn [⟨none, [(.box 5 2 (.t 2)), (.mv 6 (.k (I 0)))]⟩] [0, 1, 5]) (.seq (.rgn [⟨none, [(.mv 7 (.k (I 0)))]⟩] [0, 1, 5, 7]) (.seq (.seq (.rgn [⟨none, [(.mv 10 (.t 0)), (.len 11 (.t 10)), (.mv 12 (.k (I 0)))]⟩] [1, 5, 7, 10, 11, 12]) (.block 0 (.loop (.seq (.rgn [⟨none, [(.bin 13 .lss (.t 12) (.t 11))]⟩] [1, 5, 7, 10, 11, 12, 13]) (.seq (.cond (.t 13) .skip (.exit 0)) (.seq (.block 1 (.seq (.rgn [⟨none, [(.ia 14 2 (.t 10) (.t 12)), (.ld 15 true 2 (.t 14)), (.al 9 [(I 0), (I 0)]), (.st 2 (.t 9) (.t 15))]⟩] [1, 5, 7, 9, 10, 11, 12]) (.seq (.drw [⟨none, [(.mv 16 (.t 1)), (.iaa 17 2 1 (.t 9) (.k (I 0))), (.ld 18 false 1 (.t 17)), (.ia 19 1 (.t 16) (.t 18)), (.ld 20 false 1 (.t 19)), (.mv 21 (.t 1)), (.iaa 22 2 1 (.t 9) (.k (I 1))), (.ld 23 false 1 (.t 22)), (.ia 24 1 (.t 21) (.t 23)), (.ld 25 false 1 (.t 24)), (.bld 26 [(I 0), (I 0)] [(0, 1, (.t 20)), (1, 1, (.t 25))]), (.ld 27 true 2 (.t 5)), (.eqk 28 false (true, [.int, .int]) (.t 26) (.t 27))]⟩] [(2, 7), (4, 7), (2, 9), (4, 9), (2, 11), (4, 11), (7, 11), (9, 11)] [1, 5, 7, 10, 11, 12, 28]) (.cond (.t 28) (.rgn [⟨none, [(.mv 29 (.t 7)), (.bin 30 .add (.t 29) (.k (I 1))), (.mv 7 (.t 30))]⟩] [1, 5, 7, 10, 11, 12]) .skip)))) (.rgn [⟨none, [(.bin 31 .add (.t 12) (.k (I 1))), (.mv 12 (.t 31))]⟩] [1, 5, 7, 10, 11, 12]))))))) (.seq (.rgn [⟨none, [(.mv 32 (.t 7)), (.mv 6 (.t 32))]⟩] [6]) .ret))))
theorem func_o_times : Try.prog.funcs[n_o_times]? = some Try.f30 := Try.func30
theorem form_o_times : formOf Try.prog Try.f30 [6] = some G_o_times := by kernel_rfl
theorem res_o_times : resTmps Try.f30.results.toList = some [6] := by kernel_rfl
abbrev n_d_ways : Nat := 31
def G_d_ways : AC := (.seq (.rgn [⟨none, [(.box 5 6 (.t 1)), (.box 6 6 (.t 2)), (.mv 8 (.k (I 0))), (.mv 9 (.k (I 0))), (.mv 10 (.k (B false)))]⟩] [0, 3, 5, 6]) (.seq (.drw [⟨none, [(.mv 26 (.t 0)), (.ld 27 true 6 (.t 6)), (.mv 28 (.t 0)), (.mkf 29 (.func 47) [(.t 28)] []), (.call 30 48 [(.t 26), (.t 27), (.t 29)]), (.mv 31 (.t 0)), (.ld 32 true 6 (.t 5)), (.mv 33 (.t 0)), (.mkf 34 (.func 22) [(.t 33)] []), (.call 35 48 [(.t 31), (.t 32), (.t 34)]), (.mv 11 (.t 30)), (.mv 12 (.t 35))]⟩] [(1, 6), (4, 6)] [0, 3, 5, 6, 11, 12]) (.seq (.rgn [⟨none, [(.mv 37 (.t 11)), (.ld 38 true 6 (.t 5)), (.lku 39 (true, [.int, .int, .int, .int, .int, .int]) (I 0) true (.t 37) (.t 38)), (.mv 36 (.t 39)), (.ext 40 (.t 36) 0), (.ext 41 (.t 36) 1), (.mv 13 (.t 40)), (.mv 14 (.t 41))]⟩] [0, 3, 5, 6, 11, 12, 13, 14]) (.seq (.seq (.rgn [⟨none, [(.mv 42 (.t 14)), (.un 43 .not (.t 42))]⟩] [0, 3, 5, 6, 11, 12, 13, 43]) (.cond (.t 43) (.seq (.rgn [⟨none, [(.mv 8 (.k (I 0))), (.mv 9 (.k (I 0))), (.mv 10 (.k (B false)))]⟩] [8, 9, 10]) .ret) .skip)) (.seq (.rgn [⟨none, [(.mv 15 (.k (I 0)))]⟩] [0, 3, 5, 6, 11, 12, 13, 15]) (.seq (.seq (.rgn [⟨none, [(.mv 44 (.t 12)), (.rng 45 (.t 44))]⟩] [0, 3, 5, 6, 11, 13, 15, 45]) (.block 0 (.loop (.seq (.rgn [⟨none, [(.nxt 46 (.t 45)), (.ext 47 (.t 46) 0)]⟩] [0, 3, 5, 6, 11, 13, 15, 45, 47]) (.seq (.cond (.t 47) .skip (.exit 0)) (.block 1 (.seq (.rgn [⟨none, [(.ent 48 (.t 45)), (.ext 49 (.t 48) 0), (.ext 50 (.t 48) 1), (.al 16 [(I 0), (I 0), (I 0), (I 0), (I 0), (I 0)]), (.st 6 (.t 16) (.t 49)), (.mv 17 (.t 50))]⟩] [0, 3, 5, 6, 11, 13, 15, 16, 17, 45]) (.seq (.rgn [⟨none, [(.mv 52 (.t 11)), (.mv 53 (.t 0)), (.ld 54 true 6 (.t 16)), (.mv 55 (.t 3)), (.call 56 22 [(.t 53), (.t 54), (.t 55)]), (.lku 57 (true, [.int, .int, .int, .int, .int, .int]) (I 0) true (.t 52) (.t 56)), (.mv 51 (.t 57)), (.ext 58 (.t 51) 0), (.ext 59 (.t 51) 1), (.mv 18 (.t 58)), (.mv 19 (.t 59))]⟩] [0, 3, 5, 6, 11, 13, 15, 17, 18, 19, 45]) (.seq (.rgn [⟨none, [(.mv 60 (.t 19)), (.mv 61 (.t 60))]⟩, ⟨(some (61, true)), [(.mv 62 (.t 17)), (.bin 63 .add (.t 62) (.k (I 1))), (.mv 64 (.t 18)), (.bin 65 .add (.t 63) (.t 64)), (.mv 66 (.t 13)), (.bin 67 .eql (.t 65) (.t 66))]⟩, ⟨none, [(.pick 68 (.t 61) (.t 67) (.k (B false)))]⟩] [0, 3, 5, 6, 11, 13, 15, 45, 68]) (.cond (.t 68) (.rgn [⟨none, [(.mv 15 (.k (I 1)))]⟩] [0, 3, 5, 6, 11, 13, 15, 45]) .skip)))))))))) (.seq (.rgn [⟨none, [(.mv 69 (.t 0)), (.nilc 70 (.t 69)), (.fa 71 (.t 70) 0), (.fa 72 (.t 71) 0), (.ld 73 false 1 (.t 72)), (.bld 74 [(I 0), (.sl true 0 [])] [(0, 1, (.t 73))]), (.al 20 [(I 0), (.sl true 0 [])]), (.st 2 (.t 20) (.t 74))]⟩] [0, 3, 5, 6, 13, 15, 20]) (.seq (.seq (.rgn [⟨none, [(.mv 75 (.t 0)), (.nilc 76 (.t 75)), (.fa 77 (.t 76) 0), (.fa 78 (.t 77) 1), (.ld 79 false 1 (.t 78)), (.len 80 (.t 79)), (.mv 81 (.k (I 0)))]⟩] [3, 5, 6, 13, 15, 20, 79, 80, 81]) (.block 2 (.loop (.seq (.rgn [⟨none, [(.bin 82 .lss (.t 81) (.t 80))]⟩] [3, 5, 6, 13, 15, 20, 79, 80, 81, 82]) (.seq (.cond (.t 82) .skip (.exit 2)) (.seq (.block 3 (.seq (.rgn [⟨none, [(.mv 83 (.t 81)), (.ia 84 1 (.t 79) (.t 81)), (.ld 85 false 1 (.t 84)), (.mv 21 (.t 83)), (.mv 22 (.t 85))]⟩] [3, 5, 6, 13, 15, 20, 21, 22, 79, 80, 81]) (.seq (.rgn [⟨none, [(.mv 86 (.t 21)), (.mv 87 (.t 3)), (.bin 88 .neq (.t 86) (.t 87))]⟩] [3, 5, 6, 13, 15, 20, 22, 79, 80, 81, 88]) (.cond (.t 88) (.rgn [⟨none, [(.fa 89 (.t 20) 1), (.ld 90 false 1 (.t 89)), (.mv 91 (.t 22)), (.bsl 92 1 1 [(.sl true 0 [])] [(0, (.t 91))]), (.app 93 1 24 (.t 90) (.t 92)), (.fa 94 (.t 20) 1), (.st 1 (.t 94) (.t 93))]⟩] [3, 5, 6, 13, 15, 20, 79, 80, 81]) .skip)))) (.rgn [⟨none, [(.bin 95 .add (.t 81) (.k (I 1))), (.mv 81 (.t 95))]⟩] [3, 5, 6, 13, 15, 20, 79, 80, 81]))))))) (.seq (.rgn [⟨none, [(.ld 96 true 2 (.t 20)), (.call 97 25 [(.t 96)]), (.mv 23 (.t 97))]⟩] [5, 6, 13, 15, 23]) (.seq (.seq (.drw [⟨none, [(.mv 99 (.t 23)), (.ld 100 true 6 (.t 5)), (.mv 101 (.t 23)), (.mkf 102 (.func 22) [(.t 101)] []), (.call 103 48 [(.t 99), (.t 100), (.t 102)]), (.ld 104 true 6 (.t 6)), (.lku 105 (true, [.int, .int, .int, .int, .int, .int]) (I 0) true (.t 103) (.t 104)), (.mv 98 (.t 105)), (.ext 106 (.t 98) 0), (.ext 107 (.t 98) 1), (.mv 24 (.t 106)), (.mv 25 (.t 107))]⟩] [(1, 5), (4, 5)] [13, 15, 24, 25]) (.seq (.rgn [⟨none, [(.mv 108 (.t 25)), (.un 109 .not (.t 108)), (.mv 110 (.t 109))]⟩, ⟨(some (110, false)), [(.mv 111 (.t 24)), (.mv 112 (.t 13)), (.bin 113 .gtr (.t 111) (.t 112))]⟩, ⟨none, [(.pick 114 (.t 110) (.k (B true)) (.t 113))]⟩] [15, 114]) (.cond (.t 114) (.rgn [⟨none, [(.mv 15 (.k (I 2)))]⟩] [15]) .skip))) (.seq (.rgn [⟨none, [(.mv 115 (.t 15)), (.mv 8 (.k (I 2))), (.mv 9 (.t 115)), (.mv 10 (.k (B true)))]⟩] [8, 9, 10]) .ret)))))))))))
theorem func_d_ways : Try.prog.funcs[n_d_ways]? = some Try.f31 := Try.func31
theorem form_d_ways : formOf Try.prog Try.f31 [8, 9, 10] = some G_d_ways := by kernel_rfl
theorem res_d_ways : resTmps Try.f31.results.toList = some [8, 9, 10] := by kernel_rfl
abbrev n_o_Same : Nat := 32
def G_o_Same : AC := (.seq (.rgn [⟨none, [(.box 3 2 (.t 0)), (.mv 6 (.k (I 0)))]⟩] [1, 2, 3]) (.seq (.seq (.rgn [⟨none, [(.ld 13 true 2 (.t 3)), (.call 14 24 [(.t 13)]), (.mv 7 (.t 14))]⟩] [1, 2, 3, 7]) (.seq (.rgn [⟨none, [(.mv 15 (.t 7)), (.bin 16 .neq (.t 15) (.k (I 0)))]⟩] [1, 2, 3, 7, 16]) (.cond (.t 16) (.seq (.rgn [⟨none, [(.mv 17 (.t 7)), (.mv 6 (.t 17))]⟩] [6]) .ret) .skip))) (.seq (.seq (.rgn [⟨none, [(.ld 18 true 2 (.t 3)), (.mv 19 (.t 1)), (.mv 20 (.t 2)), (.bsl 21 2 1 [(.sl true 0 [])] [(0, (.t 19)), (1, (.t 20))]), (.call 22 20 [(.t 18), (.t 21)]), (.mv 8 (.t 22))]⟩] [1, 2, 3, 8]) (.seq (.rgn [⟨none, [(.mv 23 (.t 8)), (.bin 24 .neq (.t 23) (.k (I 0)))]⟩] [1, 2, 3, 8, 24]) (.cond (.t 24) (.seq (.rgn [⟨none, [(.mv 25 (.t 8)), (.mv 6 (.t 25))]⟩] [6]) .ret) .skip))) (.seq (.rgn [⟨none, [(.ld 27 true 2 (.t 3)), (.mv 28 (.t 1)), (.call 29 8 [(.t 27), (.t 28)]), (.mv 26 (.t 29)), (.ext 30 (.t 26) 0), (.ext 31 (.t 26) 1), (.mv 9 (.t 30)), (.mv 10 (.t 31))]⟩] [2, 3, 9]) (.seq (.rgn [⟨none, [(.ld 33 true 2 (.t 3)), (.mv 34 (.t 2)), (.call 35 8 [(.t 33), (.t 34)]), (.mv 32 (.t 35)), (.ext 36 (.t 32) 0), (.ext 37 (.t 32) 1), (.mv 11 (.t 36)), (.mv 12 (.t 37))]⟩] [9, 11]) (.seq (.seq (.rgn [⟨none, [(.mv 38 (.t 9)), (.mv 39 (.t 11)), (.call 40 44 [(.t 38), (.t 39)]), (.un 41 .not (.t 40))]⟩] [41]) (.cond (.t 41) (.seq (.rgn [⟨none, [(.mv 6 (.k (I 18)))]⟩] [6]) .ret) .skip)) (.seq (.rgn [⟨none, [(.mv 6 (.k (I 0)))]⟩] [6]) .ret)))))))
theorem func_o_Same : Try.prog.funcs[n_o_Same]? = some Try.f32 := Try.func32
theorem form_o_Same : formOf Try.prog Try.f32 [6] = some G_o_Same := by kernel_rfl
theorem res_o_Same : resTmps Try.f32.results.toList = some [6] := by kernel_rfl
abbrev n_o_Closed : Nat := 33
def G_o_Closed : AC := (.seq (.rgn [⟨none, [(.box 3 2 (.t 0)), (.mv 6 (.k (.sl true 0 []))), (.mv 7 (.k (I 0)))]⟩] [1, 2, 3]) (.seq (.rgn [⟨none, [(.ld 16 true 2 (.t 3)), (.mv 17 (.t 1)), (.mv 18 (.t 2)), (.bsl 19 2 1 [(.sl true 0 [])] [(0, (.t 17)), (1, (.t 18))]), (.call 20 19 [(.t 16), (.t 19)]), (.mv 15 (.t 20)), (.ext 21 (.t 15) 0), (.ext 22 (.t 15) 1), (.mv 8 (.t 21)), (.mv 9 (.t 22))]⟩] [1, 2, 8, 9]) (.seq (.seq (.rgn [⟨none, [(.mv 23 (.t 9)), (.bin 24 .neq (.t 23) (.k (I 0)))]⟩] [1, 2, 8, 9, 24]) (.cond (.t 24) (.seq (.rgn [⟨none, [(.mv 25 (.t 9)), (.mv 6 (.k (.sl true 0 []))), (.mv 7 (.t 25))]⟩] [6, 7]) .ret) .skip)) (.seq (.rgn [⟨none, [(.mv 26 (.t 8)), (.mv 27 (.t 1)), (.call 28 21 [(.t 27)]), (.mv 29 (.t 8)), (.mkf 30 (.func 22) [(.t 29)] []), (.call 31 48 [(.t 26), (.t 28), (.t 30)]), (.mv 10 (.t 31))]⟩] [2, 8, 10]) (.seq (.seq (.rgn [⟨none, [(.mv 33 (.t 10)), (.mv 34 (.t 2)), (.call 35 21 [(.t 34)]), (.lku 36 (true, [.int, .int, .int, .int, .int, .int]) (I 0) true (.t 33) (.t 35)), (.mv 32 (.t 36)), (.ext 37 (.t 32) 0), (.ext 38 (.t 32) 1), (.mv 11 (.t 37)), (.mv 12 (.t 38))]⟩] [8, 10, 12]) (.seq (.rgn [⟨none, [(.mv 39 (.t 12))]⟩] [8, 10, 39]) (.cond (.t 39) (.seq (.rgn [⟨none, [(.mv 6 (.k (.sl true 0 []))), (.mv 7 (.k (I 11)))]⟩] [6, 7]) .ret) .skip))) (.seq (.rgn [⟨none, [(.mv 13 (.k (.sl true 0 [])))]⟩] [8, 10, 13]) (.seq (.seq (.rgn [⟨none, [(.mv 40 (.t 10)), (.rng 41 (.t 40))]⟩] [8, 13, 41]) (.block 0 (.loop (.seq (.rgn [⟨none, [(.nxt 42 (.t 41)), (.ext 43 (.t 42) 0)]⟩] [8, 13, 41, 43]) (.seq (.cond (.t 43) .skip (.exit 0)) (.block 1 (.seq (.rgn [⟨none, [(.ent 44 (.t 41)), (.ext 45 (.t 44) 0), (.al 14 [(I 0), (I 0), (I 0), (I 0), (I 0), (I 0)]), (.st 6 (.t 14) (.t 45))]⟩] [8, 13, 14, 41]) (.rgn [⟨none, [(.mv 46 (.t 13)), (.mv 47 (.t 8)), (.ld 48 true 6 (.t 14)), (.call 49 23 [(.t 47), (.t 48)]), (.bsl 50 1 1 [(.sl true 0 [])] [(0, (.t 49))]), (.app 51 1 24 (.t 46) (.t 50)), (.mv 13 (.t 51))]⟩] [8, 13, 41])))))))) (.seq (.rgn [⟨none, [(.mv 52 (.t 13)), (.call 53 52 [(.t 52), (.k (.fn (.func 53) [] []))])]⟩] [13]) (.seq (.rgn [⟨none, [(.mv 54 (.t 13)), (.mv 6 (.t 54)), (.mv 7 (.k (I 0)))]⟩] [6, 7]) .ret)))))))))
theorem func_o_Closed : Try.prog.funcs[n_o_Closed]? = some Try.f33 := Try.func33
theorem form_o_Closed : formOf Try.prog Try.f33 [6, 7] = some G_o_Closed := by kernel_rfl
theorem res_o_Closed : resTmps Try.f33.results.toList = some [6, 7] := by kernel_rfl
abbrev n_o_Pair : Nat := 34
def G_o_Pair : AC := (.seq (.rgn [⟨none, [(.box 3 2 (.t 0)), (.box 4 1 (.t 1)), (.box 5 1 (.t 2)), (.al 6 [(I 0), (I 0), (I 0), (I 0)]), (.mv 7 (.k (I 0)))]⟩] [3, 4, 5, 6]) (.seq (.rgn [⟨none, [(.ld 13 true 2 (.t 3)), (.ld 14 false 1 (.t 4)), (.ld 15 false 1 (.t 5)), (.bsl 16 2 1 [(.sl true 0 [])] [(0, (.t 14)), (1, (.t 15))]), (.call 17 19 [(.t 13), (.t 16)]), (.mv 12 (.t 17)), (.ext 18 (.t 12) 0), (.ext 19 (.t 12) 1), (.al 8 [(.v (.pointer none))]), (.st 1 (.t 8) (.t 18)), (.mv 9 (.t 19))]⟩] [4, 5, 6, 8, 9]) (.seq (.seq (.rgn [⟨none, [(.mv 20 (.t 9)), (.bin 21 .neq (.t 20) (.k (I 0)))]⟩] [4, 5, 6, 8, 9, 21]) (.cond (.t 21) (.seq (.rgn [⟨none, [(.bld 22 [(I 0), (I 0), (I 0), (I 0)] []), (.mv 23 (.t 9)), (.st 4 (.t 6) (.t 22)), (.mv 7 (.t 23))]⟩] [6, 7]) .ret) .skip)) (.seq (.rgn [⟨none, [(.bld 24 [(I 0), (I 0), (I 0), (I 0)] []), (.al 10 [(I 0), (I 0), (I 0), (I 0)]), (.st 4 (.t 10) (.t 24))]⟩] [4, 5, 6, 8, 10]) (.seq (.rgn [⟨none, [(.ld 25 false 1 (.t 8)), (.call 26 26 [(.t 25)]), (.mkf 27 (.func 55) [] [(.t 8), (.t 10), (.t 4), (.t 5)]), (.call 28 54 [(.t 26), (.t 27)]), (.al 11 [(I 0), (I 0), (I 0), (I 0)]), (.st 4 (.t 11) (.t 28))]⟩] [6, 10, 11]) (.seq (.seq (.rgn [⟨none, [(.ld 29 true 4 (.t 11)), (.ld 30 true 4 (.t 10)), (.eqk 31 false (true, [.int, .int, .int, .int]) (.t 29) (.t 30))]⟩] [6, 10, 11, 31]) (.cond (.t 31) (.seq (.rgn [⟨none, [(.ld 32 true 4 (.t 10)), (.st 4 (.t 6) (.t 32)), (.mv 7 (.k (I 5)))]⟩] [6, 7]) .ret) .skip)) (.seq (.rgn [⟨none, [(.ld 33 true 4 (.t 11)), (.st 4 (.t 6) (.t 33)), (.mv 7 (.k (I 0)))]⟩] [6, 7]) .ret)))))))
theorem func_o_Pair : Try.prog.funcs[n_o_Pair]? = some Try.f34 := Try.func34
theorem form_o_Pair : formOf Try.prog Try.f34 [6, 7] = some G_o_Pair := by kernel_rfl
theorem resc_o_Pair : resCs Try.prog Try.f34.results.toList = some [(6, some (true, 4)), (7, none)] := by kernel_rfl
abbrev n_o_Count : Nat := 35
def G_o_Count : AC := (.seq (.rgn [⟨none, [(.box 3 2 (.t 0)), (.mv 6 (.k (I 0))), (.mv 7 (.k (I 0)))]⟩] [1, 2, 3]) (.seq (.rgn [⟨none, [(.ld 13 true 2 (.t 3)), (.mv 14 (.t 1)), (.mv 15 (.t 2)), (.bsl 16 2 1 [(.sl true 0 [])] [(0, (.t 14)), (1, (.t 15))]), (.call 17 19 [(.t 13), (.t 16)]), (.mv 12 (.t 17)), (.ext 18 (.t 12) 0), (.ext 19 (.t 12) 1), (.mv 8 (.t 18)), (.mv 9 (.t 19))]⟩] [1, 2, 8, 9]) (.seq (.seq (.rgn [⟨none, [(.mv 20 (.t 9)), (.bin 21 .neq (.t 20) (.k (I 0)))]⟩] [1, 2, 8, 9, 21]) (.cond (.t 21) (.seq (.rgn [⟨none, [(.mv 22 (.t 9)), (.mv 6 (.k (I 0))), (.mv 7 (.t 22))]⟩] [6, 7]) .ret) .skip)) (.seq (.rgn [⟨none, [(.mv 24 (.t 8)), (.mv 25 (.t 1)), (.call 26 21 [(.t 25)]), (.mv 27 (.t 2)), (.call 28 21 [(.t 27)]), (.call 29 57 [(.t 24), (.t 26), (.t 28)]), (.mv 23 (.t 29)), (.ext 30 (.t 23) 0), (.ext 31 (.t 23) 1), (.mv 10 (.t 30)), (.mv 11 (.t 31))]⟩] [10, 11]) (.seq (.block 0 (.seq (.rgn [⟨none, [(.mv 33 (.t 11)), (.un 34 .not (.t 33)), (.mv 32 (.t 34))]⟩] [10, 32]) (.cond (.t 32) (.seq (.rgn [⟨none, [(.mv 6 (.k (I 0))), (.mv 7 (.k (I 13)))]⟩] [6, 7]) .ret) (.seq (.rgn [⟨none, [(.mv 36 (.t 10)), (.bin 37 .gtr (.t 36) (.k (I 1099511627776))), (.mv 35 (.t 37))]⟩] [10, 35]) (.cond (.t 35) (.seq (.rgn [⟨none, [(.mv 6 (.k (I 0))), (.mv 7 (.k (I 4)))]⟩] [6, 7]) .ret) .skip))))) (.seq (.rgn [⟨none, [(.mv 38 (.t 10)), (.mv 6 (.t 38)), (.mv 7 (.k (I 0)))]⟩] [6, 7]) .ret))))))
theorem func_o_Count : Try.prog.funcs[n_o_Count]? = some Try.f35 := Try.func35
theorem form_o_Count : formOf Try.prog Try.f35 [6, 7] = some G_o_Count := by kernel_rfl
theorem res_o_Count : resTmps Try.f35.results.toList = some [6, 7] := by kernel_rfl
abbrev n_o_CheckClosed : Nat := 36
def G_o_CheckClosed : AC := (.seq (.rgn [⟨none, [(.box 4 2 (.t 0)), (.al 8 [(I 0)])]⟩] [1, 2, 3, 4, 8]) (.seq (.rgn [⟨none, [(.ld 19 true 2 (.t 4)), (.mv 20 (.t 1)), (.mv 21 (.t 2)), (.bsl 22 2 1 [(.sl true 0 [])] [(0, (.t 20)), (1, (.t 21))]), (.call 23 19 [(.t 19), (.t 22)]), (.mv 18 (.t 23)), (.ext 24 (.t 18) 0), (.ext 25 (.t 18) 1), (.al 9 [(.v (.pointer none))]), (.st 1 (.t 9) (.t 24)), (.mv 10 (.t 25))]⟩] [1, 2, 3, 8, 9, 10]) (.seq (.block 0 (.seq (.rgn [⟨none, [(.mv 27 (.t 10)), (.bin 28 .neq (.t 27) (.k (I 0))), (.mv 26 (.t 28))]⟩] [1, 2, 3, 8, 9, 10, 26]) (.cond (.t 26) (.seq (.rgn [⟨none, [(.mv 29 (.t 10)), (.st 1 (.t 8) (.t 29))]⟩] [8]) .ret) (.seq (.rgn [⟨none, [(.mv 31 (.t 3)), (.len 32 (.t 31)), (.bin 33 .gtr (.t 32) (.k (I 720))), (.mv 30 (.t 33))]⟩] [1, 2, 3, 8, 9, 30]) (.cond (.t 30) (.seq (.rgn [⟨none, [(.st 1 (.t 8) (.k (I 6)))]⟩] [8]) .ret) (.seq (.rgn [⟨none, [(.mv 35 (.t 3)), (.mkf 36 (.func 58) [] [(.t 9)]), (.call 37 38 [(.t 35), (.t 36)]), (.mv 34 (.t 37))]⟩] [1, 2, 3, 8, 9, 34]) (.cond (.t 34) (.seq (.rgn [⟨none, [(.st 1 (.t 8) (.k (I 3)))]⟩] [8]) .ret) .skip))))))) (.seq (.rgn [⟨none, [(.mkm 38), (.al 11 [(.v (.map none))]), (.st 1 (.t 11) (.t 38))]⟩] [1, 2, 3, 8, 9, 11]) (.seq (.seq (.rgn [⟨none, [(.mv 39 (.t 3)), (.len 40 (.t 39)), (.mv 41 (.k (I 0)))]⟩] [1, 2, 3, 8, 9, 11, 39, 40, 41]) (.block 1 (.loop (.seq (.rgn [⟨none, [(.bin 42 .lss (.t 41) (.t 40))]⟩] [1, 2, 3, 8, 9, 11, 39, 40, 41, 42]) (.seq (.cond (.t 42) .skip (.exit 1)) (.seq (.block 2 (.seq (.rgn [⟨none, [(.mv 43 (.t 41)), (.ia 44 1 (.t 39) (.t 41)), (.ld 45 false 1 (.t 44)), (.mv 12 (.t 43)), (.mv 13 (.t 45))]⟩] [1, 2, 3, 8, 9, 11, 12, 13, 39, 40, 41]) (.seq (.seq (.rgn [⟨none, [(.mv 46 (.t 12)), (.bin 47 .gtr (.t 46) (.k (I 0))), (.mv 48 (.t 47))]⟩, ⟨(some (48, true)), [(.mv 49 (.t 3)), (.mv 50 (.t 12)), (.bin 51 .sub (.t 50) (.k (I 1))), (.ia 52 1 (.t 49) (.t 51)), (.ld 53 false 1 (.t 52)), (.mv 54 (.t 13)), (.call 55 53 [(.t 53), (.t 54)]), (.bin 56 .geq (.t 55) (.k (I 0)))]⟩, ⟨none, [(.pick 57 (.t 48) (.t 56) (.k (B false)))]⟩] [1, 2, 3, 8, 9, 11, 13, 39, 40, 41, 57]) (.cond (.t 57) (.seq (.rgn [⟨none, [(.st 1 (.t 8) (.k (I 3)))]⟩] [8]) .ret) .skip)) (.drw [⟨none, [(.ld 58 false 1 (.t 11)), (.mv 59 (.t 13)), (.call 60 21 [(.t 59)]), (.ins (true, [.int, .int, .int, .int, .int, .int]) (.t 58) (.t 60) (.k (I 1)))]⟩] [(0, 2)] [1, 2, 3, 8, 9, 11, 39, 40, 41])))) (.rgn [⟨none, [(.bin 61 .add (.t 41) (.k (I 1))), (.mv 41 (.t 61))]⟩] [1, 2, 3, 8, 9, 11, 39, 40, 41]))))))) (.seq (.seq (.drw [⟨none, [(.ld 62 false 1 (.t 11)), (.mv 63 (.t 1)), (.call 64 21 [(.t 63)]), (.lku 65 (true, [.int, .int, .int, .int, .int, .int]) (I 0) false (.t 62) (.t 64)), (.bin 66 .eql (.t 65) (.k (I 0))), (.mv 67 (.t 66))]⟩, ⟨(some (67, false)), [(.ld 68 false 1 (.t 11)), (.mv 69 (.t 2)), (.call 70 21 [(.t 69)]), (.lku 71 (true, [.int, .int, .int, .int, .int, .int]) (I 0) false (.t 68) (.t 70)), (.bin 72 .eql (.t 71) (.k (I 1)))]⟩, ⟨none, [(.pick 73 (.t 67) (.k (B true)) (.t 72))]⟩] [(0, 2), (6, 8)] [3, 8, 9, 11, 73]) (.cond (.t 73) (.seq (.rgn [⟨none, [(.st 1 (.t 8) (.k (I 14)))]⟩] [8]) .ret) .skip)) (.seq (.seq (.rgn [⟨none, [(.mv 74 (.t 3)), (.len 75 (.t 74)), (.mv 76 (.k (I 0)))]⟩] [8, 9, 11, 74, 75, 76]) (.block 3 (.loop (.seq (.rgn [⟨none, [(.bin 77 .lss (.t 76) (.t 75))]⟩] [8, 9, 11, 74, 75, 76, 77]) (.seq (.cond (.t 77) .skip (.exit 3)) (.seq (.block 4 (.seq (.rgn [⟨none, [(.ia 78 1 (.t 74) (.t 76)), (.ld 79 false 1 (.t 78)), (.mv 15 (.t 79))]⟩] [8, 9, 11, 15, 74, 75, 76]) (.seq (.drw [⟨none, [(.ld 80 false 1 (.t 9)), (.mv 81 (.t 15)), (.call 82 21 [(.t 81)]), (.ld 83 false 1 (.t 9)), (.mkf 84 (.func 22) [(.t 83)] []), (.call 85 49 [(.t 80), (.t 82), (.t 84)])]⟩] [(0, 2), (0, 3), (2, 3)] [8, 9, 11, 74, 75, 76, 85]) (.block 5 (.rf (.t 85) [86, 87] (.rgn [⟨none, [(.al 17 [(I 0), (I 0), (I 0), (I 0), (I 0), (I 0)]), (.st 6 (.t 17) (.t 87))]⟩] [8, 11, 17]) (.block 6 (.seq (.rgn [⟨none, [(.ld 88 false 1 (.t 11)), (.ld 89 true 6 (.t 17)), (.lku 90 (true, [.int, .int, .int, .int, .int, .int]) (I 0) false (.t 88) (.t 89)), (.bin 91 .eql (.t 90) (.k (I 0)))]⟩] [8, 91]) (.cond (.t 91) (.seq (.rgn [⟨none, [(.st 1 (.t 8) (.k (I 14)))]⟩] [8]) .ret) .skip))) [8, 9, 11, 74, 75, 76]))))) (.rgn [⟨none, [(.bin 92 .add (.t 76) (.k (I 1))), (.mv 76 (.t 92))]⟩] [8, 9, 11, 74, 75, 76]))))))) (.seq (.rgn [⟨none, [(.st 1 (.t 8) (.k (I 0)))]⟩] [8]) .ret))))))))
theorem func_o_CheckClosed : Try.prog.funcs[n_o_CheckClosed]? = some Try.f36 := Try.func36
theorem form_o_CheckClosed : formOf Try.prog Try.f36 [8] = some G_o_CheckClosed := by kernel_rfl
theorem resc_o_CheckClosed : resCs Try.prog Try.f36.results.toList = some [(8, some (false, 1))] := by kernel_rfl
abbrev n_o_open_1 : Nat := 39
def G_o_open_1 : AC := (.seq (.rgn [⟨none, [(.mv 3 (.k (B false)))]⟩] [0, 1]) (.seq (.rgn [⟨none, [(.ld 4 false 1 (.t 1)), (.mv 5 (.t 0)), (.call 6 40 [(.t 4), (.t 5)]), (.un 7 .not (.t 6)), (.mv 3 (.t 7))]⟩] [3]) .ret))
theorem func_o_open_1 : Try.prog.funcs[n_o_open_1]? = some Try.f39 := Try.func39
theorem form_o_open_1 : formOf Try.prog Try.f39 [3] = some G_o_open_1 := by kernel_rfl
theorem res_o_open_1 : resTmps Try.f39.results.toList = some [3] := by kernel_rfl
abbrev n_d_isRow : Nat := 40
def G_d_isRow : AC := (.seq (.rgn [⟨none, [(.mv 4 (.k (B false)))]⟩] [0, 1]) (.seq (.rgn [⟨none, [(.mv 5 (.t 1)), (.len 6 (.t 5)), (.mv 7 (.t 0)), (.nilc 8 (.t 7)), (.fa 9 (.t 8) 0), (.fa 10 (.t 9) 0), (.ld 11 false 1 (.t 10)), (.bin 12 .eql (.t 6) (.t 11)), (.mv 13 (.t 12))]⟩, ⟨(some (13, true)), [(.mv 14 (.t 1)), (.call 15 28 [(.k (I 0)), (.k (I 5)), (.t 14)])]⟩, ⟨none, [(.pick 16 (.t 13) (.t 15) (.k (B false))), (.mv 4 (.t 16))]⟩] [4]) .ret))
theorem func_d_isRow : Try.prog.funcs[n_d_isRow]? = some Try.f40 := Try.func40
theorem form_d_isRow : formOf Try.prog Try.f40 [4] = some G_d_isRow := by kernel_rfl
theorem res_d_isRow : resTmps Try.f40.results.toList = some [4] := by kernel_rfl
abbrev n_o_listed_1 : Nat := 41
def G_o_listed_1 : AC := (.seq (.rgn [⟨none, [(.mv 2 (.k (B false)))]⟩] [0]) (.seq (.rgn [⟨none, [(.mv 3 (.t 0)), (.len 4 (.t 3)), (.bin 5 .gtr (.t 4) (.k (I 720))), (.mv 2 (.t 5))]⟩] [2]) .ret))
theorem func_o_listed_1 : Try.prog.funcs[n_o_listed_1]? = some Try.f41 := Try.func41
theorem form_o_listed_1 : formOf Try.prog Try.f41 [2] = some G_o_listed_1 := by kernel_rfl
theorem res_o_listed_1 : resTmps Try.f41.results.toList = some [2] := by kernel_rfl
abbrev n_o_listed_2 : Nat := 42
def G_o_listed_2 : AC := (.seq (.rgn [⟨none, [(.mv 3 (.k (B false)))]⟩] [0, 1]) (.seq (.rgn [⟨none, [(.fa 4 (.t 1) 1), (.ld 5 false 1 (.t 4)), (.len 6 (.t 5)), (.bin 7 .sub (.t 6) (.k (I 1))), (.mv 8 (.t 0)), (.call 9 28 [(.k (I 0)), (.t 7), (.t 8)]), (.un 10 .not (.t 9)), (.mv 3 (.t 10))]⟩] [3]) .ret))
theorem func_o_listed_2 : Try.prog.funcs[n_o_listed_2]? = some Try.f42 := Try.func42
theorem form_o_listed_2 : formOf Try.prog Try.f42 [3] = some G_o_listed_2 := by kernel_rfl
theorem res_o_listed_2 : resTmps Try.f42.results.toList = some [3] := by kernel_rfl
abbrev n_o_CheckBench_1 : Nat := 43
def G_o_CheckBench_1 : AC := (.seq (.rgn [⟨none, [(.mv 3 (.k (B false)))]⟩] [0, 1]) (.seq (.drw [⟨none, [(.mv 4 (.t 0)), (.call 5 46 [(.t 4)]), (.call 6 45 [(.t 5)]), (.ld 7 false 1 (.t 1)), (.call 8 44 [(.t 6), (.t 7)]), (.un 9 .not (.t 8)), (.mv 3 (.t 9))]⟩] [(1, 3), (2, 3)] [3]) .ret))
theorem func_o_CheckBench_1 : Try.prog.funcs[n_o_CheckBench_1]? = some Try.f43 := Try.func43
theorem form_o_CheckBench_1 : formOf Try.prog Try.f43 [3] = some G_o_CheckBench_1 := by kernel_rfl
theorem res_o_CheckBench_1 : resTmps Try.f43.results.toList = some [3] := by kernel_rfl
abbrev n_d_undone : Nat := 47
def G_d_undone : AC := (.seq (.rgn [⟨none, [(.box 4 6 (.t 1)), (.al 6 [(I 0), (I 0), (I 0), (I 0), (I 0), (I 0)])]⟩] [0, 2, 4, 6]) (.seq (.rgn [⟨none, [(.al 7 [(I 0), (I 0), (I 0), (I 0), (I 0), (I 0)])]⟩] [0, 2, 4, 6, 7]) (.seq (.seq (.rgn [⟨none, [(.mv 9 (.t 0)), (.nilc 10 (.t 9)), (.fa 11 (.t 10) 0), (.fa 12 (.t 11) 0), (.ld 13 false 1 (.t 12)), (.mv 14 (.k (I 0)))]⟩] [0, 2, 4, 6, 7, 13, 14]) (.block 0 (.loop (.seq (.rgn [⟨none, [(.bin 15 .lss (.t 14) (.t 13))]⟩] [0, 2, 4, 6, 7, 13, 14, 15]) (.seq (.cond (.t 15) .skip (.exit 0)) (.seq (.block 1 (.seq (.rgn [⟨none, [(.mv 16 (.t 14)), (.mv 8 (.t 16))]⟩] [0, 2, 4, 6, 7, 8, 13, 14]) (.rgn [⟨none, [(.mv 17 (.t 8)), (.mv 18 (.t 0)), (.nilc 19 (.t 18)), (.fa 20 (.t 19) 2), (.ld 21 false 1 (.t 20)), (.mv 22 (.t 2)), (.mv 23 (.t 8)), (.ia 24 6 (.t 21) (.t 22)), (.iaa 25 6 1 (.t 24) (.t 23)), (.ld 26 false 1 (.t 25)), (.iaa 27 6 1 (.t 4) (.t 26)), (.ld 28 false 1 (.t 27)), (.iaa 29 6 1 (.t 7) (.t 17)), (.st 1 (.t 29) (.t 28))]⟩] [0, 2, 4, 6, 7, 13, 14]))) (.rgn [⟨none, [(.bin 30 .add (.t 14) (.k (I 1))), (.mv 14 (.t 30))]⟩] [0, 2, 4, 6, 7, 13, 14]))))))) (.seq (.rgn [⟨none, [(.ld 31 true 6 (.t 7)), (.st 6 (.t 6) (.t 31))]⟩] [6]) .ret))))
theorem func_d_undone : Try.prog.funcs[n_d_undone]? = some Try.f47 := Try.func47
theorem form_d_undone : formOf Try.prog Try.f47 [6] = some G_d_undone := by kernel_rfl
theorem resc_d_undone : resCs Try.prog Try.f47.results.toList = some [(6, some (true, 6))] := by kernel_rfl
abbrev n_d_far : Nat := 48
def G_d_far : AC := (.seq (.rgn [⟨none, [(.box 4 6 (.t 1)), (.mv 6 (.k (.v (.map none))))]⟩] [0, 2, 4, 6]) (.seq (.rgn [⟨none, [(.mkm 18), (.ld 19 true 6 (.t 4)), (.ins (true, [.int, .int, .int, .int, .int, .int]) (.t 18) (.t 19) (.k (I 0))), (.mv 20 (.t 18)), (.al 7 [(.v (.map none))]), (.st 1 (.t 7) (.t 20))]⟩] [0, 2, 4, 6, 7]) (.seq (.rgn [⟨none, [(.mkm 21), (.ld 22 true 6 (.t 4)), (.ins (true, [.int, .int, .int, .int, .int, .int]) (.t 21) (.t 22) (.k (I 0))), (.mv 23 (.t 21)), (.al 8 [(.v (.map none))]), (.st 1 (.t 8) (.t 23))]⟩] [0, 2, 6, 7, 8]) (.seq (.seq (.rgn [⟨none, [(.al 9 [(I 0)]), (.st 1 (.t 9) (.k (I 0)))]⟩] [0, 2, 6, 7, 8, 9]) (.block 0 (.loop (.seq (.seq (.rgn [⟨none, [(.ld 24 false 1 (.t 8)), (.lnm 25 (.t 24)), (.bin 26 .gtr (.t 25) (.k (I 0)))]⟩] [0, 2, 6, 7, 8, 9, 26]) (.cond (.t 26) .skip (.exit 0))) (.seq (.block 1 (.seq (.rgn [⟨none, [(.mv 10 (.k (.sl true 0 [])))]⟩] [0, 2, 6, 7, 8, 9, 10]) (.seq (.seq (.rgn [⟨none, [(.ld 29 false 1 (.t 8)), (.rng 30 (.t 29))]⟩] [0, 2, 6, 7, 8, 9, 10, 30]) (.block 2 (.loop (.seq (.rgn [⟨none, [(.nxt 31 (.t 30)), (.ext 32 (.t 31) 0)]⟩] [0, 2, 6, 7, 8, 9, 10, 30, 32]) (.seq (.cond (.t 32) .skip (.exit 2)) (.block 3 (.seq (.rgn [⟨none, [(.ent 33 (.t 30)), (.ext 34 (.t 33) 0), (.al 11 [(I 0), (I 0), (I 0), (I 0), (I 0), (I 0)]), (.st 6 (.t 11) (.t 34))]⟩] [0, 2, 6, 7, 8, 9, 10, 11, 30]) (.rgn [⟨none, [(.mv 35 (.t 10)), (.ld 36 true 6 (.t 11)), (.bsl 37 1 6 [(I 0), (I 0), (I 0), (I 0), (I 0), (I 0)] [(0, (.t 36))]), (.app 38 6 48 (.t 35) (.t 37)), (.mv 10 (.t 38))]⟩] [0, 2, 6, 7, 8, 9, 10, 30])))))))) (.seq (.rgn [⟨none, [(.mv 39 (.t 10)), (.len 40 (.t 39)), (.mv 41 (.k (I 0)))]⟩] [0, 2, 6, 7, 8, 9, 39, 40, 41]) (.block 4 (.loop (.seq (.rgn [⟨none, [(.bin 42 .lss (.t 41) (.t 40))]⟩] [0, 2, 6, 7, 8, 9, 39, 40, 41, 42]) (.seq (.cond (.t 42) .skip (.exit 4)) (.seq (.block 5 (.seq (.rgn [⟨none, [(.ia 43 6 (.t 39) (.t 41)), (.ld 44 true 6 (.t 43)), (.al 13 [(I 0), (I 0), (I 0), (I 0), (I 0), (I 0)]), (.st 6 (.t 13) (.t 44))]⟩] [0, 2, 6, 7, 8, 9, 13, 39, 40, 41]) (.seq (.rgn [⟨none, [(.ld 45 false 1 (.t 8)), (.ld 46 true 6 (.t 13)), (.del (true, [.int, .int, .int, .int, .int, .int]) (.t 45) (.t 46))]⟩] [0, 2, 6, 7, 8, 9, 13, 39, 40, 41]) (.seq (.rgn [⟨none, [(.mv 47 (.t 0)), (.ld 48 true 6 (.t 13)), (.mv 49 (.t 2)), (.call 50 49 [(.t 47), (.t 48), (.t 49)])]⟩] [0, 2, 6, 7, 8, 9, 39, 40, 41, 50]) (.block 6 (.rf (.t 50) [51, 52] (.rgn [⟨none, [(.al 15 [(I 0), (I 0), (I 0), (I 0), (I 0), (I 0)]), (.st 6 (.t 15) (.t 52))]⟩] [7, 8, 9, 15]) (.block 7 (.seq (.rgn [⟨none, [(.ld 54 false 1 (.t 7)), (.ld 55 true 6 (.t 15)), (.lku 56 (true, [.int, .int, .int, .int, .int, .int]) (I 0) true (.t 54) (.t 55)), (.mv 53 (.t 56)), (.ext 57 (.t 53) 0), (.ext 58 (.t 53) 1), (.mv 16 (.t 57)), (.mv 17 (.t 58))]⟩] [7, 8, 9, 15, 17]) (.seq (.rgn [⟨none, [(.mv 59 (.t 17)), (.un 60 .not (.t 59))]⟩] [7, 8, 9, 15, 60]) (.cond (.t 60) (.drw [⟨none, [(.ld 61 false 1 (.t 7)), (.ld 62 true 6 (.t 15)), (.ld 63 false 1 (.t 8)), (.ld 64 true 6 (.t 15)), (.ld 65 false 1 (.t 9)), (.bin 66 .add (.t 65) (.k (I 1))), (.ld 67 false 1 (.t 9)), (.bin 68 .add (.t 67) (.k (I 1))), (.ins (true, [.int, .int, .int, .int, .int, .int]) (.t 61) (.t 62) (.t 66)), (.ins (true, [.int, .int, .int, .int, .int, .int]) (.t 63) (.t 64) (.t 68))]⟩] [(0, 1), (0, 2), (1, 2), (0, 3), (1, 3), (2, 3), (0, 4), (1, 4), (2, 4), (3, 4), (0, 6), (1, 6), (2, 6), (3, 6), (4, 6), (2, 8), (3, 8), (6, 8)] []) .skip)))) [0, 2, 6, 7, 8, 9, 39, 40, 41])))))) (.rgn [⟨none, [(.bin 69 .add (.t 41) (.k (I 1))), (.mv 41 (.t 69))]⟩] [0, 2, 6, 7, 8, 9, 39, 40, 41])))))))))) (.seq (.seq (.rgn [⟨none, [(.ld 70 false 1 (.t 9))]⟩] [0, 2, 6, 7, 8, 70]) (.rgn [⟨none, [(.al 9 [(I 0)]), (.st 1 (.t 9) (.t 70))]⟩] [0, 2, 6, 7, 8, 9])) (.rgn [⟨none, [(.ld 27 false 1 (.t 9)), (.bin 28 .add (.t 27) (.k (I 1))), (.st 1 (.t 9) (.t 28))]⟩] [0, 2, 6, 7, 8, 9]))))))) (.seq (.rgn [⟨none, [(.ld 71 false 1 (.t 7)), (.mv 6 (.t 71))]⟩] [6]) .ret)))))
theorem func_d_far : Try.prog.funcs[n_d_far]? = some Try.f48 := Try.func48
theorem form_d_far : formOf Try.prog Try.f48 [6] = some G_d_far := by kernel_rfl
theorem res_d_far : resTmps Try.f48.results.toList = some [6] := by kernel_rfl
abbrev n_d_behind : Nat := 49
def G_d_behind : AC := (.seq (.rgn [⟨none, [(.box 3 1 (.t 0)), (.box 4 6 (.t 1)), (.box 5 1 (.t 2)), (.mv 6 (.k (.v .nilFunc)))]⟩] [3, 4, 5]) (.seq (.rgn [⟨none, [(.mkf 7 (.func 63) [] [(.t 3), (.t 5), (.t 4)]), (.mv 6 (.t 7))]⟩] [6]) .ret))
theorem func_d_behind : Try.prog.funcs[n_d_behind]? = some Try.f49 := Try.func49
theorem form_d_behind : formOf Try.prog Try.f49 [6] = some G_d_behind := by kernel_rfl
theorem res_d_behind : resTmps Try.f49.results.toList = some [6] := by kernel_rfl
abbrev n_o_within_1 : Nat := 51
def G_o_within_1 : AC := (.seq (.rgn [⟨none, [(.mv 4 (.k (B false)))]⟩] [0, 1, 2]) (.seq (.rgn [⟨none, [(.mv 5 (.t 0)), (.ld 6 false 1 (.t 1)), (.bin 7 .lss (.t 5) (.t 6)), (.mv 8 (.t 7))]⟩, ⟨(some (8, false)), [(.mv 9 (.t 0)), (.ld 10 false 1 (.t 2)), (.bin 11 .gtr (.t 9) (.t 10))]⟩, ⟨none, [(.pick 12 (.t 8) (.k (B true)) (.t 11)), (.mv 4 (.t 12))]⟩] [4]) .ret))
theorem func_o_within_1 : Try.prog.funcs[n_o_within_1]? = some Try.f51 := Try.func51
theorem form_o_within_1 : formOf Try.prog Try.f51 [4] = some G_o_within_1 := by kernel_rfl
theorem res_o_within_1 : resTmps Try.f51.results.toList = some [4] := by kernel_rfl
abbrev n_o_first : Nat := 54
def G_o_first : AC := (.seq (.rgn [⟨none, [(.al 4 [(I 0), (I 0), (I 0), (I 0)])]⟩] [0, 1, 4]) (.seq (.rgn [⟨none, [(.al 5 [(I 0), (I 0), (I 0), (I 0)])]⟩] [0, 1, 4, 5]) (.seq (.seq (.rgn [⟨none, [(.mv 9 (.t 0)), (.len 10 (.t 9)), (.mv 11 (.k (I 0)))]⟩] [1, 4, 5, 9, 10, 11]) (.block 0 (.loop (.seq (.rgn [⟨none, [(.bin 12 .lss (.t 11) (.t 10))]⟩] [1, 4, 5, 9, 10, 11, 12]) (.seq (.cond (.t 12) .skip (.exit 0)) (.seq (.block 1 (.seq (.rgn [⟨none, [(.ia 13 1 (.t 9) (.t 11)), (.ld 14 false 1 (.t 13)), (.mv 7 (.t 14))]⟩] [1, 4, 5, 7, 9, 10, 11]) (.seq (.rgn [⟨none, [(.mv 15 (.t 1)), (.mv 16 (.t 7)), (.callv 17 (.t 15) [(.t 16)]), (.al 8 [(I 0), (I 0), (I 0), (I 0)]), (.st 4 (.t 8) (.t 17))]⟩] [1, 4, 5, 8, 9, 10, 11]) (.seq (.rgn [⟨none, [(.ld 18 true 4 (.t 8)), (.ld 19 true 4 (.t 5)), (.eqk 20 true (true, [.int, .int, .int, .int]) (.t 18) (.t 19))]⟩] [1, 4, 5, 8, 9, 10, 11, 20]) (.cond (.t 20) (.seq (.rgn [⟨none, [(.ld 21 true 4 (.t 8)), (.st 4 (.t 4) (.t 21))]⟩] [4]) .ret) .skip))))) (.rgn [⟨none, [(.bin 22 .add (.t 11) (.k (I 1))), (.mv 11 (.t 22))]⟩] [1, 4, 5, 9, 10, 11]))))))) (.seq (.rgn [⟨none, [(.ld 23 true 4 (.t 5)), (.st 4 (.t 4) (.t 23))]⟩] [4]) .ret))))
theorem func_o_first : Try.prog.funcs[n_o_first]? = some Try.f54 := Try.func54
theorem form_o_first : formOf Try.prog Try.f54 [4] = some G_o_first := by kernel_rfl
theorem resc_o_first : resCs Try.prog Try.f54.results.toList = some [(4, some (true, 4))] := by kernel_rfl
abbrev n_o_Pair_1 : Nat := 55
def G_o_Pair_1 : AC := (.seq (.rgn [⟨none, [(.box 5 1 (.t 0)), (.al 6 [(I 0), (I 0), (I 0), (I 0)])]⟩] [1, 2, 3, 4, 5, 6]) (.seq (.rgn [⟨none, [(.ld 7 false 1 (.t 1)), (.call 8 26 [(.t 7)]), (.mkf 9 (.func 56) [] [(.t 5), (.t 2), (.t 1), (.t 3), (.t 4)]), (.call 10 54 [(.t 8), (.t 9)]), (.st 4 (.t 6) (.t 10))]⟩] [6]) .ret))
theorem func_o_Pair_1 : Try.prog.funcs[n_o_Pair_1]? = some Try.f55 := Try.func55
theorem form_o_Pair_1 : formOf Try.prog Try.f55 [6] = some G_o_Pair_1 := by kernel_rfl
theorem resc_o_Pair_1 : resCs Try.prog Try.f55.results.toList = some [(6, some (true, 4))] := by kernel_rfl
abbrev n_o_Pair_1_1 : Nat := 56
def G_o_Pair_1_1 : AC := (.seq (.rgn [⟨none, [(.al 7 [(I 0), (I 0), (I 0), (I 0)])]⟩] [0, 1, 2, 3, 4, 5, 7]) (.seq (.seq (.rgn [⟨none, [(.ld 11 false 1 (.t 1)), (.mv 12 (.t 0)), (.bin 13 .eql (.t 11) (.t 12))]⟩] [0, 1, 2, 3, 4, 5, 7, 13]) (.cond (.t 13) (.seq (.rgn [⟨none, [(.ld 14 true 4 (.t 2)), (.st 4 (.t 7) (.t 14))]⟩] [7]) .ret) .skip)) (.seq (.rgn [⟨none, [(.ld 15 false 1 (.t 3)), (.ld 16 false 1 (.t 1)), (.mv 17 (.t 0)), (.call 18 29 [(.t 15), (.t 16), (.t 17)]), (.mv 8 (.t 18))]⟩] [0, 1, 2, 4, 5, 7, 8]) (.seq (.seq (.rgn [⟨none, [(.mv 19 (.k (I 0)))]⟩] [0, 1, 2, 4, 5, 7, 8, 19]) (.block 0 (.loop (.seq (.rgn [⟨none, [(.bin 20 .lss (.t 19) (.k (I 36)))]⟩] [0, 1, 2, 4, 5, 7, 8, 19, 20]) (.seq (.cond (.t 20) .skip (.exit 0)) (.seq (.block 1 (.seq (.rgn [⟨none, [(.mv 21 (.t 19)), (.mv 9 (.t 21))]⟩] [0, 1, 2, 4, 5, 7, 8, 9, 19]) (.seq (.rgn [⟨none, [(.mv 22 (.t 9)), (.bin 23 .quo (.t 22) (.k (I 6))), (.mv 24 (.t 9)), (.bin 25 .rem (.t 24) (.k (I 6))), (.bld 26 [(I 0), (I 0)] [(0, 1, (.t 23)), (1, 1, (.t 25))]), (.al 10 [(I 0), (I 0)]), (.st 2 (.t 10) (.t 26))]⟩] [0, 1, 2, 4, 5, 7, 8, 10, 19]) (.seq (.drw [⟨none, [(.mv 27 (.t 8)), (.ld 28 false 1 (.t 4)), (.ld 29 true 2 (.t 10)), (.call 30 30 [(.t 27), (.t 28), (.t 29)]), (.mv 31 (.t 8)), (.ld 32 false 1 (.t 5)), (.ld 33 true 2 (.t 10)), (.call 34 30 [(.t 31), (.t 32), (.t 33)]), (.bin 35 .neq (.t 30) (.t 34))]⟩] [(1, 2), (1, 5), (2, 5), (3, 5), (1, 6), (2, 6), (3, 6), (5, 6)] [0, 1, 2, 4, 5, 7, 8, 10, 19, 35]) (.cond (.t 35) (.seq (.rgn [⟨none, [(.ld 36 false 1 (.t 1)), (.mv 37 (.t 0)), (.bld 38 [(I 0), (I 0)] [(0, 1, (.t 36)), (1, 1, (.t 37))]), (.ld 39 true 2 (.t 10)), (.bld 40 [(I 0), (I 0), (I 0), (I 0)] [(0, 2, (.t 38)), (2, 2, (.t 39))]), (.st 4 (.t 7) (.t 40))]⟩] [7]) .ret) .skip))))) (.rgn [⟨none, [(.bin 41 .add (.t 19) (.k (I 1))), (.mv 19 (.t 41))]⟩] [0, 1, 2, 4, 5, 7, 8, 19]))))))) (.seq (.rgn [⟨none, [(.ld 42 true 4 (.t 2)), (.st 4 (.t 7) (.t 42))]⟩] [7]) .ret)))))
theorem func_o_Pair_1_1 : Try.prog.funcs[n_o_Pair_1_1]? = some Try.f56 := Try.func56
theorem form_o_Pair_1_1 : formOf Try.prog Try.f56 [7] = some G_o_Pair_1_1 := by kernel_rfl
theorem resc_o_Pair_1_1 : resCs Try.prog Try.f56.results.toList = some [(7, some (true, 4))] := by kernel_rfl
abbrev n_d_count : Nat := 57
def G_d_count : AC := (.seq (.rgn [⟨none, [(.box 4 6 (.t 1)), (.box 5 6 (.t 2)), (.mv 6 (.k (I 0))), (.mv 7 (.k (B false)))]⟩] [0, 4, 5, 6, 7]) (.seq (.rgn [⟨none, [(.mv 19 (.t 0)), (.ld 20 true 6 (.t 5)), (.mv 21 (.t 0)), (.mkf 22 (.func 47) [(.t 21)] []), (.call 23 48 [(.t 19), (.t 20), (.t 22)]), (.al 8 [(.v (.map none))]), (.st 1 (.t 8) (.t 23))]⟩] [0, 4, 5, 6, 7, 8]) (.seq (.rgn [⟨none, [(.ld 25 false 1 (.t 8)), (.ld 26 true 6 (.t 4)), (.lku 27 (true, [.int, .int, .int, .int, .int, .int]) (I 0) true (.t 25) (.t 26)), (.mv 24 (.t 27)), (.ext 28 (.t 24) 0), (.ext 29 (.t 24) 1), (.al 9 [(I 0)]), (.st 1 (.t 9) (.t 28)), (.mv 10 (.t 29))]⟩] [0, 4, 5, 6, 7, 8, 9, 10]) (.seq (.seq (.rgn [⟨none, [(.mv 30 (.t 10)), (.un 31 .not (.t 30))]⟩] [0, 4, 5, 6, 7, 8, 9, 31]) (.cond (.t 31) (.seq (.rgn [⟨none, [(.mv 6 (.k (I 0))), (.mv 7 (.k (B false)))]⟩] [6, 7]) .ret) .skip)) (.seq (.rgn [⟨none, [(.mkm 32), (.ld 33 true 6 (.t 4)), (.ins (true, [.int, .int, .int, .int, .int, .int]) (.t 32) (.t 33) (.k (I 1))), (.mv 34 (.t 32)), (.mv 11 (.t 34))]⟩] [0, 5, 6, 7, 8, 9, 11]) (.seq (.block 0 (.loop (.seq (.seq (.rgn [⟨none, [(.ld 35 false 1 (.t 9)), (.bin 36 .gtr (.t 35) (.k (I 0)))]⟩] [0, 5, 6, 7, 8, 9, 11, 36]) (.cond (.t 36) .skip (.exit 0))) (.seq (.block 1 (.seq (.rgn [⟨none, [(.mkm 39), (.al 12 [(.v (.map none))]), (.st 1 (.t 12) (.t 39))]⟩] [0, 5, 6, 7, 8, 9, 11, 12]) (.seq (.seq (.rgn [⟨none, [(.mv 40 (.t 11)), (.rng 41 (.t 40))]⟩] [0, 5, 6, 7, 8, 9, 11, 12, 41]) (.block 2 (.loop (.seq (.rgn [⟨none, [(.nxt 42 (.t 41)), (.ext 43 (.t 42) 0)]⟩] [0, 5, 6, 7, 8, 9, 11, 12, 41, 43]) (.seq (.cond (.t 43) .skip (.exit 2)) (.block 3 (.seq (.rgn [⟨none, [(.ent 44 (.t 41)), (.ext 45 (.t 44) 0), (.ext 46 (.t 44) 1), (.al 13 [(I 0), (I 0), (I 0), (I 0), (I 0), (I 0)]), (.al 14 [(I 0)]), (.st 6 (.t 13) (.t 45)), (.st 1 (.t 14) (.t 46))]⟩] [0, 5, 6, 7, 8, 9, 11, 12, 13, 14, 41]) (.seq (.rgn [⟨none, [(.mv 47 (.t 0)), (.ld 48 true 6 (.t 13)), (.mv 49 (.t 0)), (.mkf 50 (.func 22) [(.t 49)] []), (.call 51 49 [(.t 47), (.t 48), (.t 50)])]⟩] [0, 5, 6, 7, 8, 9, 11, 12, 14, 41, 51]) (.block 4 (.rf (.t 51) [52, 53] (.rgn [⟨none, [(.al 16 [(I 0), (I 0), (I 0), (I 0), (I 0), (I 0)]), (.st 6 (.t 16) (.t 53))]⟩] [8, 9, 12, 14, 16]) (.block 5 (.seq (.rgn [⟨none, [(.ld 55 false 1 (.t 8)), (.ld 56 true 6 (.t 16)), (.lku 57 (true, [.int, .int, .int, .int, .int, .int]) (I 0) true (.t 55) (.t 56)), (.mv 54 (.t 57)), (.ext 58 (.t 54) 0), (.ext 59 (.t 54) 1), (.mv 17 (.t 58)), (.mv 18 (.t 59))]⟩] [9, 12, 14, 16, 17, 18]) (.seq (.rgn [⟨none, [(.mv 60 (.t 18)), (.mv 61 (.t 60))]⟩, ⟨(some (61, true)), [(.mv 62 (.t 17)), (.ld 63 false 1 (.t 9)), (.bin 64 .sub (.t 63) (.k (I 1))), (.bin 65 .eql (.t 62) (.t 64))]⟩, ⟨none, [(.pick 66 (.t 61) (.t 65) (.k (B false)))]⟩] [12, 14, 16, 66]) (.cond (.t 66) (.drw [⟨none, [(.ld 67 false 1 (.t 12)), (.ld 68 true 6 (.t 16)), (.ld 69 false 1 (.t 12)), (.ld 70 true 6 (.t 16)), (.lku 71 (true, [.int, .int, .int, .int, .int, .int]) (I 0) false (.t 69) (.t 70)), (.ld 72 false 1 (.t 14)), (.bin 73 .add (.t 71) (.t 72)), (.mx 74 false (.k (I 1099511627777)) (.t 73)), (.ins (true, [.int, .int, .int, .int, .int, .int]) (.t 67) (.t 68) (.t 74))]⟩] [(0, 1), (0, 2), (1, 2), (0, 3), (1, 3), (2, 3), (0, 4), (1, 4), (0, 5), (1, 5), (2, 5), (3, 5), (4, 5)] []) .skip)))) [0, 5, 6, 7, 8, 9, 11, 12, 41])))))))))) (.rgn [⟨none, [(.ld 75 false 1 (.t 12)), (.mv 11 (.t 75))]⟩] [0, 5, 6, 7, 8, 9, 11])))) (.rgn [⟨none, [(.ld 37 false 1 (.t 9)), (.bin 38 .sub (.t 37) (.k (I 1))), (.st 1 (.t 9) (.t 38))]⟩] [0, 5, 6, 7, 8, 9, 11]))))) (.seq (.rgn [⟨none, [(.mv 76 (.t 11)), (.ld 77 true 6 (.t 5)), (.lku 78 (true, [.int, .int, .int, .int, .int, .int]) (I 0) false (.t 76) (.t 77)), (.mv 6 (.t 78)), (.mv 7 (.k (B true)))]⟩] [6, 7]) .ret)))))))
theorem func_d_count : Try.prog.funcs[n_d_count]? = some Try.f57 := Try.func57
theorem form_d_count : formOf Try.prog Try.f57 [6, 7] = some G_d_count := by kernel_rfl
theorem res_d_count : resTmps Try.f57.results.toList = some [6, 7] := by kernel_rfl
abbrev n_o_CheckClosed_1 : Nat := 58
def G_o_CheckClosed_1 : AC := (.seq (.rgn [⟨none, [(.mv 3 (.k (B false)))]⟩] [0, 1]) (.seq (.rgn [⟨none, [(.ld 4 false 1 (.t 1)), (.mv 5 (.t 0)), (.call 6 40 [(.t 4), (.t 5)]), (.un 7 .not (.t 6)), (.mv 3 (.t 7))]⟩] [3]) .ret))
theorem func_o_CheckClosed_1 : Try.prog.funcs[n_o_CheckClosed_1]? = some Try.f58 := Try.func58
theorem form_o_CheckClosed_1 : formOf Try.prog Try.f58 [3] = some G_o_CheckClosed_1 := by kernel_rfl
theorem res_o_CheckClosed_1 : resTmps Try.f58.results.toList = some [3] := by kernel_rfl
abbrev n_d_behind_1 : Nat := 63
def G_d_behind_1 : AC := (.seq (.rgn [⟨none, [(.ld 6 false 1 (.t 1)), (.nilc 7 (.t 6)), (.fa 8 (.t 7) 0), (.fa 9 (.t 8) 1), (.ld 10 false 1 (.t 9)), (.len 11 (.t 10)), (.mv 12 (.k (I 0)))]⟩] [0, 2, 3, 11, 12]) (.block 0 (.loop (.seq (.rgn [⟨none, [(.bin 13 .lss (.t 12) (.t 11))]⟩] [0, 2, 3, 11, 12, 13]) (.seq (.cond (.t 13) .skip (.exit 0)) (.seq (.block 1 (.seq (.rgn [⟨none, [(.mv 14 (.t 12)), (.mv 5 (.t 14))]⟩] [0, 2, 3, 5, 11, 12]) (.seq (.rgn [⟨none, [(.mv 15 (.t 0)), (.mv 16 (.t 5)), (.ld 17 false 1 (.t 2)), (.ld 18 true 6 (.t 3)), (.mv 19 (.t 5)), (.callv 20 (.t 17) [(.t 18), (.t 19)]), (.callv 21 (.t 15) [(.t 16), (.t 20)]), (.un 22 .not (.t 21))]⟩] [0, 2, 3, 11, 12, 22]) (.cond (.t 22) .ret .skip)))) (.rgn [⟨none, [(.bin 23 .add (.t 12) (.k (I 1))), (.mv 12 (.t 23))]⟩] [0, 2, 3, 11, 12])))))))
theorem func_d_behind_1 : Try.prog.funcs[n_d_behind_1]? = some Try.f63 := Try.func63
theorem form_d_behind_1 : formOf Try.prog Try.f63 [] = some G_d_behind_1 := by kernel_rfl
theorem res_d_behind_1 : resTmps Try.f63.results.toList = some [] := by kernel_rfl
end Go.AM

set_option linter.unusedSimpArgs false
set_option linter.unusedVariables false
namespace Go.AM
open Go.RowKit Go.Proofs
def strO (P : Int) (l : List Int) : Bool := decide ((l.length : Int) = P) && (List.range l.length).all fun p => l.count (p : Int) == 1
structure OB where
  P : Int
  s : List (Bool × List Int)
abbrev On (g : Bool) (b : OB) : AV := .agg [I b.P, LLs g b.s]
def chkO (b : OB) : Int := if b.P < 2 ∨ 6 < b.P then 2 else if 6 < b.s.length then 6 else if b.s.all (fun p => strO b.P p.2) then 0 else 15
theorem cells_lls {ls : List (Bool × List Int)} {j : Nat} {K : AV → List (Nat × HObj) → Prop} (h : j < ls.length) : CellsW (ls.map fun p => Ls p.1 p.2) j 1 false K = K (Ls ls[j].1 ls[j].2) [] := by
  simp [CellsW, h]
end Go.AM

set_option linter.unusedSimpArgs false
set_option linter.unusedVariables false
namespace Go.AM
open Go.RowKit Go.Proofs
def rowO (b : OB) (l : List Int) : Bool := decide ((l.length : Int) = b.P) && l.all fun n => decide (0 ≤ n) && decide (n ≤ 5)
end Go.AM

set_option linter.unusedSimpArgs false
set_option linter.unusedVariables false
namespace Go.AM
open Go.RowKit Go.Proofs
def lstO (b : OB) (l : List Int) : Int := if 720 < l.length then 6 else if l.all fun n => decide (0 ≤ n) && decide (n < b.s.length) then 0 else 3
end Go.AM

set_option linter.unusedSimpArgs false
set_option linter.unusedVariables false
namespace Go.AM
open Go.RowKit Go.Proofs
def OB.S (b : OB) : List (List Int) := b.s.map (·.2)
structure Okb (b : OB) (n : Nat) : Prop where
  P : b.P = n
  lo : 2 ≤ n
  hi : n ≤ 6
  many : b.s.length ≤ 6
  pm : ∀ p ∈ b.s, Pm n p.2
theorem okb_of {b : OB} (h : chkO b = 0) : ∃ n, Okb b n := by
  unfold chkO at h
  split at h
  · cases h
  rename_i h1
  split at h
  · cases h
  rename_i h2
  split at h
  · rename_i h3
    rw [List.all_eq_true] at h3
    refine ⟨b.P.toNat, by omega, by omega, by omega, by omega, fun p hp => ?_⟩
    have := h3 p hp
    unfold strO at this
    simp only [Bool.and_eq_true, decide_eq_true_eq, List.all_eq_true, List.mem_range, beq_iff_eq] at this
    exact pm_of (by omega) fun k hk => this.2 k (by omega)
  · cases h
theorem Okb.at {b : OB} {n : Nat} (h : Okb b n) {k : Nat} (hk : k < b.s.length) : Pm n b.s[k].2 := h.pm _ (List.getElem_mem hk)
theorem S_getD {b : OB} {k : Nat} (hk : k < b.s.length) : b.S.getD k [] = b.s[k].2 := by
  unfold OB.S
  rw [List.getD_eq_getElem?_getD, List.getElem?_map, List.getElem?_eq_getElem hk]; rfl
theorem S_len {b : OB} : b.S.length = b.s.length := by simp [OB.S]
def allI (b : OB) (l : List Int) (r : List Int) : List Int := allS b.S (l.map Int.toNat) r
theorem allI_snoc {b : OB} {l r : List Int} {i : Nat} (hi : i < l.length) : allI b (l.take (i + 1)) r = aft (b.S.getD l[i].toNat []) (allI b (l.take i) r) := by
  unfold allI
  rw [List.take_succ_eq_append_getElem hi, List.map_append, allS_append]
  rfl
def LsO (b : OB) (l : List Int) : Prop := ∀ s ∈ l, 0 ≤ s ∧ s < b.s.length
theorem allI_len {b : OB} {n : Nat} (hb : Okb b n) : ∀ {l r : List Int}, LsO b l → r.length = n → (allI b l r).length = n
  | [], r, _, h => h
  | s :: l, r, hl, h => by
    have h1 := hl s (by simp)
    show (allI b l (aft (b.S.getD s.toNat []) r)).length = n
    refine allI_len hb (fun t ht => hl t (by simp [ht])) ?_
    rw [aft_len, S_getD (by omega)]
    exact (hb.at _).len
end Go.AM

set_option linter.unusedSimpArgs false
set_option linter.unusedVariables false
namespace Go.AM
open Go.RowKit Go.Proofs
structure SzO (b : OB) : Prop where
  many : b.s.length ≤ 1000000
  len : ∀ p ∈ b.s, p.2.length ≤ 1000000
def drwE (b : OB) (r l : List Int) : Int := if chkO b ≠ 0 then chkO b else if rowO b r = false then 2 else lstO b l
def drwL (b : OB) (r l : List Int) : List Int := if drwE b r l = 0 then allI b l r else []
theorem rowO_len {b : OB} {n : Nat} (hb : Okb b n) {r : List Int} (h : rowO b r = true) : r.length = n := by
  have := hb.P
  unfold rowO at h
  simp only [Bool.and_eq_true, decide_eq_true_eq] at h
  omega
theorem lstO_ok {b : OB} {l : List Int} (h : lstO b l = 0) : LsO b l ∧ l.length ≤ 720 := by
  unfold lstO at h
  split at h
  · cases h
  · rename_i h1
    split at h
    · rename_i h2
      rw [List.all_eq_true] at h2
      exact ⟨fun s hs => by simpa using h2 s hs, by omega⟩
    · cases h
theorem ne_emp {l : List Int} {n : Nat} (h : l.length = n) (h0 : 0 < n) : l.isEmpty = false := by
  cases l with
  | nil => simp at h; omega
  | cons => rfl
theorem tup_ls {hp : List HObj} {f : Bool} {l : List Int} {e : Int} : Out (.tup [Ls f l, I e]) (.tup [Ls f l, I e]) hp := out_of (is := []) rfl
def jntE (b : OB) (l : List Int) : Int := if chkO b ≠ 0 then chkO b else lstO b l
def jntL (b : OB) (l : List Int) : List Int := if jntE b l = 0 then allI b l (plcL b.P.toNat) else []
def smeE (b : OB) (l m : List Int) : Int := if chkO b ≠ 0 then chkO b else if 720 < l.length ∨ 720 < m.length then 6 else if lstO b l ≠ 0 ∨ lstO b m ≠ 0 then 3
  else if allI b l (plcL b.P.toNat) = allI b m (plcL b.P.toNat) then 0 else 18
def rwsE (b : OB) (r x : List Int) : Int := if chkO b ≠ 0 then chkO b else if rowO b r = false ∨ rowO b x = false then 2 else 0
end Go.AM

set_option linter.unusedSimpArgs false
set_option linter.unusedVariables false
namespace Go.AM
open Go.RowKit Go.Proofs
def rndV (b : OB) (l : List Int) : Int := if jntE b l = 0 then (ordN (jntL b l) : Int) else 0
theorem allI_pm {b : OB} {n : Nat} (hb : Okb b n) : ∀ {l r : List Int}, LsO b l → Pm n r → Pm n (allI b l r)
  | [], r, _, h => h
  | s :: l, r, hl, h => by
    have h1 := hl s (by simp)
    show Pm n (allI b l (aft (b.S.getD s.toNat []) r))
    refine allI_pm hb (fun t ht => hl t (by simp [ht])) ?_
    rw [S_getD (by omega)]
    exact (hb.at _).comp h
theorem jnt_pm {b : OB} {l : List Int} (h : jntE b l = 0) : ∃ n, Okb b n ∧ LsO b l ∧ l.length ≤ 720 ∧ jntL b l = allI b l (plcL n) ∧ Pm n (jntL b l) := by
  have h0 := h
  unfold jntE at h
  split at h
  · rename_i h1; exact absurd h h1
  · rename_i h1
    obtain ⟨n, hb⟩ := okb_of (b := b) (by omega)
    obtain ⟨q1, q2⟩ := lstO_ok h
    have eP : b.P.toNat = n := by have := hb.P; omega
    have e : jntL b l = allI b l (plcL n) := by unfold jntL; rw [if_pos h0, eP]
    exact ⟨n, hb, q1, q2, e, by rw [e]; exact allI_pm hb q1 .plc⟩
end Go.AM

set_option linter.unusedSimpArgs false
set_option linter.unusedVariables false
namespace Go.AM
open Go.RowKit Go.Proofs
theorem zrep_ls : ∀ k, zrep k [I 0] = (List.replicate k (0 : Int)).map fun n => I n
  | 0 => rfl
  | k + 1 => by rw [zrep_succ, zrep_ls k]; rfl
theorem put_ls {M : List Int} {k : Nat} {v : Int} (h : k < M.length) : (M.map fun n => I n).take k ++ I v :: (M.map fun n => I n).drop (k + 1) = (M.set k v).map fun n => I n := by
  have := splice_ls (l := M) (k := k) (v := v) h
  simpa [splice] using this
theorem put_ls2 {M : List Int} {a j : Nat} {u v : Int} (h : j < M.length) : ((M.map fun n => I n).set a (I u)).take j ++ I v :: ((M.map fun n => I n).set a (I u)).drop (j + 1) = ((M.set a u).set j v).map fun n => I n := by
  have : (M.map fun n => I n).set a (I u) = (M.set a u).map fun n => I n := by rw [List.map_set]
  rw [this, put_ls (by simpa using h)]
def prsTo (n i k : Nat) : List (Nat × Nat) := ((List.range i).flatMap fun a => (List.range n).map fun c => (a, c)) ++ (List.range k).map fun c => (i, c)
theorem prsTo_k {n i k : Nat} : prsTo n i (k + 1) = prsTo n i k ++ [(i, k)] := by simp [prsTo, List.range_succ]
theorem prsTo_i {n i : Nat} : prsTo n i n = prsTo n (i + 1) 0 := by simp [prsTo, List.range_succ]
theorem prsTo_n {n : Nat} : prsTo n n 0 = prsN n := by simp [prsTo, prsN]
def inI (q : Nat × Nat) : Int × Int := ((q.1 : Int), (q.2 : Int))
def prsL (l : List (Nat × Nat)) (p : Nat × Nat → Bool) : List (Int × Int) := (l.filter p).map inI
theorem prsL_snoc {l : List (Nat × Nat)} {p : Nat × Nat → Bool} {q : Nat × Nat} : prsL (l ++ [q]) p = prsL l p ++ if p q = true then [inI q] else [] := by
  unfold prsL
  rw [List.filter_append, List.map_append]
  cases h : p q <;> simp [h]
theorem flat2_app (c d : List (Int × Int)) : flat2 (c ++ d) = flat2 c ++ flat2 d := by simp [flat2]
theorem emp_len {α : Type} {l : List α} : l.isEmpty = decide (l.length = 0) := by cases l <;> simp
abbrev AccP (hp : List HObj) (x : AV) (c : List (Int × Int)) : Prop := AccG hp x 2 c.length (flat2 c)
theorem AccP.out {hp x} {c : List (Int × Int)} (h : AccP hp x c) : Out (Ps c.isEmpty c) x hp := by
  have := AccG.out h
  rw [← emp_len] at this
  exact this
theorem prsTo_le {n i k : Nat} (h6 : n ≤ 6) (hi : i ≤ 6) (hk : k ≤ 6) (p : Nat × Nat → Bool) : (prsL (prsTo n i k) p).length ≤ 100 := by
  unfold prsL
  rw [List.length_map]
  refine Nat.le_trans (List.length_filter_le _ _) ?_
  unfold prsTo
  rw [List.length_append, List.length_map, List.length_range, List.length_flatMap]
  simp only [List.length_map, List.length_range, List.map_const', List.sum_replicate_nat]
  have := Nat.mul_le_mul hi h6
  omega
end Go.AM

set_option linter.unusedSimpArgs false
set_option linter.unusedVariables false
namespace Go.AM
open Go.RowKit Go.Proofs
def aplO (b : OB) (one two : Int) : Bool := decide (0 ≤ one ∧ one < b.P ∧ 0 ≤ two ∧ two < b.P ∧ one ≠ two)
def timP (r : List Int) (a d : Int) (p : Int × Int) : Bool := decide (r.getD p.1.toNat 0 = a) && decide (r.getD p.2.toNat 0 = d)
def timS (c : List (Int × Int)) (r : List Int) (a d : Int) : Nat := c.countP (timP r a d)
theorem countP_take {α : Type} {p : α → Bool} {l : List α} {i : Nat} (h : i < l.length) : (l.take (i + 1)).countP p = (l.take i).countP p + if p l[i] = true then 1 else 0 := by
  rw [List.take_succ_eq_append_getElem h, List.countP_append, List.countP_singleton]
theorem getD_I {l : List Int} {i : Nat} (h : i < l.length) : l.getD i 0 = l[i] := by rw [List.getD_eq_getElem?_getD, List.getElem?_eq_getElem h]; rfl
def PPok (b : OB) (pp : Nat × Nat → Nat × Nat → Bool) : Prop := ∀ n, Okb b n → ∀ a q : Nat × Nat, a.1 < n → a.2 < n → q.1 < n → q.2 < n → (pp a q = true ↔ Rch n b.S a q)
def prsV (b : OB) (one two : Int) (pp : Nat × Nat → Nat × Nat → Bool) : List (Int × Int) := prsL (prsN b.P.toNat) (pp (one.toNat, two.toNat))
theorem prsV_rng {b : OB} {n : Nat} (hb : Okb b n) {one two : Int} {pp : Nat × Nat → Nat × Nat → Bool} : ∀ p ∈ prsV b one two pp, 0 ≤ p.1 ∧ p.1 < (n : Int) ∧ 0 ≤ p.2 ∧ p.2 < (n : Int) := fun p hp => by
  have hP := hb.P
  have eP : b.P.toNat = n := by omega
  unfold prsV prsL at hp
  rw [eP] at hp
  obtain ⟨q, hq, rfl⟩ := List.mem_map.1 hp
  have := mem_prsN.1 (List.mem_filter.1 hq).1
  simp only [inI]; omega
theorem prsV_len {b : OB} {n : Nat} (hb : Okb b n) {one two : Int} {pp : Nat × Nat → Nat × Nat → Bool} : (prsV b one two pp).length ≤ 100 := by
  have hP := hb.P
  have h6 := hb.hi
  have eP : b.P.toNat = n := by omega
  unfold prsV
  rw [eP, ← prsTo_n]
  exact prsTo_le h6 h6 (by omega) _
def prsE (b : OB) (one two : Int) : Int := if chkO b ≠ 0 then chkO b else if aplO b one two = true then 0 else 3
def prsA (b : OB) (one two : Int) (pp : Nat × Nat → Nat × Nat → Bool) : List (Int × Int) := if prsE b one two = 0 then prsV b one two pp else []
def colO (c d : Int) : Bool := decide (0 ≤ c ∧ c ≤ 5 ∧ 0 ≤ d ∧ d ≤ 5)
def ckpE (b : OB) (r x : List Int) (one two c d : Int) (pp : Nat × Nat → Nat × Nat → Bool) : Int :=
  if rwsE b r x ≠ 0 then rwsE b r x else if aplO b one two = false ∨ colO c d = false then 3 else if timS (prsV b one two pp) r c d = timS (prsV b one two pp) x c d then 14 else 0
theorem rws_ok {b : OB} {r x : List Int} (h : rwsE b r x = 0) : ∃ n, Okb b n ∧ r.length = n ∧ x.length = n ∧ rowO b r = true ∧ rowO b x = true := by
  unfold rwsE at h
  split at h
  · rename_i h1; exact absurd h h1
  · rename_i h1
    obtain ⟨n, hb⟩ := okb_of (b := b) (by omega)
    split at h
    · cases h
    · rename_i h2
      have a1 : rowO b r = true := by cases e : rowO b r <;> simp_all
      have a2 : rowO b x = true := by cases e : rowO b x <;> simp_all
      exact ⟨n, hb, rowO_len hb a1, rowO_len hb a2, a1, a2⟩
abbrev Pt (one two c d : Int) : AV := .agg [I one, I two, I c, I d]
end Go.AM

set_option linter.unusedSimpArgs false
set_option linter.unusedVariables false
namespace Go.AM
open Go.RowKit Go.Proofs
def trip (n : Nat) : List (Nat × Nat × Nat) := (List.range n).flatMap fun a => (List.range n).flatMap fun d => (List.range 36).map fun e => (a, d, e)
def tstO (b : OB) (r x : List Int) (pp : Nat × Nat → Nat × Nat → Bool) (t : Nat × Nat × Nat) : Bool :=
  decide (t.1 ≠ t.2.1) && decide (timS (prsV b t.1 t.2.1 pp) r (t.2.2 / 6 : Nat) (t.2.2 % 6 : Nat) ≠ timS (prsV b t.1 t.2.1 pp) x (t.2.2 / 6 : Nat) (t.2.2 % 6 : Nat))
def fstT (b : OB) (r x : List Int) (pp : Nat × Nat → Nat × Nat → Bool) : Option (Nat × Nat × Nat) := (trip b.P.toNat).find? (tstO b r x pp)
def prE (b : OB) (r x : List Int) (pp : Nat × Nat → Nat × Nat → Bool) : Int := if rwsE b r x ≠ 0 then rwsE b r x else if fstT b r x pp = none then 5 else 0
def prT (b : OB) (r x : List Int) (pp : Nat × Nat → Nat × Nat → Bool) : AV := if rwsE b r x ≠ 0 then Pt 0 0 0 0 else match fstT b r x pp with
  | some t => Pt t.1 t.2.1 (t.2.2 / 6 : Nat) (t.2.2 % 6 : Nat)
  | none => Pt 0 0 0 0
theorem out_pt {hp : List HObj} {a c d e k : Int} : Out (.tup [Pt a c d e, I k]) (.tup [Pt a c d e, I k]) hp := out_of (is := []) rfl
end Go.AM

set_option linter.unusedSimpArgs false
set_option linter.unusedVariables false
namespace Go.AM
open Go.RowKit Go.Proofs
abbrev llsC (l : List (Bool × List Int)) : List AV := l.map fun p => Ls p.1 p.2
theorem lls_pure (l : List (Bool × List Int)) : ((llsC l).all AV.isPure) = true := by
  rw [List.all_eq_true]
  intro x hx
  obtain ⟨p, _, rfl⟩ := List.mem_map.1 hx
  rfl
theorem lls_pur {hp : List HObj} {id n : Nat} {l : List (Bool × List Int)} (h : nthH hp id = some (.cells (llsC l))) (hn : n = l.length) : purify (hpf hp) (.ms id 0 n 1) = some (LLs false l, [id]) := by
  subst hn
  simp only [purify, purify1, purify0, hpf_nthH, h]
  rw [if_pos ⟨by simp, lls_pure l⟩]
  simp only [view, List.drop_zero, Nat.mul_one]
  rw [List.take_of_length_le (by simp)]
theorem app_new {H : List HObj} {o : HObj} : (∀ j, j < H.length → nthH (H ++ [o]) j = nthH H j) ∧ nthH (H ++ [o]) H.length = some o ∧ (H ++ [o]).length = H.length + 1 := by
  refine ⟨fun j hj => nthH_front hj, ?_, by simp⟩
  rw [nthH_eq, List.getElem?_append_right (by omega)]; simp
def Qs (H : List HObj) (z : Nat) (xr xf xm xl : AV) (RL : List (Bool × List Int)) (F M : List Nat) (LL : List (Bool × List Int)) : Prop :=
  (RL.length = 1 ∧ xr = LLs true RL ∧ xf = Ls true (wI F) ∧ xm = Ls true (wI M) ∧ xl = LLs true LL) ∨
  ∃ a c d e, z < a ∧ z < c ∧ z < d ∧ z < e ∧ a ≠ c ∧ a ≠ d ∧ a ≠ e ∧ c ≠ d ∧ c ≠ e ∧ d ≠ e ∧
    xr = .ms a 0 RL.length 1 ∧ xf = .ms c 0 F.length 1 ∧ xm = .ms d 0 M.length 1 ∧ xl = .ms e 0 LL.length 1 ∧
    nthH H a = some (.cells (llsC RL)) ∧ nthH H c = some (.cells ((wI F).map fun n => I n)) ∧ nthH H d = some (.cells ((wI M).map fun n => I n)) ∧ nthH H e = some (.cells (llsC LL))
end Go.AM

set_option linter.unusedSimpArgs false
set_option linter.unusedVariables false
namespace Go.AM
open Go.RowKit Go.Proofs
theorem Okb.pmS {b : OB} {n : Nat} (hb : Okb b n) : PmS n b.S := fun s hs => by
  obtain ⟨q, hq, rfl⟩ := List.mem_map.1 hs
  exact hb.pm q hq
theorem rowO_col {b : OB} {r : List Int} (h : rowO b r = true) : ∀ x ∈ r, 0 ≤ x ∧ x ≤ 5 := fun x hx => by
  unfold rowO at h
  simp only [Bool.and_eq_true, List.all_eq_true, decide_eq_true_eq] at h
  exact h.2 x hx
def NoW (S : List (List Int)) (r x : List Int) : Prop := ∀ w, ¬ Wd S r x w
def AnsB (b : OB) (r x : List Int) (l : List Int) (e : Int) : Prop :=
  (rwsE b r x ≠ 0 ∧ l = [] ∧ e = rwsE b r x) ∨ (rwsE b r x = 0 ∧ ((NoW b.S r x ∧ l = [] ∧ e = 13) ∨ ∃ d w, Dist b.S r x d ∧ IsBest b.S d r x w ∧ l = wI w ∧ e = 0))
end Go.AM

set_option linter.unusedSimpArgs false
set_option linter.unusedVariables false
namespace Go.AM
open Go.RowKit Go.Proofs
def AnsC (b : OB) (r x : List Int) (v e : Int) : Prop :=
  (rwsE b r x ≠ 0 ∧ v = 0 ∧ e = rwsE b r x) ∨ (rwsE b r x = 0 ∧ ((NoW b.S r x ∧ v = 0 ∧ e = 13) ∨ ∃ d, Dist b.S r x d ∧ ((mostN ≤ cntW b.S d r x ∧ v = 0 ∧ e = 4) ∨ (cntW b.S d r x < mostN ∧ v = (cntW b.S d r x : Nat) ∧ e = 0))))
theorem tup_ii {hp : List HObj} {a e : Int} : Out (.tup [I a, I e]) (.tup [I a, I e]) hp := out_of (is := []) rfl
def wtO (b : OB) (s : Nat) : OB := ⟨b.P, b.s.eraseIdx s⟩
theorem wtO_ok {b : OB} {n : Nat} (hb : Okb b n) (s : Nat) : Okb (wtO b s) n := ⟨hb.P, hb.lo, hb.hi, by
  have := hb.many
  show (b.s.eraseIdx s).length ≤ 6
  rw [List.length_eraseIdx]; split <;> omega, fun p hp => hb.pm p (List.mem_of_mem_eraseIdx hp)⟩
def InvB (n : Nat) (s : List Int) (p : Nat) (M : List Int) : Prop := M.length = n ∧ ∀ q, q < p → M.getD (sg s q) 0 = (q : Int)
theorem sg_inj {n : Nat} {s : List Int} (h : Pm n s) {i k : Nat} (hi : i < n) (hk : k < n) (e : sg s i = sg s k) : i = k := by
  have := h.sg_inv hi
  rw [e, h.sg_inv hk] at this
  exact this.symm
theorem InvB.step {n : Nat} {s : List Int} (h : Pm n s) {p : Nat} {M : List Int} (hM : InvB n s p M) (hp : p < n) : InvB n s (p + 1) (M.set (sg s p) (p : Int)) := by
  have hl := h.sg_lt hp
  refine ⟨by rw [List.length_set]; exact hM.1, fun q hq => ?_⟩
  rw [getD_set (by rw [hM.1]; exact hl)]
  by_cases e : sg s q = sg s p
  · rw [if_pos e, sg_inj h (by omega) hp e]
  · rw [if_neg e]
    refine hM.2 q ?_
    by_cases e2 : q = p
    · subst e2; exact absurd rfl e
    · omega
theorem InvB.fin {n : Nat} {s : List Int} (h : Pm n s) {M : List Int} (hM : InvB n s n M) : M = inv s := by
  refine ext_getD (by rw [hM.1, inv_len, h.len]) fun k hk => ?_
  rw [hM.1] at hk
  have h1 := (inv_pm h).sg_lt hk
  have h2 := hM.2 _ h1
  rw [h.sg_inv' hk] at h2
  rw [h2]
  have hl : k < (inv s).length := by rw [inv_len, h.len]; exact hk
  have := (inv_pm h).rng _ (List.getElem_mem hl)
  rw [sg_at hl, List.getD_eq_getElem?_getD, List.getElem?_eq_getElem hl]
  simp only [Option.getD_some]
  omega
end Go.AM

set_option linter.unusedSimpArgs false
set_option linter.unusedVariables false
namespace Go.AM
open Go.RowKit Go.Proofs
def Over (S : List (List Int)) (r x : List Int) (d s : Nat) : Prop := ∃ y m m', Dist S r y m ∧ Dist S (aft (S.getD s []) y) x m' ∧ m + 1 + m' = d
def AnsK (b : OB) (r x : List Int) (s k e : Int) : Prop :=
  (rwsE b r x ≠ 0 ∧ k = 0 ∧ e = rwsE b r x) ∨ (rwsE b r x = 0 ∧ ((¬ (0 ≤ s ∧ s < b.s.length) ∧ k = 0 ∧ e = 3) ∨ ((0 ≤ s ∧ s < b.s.length) ∧ ((NoW b.S r x ∧ k = 0 ∧ e = 13) ∨
    ∃ d, Dist b.S r x d ∧ e = 0 ∧ ((¬ Dist (wtO b s.toNat).S r x d ∧ k = 2) ∨ (Dist (wtO b s.toNat).S r x d ∧ Over b.S r x d s.toNat ∧ k = 1) ∨ (Dist (wtO b s.toNat).S r x d ∧ ¬ Over b.S r x d s.toNat ∧ k = 0))))))
theorem Qs.mono {H H' : List HObj} {z : Nat} {xr xf xm xl : AV} {RL : List (Bool × List Int)} {F M : List Nat} {LL : List (Bool × List Int)} (h : Qs H z xr xf xm xl RL F M LL) (hk : ∀ j, j < H.length → nthH H' j = nthH H j) : Qs H' z xr xf xm xl RL F M LL := by
  rcases h with h | ⟨a, c, d, e, z1, z2, z3, z4, n1, n2, n3, n4, n5, n6, h1, h2, h3, h4, qa, qc, qd, qe⟩
  · exact .inl h
  · exact .inr ⟨a, c, d, e, z1, z2, z3, z4, n1, n2, n3, n4, n5, n6, h1, h2, h3, h4, (hk a (nthH_lt qa)).trans qa, (hk c (nthH_lt qc)).trans qc, (hk d (nthH_lt qd)).trans qd, (hk e (nthH_lt qe)).trans qe⟩
theorem tup_kk {hp : List HObj} {a e : Int} : Out (.tup [I a, I e]) (.tup [I a, I e]) hp := out_of (is := []) rfl
end Go.AM

set_option linter.unusedSimpArgs false
set_option linter.unusedVariables false
namespace Go.AM
open Go.RowKit Go.Proofs
def srtO (R : List (List Int)) : Bool := (List.range (R.length - 1)).all fun i => frst (R.getD i []) (R.getD (i + 1) [])
def clsO (b : OB) (R : List (List Int)) : Bool := R.all fun y => b.S.all fun s => R.contains (aft s y)
def cclE (b : OB) (r x : List Int) (R : List (List Int)) : Int :=
  if rwsE b r x ≠ 0 then rwsE b r x else if 720 < R.length then 6 else if (R.all (rowO b)) = false then 3 else if srtO R = false then 3
  else if R.contains r = false ∨ R.contains x = true then 14 else if clsO b R = false then 14 else 0
end Go.AM

set_option linter.unusedSimpArgs false
set_option linter.unusedVariables false
namespace Go.AM
open Go.RowKit Go.Proofs
def AnsD (b : OB) (r x : List Int) (L : List (List Int)) (e : Int) : Prop :=
  (rwsE b r x ≠ 0 ∧ L = [] ∧ e = rwsE b r x) ∨ (rwsE b r x = 0 ∧ ((¬ NoW b.S r x ∧ L = [] ∧ e = 11) ∨ (NoW b.S r x ∧ SrtL L ∧ (∀ y, y ∈ L ↔ ¬ NoW b.S r y) ∧ e = 0)))
def fLs (L : List (List Int)) : List (Bool × List Int) := L.map fun l => (false, l)
theorem weak3_lls {f : Bool} {Q : List (Bool × List Int)} {L : List (List Int)} {e : Int} (h : Q.map (·.2) = L) : weak3 (.tup [LLs f Q, I e]) = .tup [LLs false (fLs L), I e] := by
  subst h
  simp only [weak3, List.map_cons, List.map_nil, weak2, LLs, fLs, List.length_map, List.map_map]
  rfl
theorem not_noW {S : List (List Int)} {r x : List Int} : ¬ NoW S r x ↔ ∃ w, Wd S r x w := by
  constructor
  · intro h
    exact Classical.byContradiction fun hn => h fun w hw => hn ⟨w, hw⟩
  · rintro ⟨w, hw⟩ h; exact h w hw
end Go.AM

set_option maxRecDepth 100000
namespace Go.AM
open Go.RowKit Go.Proofs
abbrev n_s_ContainsFuncLL : Nat := 38
def G_s_ContainsFuncLL : AC := (.seq (.rgn [⟨none, [(.mv 4 (.k (B false)))]⟩] [0, 1]) (.seq (.rgn [⟨none, [(.mv 5 (.t 0)), (.mv 6 (.t 1)), (.call 7 59 [(.t 5), (.t 6)]), (.bin 8 .geq (.t 7) (.k (I 0))), (.mv 4 (.t 8))]⟩] [4]) .ret))
theorem func_s_ContainsFuncLL : Try.prog.funcs[n_s_ContainsFuncLL]? = some Try.f38 := Try.func38
theorem form_s_ContainsFuncLL : formOf Try.prog Try.f38 [4] = some G_s_ContainsFuncLL := by kernel_rfl
theorem res_s_ContainsFuncLL : resTmps Try.f38.results.toList = some [4] := by kernel_rfl
abbrev n_s_EqualL : Nat := 44
def G_s_EqualL : AC := (.seq (.rgn [⟨none, [(.mv 4 (.k (B false)))]⟩] [0, 1]) (.seq (.seq (.rgn [⟨none, [(.mv 6 (.t 0)), (.len 7 (.t 6)), (.mv 8 (.t 1)), (.len 9 (.t 8)), (.bin 10 .neq (.t 7) (.t 9))]⟩] [0, 1, 10]) (.cond (.t 10) (.seq (.rgn [⟨none, [(.mv 4 (.k (B false)))]⟩] [4]) .ret) .skip)) (.seq (.seq (.rgn [⟨none, [(.mv 11 (.t 0)), (.len 12 (.t 11)), (.mv 13 (.k (I 0)))]⟩] [0, 1, 12, 13]) (.block 0 (.loop (.seq (.rgn [⟨none, [(.bin 14 .lss (.t 13) (.t 12))]⟩] [0, 1, 12, 13, 14]) (.seq (.cond (.t 14) .skip (.exit 0)) (.seq (.block 1 (.seq (.rgn [⟨none, [(.mv 15 (.t 13)), (.mv 5 (.t 15))]⟩] [0, 1, 5, 12, 13]) (.seq (.drw [⟨none, [(.mv 16 (.t 0)), (.mv 17 (.t 5)), (.ia 18 1 (.t 16) (.t 17)), (.ld 19 false 1 (.t 18)), (.mv 20 (.t 1)), (.mv 21 (.t 5)), (.ia 22 1 (.t 20) (.t 21)), (.ld 23 false 1 (.t 22)), (.bin 24 .neq (.t 19) (.t 23))]⟩] [(3, 7)] [0, 1, 12, 13, 24]) (.cond (.t 24) (.seq (.rgn [⟨none, [(.mv 4 (.k (B false)))]⟩] [4]) .ret) .skip)))) (.rgn [⟨none, [(.bin 25 .add (.t 13) (.k (I 1))), (.mv 13 (.t 25))]⟩] [0, 1, 12, 13]))))))) (.seq (.rgn [⟨none, [(.mv 4 (.k (B true)))]⟩] [4]) .ret))))
theorem func_s_EqualL : Try.prog.funcs[n_s_EqualL]? = some Try.f44 := Try.func44
theorem form_s_EqualL : formOf Try.prog Try.f44 [4] = some G_s_EqualL := by kernel_rfl
theorem res_s_EqualL : resTmps Try.f44.results.toList = some [4] := by kernel_rfl
abbrev n_s_Sorted : Nat := 45
def G_s_Sorted : AC := (.seq (.rgn [⟨none, [(.mv 2 (.k (.sl true 0 [])))]⟩] [0]) (.seq (.rgn [⟨none, [(.mv 4 (.t 0)), (.call 5 60 [(.t 4)]), (.mv 3 (.t 5))]⟩] [3]) (.seq (.rgn [⟨none, [(.mv 6 (.t 3)), (.call 7 61 [(.t 6)])]⟩] [3]) (.seq (.rgn [⟨none, [(.mv 8 (.t 3)), (.mv 2 (.t 8))]⟩] [2]) .ret))))
theorem func_s_Sorted : Try.prog.funcs[n_s_Sorted]? = some Try.f45 := Try.func45
theorem form_s_Sorted : formOf Try.prog Try.f45 [2] = some G_s_Sorted := by kernel_rfl
theorem res_s_Sorted : resTmps Try.f45.results.toList = some [2] := by kernel_rfl
abbrev n_s_ValuesL : Nat := 46
def G_s_ValuesL : AC := (.seq (.rgn [⟨none, [(.box 1 1 (.t 0)), (.mv 2 (.k (.v .nilFunc)))]⟩] [1]) (.seq (.rgn [⟨none, [(.mkf 3 (.func 62) [] [(.t 1)]), (.mv 2 (.t 3))]⟩] [2]) .ret))
theorem func_s_ValuesL : Try.prog.funcs[n_s_ValuesL]? = some Try.f46 := Try.func46
theorem form_s_ValuesL : formOf Try.prog Try.f46 [2] = some G_s_ValuesL := by kernel_rfl
theorem res_s_ValuesL : resTmps Try.f46.results.toList = some [2] := by kernel_rfl
abbrev n_s_ContainsFuncL : Nat := 50
def G_s_ContainsFuncL : AC := (.seq (.rgn [⟨none, [(.mv 4 (.k (B false)))]⟩] [0, 1]) (.seq (.rgn [⟨none, [(.mv 5 (.t 0)), (.mv 6 (.t 1)), (.call 7 64 [(.t 5), (.t 6)]), (.bin 8 .geq (.t 7) (.k (I 0))), (.mv 4 (.t 8))]⟩] [4]) .ret))
theorem func_s_ContainsFuncL : Try.prog.funcs[n_s_ContainsFuncL]? = some Try.f50 := Try.func50
theorem form_s_ContainsFuncL : formOf Try.prog Try.f50 [4] = some G_s_ContainsFuncL := by kernel_rfl
theorem res_s_ContainsFuncL : resTmps Try.f50.results.toList = some [4] := by kernel_rfl
abbrev n_s_CompareL : Nat := 53
def G_s_CompareL : AC := (.seq (.rgn [⟨none, [(.mv 4 (.k (I 0)))]⟩] [0, 1]) (.seq (.seq (.rgn [⟨none, [(.mv 9 (.t 0)), (.len 10 (.t 9)), (.mv 11 (.k (I 0)))]⟩] [0, 1, 9, 10, 11]) (.block 0 (.loop (.seq (.rgn [⟨none, [(.bin 12 .lss (.t 11) (.t 10))]⟩] [0, 1, 9, 10, 11, 12]) (.seq (.cond (.t 12) .skip (.exit 0)) (.seq (.block 1 (.seq (.rgn [⟨none, [(.mv 13 (.t 11)), (.ia 14 1 (.t 9) (.t 11)), (.ld 15 false 1 (.t 14)), (.mv 5 (.t 13)), (.mv 6 (.t 15))]⟩] [0, 1, 5, 6, 9, 10, 11]) (.seq (.seq (.rgn [⟨none, [(.mv 16 (.t 5)), (.mv 17 (.t 1)), (.len 18 (.t 17)), (.bin 19 .geq (.t 16) (.t 18))]⟩] [0, 1, 5, 6, 9, 10, 11, 19]) (.cond (.t 19) (.seq (.rgn [⟨none, [(.mv 4 (.k (I 1)))]⟩] [4]) .ret) .skip)) (.seq (.rgn [⟨none, [(.mv 20 (.t 1)), (.mv 21 (.t 5)), (.ia 22 1 (.t 20) (.t 21)), (.ld 23 false 1 (.t 22)), (.mv 7 (.t 23))]⟩] [0, 1, 6, 7, 9, 10, 11]) (.seq (.rgn [⟨none, [(.mv 24 (.t 6)), (.mv 25 (.t 7)), (.call 26 67 [(.t 24), (.t 25)]), (.mv 8 (.t 26))]⟩] [0, 1, 8, 9, 10, 11]) (.seq (.rgn [⟨none, [(.mv 27 (.t 8)), (.bin 28 .neq (.t 27) (.k (I 0)))]⟩] [0, 1, 8, 9, 10, 11, 28]) (.cond (.t 28) (.seq (.rgn [⟨none, [(.mv 29 (.t 8)), (.mv 4 (.t 29))]⟩] [4]) .ret) .skip))))))) (.rgn [⟨none, [(.bin 30 .add (.t 11) (.k (I 1))), (.mv 11 (.t 30))]⟩] [0, 1, 9, 10, 11]))))))) (.seq (.seq (.rgn [⟨none, [(.mv 31 (.t 0)), (.len 32 (.t 31)), (.mv 33 (.t 1)), (.len 34 (.t 33)), (.bin 35 .lss (.t 32) (.t 34))]⟩] [35]) (.cond (.t 35) (.seq (.rgn [⟨none, [(.mv 4 (.k (I (-1))))]⟩] [4]) .ret) .skip)) (.seq (.rgn [⟨none, [(.mv 4 (.k (I 0)))]⟩] [4]) .ret))))
theorem func_s_CompareL : Try.prog.funcs[n_s_CompareL]? = some Try.f53 := Try.func53
theorem form_s_CompareL : formOf Try.prog Try.f53 [4] = some G_s_CompareL := by kernel_rfl
theorem res_s_CompareL : resTmps Try.f53.results.toList = some [4] := by kernel_rfl
abbrev n_s_IndexFuncLL : Nat := 59
def G_s_IndexFuncLL : AC := (.seq (.rgn [⟨none, [(.mv 4 (.k (I 0)))]⟩] [0, 1]) (.seq (.seq (.rgn [⟨none, [(.mv 6 (.t 0)), (.len 7 (.t 6)), (.mv 8 (.k (I 0)))]⟩] [0, 1, 7, 8]) (.block 0 (.loop (.seq (.rgn [⟨none, [(.bin 9 .lss (.t 8) (.t 7))]⟩] [0, 1, 7, 8, 9]) (.seq (.cond (.t 9) .skip (.exit 0)) (.seq (.block 1 (.seq (.rgn [⟨none, [(.mv 10 (.t 8)), (.mv 5 (.t 10))]⟩] [0, 1, 5, 7, 8]) (.seq (.rgn [⟨none, [(.mv 11 (.t 1)), (.mv 12 (.t 0)), (.mv 13 (.t 5)), (.ia 14 1 (.t 12) (.t 13)), (.ld 15 false 1 (.t 14)), (.callv 16 (.t 11) [(.t 15)])]⟩] [0, 1, 5, 7, 8, 16]) (.cond (.t 16) (.seq (.rgn [⟨none, [(.mv 17 (.t 5)), (.mv 4 (.t 17))]⟩] [4]) .ret) .skip)))) (.rgn [⟨none, [(.bin 18 .add (.t 8) (.k (I 1))), (.mv 8 (.t 18))]⟩] [0, 1, 7, 8]))))))) (.seq (.rgn [⟨none, [(.mv 4 (.k (I (-1))))]⟩] [4]) .ret)))
theorem func_s_IndexFuncLL : Try.prog.funcs[n_s_IndexFuncLL]? = some Try.f59 := Try.func59
theorem form_s_IndexFuncLL : formOf Try.prog Try.f59 [4] = some G_s_IndexFuncLL := by kernel_rfl
theorem res_s_IndexFuncLL : resTmps Try.f59.results.toList = some [4] := by kernel_rfl
abbrev n_s_Collect : Nat := 60
def G_s_Collect : AC := (.seq (.rgn [⟨none, [(.mv 2 (.k (.sl true 0 [])))]⟩] [0]) (.seq (.rgn [⟨none, [(.mv 3 (.t 0)), (.call 4 68 [(.k (.sl true 0 [])), (.t 3)]), (.mv 2 (.t 4))]⟩] [2]) .ret))
theorem func_s_Collect : Try.prog.funcs[n_s_Collect]? = some Try.f60 := Try.func60
theorem form_s_Collect : formOf Try.prog Try.f60 [2] = some G_s_Collect := by kernel_rfl
theorem res_s_Collect : resTmps Try.f60.results.toList = some [2] := by kernel_rfl
abbrev n_s_SortL : Nat := 61
def G_s_SortL : AC := (.seq (.rgn [⟨none, [(.mv 3 (.t 0)), (.len 4 (.t 3)), (.mv 2 (.t 4))]⟩] [0, 2]) (.rgn [⟨none, [(.mv 5 (.t 0)), (.mv 6 (.t 2)), (.mv 7 (.t 2)), (.cnv 8 .u64 (.t 7)), (.call 9 66 [(.t 8)]), (.call 10 69 [(.t 5), (.k (I 0)), (.t 6), (.t 9)])]⟩] []))
theorem func_s_SortL : Try.prog.funcs[n_s_SortL]? = some Try.f61 := Try.func61
theorem form_s_SortL : formOf Try.prog Try.f61 [] = some G_s_SortL := by kernel_rfl
theorem res_s_SortL : resTmps Try.f61.results.toList = some [] := by kernel_rfl
abbrev n_s_Values_1L : Nat := 62
def G_s_Values_1L : AC := (.seq (.rgn [⟨none, [(.ld 5 false 1 (.t 1)), (.len 6 (.t 5)), (.mv 7 (.k (I 0)))]⟩] [0, 5, 6, 7]) (.block 0 (.loop (.seq (.rgn [⟨none, [(.bin 8 .lss (.t 7) (.t 6))]⟩] [0, 5, 6, 7, 8]) (.seq (.cond (.t 8) .skip (.exit 0)) (.seq (.block 1 (.seq (.rgn [⟨none, [(.ia 9 1 (.t 5) (.t 7)), (.ld 10 false 1 (.t 9)), (.mv 4 (.t 10))]⟩] [0, 4, 5, 6, 7]) (.seq (.rgn [⟨none, [(.mv 11 (.t 0)), (.mv 12 (.t 4)), (.callv 13 (.t 11) [(.t 12)]), (.un 14 .not (.t 13))]⟩] [0, 5, 6, 7, 14]) (.cond (.t 14) .ret .skip)))) (.rgn [⟨none, [(.bin 15 .add (.t 7) (.k (I 1))), (.mv 7 (.t 15))]⟩] [0, 5, 6, 7])))))))
theorem func_s_Values_1L : Try.prog.funcs[n_s_Values_1L]? = some Try.f62 := Try.func62
theorem form_s_Values_1L : formOf Try.prog Try.f62 [] = some G_s_Values_1L := by kernel_rfl
theorem res_s_Values_1L : resTmps Try.f62.results.toList = some [] := by kernel_rfl
abbrev n_s_IndexFuncL : Nat := 64
def G_s_IndexFuncL : AC := (.seq (.rgn [⟨none, [(.mv 4 (.k (I 0)))]⟩] [0, 1]) (.seq (.seq (.rgn [⟨none, [(.mv 6 (.t 0)), (.len 7 (.t 6)), (.mv 8 (.k (I 0)))]⟩] [0, 1, 7, 8]) (.block 0 (.loop (.seq (.rgn [⟨none, [(.bin 9 .lss (.t 8) (.t 7))]⟩] [0, 1, 7, 8, 9]) (.seq (.cond (.t 9) .skip (.exit 0)) (.seq (.block 1 (.seq (.rgn [⟨none, [(.mv 10 (.t 8)), (.mv 5 (.t 10))]⟩] [0, 1, 5, 7, 8]) (.seq (.rgn [⟨none, [(.mv 11 (.t 1)), (.mv 12 (.t 0)), (.mv 13 (.t 5)), (.ia 14 1 (.t 12) (.t 13)), (.ld 15 false 1 (.t 14)), (.callv 16 (.t 11) [(.t 15)])]⟩] [0, 1, 5, 7, 8, 16]) (.cond (.t 16) (.seq (.rgn [⟨none, [(.mv 17 (.t 5)), (.mv 4 (.t 17))]⟩] [4]) .ret) .skip)))) (.rgn [⟨none, [(.bin 18 .add (.t 8) (.k (I 1))), (.mv 8 (.t 18))]⟩] [0, 1, 7, 8]))))))) (.seq (.rgn [⟨none, [(.mv 4 (.k (I (-1))))]⟩] [4]) .ret)))
theorem func_s_IndexFuncL : Try.prog.funcs[n_s_IndexFuncL]? = some Try.f64 := Try.func64
theorem form_s_IndexFuncL : formOf Try.prog Try.f64 [4] = some G_s_IndexFuncL := by kernel_rfl
theorem res_s_IndexFuncL : resTmps Try.f64.results.toList = some [4] := by kernel_rfl
abbrev n_b_Len : Nat := 66
def G_b_Len : AC := (.seq (.rgn [⟨none, [(.mv 2 (.k (I 0)))]⟩] [0]) (.seq (.cond (.k (B false)) (.seq (.rgn [⟨none, [(.mv 3 (.t 0)), (.cnv 4 .u32 (.t 3)), (.call 5 78 [(.t 4)]), (.mv 2 (.t 5))]⟩] [2]) .ret) .skip) (.seq (.rgn [⟨none, [(.mv 6 (.t 0)), (.call 7 79 [(.t 6)]), (.mv 2 (.t 7))]⟩] [2]) .ret)))
theorem func_b_Len : Try.prog.funcs[n_b_Len]? = some Try.f66 := Try.func66
theorem form_b_Len : formOf Try.prog Try.f66 [2] = some G_b_Len := by kernel_rfl
theorem res_b_Len : resTmps Try.f66.results.toList = some [2] := by kernel_rfl
abbrev n_c_Compare : Nat := 67
def G_c_Compare : AC := (.seq (.rgn [⟨none, [(.mv 4 (.k (I 0)))]⟩] [0, 1]) (.seq (.rgn [⟨none, [(.mv 7 (.t 0)), (.call 8 80 [(.t 7)]), (.mv 5 (.t 8))]⟩] [0, 1, 5]) (.seq (.rgn [⟨none, [(.mv 9 (.t 1)), (.call 10 80 [(.t 9)]), (.mv 6 (.t 10))]⟩] [0, 1, 5, 6]) (.seq (.seq (.rgn [⟨none, [(.mv 11 (.t 5))]⟩] [0, 1, 6, 11]) (.cond (.t 11) (.seq (.seq (.rgn [⟨none, [(.mv 12 (.t 6))]⟩] [12]) (.cond (.t 12) (.seq (.rgn [⟨none, [(.mv 4 (.k (I 0)))]⟩] [4]) .ret) .skip)) (.seq (.rgn [⟨none, [(.mv 4 (.k (I (-1))))]⟩] [4]) .ret)) .skip)) (.seq (.seq (.rgn [⟨none, [(.mv 13 (.t 6))]⟩] [0, 1, 13]) (.cond (.t 13) (.seq (.rgn [⟨none, [(.mv 4 (.k (I 1)))]⟩] [4]) .ret) .skip)) (.seq (.seq (.rgn [⟨none, [(.mv 14 (.t 0)), (.mv 15 (.t 1)), (.bin 16 .lss (.t 14) (.t 15))]⟩] [0, 1, 16]) (.cond (.t 16) (.seq (.rgn [⟨none, [(.mv 4 (.k (I (-1))))]⟩] [4]) .ret) .skip)) (.seq (.seq (.rgn [⟨none, [(.mv 17 (.t 0)), (.mv 18 (.t 1)), (.bin 19 .gtr (.t 17) (.t 18))]⟩] [19]) (.cond (.t 19) (.seq (.rgn [⟨none, [(.mv 4 (.k (I 1)))]⟩] [4]) .ret) .skip)) (.seq (.rgn [⟨none, [(.mv 4 (.k (I 0)))]⟩] [4]) .ret))))))))
theorem func_c_Compare : Try.prog.funcs[n_c_Compare]? = some Try.f67 := Try.func67
theorem form_c_Compare : formOf Try.prog Try.f67 [4] = some G_c_Compare := by kernel_rfl
theorem res_c_Compare : resTmps Try.f67.results.toList = some [4] := by kernel_rfl
abbrev n_s_AppendSeqL : Nat := 68
def G_s_AppendSeqL : AC := (.seq (.rgn [⟨none, [(.box 2 1 (.t 0)), (.mv 4 (.k (.sl true 0 [])))]⟩] [1, 2, 4]) (.seq (.seq (.rgn [⟨none, [(.mv 6 (.t 1))]⟩] [2, 4, 6]) (.block 0 (.rf (.t 6) [7] (.rgn [⟨none, [(.mv 5 (.t 7))]⟩] [2, 5]) (.block 1 (.rgn [⟨none, [(.ld 8 false 1 (.t 2)), (.mv 9 (.t 5)), (.bsl 10 1 1 [(I 0)] [(0, (.t 9))]), (.app 11 1 8 (.t 8) (.t 10)), (.st 1 (.t 2) (.t 11))]⟩] [])) [2]))) (.seq (.rgn [⟨none, [(.ld 12 false 1 (.t 2)), (.mv 4 (.t 12))]⟩] [4]) .ret)))
theorem func_s_AppendSeqL : Try.prog.funcs[n_s_AppendSeqL]? = some Try.f68 := Try.func68
theorem form_s_AppendSeqL : formOf Try.prog Try.f68 [4] = some G_s_AppendSeqL := by kernel_rfl
theorem res_s_AppendSeqL : resTmps Try.f68.results.toList = some [4] := by kernel_rfl
abbrev n_s_pdqsortOrdered : Nat := 69
def G_s_pdqsortOrdered : AC := (.seq (.rgn [⟨none, [(.mv 8 (.k (B true)))]⟩] [0, 1, 2, 3, 8]) (.seq (.rgn [⟨none, [(.mv 9 (.k (B true)))]⟩] [0, 1, 2, 3, 8, 9]) (.block 0 (.loop (.block 1 (.seq (.rgn [⟨none, [(.mv 19 (.t 2)), (.mv 20 (.t 1)), (.bin 21 .sub (.t 19) (.t 20)), (.mv 10 (.t 21))]⟩] [0, 1, 2, 3, 8, 9, 10]) (.seq (.seq (.rgn [⟨none, [(.mv 22 (.t 10)), (.bin 23 .leq (.t 22) (.k (I 12)))]⟩] [0, 1, 2, 3, 8, 9, 10, 23]) (.cond (.t 23) (.seq (.rgn [⟨none, [(.mv 24 (.t 0)), (.mv 25 (.t 1)), (.mv 26 (.t 2)), (.call 27 81 [(.t 24), (.t 25), (.t 26)])]⟩] []) .ret) .skip)) (.seq (.seq (.rgn [⟨none, [(.mv 28 (.t 3)), (.bin 29 .eql (.t 28) (.k (I 0)))]⟩] [0, 1, 2, 3, 8, 9, 10, 29]) (.cond (.t 29) (.seq (.rgn [⟨none, [(.mv 30 (.t 0)), (.mv 31 (.t 1)), (.mv 32 (.t 2)), (.call 33 82 [(.t 30), (.t 31), (.t 32)])]⟩] []) .ret) .skip)) (.seq (.seq (.rgn [⟨none, [(.mv 34 (.t 8)), (.un 35 .not (.t 34))]⟩] [0, 1, 2, 3, 8, 9, 10, 35]) (.cond (.t 35) (.seq (.rgn [⟨none, [(.mv 36 (.t 0)), (.mv 37 (.t 1)), (.mv 38 (.t 2)), (.call 39 83 [(.t 36), (.t 37), (.t 38)])]⟩] [0, 1, 2, 3, 8, 9, 10]) (.rgn [⟨none, [(.mv 40 (.t 3)), (.bin 41 .sub (.t 40) (.k (I 1))), (.mv 3 (.t 41))]⟩] [0, 1, 2, 3, 8, 9, 10])) .skip)) (.seq (.rgn [⟨none, [(.mv 43 (.t 0)), (.mv 44 (.t 1)), (.mv 45 (.t 2)), (.call 46 84 [(.t 43), (.t 44), (.t 45)]), (.mv 42 (.t 46)), (.ext 47 (.t 42) 0), (.ext 48 (.t 42) 1), (.mv 11 (.t 47)), (.mv 12 (.t 48))]⟩] [0, 1, 2, 3, 8, 9, 10, 11, 12]) (.seq (.seq (.rgn [⟨none, [(.mv 49 (.t 12)), (.bin 50 .eql (.t 49) (.k (I 2)))]⟩] [0, 1, 2, 3, 8, 9, 10, 11, 12, 50]) (.cond (.t 50) (.seq (.rgn [⟨none, [(.mv 51 (.t 0)), (.mv 52 (.t 1)), (.mv 53 (.t 2)), (.call 54 85 [(.t 51), (.t 52), (.t 53)])]⟩] [0, 1, 2, 3, 8, 9, 10, 11]) (.seq (.rgn [⟨none, [(.mv 55 (.t 2)), (.bin 56 .sub (.t 55) (.k (I 1))), (.mv 57 (.t 11)), (.mv 58 (.t 1)), (.bin 59 .sub (.t 57) (.t 58)), (.bin 60 .sub (.t 56) (.t 59)), (.mv 11 (.t 60))]⟩] [0, 1, 2, 3, 8, 9, 10, 11]) (.rgn [⟨none, [(.mv 12 (.k (I 1)))]⟩] [0, 1, 2, 3, 8, 9, 10, 11, 12]))) .skip)) (.seq (.seq (.rgn [⟨none, [(.mv 61 (.t 8)), (.mv 62 (.t 61))]⟩, ⟨(some (62, true)), [(.mv 63 (.t 9))]⟩, ⟨none, [(.pick 64 (.t 62) (.t 63) (.k (B false))), (.mv 65 (.t 64))]⟩, ⟨(some (65, true)), [(.mv 66 (.t 12)), (.bin 67 .eql (.t 66) (.k (I 1)))]⟩, ⟨none, [(.pick 68 (.t 65) (.t 67) (.k (B false)))]⟩] [0, 1, 2, 3, 8, 9, 10, 11, 68]) (.cond (.t 68) (.seq (.rgn [⟨none, [(.mv 69 (.t 0)), (.mv 70 (.t 1)), (.mv 71 (.t 2)), (.call 72 86 [(.t 69), (.t 70), (.t 71)])]⟩] [0, 1, 2, 3, 8, 9, 10, 11, 72]) (.cond (.t 72) .ret .skip)) .skip)) (.seq (.seq (.drw [⟨none, [(.mv 73 (.t 1)), (.bin 74 .gtr (.t 73) (.k (I 0))), (.mv 75 (.t 74))]⟩, ⟨(some (75, true)), [(.mv 76 (.t 0)), (.mv 77 (.t 1)), (.bin 78 .sub (.t 77) (.k (I 1))), (.ia 79 1 (.t 76) (.t 78)), (.ld 80 false 1 (.t 79)), (.mv 81 (.t 0)), (.mv 82 (.t 11)), (.ia 83 1 (.t 81) (.t 82)), (.ld 84 false 1 (.t 83)), (.call 85 87 [(.t 80), (.t 84)]), (.un 86 .not (.t 85))]⟩, ⟨none, [(.pick 87 (.t 75) (.t 86) (.k (B false)))]⟩] [(7, 11)] [0, 1, 2, 3, 8, 9, 10, 11, 87]) (.cond (.t 87) (.seq (.rgn [⟨none, [(.mv 88 (.t 0)), (.mv 89 (.t 1)), (.mv 90 (.t 2)), (.mv 91 (.t 11)), (.call 92 88 [(.t 88), (.t 89), (.t 90), (.t 91)]), (.mv 13 (.t 92))]⟩] [0, 2, 3, 8, 9, 13]) (.seq (.rgn [⟨none, [(.mv 93 (.t 13)), (.mv 1 (.t 93))]⟩] [0, 1, 2, 3, 8, 9]) (.exit 1))) .skip)) (.seq (.rgn [⟨none, [(.mv 95 (.t 0)), (.mv 96 (.t 1)), (.mv 97 (.t 2)), (.mv 98 (.t 11)), (.call 99 89 [(.t 95), (.t 96), (.t 97), (.t 98)]), (.mv 94 (.t 99)), (.ext 100 (.t 94) 0), (.ext 101 (.t 94) 1), (.mv 14 (.t 100)), (.mv 15 (.t 101))]⟩] [0, 1, 2, 3, 10, 14, 15]) (.seq (.rgn [⟨none, [(.mv 102 (.t 15)), (.mv 9 (.t 102))]⟩] [0, 1, 2, 3, 9, 10, 14]) (.seq (.rgn [⟨none, [(.mv 103 (.t 14)), (.mv 104 (.t 1)), (.bin 105 .sub (.t 103) (.t 104)), (.mv 106 (.t 2)), (.mv 107 (.t 14)), (.bin 108 .sub (.t 106) (.t 107)), (.mv 16 (.t 105)), (.mv 17 (.t 108))]⟩] [0, 1, 2, 3, 9, 10, 14, 16, 17]) (.seq (.rgn [⟨none, [(.mv 109 (.t 10)), (.bin 110 .quo (.t 109) (.k (I 8))), (.mv 18 (.t 110))]⟩] [0, 1, 2, 3, 9, 14, 16, 17, 18]) (.seq (.rgn [⟨none, [(.mv 111 (.t 16)), (.mv 112 (.t 17)), (.bin 113 .lss (.t 111) (.t 112))]⟩] [0, 1, 2, 3, 9, 14, 16, 17, 18, 113]) (.cond (.t 113) (.seq (.rgn [⟨none, [(.mv 114 (.t 16)), (.mv 115 (.t 18)), (.bin 116 .geq (.t 114) (.t 115)), (.mv 8 (.t 116))]⟩] [0, 1, 2, 3, 8, 9, 14]) (.seq (.rgn [⟨none, [(.mv 117 (.t 0)), (.mv 118 (.t 1)), (.mv 119 (.t 14)), (.mv 120 (.t 3)), (.call 121 69 [(.t 117), (.t 118), (.t 119), (.t 120)])]⟩] [0, 2, 3, 8, 9, 14]) (.rgn [⟨none, [(.mv 122 (.t 14)), (.bin 123 .add (.t 122) (.k (I 1))), (.mv 1 (.t 123))]⟩] [0, 1, 2, 3, 8, 9]))) (.seq (.rgn [⟨none, [(.mv 124 (.t 17)), (.mv 125 (.t 18)), (.bin 126 .geq (.t 124) (.t 125)), (.mv 8 (.t 126))]⟩] [0, 1, 2, 3, 8, 9, 14]) (.seq (.rgn [⟨none, [(.mv 127 (.t 0)), (.mv 128 (.t 14)), (.bin 129 .add (.t 128) (.k (I 1))), (.mv 130 (.t 2)), (.mv 131 (.t 3)), (.call 132 69 [(.t 127), (.t 129), (.t 130), (.t 131)])]⟩] [0, 1, 3, 8, 9, 14]) (.rgn [⟨none, [(.mv 133 (.t 14)), (.mv 2 (.t 133))]⟩] [0, 1, 2, 3, 8, 9]))))))))))))))))))))))
theorem func_s_pdqsortOrdered : Try.prog.funcs[n_s_pdqsortOrdered]? = some Try.f69 := Try.func69
theorem form_s_pdqsortOrdered : formOf Try.prog Try.f69 [] = some G_s_pdqsortOrdered := by kernel_rfl
theorem res_s_pdqsortOrdered : resTmps Try.f69.results.toList = some [] := by kernel_rfl
abbrev n_b_Len64 : Nat := 79
def G_b_Len64 : AC := (.seq (.rgn [⟨none, [(.mv 2 (.k (I 0)))]⟩] [0, 2]) (.seq (.seq (.rgn [⟨none, [(.mv 3 (.t 0)), (.bin 4 .geq (.t 3) (.k (.v (.int .u64 4294967296))))]⟩] [0, 2, 4]) (.cond (.t 4) (.seq (.rgn [⟨none, [(.mv 5 (.t 0)), (.bin 6 .shr (.t 5) (.k (.v (.int .u64 32)))), (.mv 0 (.t 6))]⟩] [0]) (.rgn [⟨none, [(.mv 2 (.k (I 32)))]⟩] [0, 2])) .skip)) (.seq (.seq (.rgn [⟨none, [(.mv 7 (.t 0)), (.bin 8 .geq (.t 7) (.k (.v (.int .u64 65536))))]⟩] [0, 2, 8]) (.cond (.t 8) (.seq (.rgn [⟨none, [(.mv 9 (.t 0)), (.bin 10 .shr (.t 9) (.k (.v (.int .u64 16)))), (.mv 0 (.t 10))]⟩] [0, 2]) (.rgn [⟨none, [(.mv 11 (.t 2)), (.bin 12 .add (.t 11) (.k (I 16))), (.mv 2 (.t 12))]⟩] [0, 2])) .skip)) (.seq (.seq (.rgn [⟨none, [(.mv 13 (.t 0)), (.bin 14 .geq (.t 13) (.k (.v (.int .u64 256))))]⟩] [0, 2, 14]) (.cond (.t 14) (.seq (.rgn [⟨none, [(.mv 15 (.t 0)), (.bin 16 .shr (.t 15) (.k (.v (.int .u64 8)))), (.mv 0 (.t 16))]⟩] [0, 2]) (.rgn [⟨none, [(.mv 17 (.t 2)), (.bin 18 .add (.t 17) (.k (I 8))), (.mv 2 (.t 18))]⟩] [0, 2])) .skip)) (.seq (.rgn [⟨none, [(.mv 19 (.t 2)), (.mv 20 (.t 0)), (.cnv 21 .u8 (.t 20)), (.ids 22 (.k (.v (.string ⟨#[0, 1, 2, 2, 3, 3, 3, 3, 4, 4, 4, 4, 4, 4, 4, 4, 5, 5, 5, 5, 5, 5, 5, 5, 5, 5, 5, 5, 5, 5, 5, 5, 6, 6, 6, 6, 6, 6, 6, 6, 6, 6, 6, 6, 6, 6, 6, 6, 6, 6, 6, 6, 6, 6, 6, 6, 6, 6, 6, 6, 6, 6, 6, 6, 7, 7, 7, 7, 7, 7, 7, 7, 7, 7, 7, 7, 7, 7, 7, 7, 7, 7, 7, 7, 7, 7, 7, 7, 7, 7, 7, 7, 7, 7, 7, 7, 7, 7, 7, 7, 7, 7, 7, 7, 7, 7, 7, 7, 7, 7, 7, 7, 7, 7, 7, 7, 7, 7, 7, 7, 7, 7, 7, 7, 7, 7, 7, 7, 8, 8, 8, 8, 8, 8, 8, 8, 8, 8, 8, 8, 8, 8, 8, 8, 8, 8, 8, 8, 8, 8, 8, 8, 8, 8, 8, 8, 8, 8, 8, 8, 8, 8, 8, 8, 8, 8, 8, 8, 8, 8, 8, 8, 8, 8, 8, 8, 8, 8, 8, 8, 8, 8, 8, 8, 8, 8, 8, 8, 8, 8, 8, 8, 8, 8, 8, 8, 8, 8, 8, 8, 8, 8, 8, 8, 8, 8, 8, 8, 8, 8, 8, 8, 8, 8, 8, 8, 8, 8, 8, 8, 8, 8, 8, 8, 8, 8, 8, 8, 8, 8, 8, 8, 8, 8, 8, 8, 8, 8, 8, 8, 8, 8, 8, 8, 8, 8, 8, 8, 8, 8, 8, 8, 8, 8, 8, 8]⟩))) (.t 21)), (.cnv 23 .i64 (.t 22)), (.bin 24 .add (.t 19) (.t 23)), (.mv 2 (.t 24))]⟩] [2]) .ret)))))
theorem func_b_Len64 : Try.prog.funcs[n_b_Len64]? = some Try.f79 := Try.func79
theorem form_b_Len64 : formOf Try.prog Try.f79 [2] = some G_b_Len64 := by kernel_rfl
theorem res_b_Len64 : resTmps Try.f79.results.toList = some [2] := by kernel_rfl
abbrev n_c_isNaN : Nat := 80
def G_c_isNaN : AC := (.seq (.rgn [⟨none, [(.mv 2 (.k (B false)))]⟩] [0]) (.seq (.rgn [⟨none, [(.mv 3 (.t 0)), (.mv 4 (.t 0)), (.bin 5 .neq (.t 3) (.t 4)), (.mv 2 (.t 5))]⟩] [2]) .ret))
theorem func_c_isNaN : Try.prog.funcs[n_c_isNaN]? = some Try.f80 := Try.func80
theorem form_c_isNaN : formOf Try.prog Try.f80 [2] = some G_c_isNaN := by kernel_rfl
theorem res_c_isNaN : resTmps Try.f80.results.toList = some [2] := by kernel_rfl
abbrev n_s_insertionSortOrdered : Nat := 81
def G_s_insertionSortOrdered : AC := (.seq (.rgn [⟨none, [(.mv 8 (.t 1)), (.bin 9 .add (.t 8) (.k (I 1))), (.mv 6 (.t 9))]⟩] [0, 1, 2, 6]) (.block 0 (.loop (.seq (.seq (.rgn [⟨none, [(.mv 10 (.t 6)), (.mv 11 (.t 2)), (.bin 12 .lss (.t 10) (.t 11))]⟩] [0, 1, 2, 6, 12]) (.cond (.t 12) .skip (.exit 0))) (.seq (.block 1 (.seq (.rgn [⟨none, [(.mv 15 (.t 6)), (.mv 7 (.t 15))]⟩] [0, 1, 2, 6, 7]) (.block 2 (.loop (.seq (.seq (.drw [⟨none, [(.mv 16 (.t 7)), (.mv 17 (.t 1)), (.bin 18 .gtr (.t 16) (.t 17)), (.mv 19 (.t 18))]⟩, ⟨(some (19, true)), [(.mv 20 (.t 0)), (.mv 21 (.t 7)), (.ia 22 1 (.t 20) (.t 21)), (.ld 23 false 1 (.t 22)), (.mv 24 (.t 0)), (.mv 25 (.t 7)), (.bin 26 .sub (.t 25) (.k (I 1))), (.ia 27 1 (.t 24) (.t 26)), (.ld 28 false 1 (.t 27)), (.call 29 87 [(.t 23), (.t 28)])]⟩, ⟨none, [(.pick 30 (.t 19) (.t 29) (.k (B false)))]⟩] [(7, 12)] [0, 1, 2, 6, 7, 30]) (.cond (.t 30) .skip (.exit 2))) (.seq (.block 3 (.drw [⟨none, [(.mv 33 (.t 0)), (.mv 34 (.t 7)), (.mv 35 (.t 0)), (.mv 36 (.t 7)), (.bin 37 .sub (.t 36) (.k (I 1))), (.mv 38 (.t 0)), (.mv 39 (.t 7)), (.bin 40 .sub (.t 39) (.k (I 1))), (.ia 41 1 (.t 38) (.t 40)), (.ld 42 false 1 (.t 41)), (.mv 43 (.t 0)), (.mv 44 (.t 7)), (.ia 45 1 (.t 43) (.t 44)), (.ld 46 false 1 (.t 45)), (.ia 47 1 (.t 33) (.t 34)), (.st 1 (.t 47) (.t 42)), (.ia 48 1 (.t 35) (.t 37)), (.st 1 (.t 48) (.t 46))]⟩] [(9, 13)] [0, 1, 2, 6, 7])) (.rgn [⟨none, [(.mv 31 (.t 7)), (.bin 32 .sub (.t 31) (.k (I 1))), (.mv 7 (.t 32))]⟩] [0, 1, 2, 6, 7]))))))) (.rgn [⟨none, [(.mv 13 (.t 6)), (.bin 14 .add (.t 13) (.k (I 1))), (.mv 6 (.t 14))]⟩] [0, 1, 2, 6]))))))
theorem func_s_insertionSortOrdered : Try.prog.funcs[n_s_insertionSortOrdered]? = some Try.f81 := Try.func81
theorem form_s_insertionSortOrdered : formOf Try.prog Try.f81 [] = some G_s_insertionSortOrdered := by kernel_rfl
theorem res_s_insertionSortOrdered : resTmps Try.f81.results.toList = some [] := by kernel_rfl
abbrev n_c_Less : Nat := 87
def G_c_Less : AC := (.seq (.rgn [⟨none, [(.mv 4 (.k (B false)))]⟩] [0, 1]) (.seq (.rgn [⟨none, [(.mv 5 (.t 0)), (.call 6 80 [(.t 5)]), (.mv 7 (.t 6))]⟩, ⟨(some (7, true)), [(.mv 8 (.t 1)), (.call 9 80 [(.t 8)]), (.un 10 .not (.t 9))]⟩, ⟨none, [(.pick 11 (.t 7) (.t 10) (.k (B false))), (.mv 12 (.t 11))]⟩, ⟨(some (12, false)), [(.mv 13 (.t 0)), (.mv 14 (.t 1)), (.bin 15 .lss (.t 13) (.t 14))]⟩, ⟨none, [(.pick 16 (.t 12) (.k (B true)) (.t 15)), (.mv 4 (.t 16))]⟩] [4]) .ret))
theorem func_c_Less : Try.prog.funcs[n_c_Less]? = some Try.f87 := Try.func87
theorem form_c_Less : formOf Try.prog Try.f87 [4] = some G_c_Less := by kernel_rfl
theorem res_c_Less : resTmps Try.f87.results.toList = some [4] := by kernel_rfl
end Go.AM

set_option linter.unusedSimpArgs false
set_option linter.unusedVariables false
namespace Go.AM
open Go.RowKit Go.Proofs
set_option maxHeartbeats 1000000 in
theorem s_indexLL_w (f : Bool) (l : List (Bool × List Int)) (hl : l.length ≤ 1000000) {fid : Nat} {caps : List AV} {p : Bool × List Int → Bool} {hp : List HObj} {K : AV → List HObj → Prop} (hf : funOK Try.prog fid = true)
    (hc : ∀ i (hi : i < l.length) (KK : AV → List HObj → Prop), KK (B (p l[i])) hp → CallW Try.prog fid ([Ls l[i].1 l[i].2] ++ caps) hp KK) (hK : K (I (idxI p l)) hp) : CallW Try.prog n_s_IndexFuncLL [LLs f l, .fn (.func fid) [] caps] hp K := by
  refine walk func_s_IndexFuncLL form_s_IndexFuncLL res_s_IndexFuncLL (by show 2 ≤ _; decide) ?_
  simp -implicitDefEqProofs (disch := omega) [G_s_IndexFuncLL, wrap_id]
  refine loop_eq (fun i : Nat => ⟨[(0, LLs f l), (1, .fn (.func fid) [] caps), (7, I l.length), (8, I (i : Int))], hp⟩) (fun i => i ≤ l.length ∧ ∀ k (hk : k < l.length), k < i → p l[k] = false) (fun i => l.length - i) 0 ⟨Nat.zero_le _, fun k _ h => by omega⟩ rfl ?_
  rintro i ⟨c1, c2⟩
  refine hideK' fun K0 hK0 => ?_
  simp -implicitDefEqProofs (disch := omega) [wrap_id]
  refine c_split (fun h => ?_) (fun h => ?_)
  · have hi : i < l.length := by simpa using h
    have ix : ((i : Int) + 1) = ((i + 1 : Nat) : Int) := by omega
    simp -implicitDefEqProofs (disch := omega) [wrap_id, hi, cells_lls]
    refine ⟨hf, hc i hi _ ?_⟩
    cases hp : p l[i] with
    | true =>
      have e := idxI_some hi hp (fun k hk h => c2 k hk h)
      subst hK0
      simp -implicitDefEqProofs (disch := omega) [wrap_id]
      rw [e] at hK
      exact hK
    | false =>
      simp -implicitDefEqProofs (disch := omega) [wrap_id]
      rw [hK0]
      refine next_eq (i + 1) ⟨by omega, fun k hk h => ?_⟩ (by omega) (by simp only [ix])
      by_cases e : k = i
      · subst e; exact hp
      · exact c2 k hk (by omega)
  · have hi : i = l.length := by simp at h; omega
    subst hi
    subst hK0
    simp -implicitDefEqProofs (disch := omega) [wrap_id]
    rw [idxI_none (fun k hk => c2 k hk hk)] at hK
    exact hK
theorem s_containsLL_w (f : Bool) (l : List (Bool × List Int)) (hl : l.length ≤ 1000000) {fid : Nat} {caps : List AV} {p : Bool × List Int → Bool} {hp : List HObj} {K : AV → List HObj → Prop} (hf : funOK Try.prog fid = true)
    (hc : ∀ i (hi : i < l.length) (KK : AV → List HObj → Prop), KK (B (p l[i])) hp → CallW Try.prog fid ([Ls l[i].1 l[i].2] ++ caps) hp KK) (hK : K (B (l.any p)) hp) : CallW Try.prog n_s_ContainsFuncLL [LLs f l, .fn (.func fid) [] caps] hp K := by
  refine walk func_s_ContainsFuncLL form_s_ContainsFuncLL res_s_ContainsFuncLL (by show 2 ≤ _; decide) ?_
  simp -implicitDefEqProofs (disch := omega) [G_s_ContainsFuncLL, wrap_id]
  refine s_indexLL_w f l hl hf hc ?_
  simp -implicitDefEqProofs (disch := omega) [wrap_id]
  rw [← idxI_any] at hK
  exact hK
set_option maxHeartbeats 1000000 in
theorem s_indexL_w (f : Bool) (l : List Int) (hl : l.length ≤ 1000000) {fid : Nat} {caps : List AV} {p : Int → Bool} {hp : List HObj} {K : AV → List HObj → Prop} (hf : funOK Try.prog fid = true)
    (hc : ∀ i (hi : i < l.length) (KK : AV → List HObj → Prop), KK (B (p l[i])) hp → CallW Try.prog fid ([I l[i]] ++ caps) hp KK) (hK : K (I (idxI p l)) hp) : CallW Try.prog n_s_IndexFuncL [Ls f l, .fn (.func fid) [] caps] hp K := by
  refine walk func_s_IndexFuncL form_s_IndexFuncL res_s_IndexFuncL (by show 2 ≤ _; decide) ?_
  simp -implicitDefEqProofs (disch := omega) [G_s_IndexFuncL, wrap_id]
  refine loop_eq (fun i : Nat => ⟨[(0, Ls f l), (1, .fn (.func fid) [] caps), (7, I l.length), (8, I (i : Int))], hp⟩) (fun i => i ≤ l.length ∧ ∀ k (hk : k < l.length), k < i → p l[k] = false) (fun i => l.length - i) 0 ⟨Nat.zero_le _, fun k _ h => by omega⟩ rfl ?_
  rintro i ⟨c1, c2⟩
  refine hideK' fun K0 hK0 => ?_
  simp -implicitDefEqProofs (disch := omega) [wrap_id]
  refine c_split (fun h => ?_) (fun h => ?_)
  · have hi : i < l.length := by simpa using h
    have ix : ((i : Int) + 1) = ((i + 1 : Nat) : Int) := by omega
    simp -implicitDefEqProofs (disch := omega) [wrap_id, hi, cells_ls]
    refine ⟨hf, hc i hi _ ?_⟩
    cases hp : p l[i] with
    | true =>
      have e := idxI_some hi hp (fun k hk h => c2 k hk h)
      subst hK0
      simp -implicitDefEqProofs (disch := omega) [wrap_id]
      rw [e] at hK
      exact hK
    | false =>
      simp -implicitDefEqProofs (disch := omega) [wrap_id]
      rw [hK0]
      refine next_eq (i + 1) ⟨by omega, fun k hk h => ?_⟩ (by omega) (by simp only [ix])
      by_cases e : k = i
      · subst e; exact hp
      · exact c2 k hk (by omega)
  · have hi : i = l.length := by simp at h; omega
    subst hi
    subst hK0
    simp -implicitDefEqProofs (disch := omega) [wrap_id]
    rw [idxI_none (fun k hk => c2 k hk hk)] at hK
    exact hK
theorem s_containsL_w (f : Bool) (l : List Int) (hl : l.length ≤ 1000000) {fid : Nat} {caps : List AV} {p : Int → Bool} {hp : List HObj} {K : AV → List HObj → Prop} (hf : funOK Try.prog fid = true)
    (hc : ∀ i (hi : i < l.length) (KK : AV → List HObj → Prop), KK (B (p l[i])) hp → CallW Try.prog fid ([I l[i]] ++ caps) hp KK) (hK : K (B (l.any p)) hp) : CallW Try.prog n_s_ContainsFuncL [Ls f l, .fn (.func fid) [] caps] hp K := by
  refine walk func_s_ContainsFuncL form_s_ContainsFuncL res_s_ContainsFuncL (by show 2 ≤ _; decide) ?_
  simp -implicitDefEqProofs (disch := omega) [G_s_ContainsFuncL, wrap_id]
  refine s_indexL_w f l hl hf hc ?_
  simp -implicitDefEqProofs (disch := omega) [wrap_id]
  rw [← idxI_any] at hK
  exact hK
theorem o_within1_w {a c : Nat} {lo hi n : Int} {hp : List HObj} (ha : nthH hp a = some (.cells [I lo])) (hc : nthH hp c = some (.cells [I hi])) {K : AV → List HObj → Prop} (hK : K (B (decide (n < lo) || decide (hi < n))) hp) : CallW Try.prog n_o_within_1 [I n, .ref a 0, .ref c 0] hp K := by
  refine walk func_o_within_1 form_o_within_1 res_o_within_1 (by show 3 ≤ _; decide) ?_
  simp -implicitDefEqProofs (disch := omega) [G_o_within_1, wrap_id, ha, hc]
  by_cases h1 : n < lo
  · simp -implicitDefEqProofs (disch := omega) [wrap_id, h1]
    simpa [h1] using hK
  · simp -implicitDefEqProofs (disch := omega) [wrap_id, h1, hc]
    simpa [h1] using hK
theorem o_within_ok (lo hi : Int) (f : Bool) (l : List Int) (hl : l.length ≤ 1000000) : PureOK Try.prog n_o_within [I lo, I hi, Ls f l] (B (allIn lo hi l)) := by
  refine pure_of (walk func_o_within form_o_within res_o_within (by show 3 ≤ _; decide) ?_)
  simp -implicitDefEqProofs (disch := omega) [G_o_within, wrap_id]
  refine s_containsL_w f l hl (p := fun x => decide (x < lo) || decide (hi < x)) (by kernel_rfl) (fun i hi KK h => o_within1_w rfl rfl h) ?_
  simp -implicitDefEqProofs (disch := omega) [wrap_id]
  exact allIn_any lo hi l
theorem o_listed1_w {f : Bool} {l : List Int} {hp : List HObj} {K : AV → List HObj → Prop} (hl : l.length ≤ 1000000) (hK : K (B (decide (720 < l.length))) hp) : CallW Try.prog n_o_listed_1 [Ls f l] hp K := by
  refine walk func_o_listed_1 form_o_listed_1 res_o_listed_1 (by show 1 ≤ _; decide) ?_
  simp -implicitDefEqProofs (disch := omega) [G_o_listed_1, wrap_id]
  have : decide ((720 : Int) < (l.length : Int)) = decide (720 < l.length) := by rw [decide_eq_decide]; omega
  rw [this]
  exact hK
theorem o_listed2_w {f g : Bool} {l : List Int} {b : OB} {a : Nat} {hp : List HObj} {K : AV → List HObj → Prop} (hl : l.length ≤ 1000000) (hb : b.s.length ≤ 1000000) (ha : nthH hp a = some (.cells [I b.P, LLs g b.s])) (hK : K (B (!allIn 0 (b.s.length - 1) l)) hp) : CallW Try.prog n_o_listed_2 [Ls f l, .ref a 0] hp K := by
  refine walk func_o_listed_2 form_o_listed_2 res_o_listed_2 (by show 2 ≤ _; decide) ?_
  simp -implicitDefEqProofs (disch := omega) [G_o_listed_2, wrap_id, ha]
  refine callW_pure rfl (o_within_ok 0 (b.s.length - 1) f l hl) ?_
  simp -implicitDefEqProofs (disch := omega) [wrap_id]
  exact hK
def lsdE (b : OB) (ls : List (Bool × List Int)) : Int := if ls.any (fun p => decide (720 < p.2.length)) = true then 6 else if ls.any (fun p => !allIn 0 (b.s.length - 1) p.2) = true then 3 else 0
set_option maxHeartbeats 1000000 in
theorem o_listed_ok (g f : Bool) (b : OB) (hb : b.s.length ≤ 1000000) (ls : List (Bool × List Int)) (hl : ls.length ≤ 1000000) (hz : ∀ p ∈ ls, p.2.length ≤ 1000000) : PureOK Try.prog n_o_listed [On g b, LLs f ls] (I (lsdE b ls)) := by
  refine pure_of (walk func_o_listed form_o_listed res_o_listed (by show 2 ≤ _; decide) ?_)
  simp -implicitDefEqProofs (disch := omega) [G_o_listed, wrap_id]
  refine s_containsLL_w f ls hl (p := fun p => decide (720 < p.2.length)) (by kernel_rfl) (fun i hi KK h => o_listed1_w (hz _ (List.getElem_mem hi)) h) ?_
  cases h1 : ls.any (fun p => decide (720 < p.2.length)) with
  | true =>
    have e : lsdE b ls = 6 := by unfold lsdE; rw [if_pos h1]
    simp -implicitDefEqProofs (disch := omega) [wrap_id, e]
  | false =>
    have e : lsdE b ls = if ls.any (fun p => !allIn 0 (b.s.length - 1) p.2) = true then 3 else 0 := by unfold lsdE; rw [if_neg (by rw [h1]; decide)]
    simp -implicitDefEqProofs (disch := omega) [wrap_id]
    refine s_containsLL_w f ls hl (p := fun p => !allIn 0 (b.s.length - 1) p.2) (by kernel_rfl) (fun i hi KK h => o_listed2_w (hz _ (List.getElem_mem hi)) hb rfl h) ?_
    cases h2 : ls.any (fun p => !allIn 0 (b.s.length - 1) p.2) with
    | true => simp -implicitDefEqProofs (disch := omega) [wrap_id, e, h2]
    | false => simp -implicitDefEqProofs (disch := omega) [wrap_id, e, h2]
set_option maxHeartbeats 1000000 in
theorem s_Equal_ok (f g : Bool) (l m : List Int) (hl : l.length ≤ 1000000) (hm : m.length ≤ 1000000) : PureOK Try.prog n_s_EqualL [Ls f l, Ls g m] (B (decide (l = m))) := by
  refine pure_of (walk func_s_EqualL form_s_EqualL res_s_EqualL (by show 2 ≤ _; decide) ?_)
  simp -implicitDefEqProofs (disch := omega) [G_s_EqualL, wrap_id]
  by_cases hlm : l.length = m.length
  · have e0 : ((l.length : Int) != (m.length : Int)) = false := by simp [hlm]
    simp -implicitDefEqProofs (disch := omega) [wrap_id, e0]
    refine loop_eq (fun i : Nat => ⟨[(0, Ls f l), (1, Ls g m), (12, I l.length), (13, I (i : Int))], []⟩) (fun i => i ≤ l.length ∧ l.take i = m.take i) (fun i => l.length - i) 0 ⟨by omega, rfl⟩ rfl ?_
    intro i ⟨hi, he⟩
    refine hideK' fun K0 hK0 => ?_
    simp -implicitDefEqProofs (disch := omega) [wrap_id]
    refine c_split (fun h => ?_) (fun h => ?_)
    · have hi : i < l.length := by simpa using h
      have h2 : i < m.length := by omega
      have ix : ((i : Int) + 1) = ((i + 1 : Nat) : Int) := by omega
      by_cases e : l[i] = m[i]
      · have e' : (l[i] != m[i]) = false := by simpa using e
        simp -implicitDefEqProofs (disch := omega) [wrap_id, cells_ls, hi, h2, e', cmp2, nthT]
        rw [hK0]
        refine next_eq (i + 1) ⟨by omega, ?_⟩ (by omega) (by simp only [ix])
        rw [List.take_add_one, List.take_add_one, he]; simp [hi, h2, e]
      · have e' : (l[i] != m[i]) = true := by simpa using e
        have ne : decide (l = m) = false := decide_eq_false fun h => by subst h; exact e rfl
        rw [ne] at hK0
        subst hK0
        simp -implicitDefEqProofs (disch := omega) [wrap_id, cells_ls, hi, h2, e', cmp2, nthT]
    · have hi : i = l.length := by simp at h; omega
      subst hi
      have e1 : m.take l.length = m := List.take_of_length_le (by omega)
      have ne : decide (l = m) = true := decide_eq_true (by rw [List.take_length, e1] at he; exact he)
      rw [ne] at hK0
      subst hK0
      simp -implicitDefEqProofs (disch := omega) [wrap_id]
  · have e0 : ((l.length : Int) != (m.length : Int)) = true := by simp only [bne_iff_ne, ne_eq]; omega
    have ne : decide (l = m) = false := decide_eq_false fun h => by subst h; exact hlm rfl
    simp -implicitDefEqProofs (disch := omega) [wrap_id, e0, ne]
end Go.AM

set_option linter.unusedSimpArgs false
set_option linter.unusedVariables false
namespace Go.AM
open Go.RowKit Go.Proofs
theorem c_isNaN_ok (x : Int) : PureOK Try.prog n_c_isNaN [I x] (B false) := by
  refine pure_of (walk func_c_isNaN form_c_isNaN res_c_isNaN (by show 1 ≤ _; decide) ?_)
  simp -implicitDefEqProofs (disch := omega) [G_c_isNaN, wrap_id]
theorem c_Less_ok (x y : Int) : PureOK Try.prog n_c_Less [I x, I y] (B (decide (x < y))) := by
  refine pure_of (walk func_c_Less form_c_Less res_c_Less (by show 2 ≤ _; decide) ?_)
  simp -implicitDefEqProofs (disch := omega) [G_c_Less, wrap_id]
  refine callW_pure rfl (c_isNaN_ok x) ?_
  simp -implicitDefEqProofs (disch := omega) [wrap_id]
structure InsI (R Q : List Int) (i k : Nat) : Prop where
  perm : List.Perm Q R
  srt : ∀ j m, j < m → m ≤ i → j ≠ k → m ≠ k → Q.getD j 0 ≤ Q.getD m 0
  rest : ∀ m, k < m → m ≤ i → Q.getD k 0 ≤ Q.getD m 0
theorem swap_permI {Q : List Int} {k : Nat} (hk : k + 1 < Q.length) : List.Perm ((Q.set (k + 1) (Q.getD k 0)).set k (Q.getD (k + 1) 0)) Q := by
  have e1 : Q = Q.take k ++ Q[k] :: Q[k + 1] :: Q.drop (k + 2) := by
    rw [← List.drop_eq_getElem_cons (by omega), ← List.drop_eq_getElem_cons (by omega), List.take_append_drop]
  have g1 : Q.getD k 0 = Q[k] := by rw [List.getD_eq_getElem?_getD, List.getElem?_eq_getElem (by omega)]; rfl
  have g2 : Q.getD (k + 1) 0 = Q[k + 1] := by rw [List.getD_eq_getElem?_getD, List.getElem?_eq_getElem hk]; rfl
  rw [g1, g2]
  have tl : (Q.take k).length = k := by rw [List.length_take]; omega
  have e2 : (Q.set (k + 1) Q[k]).set k Q[k + 1] = Q.take k ++ Q[k + 1] :: Q[k] :: Q.drop (k + 2) := by
    refine List.ext_getElem (by simp; omega) fun i h1 h2 => ?_
    rw [List.getElem_set, List.getElem_set]
    by_cases a1 : k = i
    · subst a1
      rw [if_pos rfl, List.getElem_append_right (by omega)]
      simp [tl]
    · rw [if_neg a1]
      by_cases a2 : k + 1 = i
      · subst a2
        rw [if_pos rfl, List.getElem_append_right (by omega)]
        simp [tl]
      · rw [if_neg a2]
        by_cases a3 : i < k
        · rw [List.getElem_append_left (by omega), List.getElem_take]
        · rw [List.getElem_append_right (by omega)]
          obtain ⟨d, rfl⟩ : ∃ d, i = k + 2 + d := ⟨i - (k + 2), by omega⟩
          have : k + 2 + d - (Q.take k).length = d + 1 + 1 := by omega
          simp only [this, List.getElem_cons_succ, List.getElem_drop]
  rw [e2]
  conv => rhs; rw [e1]
  exact (List.Perm.swap _ _ _).append_left _
theorem InsI.swap {R Q : List Int} {i k : Nat} (h : InsI R Q i (k + 1)) (hk : k + 1 ≤ i) (hi : i < R.length) (hf : Q.getD (k + 1) 0 < Q.getD k 0) : InsI R ((Q.set (k + 1) (Q.getD k 0)).set k (Q.getD (k + 1) 0)) i k := by
  have hl := h.perm.length_eq
  have g : ∀ j, ((Q.set (k + 1) (Q.getD k 0)).set k (Q.getD (k + 1) 0)).getD j 0 = if j = k then Q.getD (k + 1) 0 else if j = k + 1 then Q.getD k 0 else Q.getD j 0 := fun j => by
    rw [getD_set (by simp; omega), getD_set (by omega)]
  refine ⟨(swap_permI (by omega)).trans h.perm, fun j m a1 a2 a3 a4 => ?_, fun m a1 a2 => ?_⟩
  · rw [g, g, if_neg a3, if_neg a4]
    by_cases e1 : j = k + 1
    · rw [if_pos e1, if_neg (by omega)]
      exact h.srt k m (by omega) a2 (by omega) (by omega)
    · rw [if_neg e1]
      by_cases e2 : m = k + 1
      · rw [if_pos e2]
        exact h.srt j k (by omega) (by omega) (by omega) (by omega)
      · rw [if_neg e2]
        exact h.srt j m a1 a2 e1 e2
  · rw [g, g, if_pos rfl, if_neg (by omega)]
    by_cases e2 : m = k + 1
    · rw [if_pos e2]; omega
    · rw [if_neg e2]; exact h.rest m (by omega) a2
theorem InsI.stop {R Q : List Int} {i k : Nat} (h : InsI R Q i k) (hk : k ≤ i) (hi : i < R.length) (hf : k = 0 ∨ ¬ Q.getD k 0 < Q.getD (k - 1) 0) : InsI R Q (i + 1) (i + 1) := by
  have below : ∀ j, j < k → Q.getD j 0 ≤ Q.getD k 0 := fun j hj => by
    rcases hf with hf | hf
    · omega
    · by_cases e : j = k - 1
      · rw [e]; omega
      · have := h.srt j (k - 1) (by omega) (by omega) (by omega) (by omega)
        omega
  refine ⟨h.perm, fun j m a1 a2 a3 a4 => ?_, fun m a1 a2 => by omega⟩
  by_cases e1 : j = k
  · subst e1; exact h.rest m a1 (by omega)
  · by_cases e2 : m = k
    · subst e2; exact below j a1
    · exact h.srt j m a1 (by omega) e1 e2
theorem InsI.init {R : List Int} : InsI R R 0 0 := ⟨List.Perm.refl _, fun j m a1 a2 _ _ => by omega, fun m a1 a2 => by omega⟩
def SrtI (R Q : List Int) : Prop := List.Perm Q R ∧ Q.Pairwise fun a b => a ≤ b
theorem InsI.fin {R Q : List Int} {i : Nat} (h : InsI R Q i i) (hi : R.length ≤ i) : SrtI R Q := by
  refine ⟨h.perm, ?_⟩
  rw [List.pairwise_iff_getElem]
  intro j m hj hm hjm
  have hl := h.perm.length_eq
  have := h.srt j m hjm (by omega) (by omega) (by omega)
  rw [getD_I hj, getD_I hm] at this
  exact this
theorem InsI.one {R : List Int} : InsI R R 1 1 := ⟨List.Perm.refl _, fun j m a1 a2 a3 a4 => by omega, fun m a1 a2 => by omega⟩
set_option maxHeartbeats 4000000 in
theorem s_insertion_w {hp : List HObj} {a n : Nat} {l : List Int} {K : AV → List HObj → Prop} (ha : nthH hp a = some (.cells (l.map fun n => I n))) (hn : n = l.length) (hl : l.length ≤ 1000)
    (hK : ∀ H Q, SrtI l Q → nthH H a = some (.cells (Q.map fun n => I n)) → (∀ j, j < hp.length → j ≠ a → nthH H j = nthH hp j) → hp.length ≤ H.length → K (.tup []) H) : CallW Try.prog n_s_insertionSortOrdered [.ms a 0 n 1, I 0, I (n : Int)] hp K := by
  subst hn
  refine walk func_s_insertionSortOrdered form_s_insertionSortOrdered res_s_insertionSortOrdered (by show 3 ≤ _; decide) ?_
  simp -implicitDefEqProofs (disch := omega) [G_s_insertionSortOrdered, wrap_id]
  refine loop_eq (fun q : Nat × List HObj => ⟨[(0, .ms a 0 l.length 1), (1, I 0), (2, I l.length), (6, I (q.1 : Int))], q.2⟩)
    (fun q => 1 ≤ q.1 ∧ q.1 ≤ max 1 l.length ∧ hp.length ≤ q.2.length ∧ (∀ j, j < hp.length → j ≠ a → nthH q.2 j = nthH hp j) ∧ ∃ Q, nthH q.2 a = some (.cells (Q.map fun n => I n)) ∧ InsI l Q q.1 q.1) (fun q => l.length + 1 - q.1) (1, hp) ⟨by omega, by simp only; omega, Nat.le_refl _, fun _ _ _ => rfl, l, ha, .one⟩ rfl ?_
  rintro ⟨i, H1⟩ ⟨c0, c1, cl, ck, Q, c2, c3⟩
  simp only at c0 c1 cl ck c2 c3 ⊢
  refine hideK' fun K0 hK0 => ?_
  simp -implicitDefEqProofs (disch := omega) [wrap_id]
  refine c_split (fun hc => ?_) (fun hc => ?_)
  · have hi : i < l.length := by simpa using hc
    have ix : ((i : Int) + 1) = ((i + 1 : Nat) : Int) := by omega
    simp -implicitDefEqProofs (disch := omega) [wrap_id]
    refine loop_eq (fun q : Nat × List HObj => ⟨[(0, .ms a 0 l.length 1), (1, I 0), (2, I l.length), (6, I (i : Int)), (7, I (q.1 : Int))], q.2⟩)
      (fun q => q.1 ≤ i ∧ hp.length ≤ q.2.length ∧ (∀ j, j < hp.length → j ≠ a → nthH q.2 j = nthH hp j) ∧ ∃ Q, nthH q.2 a = some (.cells (Q.map fun n => I n)) ∧ InsI l Q i q.1) (fun q => q.1) (i, H1) ⟨Nat.le_refl _, cl, ck, Q, c2, c3⟩ rfl ?_
    clear c2 c3 Q cl ck
    rintro ⟨k, H2⟩ ⟨d1, dl, dk, Q, d2, d3⟩
    simp only at d1 dl dk d2 d3 ⊢
    have lQ : Q.length = l.length := d3.perm.length_eq
    refine hideK' fun K1 hK1 => ?_
    match k, d1, d3 with
    | 0, d1, d3 =>
      have st := d3.stop d1 hi (.inl rfl)
      subst hK1
      simp -implicitDefEqProofs (disch := omega) [wrap_id, cmp2, nthT]
      rw [hK0]
      exact next_eq (i + 1, H2) ⟨by simp only; omega, by simp only; omega, dl, dk, Q, d2, st⟩ (by simp only; omega) (by simp only [ix])
    | k + 1, d1, d3 =>
      have hk1 : k + 1 < Q.length := by omega
      have hk0 : k < Q.length := by omega
      have kx : (((k + 1 : Nat) : Int) - 1) = (k : Int) := by omega
      have g1 := getD_I hk1
      have g0 := getD_I hk0
      have la := nthH_lt d2
      obtain ⟨m, hm⟩ : ∃ m : Int, ((k + 1 : Nat) : Int) = m := ⟨_, rfl⟩
      rw [hm] at kx
      have mn : m.toNat = k + 1 := by omega
      have m0 : (0 < m) = True := by simp only [eq_iff_iff, iff_true]; omega
      have mr : m < l.length := by omega
      have kr : k < l.length := by omega
      simp only [hm]
      simp -implicitDefEqProofs (disch := omega) [wrap_id, m0, d2, mn, kx, hk1, hk0, cells_ls, mr, kr]
      refine ⟨by omega, pureW_of rfl (c_Less_ok Q[k + 1] Q[k]) ?_⟩
      by_cases hf : Q[k + 1] < Q[k]
      · have sw := d3.swap d1 hi (by rw [g1, g0]; exact hf)
        rw [g1, g0] at sw
        simp -implicitDefEqProofs (disch := omega) [wrap_id, cmp2, nthT, hf, d2, mn, kx, hk1, hk0, cells_ls, mr, kr, la]
        rw [put_ls hk1]
        refine ⟨by omega, by omega, ?_⟩
        have s3 : nthH (H2.set a (.cells ((Q.set (k + 1) Q[k]).map fun n => I n))) a = some (.cells ((Q.set (k + 1) Q[k]).map fun n => I n)) := nthH_set_same la
        have l3 : a < (H2.set a (.cells ((Q.set (k + 1) Q[k]).map fun n => I n))).length := by simpa using la
        have k3 : ∀ j, j ≠ a → nthH (H2.set a (.cells ((Q.set (k + 1) Q[k]).map fun n => I n))) j = nthH H2 j := fun j hj => nthH_set_ne (Ne.symm hj)
        have ll3 : (H2.set a (.cells ((Q.set (k + 1) Q[k]).map fun n => I n))).length = H2.length := by simp
        generalize H2.set a (.cells ((Q.set (k + 1) Q[k]).map fun n => I n)) = H3 at s3 l3 k3 ll3 ⊢
        simp -implicitDefEqProofs (disch := omega) [wrap_id, cmp2, nthT, s3, l3]
        rw [put_ls2 hk0]
        refine ⟨by omega, ?_⟩
        rw [hK1]
        refine next_eq (k, H3.set a (.cells (((Q.set (k + 1) Q[k]).set k Q[k + 1]).map fun n => I n))) ⟨by simp only; omega, by simp only [List.length_set]; omega, fun j hj hne => ?_, _, nthH_set_same l3, sw⟩ (by simp only; omega) (by simp only [kx])
        rw [nthH_set_ne (Ne.symm hne), k3 j hne, dk j hj hne]
      · have st := d3.stop d1 hi (.inr (by rw [Nat.add_sub_cancel, g1, g0]; exact hf))
        subst hK1
        simp -implicitDefEqProofs (disch := omega) [wrap_id, cmp2, nthT, hf]
        rw [hK0]
        exact next_eq (i + 1, H2) ⟨by simp only; omega, by simp only; omega, dl, dk, Q, d2, st⟩ (by simp only; omega) (by simp only [ix])
  · have hi : l.length ≤ i := by simp at hc; omega
    subst hK0
    simp -implicitDefEqProofs (disch := omega) [wrap_id]
    exact hK H1 Q (c3.fin hi) c2 ck cl
set_option maxHeartbeats 1000000 in
theorem s_pdq_w {hp : List HObj} {a n : Nat} {l : List Int} {lim : Int} {K : AV → List HObj → Prop} (ha : nthH hp a = some (.cells (l.map fun n => I n))) (hn : n = l.length) (hl : l.length ≤ 12)
    (hK : ∀ H Q, SrtI l Q → nthH H a = some (.cells (Q.map fun n => I n)) → (∀ j, j < hp.length → j ≠ a → nthH H j = nthH hp j) → hp.length ≤ H.length → K (.tup []) H) : CallW Try.prog n_s_pdqsortOrdered [.ms a 0 n 1, I 0, I (n : Int), I lim] hp K := by
  refine walk func_s_pdqsortOrdered form_s_pdqsortOrdered res_s_pdqsortOrdered (by show 4 ≤ _; decide) ?_
  simp -implicitDefEqProofs (disch := omega) [G_s_pdqsortOrdered, wrap_id]
  refine loop_eq (fun _ : Unit => ⟨[(0, .ms a 0 n 1), (1, I 0), (2, I (n : Int)), (3, I lim), (8, B true), (9, B true)], hp⟩) (fun _ => True) (fun _ => 0) () trivial rfl ?_
  rintro _ _
  have h12 : ((n : Int) ≤ 12) = True := by simp only [eq_iff_iff, iff_true]; omega
  refine hideK' fun K0 hK0 => ?_
  simp -implicitDefEqProofs (disch := omega) [wrap_id, h12]
  refine s_insertion_w ha hn (by omega) fun H Q h1 h2 h3 h4 => ?_
  subst hK0
  simp -implicitDefEqProofs (disch := omega) [wrap_id]
  exact hK H Q h1 h2 h3 h4
end Go.AM

set_option linter.unusedSimpArgs false
set_option linter.unusedVariables false
namespace Go.AM
open Go.RowKit Go.Proofs
theorem s_values_R {f : Bool} {l : List Int} {hp : List HObj} {H : List AV → List HObj → (AV → List HObj → Prop) → Prop} {J : Nat → List HObj → Prop} (hl : l.length ≤ 1000000)
    (h0 : J 0 (hp ++ [.lp .ready (hp.length + 1), .gone])) (hH : ∀ j hp' (h : j < l.length), J j hp' → H [I l[j]] hp' fun r hp'' => r = B true ∧ J (j + 1) hp'') :
    (E1 Try.prog).R (.fn (.func n_s_Values_1L) [] [.ptr [Ls f l] 0]) hp H (J l.length) := by
  refine ⟨n_s_Values_1L, [.ptr [Ls f l] 0], _, G_s_Values_1L, [], _, rfl, by kernel_rfl, func_s_Values_1L, form_s_Values_1L, resTmps_C res_s_Values_1L, by show 2 ≤ _; decide, ?_⟩
  simp -implicitDefEqProofs (disch := omega) [G_s_Values_1L, wrap_id]
  refine loop_eq (fun a : Nat × List HObj => ⟨[(0, .yl hp.length), (5, Ls f l), (6, I l.length), (7, I (a.1 : Int))], a.2⟩) (fun a => a.1 ≤ l.length ∧ J a.1 a.2) (fun a => l.length - a.1) (0, _) ⟨by simp, h0⟩ rfl ?_
  rintro ⟨i, G⟩ ⟨c1, c2⟩
  simp only at c1 c2 ⊢
  refine hideK' fun K0 hK0 => ?_
  simp -implicitDefEqProofs (disch := omega) [wrap_id]
  refine c_split (fun h => ?_) (fun h => ?_)
  · have hi : i < l.length := by simpa using h
    have ix : ((i : Int) + 1) = ((i + 1 : Nat) : Int) := by omega
    simp -implicitDefEqProofs (disch := omega) [wrap_id, hi, cells_ls]
    refine ⟨_, ⟨rfl, hH i G hi c2⟩, ?_⟩
    rintro r G' ⟨rfl, hg⟩
    simp -implicitDefEqProofs (disch := omega) [wrap_id]
    rw [hK0]
    exact next_eq (i + 1, G') ⟨by simp only; omega, hg⟩ (by simp only; omega) (by simp only [ix])
  · have hi : i = l.length := by simp at h; omega
    subst hi
    subst hK0
    simp -implicitDefEqProofs (disch := omega) [wrap_id]
    exact ⟨[], trivial, c2⟩
theorem s_Values_ok (f : Bool) (l : List Int) : PureOK Try.prog n_s_ValuesL [Ls f l] (.fn (.func n_s_Values_1L) [] [.ptr [Ls f l] 0]) := by
  refine pure_of (walk func_s_ValuesL form_s_ValuesL res_s_ValuesL (by show 1 ≤ _; decide) ?_)
  simp -implicitDefEqProofs (disch := omega) [G_s_ValuesL, wrap_id]
  exact out_of (is := [0]) rfl
set_option maxHeartbeats 2000000 in
theorem s_AppendSeq_w (f : Bool) (l : List Int) (hl : l.length ≤ 100000) {K : AV → List HObj → Prop} (hK : ∀ H y, AccR H y l → K y H) : CallW Try.prog n_s_AppendSeqL [.sl true 0 [], .fn (.func n_s_Values_1L) [] [.ptr [Ls f l] 0]] [] K := by
  refine walk func_s_AppendSeqL form_s_AppendSeqL res_s_AppendSeqL (by show 2 ≤ _; decide) ?_
  simp -implicitDefEqProofs (disch := omega) [G_s_AppendSeqL, wrap_id]
  refine rf_of (K0 := fun G => (∃ y, nthH G 0 = some (.cells [y]) ∧ AccR G y (l.take l.length) ∧ ∀ i, rid y = some i → 3 ≤ i) ∧ nthH G 1 = some (.lp .ready 2) ∧ 3 ≤ G.length)
    (s_values_R (f := f) (l := l) (J := fun j G => (∃ y, nthH G 0 = some (.cells [y]) ∧ AccR G y (l.take j) ∧ ∀ i, rid y = some i → 3 ≤ i) ∧ nthH G 1 = some (.lp .ready 2) ∧ 3 ≤ G.length) (by omega)
      ⟨⟨.sl true 0 [], rfl, .inl ⟨rfl, rfl⟩, fun i h => by cases h⟩, rfl, by simp⟩ ?_) ?_
  · rintro j G hj ⟨⟨y, f3, f4, f5⟩, f6, f7⟩
    refine ⟨by rw [hpf_nthH]; exact f6, rfl, ?_⟩
    have ga : nthH (G.set 1 (HObj.lp LpSt.busy 2)) 0 = some (.cells [y]) := by rw [nthH_set_ne (by decide)]; exact f3
    have gy : AccR (G.set 1 (HObj.lp LpSt.busy 2)) y (l.take j) := f4.mono fun i hi => nthH_set_ne (by have := f5 i hi; omega)
    have gl : 1 < G.length := by omega
    simp -implicitDefEqProofs (disch := omega) [wrap_id, putPs, hpf_nthH, f6, gl, ga]
    refine bsl_of rfl rfl ?_
    simp -implicitDefEqProofs (disch := omega) [wrap_id, zrep]
    have hjl : (l.take j).length = j := by rw [List.length_take]; omega
    refine app_row gy.row (by rw [hjl]; omega) fun ws w1 w2 w3 => ?_
    generalize hH1 : writeL (G.set 1 (HObj.lp LpSt.busy 2)) ws = H1 at w1 w2 w3
    simp only [List.length_set] at w1 w2 w3
    have a1 : nthH H1 0 = some (.cells [y]) := by rw [w1 0 (by omega) (fun e => by have := f5 _ e; omega)]; exact ga
    have a2 : nthH H1 1 = some (.lp .busy 2) := by rw [w1 1 gl (fun e => by have := f5 _ e; omega)]; exact nthH_set_same gl
    have a3 : 0 < H1.length := by omega
    have a4 : 1 < H1.length := by omega
    simp -implicitDefEqProofs (disch := omega) [wrap_id, hH1, a1, a3]
    have tk : l.take j ++ [l[j]] = l.take (j + 1) := by rw [List.take_succ_eq_append_getElem hj]
    refine ⟨?_, rfl, ⟨.ms G.length 0 (j + 1) 1, ?_, .inr ⟨G.length, ?_, ?_, ?_⟩, ?_⟩, ?_, ?_⟩
    · rw [hpf_nthH, nthH_set_ne (by decide)]; exact a2
    · simp only [setL, List.length_set, a4, if_true]
      rw [nthH_set_ne (by decide)]; exact nthH_set_same a3
    · rw [List.length_take, Nat.min_eq_left (by omega)]
    · intro e; have := congrArg List.length e; rw [List.length_take, Nat.min_eq_left (by omega)] at this; simp at this
    · simp only [setL, List.length_set, a4, if_true]
      rw [nthH_set_ne (by omega), nthH_set_ne (by omega), ← tk]; exact w3
    · simp only [rid]; intro i hi; injection hi with hi; omega
    · simp only [setL, List.length_set, a4, if_true]
      exact nthH_set_same (by simpa using a4)
    · simp only [setL, List.length_set, a4, if_true]; omega
  · rintro G ⟨⟨y, f3, f4, f5⟩, f6, f7⟩
    rw [List.take_length] at f4
    refine rfEnd_ready f6 ?_
    have gy : AccR (G.set 1 .gone) y l := f4.mono fun i hi => nthH_set_ne (by have := f5 i hi; omega)
    have ga : nthH (G.set 1 .gone) 0 = some (.cells [y]) := by rw [nthH_set_ne (by decide)]; exact f3
    generalize G.set 1 HObj.gone = G2 at gy ga
    simp -implicitDefEqProofs (disch := omega) [wrap_id, ga]
    exact hK G2 y gy
theorem s_Collect_w (f : Bool) (l : List Int) (hl : l.length ≤ 100000) {K : AV → List HObj → Prop} (hK : ∀ H y, AccR H y l → K y H) : CallW Try.prog n_s_Collect [.fn (.func n_s_Values_1L) [] [.ptr [Ls f l] 0]] [] K := by
  refine walk func_s_Collect form_s_Collect res_s_Collect (by show 1 ≤ _; decide) ?_
  simp -implicitDefEqProofs (disch := omega) [G_s_Collect, wrap_id]
  refine s_AppendSeq_w f l hl fun H y h => ?_
  simp -implicitDefEqProofs (disch := omega) [wrap_id]
  exact hK H y h
theorem w_ids_of {P : Program} {F : Nat → AV} {hp : List HObj} {K : AV → List (Nat × HObj) → Prop} {d : Nat} {x i : Opd} {s : ByteArray} {k : IntKind} {j : Nat} {b : UInt8} (hx : evF F x = .v (.string s)) (hi : evF F i = .v (.int k j)) (hb : s[j]? = some b)
    (kk : K (.v (.int .u8 b.toNat)) []) : (AOp.ids d x i).wp P F hp K := by
  refine ⟨_, _, ?_, kk⟩
  simp only [AOp.sem, hx, hi]
  exact ⟨by omega, ⟨b, by simpa using hb, rfl⟩, trivial⟩
def lenT : ByteArray := ⟨#[0, 1, 2, 2, 3, 3, 3, 3, 4, 4, 4, 4, 4, 4, 4, 4, 5, 5, 5, 5, 5, 5, 5, 5, 5, 5, 5, 5, 5, 5, 5, 5, 6, 6, 6, 6, 6, 6, 6, 6, 6, 6, 6, 6, 6, 6, 6, 6, 6, 6, 6, 6, 6, 6, 6, 6, 6, 6, 6, 6, 6, 6, 6, 6, 7, 7, 7, 7, 7, 7, 7, 7, 7, 7, 7, 7, 7, 7, 7, 7, 7, 7, 7, 7, 7, 7, 7, 7, 7, 7, 7, 7, 7, 7, 7, 7, 7, 7, 7, 7, 7, 7, 7, 7, 7, 7, 7, 7, 7, 7, 7, 7, 7, 7, 7, 7, 7, 7, 7, 7, 7, 7, 7, 7, 7, 7, 7, 7, 8, 8, 8, 8, 8, 8, 8, 8, 8, 8, 8, 8, 8, 8, 8, 8, 8, 8, 8, 8, 8, 8, 8, 8, 8, 8, 8, 8, 8, 8, 8, 8, 8, 8, 8, 8, 8, 8, 8, 8, 8, 8, 8, 8, 8, 8, 8, 8, 8, 8, 8, 8, 8, 8, 8, 8, 8, 8, 8, 8, 8, 8, 8, 8, 8, 8, 8, 8, 8, 8, 8, 8, 8, 8, 8, 8, 8, 8, 8, 8, 8, 8, 8, 8, 8, 8, 8, 8, 8, 8, 8, 8, 8, 8, 8, 8, 8, 8, 8, 8, 8, 8, 8, 8, 8, 8, 8, 8, 8, 8, 8, 8, 8, 8, 8, 8, 8, 8, 8, 8, 8, 8, 8, 8, 8, 8, 8, 8]⟩
theorem lenT_size : lenT.size = 256 := by decide +kernel
theorem ba_getD (S : ByteArray) (n : Nat) (h : n < S.size) : S.data[n]?.getD 0 = S[n] := by
  have h2 : n < S.data.size := h
  rw [Array.getElem?_eq_getElem h2]; rfl
def lenV (n : Nat) : Int := IntKind.i64.wrap (0 + IntKind.i64.wrap ((lenT.data[n]?.getD 0).toNat : Int))
theorem wrap_u8 {n : Nat} (h : n < 256) : IntKind.u8.wrap (n : Int) = n := by
  simp [IntKind.wrap, IntKind.bits, IntKind.signed]
  omega
set_option maxRecDepth 100000 in
theorem b_Len64_ok (n : Nat) (hn : n < 256) : PureOK Try.prog n_b_Len64 [.v (.int .u64 n)] (I (lenV n)) := by
  have c1 : ((4294967296 : Int) ≤ (n : Int)) = False := by simp only [eq_iff_iff, iff_false]; omega
  have c2 : ((65536 : Int) ≤ (n : Int)) = False := by simp only [eq_iff_iff, iff_false]; omega
  have c3 : ((256 : Int) ≤ (n : Int)) = False := by simp only [eq_iff_iff, iff_false]; omega
  have c4 : IntKind.u8.wrap (n : Int) = n := wrap_u8 hn
  have hs : n < lenT.size := by rw [lenT_size]; exact hn
  have e1 : (lenT.data[n]?.getD 0) = lenT[n] := ba_getD lenT n hs
  refine pure_of (walk func_b_Len64 form_b_Len64 res_b_Len64 (by show 1 ≤ _; decide) ?_)
  unfold lenV
  rw [e1]
  generalize hr : IntKind.i64.wrap (0 + IntKind.i64.wrap ((lenT[n]).toNat : Int)) = r
  simp -implicitDefEqProofs (disch := omega) [G_b_Len64, wrap_id, c1, c2, c3, c4]
  refine w_ids_of (s := lenT) (j := n) (b := lenT[n]) (k := .u8) rfl rfl (getElem?_pos lenT n hs) ?_
  rw [← hr]
  generalize lenT[n] = q
  simp -implicitDefEqProofs
theorem b_Len_ok (n : Nat) (hn : n < 256) : PureOK Try.prog n_b_Len [.v (.int .u64 n)] (I (lenV n)) := by
  refine pure_of (walk func_b_Len form_b_Len res_b_Len (by show 1 ≤ _; decide) ?_)
  simp -implicitDefEqProofs (disch := omega) [G_b_Len, wrap_id]
  refine callW_pure rfl (b_Len64_ok n hn) ?_
  simp -implicitDefEqProofs (disch := omega) [wrap_id]
theorem wrap_u64 {n : Nat} (h : n < 1000000) : IntKind.u64.wrap (n : Int) = n := by
  simp [IntKind.wrap, IntKind.bits, IntKind.signed]
  omega
set_option maxHeartbeats 1000000 in
theorem s_Sort_w {hp : List HObj} {a n : Nat} {l : List Int} {K : AV → List HObj → Prop} (ha : nthH hp a = some (.cells (l.map fun n => I n))) (hn : n = l.length) (hl : l.length ≤ 12)
    (hK : ∀ H Q, SrtI l Q → nthH H a = some (.cells (Q.map fun n => I n)) → (∀ j, j < hp.length → j ≠ a → nthH H j = nthH hp j) → hp.length ≤ H.length → K (.tup []) H) : CallW Try.prog n_s_SortL [.ms a 0 n 1] hp K := by
  have c1 : IntKind.u64.wrap (n : Int) = n := wrap_u64 (by omega)
  refine walk func_s_SortL form_s_SortL res_s_SortL (by show 1 ≤ _; decide) ?_
  simp -implicitDefEqProofs (disch := omega) [G_s_SortL, wrap_id, c1]
  refine callW_pure rfl (b_Len_ok n (by omega)) ?_
  simp -implicitDefEqProofs (disch := omega) [wrap_id]
  refine s_pdq_w ha hn hl fun H Q h1 h2 h3 h4 => ?_
  simp -implicitDefEqProofs (disch := omega) [wrap_id]
  exact hK H Q h1 h2 h3 h4
theorem s_insertion_nil {hp : List HObj} {K : AV → List HObj → Prop} (hK : K (.tup []) hp) : CallW Try.prog n_s_insertionSortOrdered [.sl true 0 [], I 0, I 0] hp K := by
  refine walk func_s_insertionSortOrdered form_s_insertionSortOrdered res_s_insertionSortOrdered (by show 3 ≤ _; decide) ?_
  simp -implicitDefEqProofs (disch := omega) [G_s_insertionSortOrdered, wrap_id]
  refine loop_eq (fun _ : Unit => ⟨[(0, .sl true 0 []), (1, I 0), (2, I 0), (6, I 1)], hp⟩) (fun _ => True) (fun _ => 0) () trivial rfl ?_
  rintro _ _
  simp -implicitDefEqProofs (disch := omega) [wrap_id]
  exact hK
theorem s_pdq_nil {hp : List HObj} {lim : Int} {K : AV → List HObj → Prop} (hK : K (.tup []) hp) : CallW Try.prog n_s_pdqsortOrdered [.sl true 0 [], I 0, I 0, I lim] hp K := by
  refine walk func_s_pdqsortOrdered form_s_pdqsortOrdered res_s_pdqsortOrdered (by show 4 ≤ _; decide) ?_
  simp -implicitDefEqProofs (disch := omega) [G_s_pdqsortOrdered, wrap_id]
  refine loop_eq (fun _ : Unit => ⟨[(0, .sl true 0 []), (1, I 0), (2, I 0), (3, I lim), (8, B true), (9, B true)], hp⟩) (fun _ => True) (fun _ => 0) () trivial rfl ?_
  rintro _ _
  refine hideK' fun K0 hK0 => ?_
  simp -implicitDefEqProofs (disch := omega) [wrap_id]
  refine s_insertion_nil ?_
  subst hK0
  simp -implicitDefEqProofs (disch := omega) [wrap_id]
  exact hK
theorem s_Sort_nil {hp : List HObj} {K : AV → List HObj → Prop} (hK : K (.tup []) hp) : CallW Try.prog n_s_SortL [.sl true 0 []] hp K := by
  have c1 : IntKind.u64.wrap 0 = 0 := by decide
  refine walk func_s_SortL form_s_SortL res_s_SortL (by show 1 ≤ _; decide) ?_
  simp -implicitDefEqProofs (disch := omega) [G_s_SortL, wrap_id, c1]
  refine callW_pure rfl (b_Len_ok 0 (by omega)) ?_
  simp -implicitDefEqProofs (disch := omega) [wrap_id]
  refine s_pdq_nil ?_
  simp -implicitDefEqProofs (disch := omega) [wrap_id]
  exact hK
set_option maxHeartbeats 1000000 in
theorem s_Sorted_ok (f : Bool) (l : List Int) (hl : l.length ≤ 12) {Q : List Int} (hQ : SrtI l Q) : PureOK Try.prog n_s_Sorted [.fn (.func n_s_Values_1L) [] [.ptr [Ls f l] 0]] (Ls false Q) := by
  have uq : ∀ Q', SrtI l Q' → Q' = Q := fun Q' h => List.Perm.eq_of_pairwise (le := fun a b => decide (a ≤ b)) (by intro a b _ _ h1 h2; simp at h1 h2; omega) (h.2.imp (by intro a b h; simpa using h)) (hQ.2.imp (by intro a b h; simpa using h)) (h.1.trans hQ.1.symm)
  refine pure_of_w weak weak_rep (walk func_s_Sorted form_s_Sorted res_s_Sorted (by show 1 ≤ _; decide) ?_)
  simp -implicitDefEqProofs (disch := omega) [G_s_Sorted, wrap_id]
  refine s_Collect_w f l (by omega) fun H y hy => ?_
  simp -implicitDefEqProofs (disch := omega) [wrap_id]
  rcases hy with ⟨rfl, rfl⟩ | ⟨id, rfl, hne, hc⟩
  · refine s_Sort_nil ?_
    simp -implicitDefEqProofs (disch := omega) [wrap_id]
    have : Q = [] := hQ.1.eq_nil
    subst this
    exact ⟨.sl true 0 [], rfl, out_of (is := []) rfl⟩
  · refine s_Sort_w hc rfl hl fun H2 Q2 h1 h2 h3 h4 => ?_
    have := uq Q2 h1
    subst this
    simp -implicitDefEqProofs (disch := omega) [wrap_id]
    exact ⟨Ls false Q2, rfl, out_ls h2 (by rw [← h1.1.length_eq])⟩
end Go.AM

set_option linter.unusedSimpArgs false
set_option linter.unusedVariables false
namespace Go.AM
open Go.RowKit Go.Proofs
theorem srtI_ex (l : List Int) : ∃ Q, SrtI l Q := by
  refine ⟨l.mergeSort (fun a b => decide (a ≤ b)), List.mergeSort_perm _ _, ?_⟩
  have := List.pairwise_mergeSort (le := fun a b : Int => decide (a ≤ b)) (by intro a b c h1 h2; simp at *; omega) (by intro a b; simp; omega) l
  exact this.imp (by intro a b h; simpa using h)
theorem plc_srt {n : Nat} : (plcL n).Pairwise fun a b => a ≤ b := by
  unfold plcL
  rw [List.pairwise_map]
  exact List.Pairwise.imp (fun h => by omega) List.pairwise_lt_range
theorem srt_plc {l Q : List Int} {n : Nat} (h : SrtI l Q) : Q = plcL n ↔ strO n l = true := by
  have uq : List.Perm l (plcL n) → Q = plcL n := fun hp => List.Perm.eq_of_pairwise (le := fun a b : Int => a ≤ b) (by intro a b _ _ h1 h2; omega) h.2 plc_srt (h.1.trans hp)
  unfold strO
  constructor
  · rintro rfl
    have hp := h.1.symm
    have hl : l.length = n := by rw [hp.length_eq, plcL_len]
    simp only [Bool.and_eq_true, decide_eq_true_eq, List.all_eq_true, List.mem_range, beq_iff_eq]
    refine ⟨by omega, fun k hk => ?_⟩
    rw [hp.count_eq]
    have := (Pm.plc (n := n)).nd.count (a := (k : Int))
    rw [this, if_pos (plc_mem.2 (by omega))]
  · intro hs
    simp only [Bool.and_eq_true, decide_eq_true_eq, List.all_eq_true, List.mem_range, beq_iff_eq] at hs
    have pm := pm_of (n := n) (s := l) (by omega) fun k hk => hs.2 k (by omega)
    refine uq ((List.perm_ext_iff_of_nodup pm.nd plc_nodup).2 fun x => ?_)
    rw [plc_mem]
    refine ⟨pm.rng x, fun hx => ?_⟩
    have := pm.mem (k := x.toNat) (by omega)
    rw [show ((x.toNat : Nat) : Int) = x by omega] at this
    exact this
set_option maxHeartbeats 1000000 in
theorem o_odd_w {f : Bool} {l : List Int} (hl : l.length ≤ 12) {hp : List HObj} {a c n : Nat} {K : AV → List HObj → Prop} (ha : nthH hp a = some (.cells [.ms c 0 n 1])) (hc : nthH hp c = some (.cells ((plcL n).map fun n => I n)))
    (hn : n ≤ 6) (hK : K (B (!strO n l)) hp) : CallW Try.prog n_o_CheckBench_1 [Ls f l, .ref a 0] hp K := by
  obtain ⟨Q, hQ⟩ := srtI_ex l
  refine walk func_o_CheckBench_1 form_o_CheckBench_1 res_o_CheckBench_1 (by show 2 ≤ _; decide) ?_
  simp -implicitDefEqProofs (disch := omega) [G_o_CheckBench_1, wrap_id]
  refine pureW_of rfl (s_Values_ok f l) ?_
  simp -implicitDefEqProofs (disch := omega) [wrap_id]
  refine pureW_of rfl (s_Sorted_ok f l hl hQ) ?_
  simp -implicitDefEqProofs (disch := omega) [wrap_id, ha]
  have lQ := hQ.1.length_eq
  refine pureW_of (purifyAll2 ls_pur (ms_pur hc plcL_len.symm)) (s_Equal_ok _ _ Q (plcL n) (by omega) (by rw [plcL_len]; omega)) ?_
  have e : decide (Q = plcL n) = strO n l := by
    rw [Bool.eq_iff_iff, decide_eq_true_iff, srt_plc hQ]
  rw [e]
  simp -implicitDefEqProofs (disch := omega) [wrap_id, cmp2, nthT]
  exact hK
set_option maxHeartbeats 2000000 in
theorem o_CheckBench_ok (g : Bool) (b : OB) (hb : b.s.length ≤ 1000000) (hs : ∀ p ∈ b.s, p.2.length ≤ 12) : PureOK Try.prog n_o_CheckBench [On g b] (I (chkO b)) := by
  refine pure_of (walk func_o_CheckBench form_o_CheckBench res_o_CheckBench (by show 1 ≤ _; decide) ?_)
  simp -implicitDefEqProofs (disch := omega) [G_o_CheckBench, wrap_id]
  obtain ⟨m, hm⟩ : ∃ m : Nat, max 0 (min b.P 6) = (m : Int) := ⟨(max 0 (min b.P 6)).toNat, by omega⟩
  have m6 : m ≤ 6 := by omega
  rw [hm]
  refine ⟨m, rfl, rfl, by omega, by omega, rfl, ?_⟩
  rw [zrep_ls]
  have i0 : (List.replicate m (0 : Int)).length = m ∧ ∀ q, q < 0 → (List.replicate m (0 : Int)).getD q 0 = (q : Int) := ⟨by simp, fun q h => by omega⟩
  generalize List.replicate m (0 : Int) = M0 at i0 ⊢
  simp -implicitDefEqProofs (disch := omega) [wrap_id]
  refine loop_eq (fun q : Nat × List Int => ⟨[(1, .ref 0 0), (3, .ref 2 0), (12, I (m : Int)), (13, I (q.1 : Int))], [.cells [I b.P, LLs g b.s], .cells (q.2.map fun n => I n), .cells [.ms 1 0 m 1]]⟩) (fun q => q.1 ≤ m ∧ q.2.length = m ∧ ∀ k, k < q.1 → q.2.getD k 0 = (k : Int)) (fun q => m - q.1) (0, M0) ⟨Nat.zero_le _, i0⟩ (by simp) ?_
  rintro ⟨i, M⟩ ⟨c1, c2, c3⟩
  simp only at c1 c2 c3 ⊢
  refine hideK' fun K0 hK0 => ?_
  simp -implicitDefEqProofs (disch := omega) [wrap_id]
  refine c_split (fun h => ?_) (fun h => ?_)
  · have hi : i < m := by simpa using h
    have ix : ((i : Int) + 1) = ((i + 1 : Nat) : Int) := by omega
    have iM : i < M.length := by omega
    simp -implicitDefEqProofs (disch := omega) [wrap_id, hi]
    rw [put_ls iM]
    refine ⟨by omega, ?_⟩
    rw [hK0]
    refine next_eq (i + 1, M.set i (i : Int)) ⟨by simp only; omega, by simp only [List.length_set]; exact c2, fun k hk => ?_⟩ (by simp only; omega) (by simp only [ix])
    simp only at hk ⊢
    rw [getD_set iM]
    split
    · rename_i e; rw [e]
    · exact c3 k (by omega)
  · have hi : i = m := by simp at h; omega
    subst hi
    have eM : M = plcL i := ext_getD (by rw [c2, plcL_len]) fun k hk => by
      rw [c3 k (by omega), getD_I (by rw [plcL_len]; omega), plcL_get]
    subst eM
    subst hK0
    have hw := o_within_ok 2 6 true [b.P] (by simp)
    simp -implicitDefEqProofs (disch := omega) [wrap_id]
    refine bsl_of (ys := [I b.P]) rfl rfl ?_
    simp -implicitDefEqProofs (disch := omega) [wrap_id, zrep]
    refine callW_pure rfl hw ?_
    by_cases h1 : b.P < 2 ∨ 6 < b.P
    · have e1 : allIn 2 6 [b.P] = false := by simp [allIn]; omega
      have e : chkO b = 2 := by unfold chkO; rw [if_pos h1]
      rw [e1, e]
      simp -implicitDefEqProofs (disch := omega) [wrap_id]
    have e1 : allIn 2 6 [b.P] = true := by simp [allIn]; omega
    rw [e1]
    by_cases h3 : 6 < b.s.length
    · have h3' : (6 : Int) < b.s.length := by omega
      have e : chkO b = 6 := by unfold chkO; rw [if_neg h1, if_pos h3]
      simp -implicitDefEqProofs (disch := omega) [wrap_id, h3', e]
    have h3' : ¬ (6 : Int) < b.s.length := by omega
    have e : chkO b = if b.s.all (fun p => strO b.P p.2) then 0 else 15 := by unfold chkO; rw [if_neg h1, if_neg h3]
    rw [e]
    have eP : b.P = (i : Int) := by omega
    simp -implicitDefEqProofs (disch := omega) [wrap_id, h3']
    refine s_containsLL_w g b.s hb (p := fun p => !strO i p.2) (by kernel_rfl) (fun k hk KK h => o_odd_w (hs _ (List.getElem_mem hk)) rfl rfl m6 h) ?_
    have ea : b.s.any (fun p => !strO (i : Int) p.2) = !b.s.all (fun p => strO b.P p.2) := by
      rw [eP, List.all_eq_not_any_not, Bool.not_not]
    rw [ea]
    cases b.s.all (fun p => strO b.P p.2) with
    | true => simp -implicitDefEqProofs (disch := omega) [wrap_id]
    | false => simp -implicitDefEqProofs (disch := omega) [wrap_id]
end Go.AM

set_option linter.unusedSimpArgs false
set_option linter.unusedVariables false
namespace Go.AM
open Go.RowKit Go.Proofs
abbrev rowC (r : List Int) : List AV := r.map fun n => I n
def bkF (l : List (Bool × List Int)) : List AV := l.flatMap fun p => rowC (pad (inv p.2))
theorem bkF_snoc {l : List (Bool × List Int)} {p : Bool × List Int} : bkF (l ++ [p]) = bkF l ++ rowC (pad (inv p.2)) := by simp [bkF]
abbrev DKc (g : Bool) (b : OB) : List AV := [I b.P, LLs g b.s, .sl b.s.isEmpty b.s.length (bkF b.s)]
abbrev DK (g : Bool) (b : OB) : AV := .ptr (DKc g b) 0
theorem ids_row {l : List Int} : (rowC l).flatMap AV.ids1 = [] := by
  rw [List.flatMap_eq_nil_iff]
  intro x hx
  obtain ⟨n, _, rfl⟩ := List.mem_map.1 hx
  rfl
theorem take_row {l : List Int} (h : l.length = 6) : List.take 6 (rowC l) = rowC l := List.take_of_length_le (by simp [h])
theorem row_pc {l : List Int} : ((rowC l).all AV.isPC) = true := by
  rw [List.all_eq_true]
  intro x hx
  obtain ⟨n, _, rfl⟩ := List.mem_map.1 hx
  rfl
theorem row_ci {l : List Int} : ((rowC l).all AV.isCell) = true := by
  rw [List.all_eq_true]
  intro x hx
  obtain ⟨n, _, rfl⟩ := List.mem_map.1 hx
  rfl
theorem row_pu {l : List Int} : ((rowC l).all AV.isPure) = true := by
  rw [List.all_eq_true]
  intro x hx
  obtain ⟨n, _, rfl⟩ := List.mem_map.1 hx
  rfl
theorem purify1_row {hp : Hp} {n : Int} : purify1 hp (I n) = some (I n, []) := rfl
theorem purifyL_row {hp : Hp} : ∀ {l : List Int}, purifyL hp (rowC l) = some (rowC l, [])
  | [] => rfl
  | x :: l => by
    have := purifyL_row (hp := hp) (l := l)
    simp only [List.map_cons, purifyL, purify1_row] at this ⊢
    rw [this]; rfl
theorem row_pur {hp : Hp} {l : List Int} : purify hp (.agg (rowC l)) = some (.agg (rowC l), []) := by
  simp only [purify, purifyL_row, Option.map_some]
theorem row_pur1 {hp : Hp} {l : List Int} : purifyAll hp [.agg (rowC l)] = some ([.agg (rowC l)], []) := by
  simp only [purifyAll, row_pur]; rfl
theorem zrow {l : List Int} (h : l.length = 6) : place (zrep 1 [I 0, I 0, I 0, I 0, I 0, I 0]) 6 ([0].zip [AV.agg (rowC l)]) = rowC l := by
  simp [place, zrep, splice, AV.cells, h]
def InvD (n : Nat) (s : List Int) (p : Nat) (M : List Int) : Prop := M.length = 6 ∧ (∀ q, q < p → M.getD (sg s q) 0 = (q : Int)) ∧ ∀ j, n ≤ j → M.getD j 0 = 0
theorem InvD.step {n : Nat} {s : List Int} (h : Pm n s) (h6 : n ≤ 6) {p : Nat} {M : List Int} (hM : InvD n s p M) (hp : p < n) : InvD n s (p + 1) (M.set (sg s p) (p : Int)) := by
  have hl := h.sg_lt hp
  refine ⟨by rw [List.length_set]; exact hM.1, fun q hq => ?_, fun j hj => ?_⟩
  · rw [getD_set (by rw [hM.1]; omega)]
    by_cases e : sg s q = sg s p
    · rw [if_pos e, sg_inj h (by omega) hp e]
    · rw [if_neg e]
      refine hM.2.1 q ?_
      by_cases e2 : q = p
      · subst e2; exact absurd rfl e
      · omega
  · rw [getD_set (by rw [hM.1]; omega), if_neg (by omega)]
    exact hM.2.2 j hj
theorem InvD.fin {n : Nat} {s : List Int} (h : Pm n s) (h6 : n ≤ 6) {M : List Int} (hM : InvD n s n M) : M = pad (inv s) := by
  have li : (inv s).length = n := by rw [inv_len, h.len]
  refine ext_getD (by rw [hM.1, pad_len (by omega)]) fun k hk => ?_
  by_cases hkn : k < n
  · have h1 := (inv_pm h).sg_lt hkn
    have h2 := hM.2.1 _ h1
    rw [h.sg_inv' hkn] at h2
    have hl : k < (inv s).length := by omega
    rw [h2, pad_getD hl, getD_I hl]
    have := (inv_pm h).rng _ (List.getElem_mem hl)
    rw [sg_at hl]
    omega
  · rw [hM.2.2 k (by omega), pad_getD' (by omega)]
set_option maxHeartbeats 4000000 in
theorem o_newDesk_ok (g : Bool) {b : OB} {n : Nat} (hb : Okb b n) : PureOK Try.prog n_o_newDesk [On g b] (DK g b) := by
  have h6 := hb.hi
  have hm := hb.many
  refine pure_of (callW_frzC (walk func_o_newDesk form_o_newDesk res_o_newDesk (by show 1 ≤ _; decide) ?_))
  simp -implicitDefEqProofs (disch := omega) [G_o_newDesk, wrap_id]
  refine loop_eq (fun q : Nat × AV × List HObj => ⟨[(3, .ref 1 0), (13, LLs g b.s), (14, I b.s.length), (15, I (q.1 : Int))], q.2.2⟩)
    (fun q => q.1 ≤ b.s.length ∧ 2 ≤ q.2.2.length ∧ nthH q.2.2 1 = some (.cells [I b.P, LLs g b.s, q.2.1]) ∧ AccG q.2.2 q.2.1 6 q.1 (bkF (b.s.take q.1)) ∧ ∀ i, rid q.2.1 = some i → 2 ≤ i) (fun q => b.s.length - q.1)
    (0, .sl true 0 [], [.cells [I b.P, LLs g b.s], .cells [I b.P, LLs g b.s, .sl true 0 []]]) ⟨Nat.zero_le _, by simp, rfl, AccG.nil, fun i h => by cases h⟩ rfl ?_
  rintro ⟨i, y, H⟩ ⟨c1, c0, c2, c3, c4⟩
  simp only at c1 c0 c2 c3 c4 ⊢
  refine hideK' fun K0 hK0 => ?_
  simp -implicitDefEqProofs (disch := omega) [wrap_id]
  refine c_split (fun h => ?_) (fun h => ?_)
  · have hi : i < b.s.length := by simpa using h
    have ix : ((i : Int) + 1) = ((i + 1 : Nat) : Int) := by omega
    have pm := hb.at hi
    have lm := pm.len
    simp -implicitDefEqProofs (disch := omega) [wrap_id, hi, cells_lls]
    have in0 : InvD n b.s[i].2 0 [0, 0, 0, 0, 0, 0] := ⟨rfl, fun q h => by omega, fun j hj => by
      rcases j with _ | _ | _ | _ | _ | _ | j <;> rfl⟩
    have zc : ([I 0, I 0, I 0, I 0, I 0, I 0] : List AV) = rowC [0, 0, 0, 0, 0, 0] := rfl
    have f1 : ∀ (M : List Int) j, j < H.length → nthH (H ++ [.cells (rowC M)]) j = nthH H j := fun M j hj => nthH_front hj
    have e1 : ∀ (M : List Int), nthH (H ++ [.cells (rowC M)]) H.length = some (.cells (rowC M)) := fun M => app_new.2.1
    refine loop_eq (fun q : Nat × List Int => ⟨[(3, .ref 1 0), (6, .ref H.length 0), (13, LLs g b.s), (14, I b.s.length), (15, I (i : Int)), (19, Ls b.s[i].1 b.s[i].2), (20, I b.s[i].2.length), (21, I (q.1 : Int))], H ++ [.cells (rowC q.2)]⟩) (fun q => q.1 ≤ n ∧ InvD n b.s[i].2 q.1 q.2) (fun q => n - q.1) (0, [0, 0, 0, 0, 0, 0]) ⟨Nat.zero_le _, in0⟩ rfl ?_
    rintro ⟨p, M⟩ ⟨d1, d2⟩
    simp only at d1 d2 ⊢
    refine hideK' fun K1 hK1 => ?_
    simp -implicitDefEqProofs (disch := omega) [wrap_id]
    refine c_split (fun h => ?_) (fun h => ?_)
    · have lp : p < b.s[i].2.length := by simpa using h
      have hp : p < n := by omega
      have px : ((p : Int) + 1) = ((p + 1 : Nat) : Int) := by omega
      have r1 := pm.rng _ (List.getElem_mem lp)
      have s1 := sg_at lp
      have v1 : b.s[i].2[p] = ((sg b.s[i].2 p : Nat) : Int) := by omega
      have st := d2.step pm h6 hp
      have sl := pm.sg_lt hp
      have kM : sg b.s[i].2 p < M.length := by rw [d2.1]; omega
      have g1 := e1 M
      generalize sg b.s[i].2 p = v at *
      have v6 : (v : Int) < 6 := by omega
      simp -implicitDefEqProofs (disch := omega) [wrap_id, lp, cells_ls, v1, v6, g1]
      rw [put_ls kM]
      refine ⟨by omega, ?_⟩
      rw [hK1]
      exact next_eq (p + 1, M.set v (p : Int)) ⟨by simp only; omega, st⟩ (by simp only; omega) (by simp only [px])
    · have hp : p = n := by simp at h; omega
      subst hp
      have eM := d2.fin pm h6
      subst eM
      subst hK1
      have pl : (pad (inv b.s[i].2)).length = 6 := d2.1
      have g3 := e1 (pad (inv b.s[i].2))
      have g2 := (f1 (pad (inv b.s[i].2)) 1 (by omega)).trans c2
      have cH : AccG (H ++ [.cells (rowC (pad (inv b.s[i].2)))]) y 6 i (bkF (b.s.take i)) := c3.mono fun j hj => nthH_front (c3.lt hj)
      have lH : (H ++ [HObj.cells (rowC (pad (inv b.s[i].2)))]).length = H.length + 1 := by simp
      generalize H ++ [HObj.cells (rowC (pad (inv b.s[i].2)))] = H2 at g3 g2 cH lH ⊢
      have vw : view (rowC (pad (inv b.s[i].2))) 0 6 = rowC (pad (inv b.s[i].2)) := by
        simp only [view, List.drop_zero]; exact List.take_of_length_le (by simp [pl])
      simp -implicitDefEqProofs (disch := omega) [wrap_id, g2, g3, pl]
      rw [take_row pl, ids_row]
      refine bsl_of (ys := [.agg (rowC (pad (inv b.s[i].2)))]) row_pur1 ?_ ?_
      · simp only [List.all_cons, List.all_nil, Bool.and_true]
        show ((rowC _).all _ && (rowC _).all _ && _) = true
        rw [row_ci, row_pu]
        simp [AV.cells, pl]
      rw [zrow pl]
      have ll := nthH_lt g2
      simp -implicitDefEqProofs (disch := omega) [wrap_id]
      refine app_accG (ys := rowC (pad (inv b.s[i].2))) cH (by omega) (by decide) (by simp [pl]) row_pc fun ws w1 w2 w3 => ?_
      have n1 : rid y ≠ some 1 := fun e => by have := c4 _ e; omega
      have r1 := (w1 1 (by omega) n1).trans g2
      have l3 := nthH_lt r1
      simp -implicitDefEqProofs (disch := omega) [wrap_id, r1, l3, cmp2, nthT]
      generalize writeL H2 ws = H3 at w2 w3 r1 l3 ⊢
      rw [hK0]
      refine next_eq (i + 1, .ms H2.length 0 (i + 1) 6, H3.set 1 (.cells [I b.P, LLs g b.s, .ms H2.length 0 (i + 1) 6])) ⟨by simp only; omega, by simp only [List.length_set]; omega, nthH_set_same l3, ?_, ?_⟩ (by simp only; omega) (by simp only [ix])
      · simp only
        rw [List.take_succ_eq_append_getElem hi, bkF_snoc]
        exact w3.mono fun j hj => nthH_set_ne (by simp only [rid] at hj; injection hj with hj; omega)
      · simp only [rid]; intro j hj; injection hj with hj; omega
  · have hi : i = b.s.length := by simp at h; omega
    subst hi
    subst hK0
    simp -implicitDefEqProofs (disch := omega) [wrap_id]
    rw [List.take_length] at c3
    obtain ⟨ids, hpu, hids⟩ := c3.pur
    have hp0 : purify1 (hpf H) y = some (.sl b.s.isEmpty b.s.length (bkF b.s), ids) := by
      rw [emp_len]
      rcases c3 with ⟨rfl, e1, e2⟩ | ⟨id, rfl, e1, e2, e3, e4⟩
      · exact hpu
      · exact hpu
    have hp1 : purifyL (hpf H) [I b.P, LLs g b.s, y] = some (DKc g b, ids) := by
      simp only [purifyL, hp0]
      simp [purify1, purify0]
    have n1 : 1 ∉ ids := fun h1 => by have := c4 1 (hids 1 h1).1; omega
    refine ⟨1, _, c2, DKc g b, ids, hp1, n1, ?_⟩
    refine out_of (is := [1]) ?_
    have hn : nthH (writeL H (gones ids ++ [(1, .cells (DKc g b))])) 1 = some (.cells (DKc g b)) := by
      rw [nthH_writeL (fun p hp => ?_), write_end, Hp.set_same]
      rw [List.mem_append] at hp
      rcases hp with hp | hp
      · simp only [gones, List.mem_map] at hp
        obtain ⟨i, hi, rfl⟩ := hp
        exact Nat.le_of_lt (hids i hi).2
      · simp at hp; subst hp; exact Nat.le_of_lt (nthH_lt c2)
    simp only [purify, purify1, purify0, hpf_nthH, hn]
    rfl
end Go.AM

set_option linter.unusedSimpArgs false
set_option linter.unusedVariables false
namespace Go.AM
open Go.RowKit Go.Proofs
def InvA (R : List Int) (i : Nat) (M : List Int) : Prop := M.length = 6 ∧ ∀ q, q < 6 → M.getD q 0 = if q < i then R.getD q 0 else 0
theorem InvA.step {R M : List Int} {i : Nat} (h : InvA R i M) (hi : i < 6) : InvA R (i + 1) (M.set i (R.getD i 0)) := by
  refine ⟨by rw [List.length_set]; exact h.1, fun q hq => ?_⟩
  rw [getD_set (by rw [h.1]; exact hi)]
  by_cases e : q = i
  · subst e; rw [if_pos rfl, if_pos (by omega)]
  · rw [if_neg e, h.2 q hq]
    by_cases e2 : q < i
    · rw [if_pos e2, if_pos (by omega)]
    · rw [if_neg e2, if_neg (by omega)]
theorem InvA.init {R : List Int} : InvA R 0 [0, 0, 0, 0, 0, 0] := ⟨rfl, fun q hq => by
  rcases q with _ | _ | _ | _ | _ | _ | q <;> first | rfl | omega⟩
theorem InvA.fin {R M : List Int} {i : Nat} (h : InvA R i M) (h6 : R.length ≤ 6) (hi : R.length = i) : M = pad R := by
  refine ext_getD (by rw [h.1, pad_len h6]) fun q hq => ?_
  rw [h.1] at hq
  rw [h.2 q hq]
  by_cases e : q < i
  · rw [if_pos e, pad_getD (by omega)]
  · rw [if_neg e, pad_getD' (by omega)]
theorem row_isCell {l : List Int} {y : AV} (h : y ∈ rowC l) : y.isCell = true := by
  obtain ⟨n, _, rfl⟩ := List.mem_map.1 h
  rfl
theorem view_row {l : List Int} (h : l.length = 6) : view (rowC l) 0 6 = rowC l := by
  simp only [view, List.drop_zero]; exact take_row h
set_option maxHeartbeats 2000000 in
theorem d_drawn_ok (g : Bool) {b : OB} {n : Nat} (hb : Okb b n) {x : List Int} (hx : x.length = n) {k : Nat} (hk : k < b.s.length) : PureOK Try.prog n_d_drawn [DK g b, .agg (rowC (pad x)), I (k : Int)] (.agg (rowC (pad (aft b.s[k].2 x)))) := by
  have h6 := hb.hi
  have pm := hb.at hk
  have lm := pm.len
  have pl : (pad x).length = 6 := pad_len (by omega)
  refine pure_of (callW_of func_d_drawn form_d_drawn resc_d_drawn (by show 3 ≤ _; decide) ?_)
  simp -implicitDefEqProofs (disch := omega) [G_d_drawn, wrap_id, pl, hk, cells_lls]
  refine loop_eq (fun q : Nat × List Int => ⟨[(4, .ref 0 0), (6, .ref 1 0), (7, .ref 2 0), (17, Ls b.s[k].1 b.s[k].2), (18, I b.s[k].2.length), (19, I (q.1 : Int))], [.cells (rowC (pad x)), .cells (rowC [0, 0, 0, 0, 0, 0]), .cells (rowC q.2)]⟩) (fun q => q.1 ≤ n ∧ InvA (aft b.s[k].2 x) q.1 q.2) (fun q => n - q.1) (0, [0, 0, 0, 0, 0, 0]) ⟨Nat.zero_le _, .init⟩ rfl ?_
  rintro ⟨i, M⟩ ⟨c1, c2⟩
  simp only at c1 c2 ⊢
  refine hideK' fun K0 hK0 => ?_
  simp -implicitDefEqProofs (disch := omega) [wrap_id]
  refine c_split (fun h => ?_) (fun h => ?_)
  · have li : i < b.s[k].2.length := by simpa using h
    have hi : i < n := by omega
    have i6 : (i : Int) < 6 := by omega
    have ix : ((i : Int) + 1) = ((i + 1 : Nat) : Int) := by omega
    have r1 := pm.rng _ (List.getElem_mem li)
    obtain ⟨v, hv⟩ : ∃ v : Nat, b.s[k].2[i] = v := ⟨b.s[k].2[i].toNat, by omega⟩
    have v6 : (v : Int) < 6 := by omega
    have vx : v < (pad x).length := by omega
    have vp : v < 6 := by omega
    have st := c2.step (show i < 6 by omega)
    rw [aft_getD li, hv, Int.toNat_natCast, ← pad_getD (by omega), getD_I vx] at st
    have iM : i < M.length := by rw [c2.1]; omega
    have nx : nthA (rowC (pad x)) v = some (I (pad x)[v]) := by rw [nthA_eq]; simp [vx]
    simp -implicitDefEqProofs (disch := omega) [wrap_id, li, cells_ls, hv, v6, i6, nx]
    refine ⟨by omega, ?_⟩
    rw [put_ls iM, hK0]
    exact next_eq (i + 1, M.set i (pad x)[v]) ⟨by simp only; omega, st⟩ (by simp only; omega) (by simp only [ix]; rfl)
  · have hi : i = n := by simp at h; omega
    subst hi
    have eM := c2.fin (by rw [aft_len]; omega) (by rw [aft_len]; exact lm)
    subst eM
    have pl2 : (pad (aft b.s[k].2 x)).length = 6 := c2.1
    subst hK0
    simp -implicitDefEqProofs (disch := omega) [wrap_id, pl2]
    rw [take_row pl2]
    refine ⟨fun y hy => row_isCell hy, retC_agg rfl rfl (by simp [pl2]) ?_⟩
    rw [view_row pl2]
    exact out_of row_pur
theorem bkF_at : ∀ {l : List (Bool × List Int)} {k i : Nat} (hk : k < l.length), (∀ p ∈ l, (pad (inv p.2)).length = 6) → i < 6 → nthA (bkF l) (k * 6 + i) = some (I ((pad (inv l[k].2)).getD i 0))
  | p :: l, 0, i, _, h6, hi => by
    have hp := h6 p (by simp)
    rw [nthA_eq]
    show ((rowC (pad (inv p.2)) ++ bkF l)[0 * 6 + i]?) = _
    rw [List.getElem?_append_left (by simp [hp]; omega), Nat.zero_mul, Nat.zero_add]
    simp only [List.getElem_cons_zero]
    have h2 : i < (pad (inv p.2)).length := by omega
    rw [getD_I h2]
    simp [h2]
  | p :: l, k + 1, i, hk, h6, hi => by
    have hp := h6 p (by simp)
    have ih := bkF_at (l := l) (k := k) (i := i) (by simpa using hk) (fun q hq => h6 q (by simp [hq])) hi
    rw [nthA_eq] at ih ⊢
    show ((rowC (pad (inv p.2)) ++ bkF l)[(k + 1) * 6 + i]?) = _
    rw [List.getElem?_append_right (by simp [hp]; omega)]
    have : (k + 1) * 6 + i - (rowC (pad (inv p.2))).length = k * 6 + i := by simp [hp]; omega
    rw [this, ih]
    rfl
theorem bkF_len {l : List (Bool × List Int)} (h6 : ∀ p ∈ l, (pad (inv p.2)).length = 6) : (bkF l).length = l.length * 6 := by
  induction l with
  | nil => rfl
  | cons p l ih =>
    have hp := h6 p (by simp)
    show (rowC (pad (inv p.2)) ++ bkF l).length = _
    rw [List.length_append, ih (fun q hq => h6 q (by simp [hq]))]
    simp [hp]; omega
theorem Okb.pads {b : OB} {n : Nat} (hb : Okb b n) : ∀ p ∈ b.s, (pad (inv p.2)).length = 6 := fun p hp => pad_len (by
  have := hb.hi
  have := (hb.pm p hp).len
  rw [inv_len]; omega)
set_option maxHeartbeats 2000000 in
theorem d_undone_ok (g : Bool) {b : OB} {n : Nat} (hb : Okb b n) {x : List Int} (hx : x.length = n) {k : Nat} (hk : k < b.s.length) : PureOK Try.prog n_d_undone [DK g b, .agg (rowC (pad x)), I (k : Int)] (.agg (rowC (pad (aft (inv b.s[k].2) x)))) := by
  have h6 := hb.hi
  have hP := hb.P
  have pm := inv_pm (hb.at hk)
  have lm := pm.len
  have pl : (pad x).length = 6 := pad_len (by omega)
  have bl := bkF_len hb.pads
  refine pure_of (callW_of func_d_undone form_d_undone resc_d_undone (by show 3 ≤ _; decide) ?_)
  simp -implicitDefEqProofs (disch := omega) [G_d_undone, wrap_id, pl, hP]
  refine loop_eq (fun q : Nat × List Int => ⟨[(0, DK g b), (2, I (k : Int)), (4, .ref 0 0), (6, .ref 1 0), (7, .ref 2 0), (13, I (n : Int)), (14, I (q.1 : Int))], [.cells (rowC (pad x)), .cells (rowC [0, 0, 0, 0, 0, 0]), .cells (rowC q.2)]⟩) (fun q => q.1 ≤ n ∧ InvA (aft (inv b.s[k].2) x) q.1 q.2) (fun q => n - q.1) (0, [0, 0, 0, 0, 0, 0]) ⟨Nat.zero_le _, .init⟩ (by simp only [DK, DKc, hP]; rfl) ?_
  rintro ⟨i, M⟩ ⟨c1, c2⟩
  simp only at c1 c2 ⊢
  refine hideK' fun K0 hK0 => ?_
  simp -implicitDefEqProofs (disch := omega) [wrap_id]
  refine c_split (fun h => ?_) (fun h => ?_)
  · have hi : i < n := by simpa using h
    have li : i < (inv b.s[k].2).length := by omega
    have i6 : (i : Int) < 6 := by omega
    have ix : ((i : Int) + 1) = ((i + 1 : Nat) : Int) := by omega
    have r1 := pm.rng _ (List.getElem_mem li)
    obtain ⟨v, hv⟩ : ∃ v : Nat, (inv b.s[k].2)[i] = v := ⟨(inv b.s[k].2)[i].toNat, by omega⟩
    have v6 : (v : Int) < 6 := by omega
    have vx : v < (pad x).length := by omega
    have vp : v < 6 := by omega
    have st := c2.step (show i < 6 by omega)
    rw [aft_getD li, hv, Int.toNat_natCast, ← pad_getD (by omega), getD_I vx] at st
    have iM : i < M.length := by rw [c2.1]; omega
    have nx : nthA (rowC (pad x)) v = some (I (pad x)[v]) := by rw [nthA_eq]; simp [vx]
    have bk := bkF_at hk hb.pads (show i < 6 by omega)
    rw [pad_getD li, getD_I li, hv] at bk
    simp -implicitDefEqProofs (disch := omega) [wrap_id, hk, bl, bk, v6, i6, nx]
    refine ⟨by omega, ?_⟩
    rw [put_ls iM, hK0]
    exact next_eq (i + 1, M.set i (pad x)[v]) ⟨by simp only; omega, st⟩ (by simp only; omega) (by simp only [ix]; rfl)
  · have hi : i = n := by simp at h; omega
    subst hi
    have eM := c2.fin (by rw [aft_len]; omega) (by rw [aft_len]; exact lm)
    subst eM
    have pl2 : (pad (aft (inv b.s[k].2) x)).length = 6 := c2.1
    subst hK0
    simp -implicitDefEqProofs (disch := omega) [wrap_id, pl2]
    rw [take_row pl2]
    refine ⟨fun y hy => row_isCell hy, retC_agg rfl rfl (by simp [pl2]) ?_⟩
    rw [view_row pl2]
    exact out_of row_pur
end Go.AM

set_option linter.unusedSimpArgs false
set_option linter.unusedVariables false
namespace Go.AM
open Go.RowKit Go.Proofs
set_option maxHeartbeats 2000000 in
theorem o_rowOf_ok (f : Bool) {l : List Int} (hl : l.length ≤ 6) : PureOK Try.prog n_o_rowOf [Ls f l] (.agg (rowC (pad l))) := by
  refine pure_of (callW_of func_o_rowOf form_o_rowOf resc_o_rowOf (by show 1 ≤ _; decide) ?_)
  have pl : (pad l).length = 6 := pad_len hl
  simp -implicitDefEqProofs (disch := omega) [G_o_rowOf, wrap_id]
  refine slp_of (id := 1) (off := 0) rfl rfl (by simp) ?_
  simp -implicitDefEqProofs (disch := omega) [wrap_id]
  refine clr_of (id := 1) (off := 0) (n := 6) (c := 6) rfl rfl (by simp) ?_
  simp -implicitDefEqProofs (disch := omega) [wrap_id, zrep]
  refine slp_of (id := 1) (off := 0) rfl rfl (by simp) ?_
  simp -implicitDefEqProofs (disch := omega) [wrap_id]
  have mn : Nat.min l.length 6 = l.length := Nat.min_eq_left hl
  refine cpy_mc_of (id := 1) (off := 0) (n := 6) (c := 6) (m := l.length) (ys := rowC l) rfl rfl (by simp) (elems_slv (by simp)) ?_ ?_
  · rw [mn, Nat.mul_one, List.take_of_length_le (by simp)]; exact row_pc
  rw [mn, Nat.mul_one, List.take_of_length_le (by simp)]
  have e : splice [I 0, I 0, I 0, I 0, I 0, I 0] 0 (rowC l) = rowC (pad l) := by
    unfold splice pad
    simp only [List.take_zero, List.nil_append, List.length_map, Nat.zero_add, List.map_append, List.map_replicate]
    congr 1
    show (List.replicate 6 (I 0)).drop l.length = _
    rw [List.drop_replicate]
  rw [e]
  simp -implicitDefEqProofs (disch := omega) [wrap_id, pl]
  rw [take_row pl]
  refine ⟨fun y hy => row_isCell hy, retC_agg rfl rfl (by simp [pl]) ?_⟩
  rw [view_row pl]
  exact out_of row_pur
set_option maxHeartbeats 2000000 in
theorem d_list_ok (g : Bool) {b : OB} {n : Nat} (hb : Okb b n) {x : List Int} (hx : x.length = n) : PureOK Try.prog n_d_list [DK g b, .agg (rowC (pad x))] (Ls false x) := by
  have h6 := hb.hi
  have hP := hb.P
  have pl : (pad x).length = 6 := pad_len (by omega)
  refine pure_of (walk func_d_list form_d_list res_d_list (by show 2 ≤ _; decide) ?_)
  simp -implicitDefEqProofs (disch := omega) [G_d_list, wrap_id, pl, hP]
  refine ⟨n, rfl, rfl, by omega, by omega, rfl, ?_⟩
  rw [zrep_ls]
  have lz : (List.replicate n (0 : Int)).length = n := by simp
  generalize List.replicate n (0 : Int) = Z at lz ⊢
  simp -implicitDefEqProofs (disch := omega) [wrap_id]
  refine slp_of (id := 0) (off := 0) rfl rfl (by simp [pl]) ?_
  simp -implicitDefEqProofs (disch := omega) [wrap_id]
  have mn : Nat.min 6 n = n := Nat.min_eq_right h6
  refine cpy_ms_of (id := 1) (off := 0) (n := n) (m := 6) (ys := view (rowC (pad x)) 0 (6 * 1)) rfl rfl (by simp [lz]) (elems_mcv rfl (by simp [pl])) ?_ ?_
  · rw [view_row pl, mn, Nat.mul_one]
    rw [List.all_eq_true]
    intro y hy
    exact (List.all_eq_true.1 row_pc) y (List.mem_of_mem_take hy)
  rw [view_row pl, mn, Nat.mul_one]
  have e : splice (List.map (fun n => I n) Z) 0 (List.take n (rowC (pad x))) = rowC x := by
    unfold splice
    have t : List.take n (rowC (pad x)) = rowC x := by
      unfold pad rowC
      rw [List.map_append, List.take_left' (by simp [hx])]
    rw [t]
    simp only [List.take_zero, List.nil_append, List.length_map, Nat.zero_add]
    rw [List.drop_eq_nil_of_le (by simp; omega), List.append_nil]
  rw [e]
  simp -implicitDefEqProofs (disch := omega) [wrap_id]
  exact out_ls rfl hx.symm
set_option maxHeartbeats 1000000 in
theorem d_places_ok (g : Bool) {b : OB} {n : Nat} (hb : Okb b n) : PureOK Try.prog n_d_places [DK g b] (Ls (plcL n).isEmpty (plcL n)) := by
  have h6 := hb.hi
  have hP := hb.P
  refine pure_of (walk func_d_places form_d_places res_d_places (by show 1 ≤ _; decide) ?_)
  simp -implicitDefEqProofs (disch := omega) [G_d_places, wrap_id, hP]
  refine loop_eq (fun q : Nat × AV × List HObj => ⟨[(3, q.2.1), (9, I (n : Int)), (10, I (q.1 : Int))], q.2.2⟩) (fun q => q.1 ≤ n ∧ AccR q.2.2 q.2.1 (plcL q.1)) (fun q => n - q.1) (0, .sl true 0 [], []) ⟨Nat.zero_le _, .inl ⟨rfl, rfl⟩⟩ rfl ?_
  rintro ⟨i, x, H⟩ ⟨c1, c2⟩
  simp only at c1 c2 ⊢
  refine hideK' fun K0 hK0 => ?_
  simp -implicitDefEqProofs (disch := omega) [wrap_id]
  refine c_split (fun h => ?_) (fun h => ?_)
  · have hir : i < n := by simpa using h
    have ix : ((i : Int) + 1) = ((i + 1 : Nat) : Int) := by omega
    have tk : plcL (i + 1) = plcL i ++ [(i : Int)] := by simp [plcL, List.range_succ]
    have tl := plcL_len (n := i)
    simp -implicitDefEqProofs (disch := omega) [wrap_id]
    refine bsl_of (ys := [I (i : Int)]) rfl rfl ?_
    simp -implicitDefEqProofs (disch := omega) [wrap_id, zrep]
    refine app_row c2.row (by omega) fun ws w1 w2 w3 => ?_
    simp -implicitDefEqProofs (disch := omega) [wrap_id]
    rw [hK0]
    refine next_eq (i + 1, .ms H.length 0 (i + 1) 1, writeL H ws) ⟨by simp only; omega, .inr ⟨H.length, ?_, ?_, ?_⟩⟩ (by simp only; omega) (by simp only [ix, tl])
    · rw [plcL_len]
    · simp only [tk]; simp
    · simp only [tk]; exact w3
  · have hir : i = n := by simp at h; omega
    subst hir
    subst hK0
    simp -implicitDefEqProofs (disch := omega) [wrap_id]
    exact out_acc c2
theorem rowO_in {b : OB} {l : List Int} : rowO b l = (decide ((l.length : Int) = b.P) && allIn 0 5 l) := rfl
set_option maxHeartbeats 1000000 in
theorem d_isRow_ok (g f : Bool) {b : OB} (l : List Int) (hl : l.length ≤ 1000000) : PureOK Try.prog n_d_isRow [DK g b, Ls f l] (B (rowO b l)) := by
  refine pure_of (walk func_d_isRow form_d_isRow res_d_isRow (by show 2 ≤ _; decide) ?_)
  rw [rowO_in]
  by_cases h : (l.length : Int) = b.P
  · have h' : ((l.length : Int) == b.P) = true := by simpa using h
    simp -implicitDefEqProofs (disch := omega) [G_d_isRow, wrap_id, h']
    refine callW_pure rfl (o_within_ok 0 5 f l hl) ?_
    simp -implicitDefEqProofs (disch := omega) [wrap_id, h]
  · have h' : ((l.length : Int) == b.P) = false := by simpa using h
    simp -implicitDefEqProofs (disch := omega) [G_d_isRow, wrap_id, h', h]
theorem o_open1_w {g f : Bool} {b : OB} {l : List Int} (hl : l.length ≤ 1000000) {hp : List HObj} {a : Nat} {K : AV → List HObj → Prop} (ha : nthH hp a = some (.cells [DK g b])) (hK : K (B (!rowO b l)) hp) : CallW Try.prog n_o_open_1 [Ls f l, .ref a 0] hp K := by
  refine walk func_o_open_1 form_o_open_1 res_o_open_1 (by show 2 ≤ _; decide) ?_
  simp -implicitDefEqProofs (disch := omega) [G_o_open_1, wrap_id, ha]
  refine callW_pure rfl (d_isRow_ok g f l hl) ?_
  simp -implicitDefEqProofs (disch := omega) [wrap_id]
  exact hK
structure Sz12 (b : OB) : Prop where
  many : b.s.length ≤ 1000000
  len : ∀ p ∈ b.s, p.2.length ≤ 12
def opnE (b : OB) (ls : List (Bool × List Int)) : Int := if chkO b ≠ 0 then chkO b else if ls.all (fun p => rowO b p.2) = true then 0 else 2
def opnV (g : Bool) (b : OB) (ls : List (Bool × List Int)) : AV := if opnE b ls = 0 then DK g b else .v (.pointer none)
set_option maxHeartbeats 1000000 in
theorem o_open_ok (g f : Bool) (b : OB) (hz : Sz12 b) (ls : List (Bool × List Int)) (hl : ls.length ≤ 1000000) (hlz : ∀ p ∈ ls, p.2.length ≤ 1000000) : PureOK Try.prog n_o_open [On g b, LLs f ls] (.tup [opnV g b ls, I (opnE b ls)]) := by
  refine pure_of (walk func_o_open form_o_open res_o_open (by show 2 ≤ _; decide) ?_)
  simp -implicitDefEqProofs (disch := omega) [G_o_open, wrap_id]
  refine callW_pure rfl (o_CheckBench_ok g b hz.many hz.len) ?_
  by_cases h0 : chkO b = 0
  · obtain ⟨n, hb⟩ := okb_of h0
    simp -implicitDefEqProofs (disch := omega) [wrap_id, h0]
    refine callW_pure rfl (o_newDesk_ok g hb) ?_
    simp -implicitDefEqProofs (disch := omega) [wrap_id]
    refine s_containsLL_w f ls hl (p := fun p => !rowO b p.2) (by kernel_rfl) (fun i hi KK h => o_open1_w (g := g) (hlz _ (List.getElem_mem hi)) rfl h) ?_
    have ea : ls.any (fun p => !rowO b p.2) = !ls.all (fun p => rowO b p.2) := by rw [List.all_eq_not_any_not, Bool.not_not]
    rw [ea]
    cases h1 : ls.all (fun p => rowO b p.2) with
    | true =>
      have e1 : opnE b ls = 0 := by unfold opnE; rw [if_neg (by omega), if_pos h1]
      have e2 : opnV g b ls = DK g b := by unfold opnV; rw [if_pos e1]
      rw [e1, e2]
      simp -implicitDefEqProofs (disch := omega) [wrap_id]
      exact out_of (is := []) rfl
    | false =>
      have e1 : opnE b ls = 2 := by unfold opnE; rw [if_neg (by omega), if_neg (by rw [h1]; decide)]
      have e2 : opnV g b ls = .v (.pointer none) := by unfold opnV; rw [if_neg (by omega)]
      rw [e1, e2]
      simp -implicitDefEqProofs (disch := omega) [wrap_id]
      exact out_of (is := []) rfl
  · have e1 : opnE b ls = chkO b := by unfold opnE; rw [if_pos h0]
    have e2 : opnV g b ls = .v (.pointer none) := by unfold opnV; rw [if_neg (by omega)]
    have h0' : (chkO b != 0) = true := by simpa using h0
    rw [e1, e2]
    simp -implicitDefEqProofs (disch := omega) [wrap_id, h0']
    exact out_of (is := []) rfl
end Go.AM

set_option linter.unusedSimpArgs false
set_option linter.unusedVariables false
namespace Go.AM
open Go.RowKit Go.Proofs
theorem allIn_ls {b : OB} {l : List Int} : allIn 0 (b.s.length - 1) l = l.all fun n => decide (0 ≤ n) && decide (n < b.s.length) := by
  unfold allIn
  congr 1
  funext x
  congr 1
  rw [decide_eq_decide]; omega
theorem lsdE_one {b : OB} {f : Bool} {l : List Int} : lsdE b [(f, l)] = lstO b l := by
  unfold lsdE lstO
  simp only [List.any_cons, List.any_nil, Bool.or_false, decide_eq_true_eq, allIn_ls]
  by_cases h : 720 < l.length
  · rw [if_pos h, if_pos h]
  · rw [if_neg h, if_neg h]
    cases l.all (fun n => decide (0 ≤ n) && decide (n < (b.s.length : Int))) <;> simp
theorem opnE_one {b : OB} {f : Bool} {r : List Int} : opnE b [(f, r)] = if chkO b ≠ 0 then chkO b else if rowO b r = true then 0 else 2 := by
  unfold opnE
  simp only [List.all_cons, List.all_nil, Bool.and_true]
theorem opnE_two {b : OB} {f g : Bool} {r x : List Int} : opnE b [(f, r), (g, x)] = rwsE b r x := by
  unfold opnE rwsE
  simp only [List.all_cons, List.all_nil, Bool.and_true]
  by_cases h : chkO b ≠ 0
  · rw [if_pos h, if_pos h]
  · rw [if_neg h, if_neg h]
    cases rowO b r <;> cases rowO b x <;> rfl
theorem Sz12.sz {b : OB} (h : Sz12 b) : SzO b := ⟨h.many, fun p hp => by have := h.len p hp; omega⟩
theorem dk_pur3 {hp : Hp} {g : Bool} {b : OB} {r : List Int} {k : Int} : purifyAll hp [DK g b, .agg (rowC r), I k] = some ([DK g b, .agg (rowC r), I k], []) := by
  simp only [purifyAll, row_pur]; rfl
theorem dk_pur2 {hp : Hp} {g : Bool} {b : OB} {r : List Int} : purifyAll hp [DK g b, .agg (rowC r)] = some ([DK g b, .agg (rowC r)], []) := by
  simp only [purifyAll, row_pur]; rfl
set_option maxHeartbeats 2000000 in
theorem o_Draw_ok (g f h : Bool) (b : OB) (hz : Sz12 b) (r l : List Int) (hr : r.length ≤ 1000000) (hl : l.length ≤ 1000000) : PureOK Try.prog n_o_Draw [On g b, Ls f r, Ls h l] (.tup [Ls (drwL b r l).isEmpty (drwL b r l), I (drwE b r l)]) := by
  refine pure_of (walk func_o_Draw form_o_Draw res_o_Draw (by show 3 ≤ _; decide) ?_)
  simp -implicitDefEqProofs (disch := omega) [G_o_Draw, wrap_id]
  refine bsl_of (ys := [Ls f r]) rfl rfl ?_
  simp -implicitDefEqProofs (disch := omega) [wrap_id, zrep]
  refine callW_pure (ys := [On g b, LLs true [(f, r)]]) (ids := []) rfl (o_open_ok g true b hz [(f, r)] (by simp) (by simpa using hr)) ?_
  have eo := opnE_one (b := b) (f := f) (r := r)
  by_cases h0 : opnE b [(f, r)] = 0
  · have eV : opnV g b [(f, r)] = DK g b := by unfold opnV; rw [if_pos h0]
    have c0 : chkO b = 0 := by
      by_cases hc : chkO b = 0
      · exact hc
      · rw [if_pos hc] at eo; omega
    have o1 : rowO b r = true := by
      rw [if_neg (by omega)] at eo
      cases hr : rowO b r with
      | true => rfl
      | false => rw [hr, if_neg (by decide)] at eo; omega
    obtain ⟨n, hb⟩ := okb_of c0
    have h6 := hb.hi
    have lr := rowO_len hb o1
    rw [eV, h0]
    simp -implicitDefEqProofs (disch := omega) [wrap_id]
    refine bsl_of (ys := [Ls h l]) rfl rfl ?_
    simp -implicitDefEqProofs (disch := omega) [wrap_id, zrep]
    refine callW_pure (ys := [On g b, LLs true [(h, l)]]) (ids := []) rfl (o_listed_ok g true b hz.many [(h, l)] (by simp) (by simpa using hl)) ?_
    rw [lsdE_one]
    by_cases h2 : lstO b l = 0
    · obtain ⟨q1, q2⟩ := lstO_ok h2
      have e1 : drwE b r l = 0 := by unfold drwE; rw [if_neg (by omega), o1, h2]; rfl
      have e2 : drwL b r l = allI b l r := by unfold drwL; rw [if_pos e1]
      rw [e1, e2, ne_emp (allI_len hb q1 lr) (by have := hb.lo; omega)]
      have pl : (pad r).length = 6 := pad_len (by omega)
      simp -implicitDefEqProofs (disch := omega) [wrap_id, h2]
      refine callW_pure rfl (o_rowOf_ok f (by omega)) ?_
      simp -implicitDefEqProofs (disch := omega) [wrap_id, pl]
      refine loop_eq (fun q : Nat × List Int => ⟨[(8, DK g b), (11, .ref 1 0), (33, Ls h l), (34, I l.length), (35, I (q.1 : Int))], [.cells [I b.P, LLs g b.s], .cells (rowC (pad q.2))]⟩) (fun q => q.1 ≤ l.length ∧ q.2 = allI b (l.take q.1) r) (fun q => l.length - q.1) (0, r) ⟨Nat.zero_le _, rfl⟩ rfl ?_
      rintro ⟨i, cur⟩ ⟨c1, c2⟩
      simp only at c1 c2 ⊢
      have cl : cur.length = n := by rw [c2]; exact allI_len hb (fun s hs => q1 s (List.mem_of_mem_take hs)) lr
      have pc : (pad cur).length = 6 := pad_len (by omega)
      have t6 := take_row pc
      refine hideK' fun K0 hK0 => ?_
      simp -implicitDefEqProofs (disch := omega) [wrap_id]
      refine c_split (fun hc => ?_) (fun hc => ?_)
      · have hi : i < l.length := by simpa using hc
        have ix : ((i : Int) + 1) = ((i + 1 : Nat) : Int) := by omega
        obtain ⟨b1, b2⟩ := q1 l[i] (List.getElem_mem hi)
        obtain ⟨k, hk⟩ : ∃ k : Nat, l[i] = k := ⟨l[i].toNat, by omega⟩
        have hks : k < b.s.length := by omega
        have pk := hb.at hks
        have sn := allI_snoc (b := b) (r := r) hi
        rw [hk, Int.toNat_natCast, S_getD hks, ← c2] at sn
        have pn : (pad (aft b.s[k].2 cur)).length = 6 := pad_len (by rw [aft_len, pk.len]; omega)
        have tn := take_row pn
        simp -implicitDefEqProofs (disch := omega) [wrap_id, hi, hk, cells_ls, pc, t6]
        refine callW_pure dk_pur3 (d_drawn_ok g hb cl hks) ?_
        have d6 : List.drop 6 (rowC (pad cur)) = [] := List.drop_eq_nil_of_le (by simp [pc])
        simp -implicitDefEqProofs (disch := omega) [wrap_id, pc, pn, d6]
        rw [hK0]
        exact next_eq (i + 1, aft b.s[k].2 cur) ⟨by simp only; omega, sn.symm⟩ (by simp only; omega) (by simp only [ix])
      · have hi : i = l.length := by simp at hc; omega
        subst hi
        rw [List.take_length] at c2
        subst hK0
        simp -implicitDefEqProofs (disch := omega) [wrap_id, pc, t6]
        refine callW_pure dk_pur2 (d_list_ok g hb cl) ?_
        simp -implicitDefEqProofs (disch := omega) [wrap_id]
        rw [← c2]
        exact tup_ls
    · have e1 : drwE b r l = lstO b l := by unfold drwE; rw [if_neg (by omega), o1]; rfl
      have e2 : drwL b r l = [] := by unfold drwL; rw [if_neg (by rw [e1]; exact h2)]
      have h2' : (lstO b l != 0) = true := by simpa using h2
      simp -implicitDefEqProofs (disch := omega) [wrap_id, h2', e1, e2]
      exact tup_ls (l := [])
  · have e1 : drwE b r l = opnE b [(f, r)] := by
      rw [eo] at h0 ⊢
      unfold drwE
      by_cases hc : chkO b ≠ 0
      · rw [if_pos hc, if_pos hc]
      · rw [if_neg hc] at h0
        rw [if_neg hc, if_neg hc]
        cases hr : rowO b r with
        | true => rw [hr] at h0; simp at h0
        | false => rfl
    have e2 : drwL b r l = [] := by unfold drwL; rw [if_neg (by rw [e1]; exact h0)]
    have h0' : (opnE b [(f, r)] != 0) = true := by simpa using h0
    simp -implicitDefEqProofs (disch := omega) [wrap_id, h0', e1, e2]
    exact tup_ls (l := [])
theorem rowO_plc {b : OB} {n : Nat} (hb : Okb b n) : rowO b (plcL n) = true := by
  have hP := hb.P
  have h6 := hb.hi
  unfold rowO
  simp only [Bool.and_eq_true, decide_eq_true_eq, List.all_eq_true, plcL_len]
  refine ⟨hP.symm, fun x hx => ?_⟩
  have := plc_mem.1 hx
  omega
set_option maxHeartbeats 2000000 in
theorem o_Joint_ok (g h : Bool) (b : OB) (hz : Sz12 b) (l : List Int) (hl : l.length ≤ 1000000) : PureOK Try.prog n_o_Joint [On g b, Ls h l] (.tup [Ls (jntL b l).isEmpty (jntL b l), I (jntE b l)]) := by
  refine pure_of (walk func_o_Joint form_o_Joint res_o_Joint (by show 2 ≤ _; decide) ?_)
  simp -implicitDefEqProofs (disch := omega) [G_o_Joint, wrap_id]
  refine callW_pure rfl (o_CheckBench_ok g b hz.many hz.len) ?_
  by_cases h0 : chkO b = 0
  · obtain ⟨n, hb⟩ := okb_of h0
    have eP : b.P.toNat = n := by have := hb.P; omega
    have h6 := hb.hi
    simp -implicitDefEqProofs (disch := omega) [wrap_id, h0]
    refine pureW_of rfl (o_newDesk_ok g hb) ?_
    simp -implicitDefEqProofs (disch := omega) [wrap_id]
    refine pureW_of rfl (d_places_ok g hb) ?_
    simp -implicitDefEqProofs (disch := omega) [wrap_id]
    refine pureW_of rfl (o_Draw_ok g (plcL n).isEmpty h b hz (plcL n) l (by rw [plcL_len]; omega) hl) ?_
    have e1 : drwE b (plcL n) l = jntE b l := by
      unfold drwE jntE
      rw [if_neg (by omega), if_neg (by rw [rowO_plc hb]; decide), if_neg (by omega)]
    have e2 : drwL b (plcL n) l = jntL b l := by
      unfold drwL jntL
      rw [e1, eP]
    rw [e1, e2]
    simp -implicitDefEqProofs (disch := omega) [wrap_id, cmp2, nthT]
    exact tup_ls
  · have e1 : jntE b l = chkO b := by unfold jntE; rw [if_pos h0]
    have e2 : jntL b l = [] := by unfold jntL; rw [if_neg (by rw [e1]; exact h0)]
    have h0' : (chkO b != 0) = true := by simpa using h0
    simp -implicitDefEqProofs (disch := omega) [wrap_id, h0', e1, e2]
    exact tup_ls (l := [])
theorem lsdE_two {b : OB} {f g : Bool} {l m : List Int} : lsdE b [(f, l), (g, m)] = if 720 < l.length ∨ 720 < m.length then 6 else if lstO b l ≠ 0 ∨ lstO b m ≠ 0 then 3 else 0 := by
  unfold lsdE lstO
  simp only [List.any_cons, List.any_nil, Bool.or_false, Bool.or_eq_true, decide_eq_true_eq, allIn_ls]
  by_cases h : 720 < l.length ∨ 720 < m.length
  · rw [if_pos h, if_pos h]
  · have n1 : ¬ 720 < l.length := by omega
    have n2 : ¬ 720 < m.length := by omega
    rw [if_neg h, if_neg h]
    simp only [if_neg n1, if_neg n2]
    cases l.all (fun n => decide (0 ≤ n) && decide (n < (b.s.length : Int))) <;> cases m.all (fun n => decide (0 ≤ n) && decide (n < (b.s.length : Int))) <;> simp
set_option maxHeartbeats 2000000 in
theorem o_Same_ok (g h k : Bool) (b : OB) (hz : Sz12 b) (l m : List Int) (hl : l.length ≤ 1000000) (hm : m.length ≤ 1000000) : PureOK Try.prog n_o_Same [On g b, Ls h l, Ls k m] (I (smeE b l m)) := by
  refine pure_of (walk func_o_Same form_o_Same res_o_Same (by show 3 ≤ _; decide) ?_)
  simp -implicitDefEqProofs (disch := omega) [G_o_Same, wrap_id]
  refine callW_pure rfl (o_CheckBench_ok g b hz.many hz.len) ?_
  by_cases h0 : chkO b = 0
  · obtain ⟨n, hb⟩ := okb_of h0
    have eP : b.P.toNat = n := by have := hb.P; omega
    have h6 := hb.hi
    simp -implicitDefEqProofs (disch := omega) [wrap_id, h0]
    refine bsl_of (ys := [Ls h l, Ls k m]) rfl rfl ?_
    simp -implicitDefEqProofs (disch := omega) [wrap_id, zrep]
    refine callW_pure (ys := [On g b, LLs true [(h, l), (k, m)]]) (ids := []) rfl (o_listed_ok g true b hz.many [(h, l), (k, m)] (by simp) (by simp; omega)) ?_
    rw [lsdE_two]
    by_cases h1 : 720 < l.length ∨ 720 < m.length
    · have e : smeE b l m = 6 := by unfold smeE; rw [if_neg (by omega), if_pos h1]
      rw [if_pos h1]
      simp -implicitDefEqProofs (disch := omega) [wrap_id, e]
    by_cases h2 : lstO b l ≠ 0 ∨ lstO b m ≠ 0
    · have e : smeE b l m = 3 := by unfold smeE; rw [if_neg (by omega), if_neg h1, if_pos h2]
      rw [if_neg h1, if_pos h2]
      simp -implicitDefEqProofs (disch := omega) [wrap_id, e]
    rw [if_neg h1, if_neg h2]
    have q1 := lstO_ok (b := b) (l := l) (by omega)
    have q2 := lstO_ok (b := b) (l := m) (by omega)
    have j1 : jntE b l = 0 := by unfold jntE; rw [if_neg (by omega)]; omega
    have j2 : jntE b m = 0 := by unfold jntE; rw [if_neg (by omega)]; omega
    have k1 : jntL b l = allI b l (plcL n) := by unfold jntL; rw [if_pos j1, eP]
    have k2 : jntL b m = allI b m (plcL n) := by unfold jntL; rw [if_pos j2, eP]
    have a1 := allI_len hb q1.1 (r := plcL n) plcL_len
    have a2 := allI_len hb q2.1 (r := plcL n) plcL_len
    simp -implicitDefEqProofs (disch := omega) [wrap_id]
    refine callW_pure rfl (o_Joint_ok g h b hz l hl) ?_
    rw [k1]
    simp -implicitDefEqProofs (disch := omega) [wrap_id]
    refine callW_pure rfl (o_Joint_ok g k b hz m hm) ?_
    rw [k2]
    simp -implicitDefEqProofs (disch := omega) [wrap_id]
    refine callW_pure rfl (s_Equal_ok _ _ (allI b l (plcL n)) (allI b m (plcL n)) (by omega) (by omega)) ?_
    by_cases h5 : allI b l (plcL n) = allI b m (plcL n)
    · have e : smeE b l m = 0 := by unfold smeE; rw [if_neg (by omega), if_neg h1, if_neg h2, eP, if_pos h5]
      simp -implicitDefEqProofs (disch := omega) [wrap_id, h5, e]
    · have e : smeE b l m = 18 := by unfold smeE; rw [if_neg (by omega), if_neg h1, if_neg h2, eP, if_neg h5]
      simp -implicitDefEqProofs (disch := omega) [wrap_id, h5, e]
  · have e1 : smeE b l m = chkO b := by unfold smeE; rw [if_pos h0]
    have h0' : (chkO b != 0) = true := by simpa using h0
    simp -implicitDefEqProofs (disch := omega) [wrap_id, h0', e1]
end Go.AM

set_option linter.unusedSimpArgs false
set_option linter.unusedVariables false
namespace Go.AM
open Go.RowKit Go.Proofs
theorem cyc_bound {j : List Int} {n : Nat} (pm : Pm n j) {a : Int} (ha : 0 ≤ a ∧ a < n) : 0 ≤ j.getD a.toNat 0 ∧ j.getD a.toNat 0 < n := by
  have hl : a.toNat < j.length := by rw [pm.len]; omega
  rw [getD_I hl]
  exact pm.rng _ (List.getElem_mem hl)
set_option maxHeartbeats 4000000 in
theorem o_Round_ok (g h : Bool) (b : OB) (hz : Sz12 b) (l : List Int) (hl : l.length ≤ 1000000) : PureOK Try.prog n_o_Round [On g b, Ls h l] (.tup [I (rndV b l), I (jntE b l)]) := by
  refine pure_of (walk func_o_Round form_o_Round res_o_Round (by show 2 ≤ _; decide) ?_)
  simp -implicitDefEqProofs (disch := omega) [G_o_Round, wrap_id]
  refine callW_pure rfl (o_Joint_ok g h b hz l hl) ?_
  by_cases h0 : jntE b l = 0
  · obtain ⟨n, hb, q1, q2, e, pm⟩ := jnt_pm h0
    have hlen := pm.len
    have h6 := hb.hi
    have h2 := hb.lo
    have ne := ne_emp hlen (by omega)
    have ok := ord_ok h2 h6 pm
    have ev : rndV b l = (ordN (jntL b l) : Int) := by unfold rndV; rw [if_pos h0]
    rw [ev]
    generalize jntL b l = j at *
    unfold ordN
    rw [hlen]
    simp -implicitDefEqProofs (disch := omega) [wrap_id, h0, ne]
    refine loop_eq (fun p : Nat × List HObj => ⟨[(6, Ls false j), (8, I (rndTo j p.1 : Int)), (23, I j.length), (24, I (p.1 : Int))], p.2⟩) (fun p => p.1 ≤ n) (fun p => n - p.1) (0, _) (Nat.zero_le _) rfl ?_
    rintro ⟨p, H⟩ c1
    simp only at c1 ⊢
    refine hideK' fun K0 hK0 => ?_
    simp -implicitDefEqProofs (disch := omega) [wrap_id]
    refine c_split (fun hc => ?_) (fun hc => ?_)
    · have lp : p < j.length := by simpa using hc
      have px : ((p : Int) + 1) = ((p + 1 : Nat) : Int) := by omega
      obtain ⟨k1, k2, k3, k4, k5, k6⟩ := ok.cyc p lp
      have gp := getD_I lp
      rw [gp] at k1
      have cy : cyc j p = cycF j p 7 j[p] 1 := by unfold cyc; rw [gp]
      obtain ⟨r0, hr0⟩ : ∃ r0, rndTo j p = r0 := ⟨_, rfl⟩
      have st : rndTo j (p + 1) = lcmF (rndTo j p) (cyc j p) 7 (rndTo j p) := rfl
      obtain ⟨cc, hcc⟩ : ∃ cc, cyc j p = cc := ⟨_, rfl⟩
      rw [hr0] at k2 k5 k6 st ⊢
      rw [hcc] at k2 k3 k4 st cy
      have jp := pm.rng _ (List.getElem_mem lp)
      simp -implicitDefEqProofs (disch := omega) [wrap_id, lp, cells_ls]
      refine loop_eq (fun q : Nat × Int × Nat => ⟨[(6, Ls false j), (8, I (r0 : Int)), (9, I (p : Int)), (10, I (q.2.2 : Int)), (11, I q.2.1), (23, I j.length), (24, I (p : Int))], H⟩)
        (fun q => cycF j p q.1 q.2.1 q.2.2 = cc ∧ cycE j p q.1 q.2.1 = true ∧ q.2.2 + q.1 ≤ 8 ∧ 0 ≤ q.2.1 ∧ q.2.1 < n) (fun q => q.1) (7, j[p], 1) ⟨cy.symm, k1, Nat.le_refl _, jp.1, jp.2⟩ rfl ?_
      rintro ⟨f, a, k⟩ ⟨d1, d2, d3, d4, d5⟩
      simp only at d1 d2 d3 d4 d5 ⊢
      refine hideK' fun K1 hK1 => ?_
      match f, d1, d2, d3 with
      | 0, d1, d2, d3 => cases d2
      | f + 1, d1, d2, d3 =>
        simp only [cycF, cycE] at d1 d2
        by_cases ha : a = (p : Int)
        · rw [if_pos ha] at d1
          subst d1
          have ha' : (a != (p : Int)) = false := by simpa using ha
          subst hK1
          simp -implicitDefEqProofs (disch := omega) [wrap_id, ha']
          refine loop_eq (fun q : Nat × Nat => ⟨[(6, Ls false j), (8, I (q.2 : Int)), (10, I (k : Int)), (12, I (r0 : Int)), (23, I j.length), (24, I (p : Int))], H⟩)
            (fun q => lcmF r0 k q.1 q.2 = rndTo j (p + 1) ∧ lcmE r0 k q.1 q.2 = true ∧ q.2 + q.1 * r0 ≤ 8 * r0) (fun q => q.1) (7, r0) ⟨st.symm, k2, by simp only; omega⟩ rfl ?_
          rintro ⟨f2, r⟩ ⟨g1, g2, g3⟩
          simp only at g1 g2 g3 ⊢
          refine hideK' fun K2 hK2 => ?_
          match f2, g1, g2, g3 with
          | 0, g1, g2, g3 => cases g2
          | f2 + 1, g1, g2, g3 =>
            simp only [lcmF, lcmE] at g1 g2
            have kp : (k : Int) ≠ 0 := by omega
            have rm : (r : Int).tmod (k : Int) = ((r % k : Nat) : Int) := by rw [Int.tmod_eq_emod_of_nonneg (by omega)]; rfl
            by_cases hr : r % k = 0
            · rw [if_pos hr] at g1
              subst g1
              rw [hr] at rm
              subst hK2
              simp -implicitDefEqProofs (disch := omega) [wrap_id, rm, kp]
              rw [hK0]
              exact next_eq (p + 1, H) (by simp only; omega) (by simp only; omega) (by simp only [px])
            · rw [if_neg hr] at g1 g2
              have hr' : (((r % k : Nat) : Int) != 0) = true := by simp only [bne_iff_ne, ne_eq]; omega
              have bd : (f2 + 1) * r0 = f2 * r0 + r0 := by rw [Nat.add_mul, Nat.one_mul]
              have rx : ((r : Int) + r0) = ((r + r0 : Nat) : Int) := by omega
              obtain ⟨fr, hfr⟩ : ∃ fr, f2 * r0 = fr := ⟨_, rfl⟩
              generalize hrk : r % k = rk at *
              simp -implicitDefEqProofs (disch := omega) [wrap_id, rm, kp, hr']
              rw [hK2]
              exact next_eq (f2, r + r0) ⟨g1, g2, by simp only; omega⟩ (by simp only; omega) (by simp only [rx])
        · rw [if_neg ha] at d1 d2
          have ha' : (a != (p : Int)) = true := by simpa using ha
          have kx : ((k : Int) + 1) = ((k + 1 : Nat) : Int) := by omega
          have la : a.toNat < j.length := by omega
          obtain ⟨an, han⟩ : ∃ an : Nat, a = an := ⟨a.toNat, by omega⟩
          subst han
          have la2 : an < j.length := by omega
          have cb := cyc_bound pm ⟨d4, d5⟩
          rw [Int.toNat_natCast, getD_I la2] at cb d1 d2
          simp -implicitDefEqProofs (disch := omega) [wrap_id, ha', la2, cells_ls]
          rw [hK1]
          exact next_eq (f, j[an], k + 1) ⟨d1, d2, by simp only; omega, cb.1, cb.2⟩ (by simp only; omega) (by simp only [kx])
    · have hp : p = n := by simp at hc; omega
      subst hp
      subst hK0
      simp -implicitDefEqProofs (disch := omega) [wrap_id]
      exact tup_kk
  · have ev : rndV b l = 0 := by unfold rndV; rw [if_neg h0]
    have h0' : (jntE b l != 0) = true := by simpa using h0
    simp -implicitDefEqProofs (disch := omega) [wrap_id, h0', ev]
    exact tup_kk
end Go.AM

set_option linter.unusedSimpArgs false
set_option linter.unusedVariables false
namespace Go.AM
open Go.RowKit Go.Proofs
structure StepOK (g : Bool) (b : OB) (n : Nat) (fs : Nat) (T : List (List Int)) : Prop where
  fn : funOK Try.prog fs = true
  len : T.length = b.s.length
  pm : PmS n T
  ok : ∀ {x : List Int} {k : Nat}, x.length = n → k < b.s.length → PureOK Try.prog fs [DK g b, .agg (rowC (pad x)), I (k : Int)] (.agg (rowC (pad (aft (T.getD k []) x))))
abbrev stepV (g : Bool) (b : OB) (fs : Nat) : AV := .fn (.func fs) [DK g b] []
theorem step_drawn (g : Bool) {b : OB} {n : Nat} (hb : Okb b n) : StepOK g b n n_d_drawn b.S := ⟨by kernel_rfl, S_len, hb.pmS, fun {x k} hx hk => by
  rw [S_getD hk]; exact d_drawn_ok g hb hx hk⟩
theorem step_undone (g : Bool) {b : OB} {n : Nat} (hb : Okb b n) : StepOK g b n n_d_undone (b.S.map inv) := ⟨by kernel_rfl, by rw [List.length_map, S_len], hb.pmS.inv, fun {x k} hx hk => by
  rw [getD_map (by rw [S_len]; exact hk), S_getD hk]; exact d_undone_ok g hb hx hk⟩
def BoxB (g : Bool) (b : OB) (fs : Nat) (x : List Int) (a : Nat) (hp : List HObj) : Prop := nthH hp a = some (.cells [DK g b]) ∧ nthH hp (a + 1) = some (.cells (rowC (pad x))) ∧ nthH hp (a + 2) = some (.cells [stepV g b fs])
abbrev behV (a : Nat) : AV := .fn (.func n_d_behind_1) [] [.ref a 0, .ref (a + 2) 0, .ref (a + 1) 0]
theorem d_behind_w {g : Bool} {b : OB} {n fs : Nat} {x : List Int} (hx : x.length = n) (h6 : n ≤ 6) {hp : List HObj} {K : AV → List HObj → Prop} (hK : K (behV hp.length) (hp ++ [.cells [DK g b], .cells (rowC (pad x)), .cells [stepV g b fs]])) :
    CallW Try.prog n_d_behind [DK g b, .agg (rowC (pad x)), stepV g b fs] hp K := by
  have pl : (pad x).length = 6 := pad_len (by omega)
  refine walk func_d_behind form_d_behind res_d_behind (by show 3 ≤ _; decide) ?_
  simp -implicitDefEqProofs (disch := omega) [G_d_behind, wrap_id, pl]
  exact hK
set_option maxHeartbeats 2000000 in
theorem d_behind_R {g : Bool} {b : OB} {n fs : Nat} {T : List (List Int)} (hs : StepOK g b n fs T) (hb : b.s.length ≤ 1000) (h6 : n ≤ 6) {x : List Int} (hx : x.length = n) {hp : List HObj} {a : Nat} (ha : BoxB g b fs x a hp)
    {H : List AV → List HObj → (AV → List HObj → Prop) → Prop} {J : Nat → List HObj → Prop} {D : List HObj → Prop}
    (h0 : J 0 (hp ++ [.lp .ready (hp.length + 1), .gone])) (hJ : ∀ j hp', J j hp' → BoxB g b fs x a hp')
    (hH : ∀ j hp' (h : j < b.s.length), J j hp' → H [I (j : Int), .agg (rowC (pad (aft (T.getD j []) x)))] hp' fun rr hp'' => (rr = B true ∧ J (j + 1) hp'') ∨ (rr = B false ∧ D hp'')) :
    (E1 Try.prog).R (behV a) hp H (fun hp' => J b.s.length hp' ∨ D hp') := by
  have pl : (pad x).length = 6 := pad_len (by omega)
  have t6 := take_row pl
  obtain ⟨a1, a2, a3⟩ := hJ 0 _ h0
  refine ⟨n_d_behind_1, [.ref a 0, .ref (a + 2) 0, .ref (a + 1) 0], _, G_d_behind_1, [], _, rfl, by kernel_rfl, func_d_behind_1, form_d_behind_1, resTmps_C res_d_behind_1, by show 4 ≤ _; decide, ?_⟩
  simp -implicitDefEqProofs (disch := omega) [G_d_behind_1, wrap_id, a1]
  refine loop_eq (fun q : Nat × List HObj => ⟨[(0, .yl hp.length), (2, .ref (a + 2) 0), (3, .ref (a + 1) 0), (11, I b.s.length), (12, I (q.1 : Int))], q.2⟩) (fun q => q.1 ≤ b.s.length ∧ J q.1 q.2) (fun q => b.s.length - q.1) (0, _) ⟨Nat.zero_le _, h0⟩ rfl ?_
  rintro ⟨i, G⟩ ⟨c1, c2⟩
  simp only at c1 c2 ⊢
  obtain ⟨g1, g2, g3⟩ := hJ i G c2
  refine hideK' fun K0 hK0 => ?_
  simp -implicitDefEqProofs (disch := omega) [wrap_id]
  refine c_split (fun h => ?_) (fun h => ?_)
  · have hi : i < b.s.length := by simpa using h
    have ix : ((i : Int) + 1) = ((i + 1 : Nat) : Int) := by omega
    simp -implicitDefEqProofs (disch := omega) [wrap_id, g2, g3, pl, t6]
    refine ⟨hs.fn, callW_pure dk_pur3 (hs.ok hx hi) ?_⟩
    simp -implicitDefEqProofs (disch := omega) [wrap_id]
    refine ⟨_, ⟨rfl, hH i G hi c2⟩, ?_⟩
    rintro r G' (⟨rfl, hg⟩ | ⟨rfl, hg⟩)
    · simp -implicitDefEqProofs (disch := omega) [wrap_id]
      rw [hK0]
      exact next_eq (i + 1, G') ⟨by simp only; omega, hg⟩ (by simp only; omega) (by simp only [ix])
    · subst hK0
      simp -implicitDefEqProofs (disch := omega) [wrap_id]
      exact ⟨[], trivial, .inr hg⟩
  · have hi : i = b.s.length := by simp at h; omega
    subst hi
    subst hK0
    simp -implicitDefEqProofs (disch := omega) [wrap_id]
    exact ⟨[], trivial, .inl c2⟩
end Go.AM

set_option linter.unusedSimpArgs false
set_option linter.unusedVariables false
namespace Go.AM
open Go.RowKit Go.Proofs
def cmpL : List Int → List Int → Int
  | [], [] => 0
  | [], _ :: _ => -1
  | _ :: _, [] => 1
  | a :: l, b :: m => if a < b then -1 else if b < a then 1 else cmpL l m
def cmpI (a b : Int) : Int := if a < b then -1 else if b < a then 1 else 0
theorem c_Compare_ok (a b : Int) : PureOK Try.prog n_c_Compare [I a, I b] (I (cmpI a b)) := by
  refine pure_of (walk func_c_Compare form_c_Compare res_c_Compare (by show 2 ≤ _; decide) ?_)
  simp -implicitDefEqProofs (disch := omega) [G_c_Compare, wrap_id]
  refine callW_pure rfl (c_isNaN_ok a) ?_
  simp -implicitDefEqProofs (disch := omega) [wrap_id]
  refine callW_pure rfl (c_isNaN_ok b) ?_
  simp -implicitDefEqProofs (disch := omega) [wrap_id]
  by_cases h : a < b
  · simp -implicitDefEqProofs (disch := omega) [wrap_id, h, cmpI]
  · by_cases h2 : b < a
    · simp -implicitDefEqProofs (disch := omega) [wrap_id, h, h2, cmpI]
    · simp -implicitDefEqProofs (disch := omega) [wrap_id, h, h2, cmpI]
set_option maxHeartbeats 1000000 in
theorem s_Compare_ok (f g : Bool) (l m : List Int) (hl : l.length ≤ 1000000) (hm : m.length ≤ 1000000) : PureOK Try.prog n_s_CompareL [Ls f l, Ls g m] (I (cmpL l m)) := by
  refine pure_of (walk func_s_CompareL form_s_CompareL res_s_CompareL (by show 2 ≤ _; decide) ?_)
  simp -implicitDefEqProofs (disch := omega) [G_s_CompareL, wrap_id]
  refine loop_eq (fun i : Nat => ⟨[(0, Ls f l), (1, Ls g m), (9, Ls f l), (10, I l.length), (11, I (i : Int))], []⟩) (fun i => i ≤ l.length ∧ i ≤ m.length ∧ cmpL l m = cmpL (l.drop i) (m.drop i)) (fun i => l.length - i) 0 ⟨Nat.zero_le _, Nat.zero_le _, rfl⟩ rfl ?_
  rintro i ⟨hi, hi2, he⟩
  refine hideK' fun K0 hK0 => ?_
  simp -implicitDefEqProofs (disch := omega) [wrap_id]
  refine c_split (fun hc => ?_) (fun hc => ?_)
  · have hi : i < l.length := by simp at hc; omega
    have ix : ((i : Int) + 1) = ((i + 1 : Nat) : Int) := by omega
    by_cases hj : i < m.length
    · have hj' : ¬ ((m.length : Int) ≤ i) := by omega
      rw [List.drop_eq_getElem_cons hi, List.drop_eq_getElem_cons hj] at he
      simp only [cmpL] at he
      simp -implicitDefEqProofs (disch := omega) [wrap_id, cells_ls, hi, hj, hj', cmp2, nthT]
      refine callW_pure rfl (c_Compare_ok l[i] m[i]) ?_
      by_cases e : l[i] < m[i]
      · rw [if_pos e] at he
        have e1 : cmpI l[i] m[i] = -1 := by unfold cmpI; rw [if_pos e]
        rw [he] at hK0
        subst hK0
        simp -implicitDefEqProofs (disch := omega) [wrap_id, e1]
      · rw [if_neg e] at he
        by_cases e2 : m[i] < l[i]
        · rw [if_pos e2] at he
          have e1 : cmpI l[i] m[i] = 1 := by unfold cmpI; rw [if_neg e, if_pos e2]
          rw [he] at hK0
          subst hK0
          simp -implicitDefEqProofs (disch := omega) [wrap_id, e1]
        · rw [if_neg e2] at he
          have e1 : cmpI l[i] m[i] = 0 := by unfold cmpI; rw [if_neg e, if_neg e2]
          simp -implicitDefEqProofs (disch := omega) [wrap_id, e1]
          rw [hK0]
          exact next_eq (i + 1) ⟨by omega, by omega, he⟩ (by omega) (by simp only [ix])
    · have hj' : ((m.length : Int) ≤ i) = True := by simp only [eq_iff_iff, iff_true]; omega
      have e0 : m.drop i = [] := List.drop_eq_nil_of_le (by omega)
      rw [e0, List.drop_eq_getElem_cons hi] at he
      simp only [cmpL] at he
      rw [he] at hK0
      subst hK0
      simp -implicitDefEqProofs (disch := omega) [wrap_id, cells_ls, hi, hj', cmp2, nthT]
  · have hi : i = l.length := by simp at hc; omega
    subst hi
    rw [List.drop_length] at he
    by_cases hj : l.length < m.length
    · have hj' : (l.length : Int) < m.length := by omega
      rw [List.drop_eq_getElem_cons hj] at he
      simp only [cmpL] at he
      rw [he] at hK0
      subst hK0
      simp -implicitDefEqProofs (disch := omega) [wrap_id, hj']
    · have hj' : ¬ (l.length : Int) < m.length := by omega
      have e0 : m.drop l.length = [] := List.drop_eq_nil_of_le (by omega)
      rw [e0] at he
      simp only [cmpL] at he
      rw [he] at hK0
      subst hK0
      simp -implicitDefEqProofs (disch := omega) [wrap_id, hj']
theorem cmpL_frst : ∀ {l m : List Int}, l.length = m.length → (frst l m = true ↔ cmpL l m < 0)
  | [], [], _ => by simp [frst, cmpL]
  | [], _ :: _, h => by simp at h
  | _ :: _, [], h => by simp at h
  | a :: l, b :: m, h => by
    simp only [frst, cmpL]
    have h' : l.length = m.length := by simpa using h
    by_cases e : a = b
    · subst e
      rw [if_pos rfl, if_neg (by omega), if_neg (by omega)]
      exact cmpL_frst h'
    · rw [if_neg e]
      by_cases e1 : a < b
      · rw [if_pos e1]; simp [e1]
      · rw [if_neg e1, if_pos (by omega)]; simp [e1]
theorem cmpL_eq : ∀ {l m : List Int}, cmpL l m = 0 ↔ l = m
  | [], [] => by simp [cmpL]
  | [], _ :: _ => by simp [cmpL]
  | _ :: _, [] => by simp [cmpL]
  | a :: l, b :: m => by
    simp only [cmpL, List.cons.injEq]
    by_cases e1 : a < b
    · rw [if_pos e1]; constructor
      · intro h; omega
      · rintro ⟨h, _⟩; omega
    · by_cases e2 : b < a
      · rw [if_neg e1, if_pos e2]; constructor
        · intro h; omega
        · rintro ⟨h, _⟩; omega
      · rw [if_neg e1, if_neg e2, cmpL_eq]
        constructor
        · intro h; exact ⟨by omega, h⟩
        · exact fun h => h.2
abbrev behP (g : Bool) (b : OB) (fs : Nat) (x : List Int) : AV := .fn (.func n_d_behind_1) [] [.ptr [DK g b] 0, .ptr [stepV g b fs] 0, .ptr (rowC (pad x)) 0]
theorem d_behind_ok {g : Bool} {b : OB} {n fs : Nat} {x : List Int} (hx : x.length = n) (h6 : n ≤ 6) : PureOK Try.prog n_d_behind [DK g b, .agg (rowC (pad x)), stepV g b fs] (behP g b fs x) := by
  refine pure_of (d_behind_w hx h6 ?_)
  refine out_of (is := [0, 2, 1]) ?_
  have h0 : ([DK g b].all AV.isPure) = true := rfl
  have h1 : ([stepV g b fs].all AV.isPure) = true := rfl
  simp only [purify, purify1, purify0L, purify0, hpf, List.length_nil, List.nil_append, List.getElem?_cons_zero, List.getElem?_cons_succ, Nat.zero_add]
  rw [if_pos h0, if_pos h1, if_pos row_pu]
  rfl
set_option maxHeartbeats 2000000 in
theorem d_behind_Rp {g : Bool} {b : OB} {n fs : Nat} {T : List (List Int)} (hs : StepOK g b n fs T) (hb : b.s.length ≤ 1000) (h6 : n ≤ 6) {x : List Int} (hx : x.length = n) {hp : List HObj}
    {H : List AV → List HObj → (AV → List HObj → Prop) → Prop} {J : Nat → List HObj → Prop} {D : List HObj → Prop}
    (h0 : J 0 (hp ++ [.lp .ready (hp.length + 1), .gone]))
    (hH : ∀ j hp' (h : j < b.s.length), J j hp' → H [I (j : Int), .agg (rowC (pad (aft (T.getD j []) x)))] hp' fun rr hp'' => (rr = B true ∧ J (j + 1) hp'') ∨ (rr = B false ∧ D hp'')) :
    (E1 Try.prog).R (behP g b fs x) hp H (fun hp' => J b.s.length hp' ∨ D hp') := by
  have pl : (pad x).length = 6 := pad_len (by omega)
  have t6 := take_row pl
  refine ⟨n_d_behind_1, [.ptr [DK g b] 0, .ptr [stepV g b fs] 0, .ptr (rowC (pad x)) 0], _, G_d_behind_1, [], _, rfl, by kernel_rfl, func_d_behind_1, form_d_behind_1, resTmps_C res_d_behind_1, by show 4 ≤ _; decide, ?_⟩
  simp -implicitDefEqProofs (disch := omega) [G_d_behind_1, wrap_id]
  refine loop_eq (fun q : Nat × List HObj => ⟨[(0, .yl hp.length), (2, .ptr [stepV g b fs] 0), (3, .ptr (rowC (pad x)) 0), (11, I b.s.length), (12, I (q.1 : Int))], q.2⟩) (fun q => q.1 ≤ b.s.length ∧ J q.1 q.2) (fun q => b.s.length - q.1) (0, _) ⟨Nat.zero_le _, h0⟩ rfl ?_
  rintro ⟨i, G⟩ ⟨c1, c2⟩
  simp only at c1 c2 ⊢
  refine hideK' fun K0 hK0 => ?_
  simp -implicitDefEqProofs (disch := omega) [wrap_id]
  refine c_split (fun h => ?_) (fun h => ?_)
  · have hi : i < b.s.length := by simpa using h
    have ix : ((i : Int) + 1) = ((i + 1 : Nat) : Int) := by omega
    simp -implicitDefEqProofs (disch := omega) [wrap_id, pl, t6]
    refine ⟨hs.fn, callW_pure dk_pur3 (hs.ok hx hi) ?_⟩
    simp -implicitDefEqProofs (disch := omega) [wrap_id]
    refine ⟨_, ⟨rfl, hH i G hi c2⟩, ?_⟩
    rintro r G' (⟨rfl, hg⟩ | ⟨rfl, hg⟩)
    · simp -implicitDefEqProofs (disch := omega) [wrap_id]
      rw [hK0]
      exact next_eq (i + 1, G') ⟨by simp only; omega, hg⟩ (by simp only; omega) (by simp only [ix])
    · subst hK0
      simp -implicitDefEqProofs (disch := omega) [wrap_id]
      exact ⟨[], trivial, .inr hg⟩
  · have hi : i = b.s.length := by simp at h; omega
    subst hi
    subst hK0
    simp -implicitDefEqProofs (disch := omega) [wrap_id]
    exact ⟨[], trivial, .inl c2⟩
end Go.AM

set_option linter.unusedSimpArgs false
set_option linter.unusedVariables false
namespace Go.AM
open Go.RowKit Go.Proofs
structure FarH (hp H : List HObj) (i9 : Nat) (Lo Lw : List R3) (ko kw : Nat) (m : Int) : Prop where
  keep : ∀ j, j < hp.length → nthH H j = nthH hp j
  c7 : nthH H (hp.length + 2) = some (.cells [.mp (hp.length + 1)])
  o : nthH H (hp.length + 1) = some (mpR Lo ko)
  c8 : nthH H (hp.length + 4) = some (.cells [.mp (hp.length + 3)])
  w : nthH H (hp.length + 3) = some (mpR Lw kw)
  c9 : nthH H i9 = some (.cells [I m])
  l9 : hp.length + 5 ≤ i9
  mo : MapR 6 Lo ko
  mw : MapR 6 Lw kw
theorem FarH.mono {hp H H' : List HObj} {i9 : Nat} {Lo Lw : List R3} {ko kw : Nat} {m : Int} (h : FarH hp H i9 Lo Lw ko kw m) (hk : ∀ j, j < H.length → nthH H' j = nthH H j) : FarH hp H' i9 Lo Lw ko kw m := by
  have l9 := nthH_lt h.c9
  have := h.l9
  exact ⟨fun j hj => (hk j (by omega)).trans (h.keep j hj), (hk _ (by omega)).trans h.c7, (hk _ (by omega)).trans h.o, (hk _ (by omega)).trans h.c8, (hk _ (by omega)).trans h.w, (hk _ l9).trans h.c9, h.l9, h.mo, h.mw⟩
theorem row_valC {l : List Int} : (AV.agg (rowC l)).val = some (rowV l) := row_val
theorem far_lt {n : Nat} {T : List (List Int)} {x0 : List Int} (hT : PmS n T) (h0 : x0.length = n) (h6 : n ≤ 6) (hc : ∀ y ∈ x0, 0 ≤ y ∧ y ≤ 5) {x : List Int} {m : Nat} (hd : Dist T x0 x m) : m < 46656 := by
  have hC : ∀ x ∈ x0, x ∈ plcL 6 := fun x hx => plc_mem.2 (by have := hc x hx; omega)
  have := dist_lt hT h0 hC hd
  have p6 : (plcL 6).length ^ n ≤ 46656 := by
    rw [plcL_len]
    have : 6 ^ n ≤ 6 ^ 6 := Nat.pow_le_pow_right (by decide) h6
    exact this
  omega
theorem lnmR_of {P : Program} {F : Nat → AV} {hp : List HObj} {K : AV → List (Nat × HObj) → Prop} {d id ck : Nat} {x : Opd} {L : List R3} (hx : evF F x = .mp id) (h : nthH hp id = some (mpR L ck)) (k : K (I L.length) []) : (AOp.lnm d x).wp P F hp K := by
  refine ⟨_, _, ?_, k⟩
  simp only [AOp.sem, hx, hpf_nthH, h, mpR, List.length_map]
  exact ⟨trivial, trivial⟩
def rowsF (N : List (List Int)) : List AV := N.flatMap fun x => rowC (pad x)
theorem rowsF_snoc {N : List (List Int)} {x : List Int} : rowsF (N ++ [x]) = rowsF N ++ rowC (pad x) := by simp [rowsF]
theorem pw_inj {α β : Type} {f : α → β} : ∀ {L : List α}, (L.Pairwise fun a b => f a ≠ f b) → ∀ {a b : α}, a ∈ L → b ∈ L → f a = f b → a = b
  | [], _, _, _, h, _, _ => by cases h
  | c :: L, hp, a, b, ha, hb, e => by
    rw [List.pairwise_cons] at hp
    rcases List.mem_cons.1 ha with e1 | ha
    · rcases List.mem_cons.1 hb with e2 | hb
      · rw [e1, e2]
      · rw [e1] at e; exact absurd e (hp.1 b hb)
    · rcases List.mem_cons.1 hb with e2 | hb
      · rw [e2] at e; exact absurd e.symm (hp.1 a ha)
      · exact pw_inj hp.2 ha hb e
structure Col (n : Nat) (Lw : List R3) (S : List Nat) (N : List (List Int)) : Prop where
  nd : N.Nodup
  len : ∀ x ∈ N, x.length = n
  sub : ∀ x ∈ N, ∃ q ∈ Lw, q.2.1 ∈ S ∧ q.1 = pad x
  all : ∀ q ∈ Lw, q.2.1 ∈ S → ∃ x ∈ N, q.1 = pad x
theorem Col.step {n : Nat} {Lw : List R3} {S : List Nat} {N : List (List Int)} {ck : Nat} (h : Col n Lw S N) (hm : MapR 6 Lw ck) (hk : Keys6 n Lw) {q : R3} (hq : q ∈ Lw) (hs : q.2.1 ∉ S) {x : List Int} (hx : x.length = n) (e : q.1 = pad x) : Col n Lw (S ++ [q.2.1]) (N ++ [x]) := by
  have brs : ∀ r ∈ Lw, r.2.1 = q.2.1 → r = q := fun r hr er => pw_inj (f := fun q : R3 => q.2.1) hm.brs hr hq er
  refine ⟨?_, fun y hy => ?_, fun y hy => ?_, fun r hr hrs => ?_⟩
  · rw [List.nodup_append]
    refine ⟨h.nd, by simp, fun a ha b hb eab => ?_⟩
    rw [List.mem_singleton] at hb
    subst hb
    subst eab
    obtain ⟨r, hr, hrs, er⟩ := h.sub a ha
    have : r = q := pw_inj (f := fun q : R3 => q.1) hm.keys hr hq (er.trans e.symm)
    subst this
    exact hs hrs
  · rcases List.mem_append.1 hy with hy | hy
    · exact h.len y hy
    · rw [List.mem_singleton] at hy; subst hy; exact hx
  · rcases List.mem_append.1 hy with hy | hy
    · obtain ⟨r, hr, hrs, er⟩ := h.sub y hy
      exact ⟨r, hr, List.mem_append_left _ hrs, er⟩
    · rw [List.mem_singleton] at hy; subst hy
      exact ⟨q, hq, by simp, e⟩
  · rcases List.mem_append.1 hrs with hrs | hrs
    · obtain ⟨y, hy, ey⟩ := h.all r hr hrs
      exact ⟨y, List.mem_append_left _ hy, ey⟩
    · rw [List.mem_singleton] at hrs
      have := brs r hr hrs
      subst this
      exact ⟨x, by simp, e⟩
theorem Col.wave {n m : Nat} {T : List (List Int)} {x0 : List Int} {Lo Lw : List R3} {S : List Nat} {N : List (List Int)} {ck : Nat} (hT : PmS n T) (h0 : x0.length = n) (h : Col n Lw S N) (hm : MapR 6 Lw ck) (hall : ∀ q ∈ Lw, q.2.1 ∈ S) (fo : FarO n T x0 m Lo Lw) : Wave n T x0 m N := by
  refine ⟨h.nd, fun x => ⟨fun hx => ?_, fun hd => ?_⟩⟩
  · obtain ⟨q, hq, _, e⟩ := h.sub x hx
    refine (fo.wait x (h.len x hx)).1 ?_
    rw [← e, getR_of hm.keys hq]
    exact fun h => by cases h
  · have lx := hd.lenT hT h0
    have hn := (fo.wait x lx).2 hd
    cases hg : getR Lw (pad x) with
    | none => exact absurd hg hn
    | some v =>
      obtain ⟨q, hq, e, _⟩ := getR_mem hg
      obtain ⟨y, hy, ey⟩ := h.all q hq (hall q hq)
      have : y = x := pad_inj (by rw [h.len y hy, lx]) (ey.symm.trans e)
      rw [← this]; exact hy
theorem FarH.mono2 {hp H H' : List HObj} {i9 : Nat} {Lo Lw : List R3} {ko kw : Nat} {m : Int} (h : FarH hp H i9 Lo Lw ko kw m) (hk : ∀ j, j < hp.length + 5 ∨ j = i9 → nthH H' j = nthH H j) : FarH hp H' i9 Lo Lw ko kw m :=
  ⟨fun j hj => (hk j (by omega)).trans (h.keep j hj), (hk _ (by omega)).trans h.c7, (hk _ (by omega)).trans h.o, (hk _ (by omega)).trans h.c8, (hk _ (by omega)).trans h.w, (hk _ (.inr rfl)).trans h.c9, h.l9, h.mo, h.mw⟩
theorem FarH.putO {hp H : List HObj} {i9 : Nat} {Lo Lw : List R3} {ko kw : Nat} {m : Int} (h : FarH hp H i9 Lo Lw ko kw m) {L : List R3} {k : Nat} (hm : MapR 6 L k) : FarH hp (H.set (hp.length + 1) (mpR L k)) i9 L Lw k kw m := by
  have l9 := h.l9
  have e : ∀ j, j ≠ hp.length + 1 → nthH (H.set (hp.length + 1) (mpR L k)) j = nthH H j := fun j hj => nthH_set_ne (Ne.symm hj)
  exact ⟨fun j hj => (e j (by omega)).trans (h.keep j hj), (e _ (by omega)).trans h.c7, nthH_set_same (nthH_lt h.o), (e _ (by omega)).trans h.c8, (e _ (by omega)).trans h.w, (e _ (by omega)).trans h.c9, h.l9, hm, h.mw⟩
theorem FarH.putW {hp H : List HObj} {i9 : Nat} {Lo Lw : List R3} {ko kw : Nat} {m : Int} (h : FarH hp H i9 Lo Lw ko kw m) {L : List R3} {k : Nat} (hm : MapR 6 L k) : FarH hp (H.set (hp.length + 3) (mpR L k)) i9 Lo L ko k m := by
  have l9 := h.l9
  have e : ∀ j, j ≠ hp.length + 3 → nthH (H.set (hp.length + 3) (mpR L k)) j = nthH H j := fun j hj => nthH_set_ne (Ne.symm hj)
  exact ⟨fun j hj => (e j (by omega)).trans (h.keep j hj), (e _ (by omega)).trans h.c7, (e _ (by omega)).trans h.o, (e _ (by omega)).trans h.c8, nthH_set_same (nthH_lt h.w), (e _ (by omega)).trans h.c9, h.l9, h.mo, hm⟩
theorem FarH.next {hp H : List HObj} {i9 : Nat} {Lo Lw : List R3} {ko kw : Nat} {m m' : Int} (h : FarH hp H i9 Lo Lw ko kw m) : FarH hp (H ++ [.cells [I m']]) H.length Lo Lw ko kw m' := by
  have l9 := h.l9
  have lt := nthH_lt h.c9
  have e : ∀ j, j < H.length → nthH (H ++ [.cells [I m']]) j = nthH H j := fun j hj => nthH_front hj
  exact ⟨fun j hj => (e j (by omega)).trans (h.keep j hj), (e _ (by omega)).trans h.c7, (e _ (by omega)).trans h.o, (e _ (by omega)).trans h.c8, (e _ (by omega)).trans h.w, app_new.2.1, by omega, h.mo, h.mw⟩
theorem rowsF_view {N : List (List Int)} (h : ∀ x ∈ N, x.length ≤ 6) : ∀ {j : Nat}, j < N.length → view (rowsF N) (j * 6) 6 = rowC (pad (N.getD j [])) := fun {j} hj => by
  induction N generalizing j with
  | nil => simp at hj
  | cons x N ih =>
    have lx : (rowC (pad x)).length = 6 := by rw [List.length_map, pad_len (h x (by simp))]
    cases j with
    | zero =>
      simp only [rowsF, List.flatMap_cons, view, Nat.zero_mul, List.drop_zero, List.getD_cons_zero]
      rw [← lx, List.take_left]
    | succ j =>
      have := ih (fun y hy => h y (by simp [hy])) (j := j) (by simpa using hj)
      rw [List.getD_cons_succ, ← this]
      simp only [rowsF, List.flatMap_cons, view]
      have e : (j + 1) * 6 = (rowC (pad x)).length + j * 6 := by rw [lx]; omega
      rw [e, List.drop_length_add_append]
theorem rows_le {n m : Nat} {T : List (List Int)} {x0 : List Int} (hT : PmS n T) (h0 : x0.length = n) (h6 : n ≤ 6) (hc : ∀ y ∈ x0, 0 ≤ y ∧ y ≤ 5) {N : List (List Int)} (nd : N.Nodup) (hd : ∀ x ∈ N, Dist T x0 x m) : N.length ≤ 46656 := by
  have hC : ∀ x ∈ x0, x ∈ plcL 6 := fun x hx => plc_mem.2 (by have := hc x hx; omega)
  have sub : N ⊆ allRows (plcL 6) n := fun x hx => by
    obtain ⟨⟨w, hw, _⟩, _⟩ := hd x hx
    obtain ⟨w1, w2⟩ := hw
    rw [← w2]
    exact mem_allRows (allS_len hT w1 h0) (allS_col hT w1 h0 hC)
  have l1 := nd.length_le_of_subset sub
  rw [allRows_len, plcL_len] at l1
  have : 6 ^ n ≤ 6 ^ 6 := Nat.pow_le_pow_right (by decide) h6
  omega
structure FarJ (g : Bool) (b : OB) (n fs : Nat) (T : List (List Int)) (x0 : List Int) (m : Nat) (N : List (List Int)) (hp : List HObj) (i9 W a : Nat) (x : List Int) (y : AV) (j s : Nat) (H : List HObj) : Prop where
  box : BoxB g b fs x a H
  lp : nthH H W = some (.lp .ready (W + 1))
  len : W < H.length
  acc : AccG H y 6 N.length (rowsF N)
  st : ∃ Lo Lw ko kw, FarH hp H i9 Lo Lw ko kw m ∧ FarS n T x0 m N j s (j + 1) Lo Lw
set_option maxHeartbeats 8000000 in
theorem d_far_w {g : Bool} {b : OB} {n fs : Nat} {T : List (List Int)} (hb : Okb b n) (hs : StepOK g b n fs T) {x0 : List Int} (h0 : x0.length = n) (hc : ∀ y ∈ x0, 0 ≤ y ∧ y ≤ 5) {hp : List HObj} {K : AV → List HObj → Prop}
    (hK : ∀ H id L ck, MapR 6 L ck → FarL n T x0 L → nthH H id = some (mpR L ck) → hp.length ≤ id → (∀ j, j < hp.length → nthH H j = nthH hp j) → K (.mp id) H) :
    CallW Try.prog n_d_far [DK g b, .agg (rowC (pad x0)), stepV g b fs] hp K := by
  have h6 := hb.hi
  have hm := hb.many
  have hT := hs.pm
  have p0 : (pad x0).length = 6 := pad_len (by omega)
  have t0 := take_row p0
  refine walk func_d_far form_d_far res_d_far (by show 3 ≤ _; decide) ?_
  simp -implicitDefEqProofs (disch := omega) [G_d_far, wrap_id, p0]
  obtain ⟨a1, a2, a3⟩ := app_new (H := hp) (o := .cells (rowC (pad x0)))
  generalize hp ++ [HObj.cells (rowC (pad x0))] = G0 at a1 a2 a3 ⊢
  refine mkmR (d := 18) ?_
  obtain ⟨b1, b2, b3⟩ := app_new (H := G0) (o := mpR [] 0)
  have w1 : writeL G0 [(G0.length, mpR [] 0)] = G0 ++ [mpR [] 0] := by simp [writeL, setL]
  rw [x_contA, w1]
  have r1 := (b1 hp.length (by omega)).trans a2
  have kp1 : ∀ j, j < hp.length → nthH (G0 ++ [mpR [] 0]) j = nthH hp j := fun j hj => (b1 j (by omega)).trans (a1 j hj)
  rw [a3] at b2 b3 ⊢
  generalize G0 ++ [mpR [] 0] = G1 at b2 b3 r1 kp1 ⊢
  simp -implicitDefEqProofs (disch := omega) [wrap_id, r1, p0, t0]
  refine insR_of (n := 6) (x := hp.length + 1) (D := pad x0) (v := 0) rfl row_valC rfl b2 p0 (by simp) (fun A q B e => by simp at e) (fun _ => ?_)
  rw [List.nil_append]
  have lt1 : hp.length + 1 < G1.length := nthH_lt b2
  have u1 : ∀ j, j ≠ hp.length + 1 → nthH (G1.set (hp.length + 1) (mpR [(pad x0, 0, 0)] 1)) j = nthH G1 j := fun j hj => nthH_set_ne (Ne.symm hj)
  have u2 : nthH (G1.set (hp.length + 1) (mpR [(pad x0, 0, 0)] 1)) (hp.length + 1) = some (mpR [(pad x0, 0, 0)] 1) := nthH_set_same lt1
  have u3 : (G1.set (hp.length + 1) (mpR [(pad x0, 0, 0)] 1)).length = hp.length + 2 := by rw [List.length_set, b3]
  simp -implicitDefEqProofs (disch := omega) [wrap_id, lt1, b3]
  generalize G1.set (hp.length + 1) (mpR [(pad x0, 0, 0)] 1) = G2 at u1 u2 u3 ⊢
  obtain ⟨v1, v2, v3⟩ := app_new (H := G2) (o := .cells [.v (.map none)])
  rw [u3] at v1 v2 v3
  have r3 := (v1 hp.length (by omega)).trans ((u1 hp.length (by omega)).trans r1)
  have o3 := (v1 (hp.length + 1) (by omega)).trans u2
  have kp3 : ∀ j, j < hp.length → nthH (G2 ++ [.cells [.v (.map none)]]) j = nthH hp j := fun j hj => (v1 j (by omega)).trans ((u1 j (by omega)).trans (kp1 j hj))
  generalize G2 ++ [HObj.cells [AV.v (.map none)]] = G3 at v2 v3 r3 o3 kp3 ⊢
  have l3 : hp.length + 2 < G3.length := by omega
  simp -implicitDefEqProofs (disch := omega) [wrap_id, v2, l3]
  have c3 : nthH (G3.set (hp.length + 2) (.cells [.mp (hp.length + 1)])) (hp.length + 2) = some (.cells [.mp (hp.length + 1)]) := nthH_set_same l3
  have n3 : ∀ j, j ≠ hp.length + 2 → nthH (G3.set (hp.length + 2) (.cells [.mp (hp.length + 1)])) j = nthH G3 j := fun j hj => nthH_set_ne (Ne.symm hj)
  have r3 := (n3 hp.length (by omega)).trans r3
  have o3 := (n3 (hp.length + 1) (by omega)).trans o3
  have kp3 : ∀ j, j < hp.length → nthH (G3.set (hp.length + 2) (.cells [.mp (hp.length + 1)])) j = nthH hp j := fun j hj => (n3 j (by omega)).trans (kp3 j hj)
  have v3 : (G3.set (hp.length + 2) (.cells [.mp (hp.length + 1)])).length = hp.length + 3 := by rw [List.length_set, v3]
  generalize G3.set (hp.length + 2) (.cells [.mp (hp.length + 1)]) = G3 at c3 r3 o3 kp3 v3 ⊢
  refine mkmR (d := 21) ?_
  obtain ⟨b1, b2, b3⟩ := app_new (H := G3) (o := mpR [] 0)
  have w1 : writeL G3 [(G3.length, mpR [] 0)] = G3 ++ [mpR [] 0] := by simp [writeL, setL]
  rw [x_contA, w1]
  rw [v3] at b1 b2 b3 ⊢
  have r4 := (b1 hp.length (by omega)).trans r3
  have o4 := (b1 (hp.length + 1) (by omega)).trans o3
  have c4 := (b1 (hp.length + 2) (by omega)).trans c3
  have kp4 : ∀ j, j < hp.length → nthH (G3 ++ [mpR [] 0]) j = nthH hp j := fun j hj => (b1 j (by omega)).trans (kp3 j hj)
  generalize G3 ++ [mpR [] 0] = G4 at b2 b3 r4 o4 c4 kp4 ⊢
  simp -implicitDefEqProofs (disch := omega) [wrap_id, r4, p0, t0]
  refine insR_of (n := 6) (x := hp.length + 3) (D := pad x0) (v := 0) rfl row_valC rfl b2 p0 (by simp) (fun A q B e => by simp at e) (fun _ => ?_)
  rw [List.nil_append]
  have lt4 : hp.length + 3 < G4.length := nthH_lt b2
  have u1 : ∀ j, j ≠ hp.length + 3 → nthH (G4.set (hp.length + 3) (mpR [(pad x0, 0, 0)] 1)) j = nthH G4 j := fun j hj => nthH_set_ne (Ne.symm hj)
  have u2 : nthH (G4.set (hp.length + 3) (mpR [(pad x0, 0, 0)] 1)) (hp.length + 3) = some (mpR [(pad x0, 0, 0)] 1) := nthH_set_same lt4
  have u3 : (G4.set (hp.length + 3) (mpR [(pad x0, 0, 0)] 1)).length = hp.length + 4 := by rw [List.length_set, b3]
  simp -implicitDefEqProofs (disch := omega) [wrap_id, lt4, b3]
  generalize G4.set (hp.length + 3) (mpR [(pad x0, 0, 0)] 1) = G5 at u1 u2 u3 ⊢
  obtain ⟨v1, v2, v3⟩ := app_new (H := G5) (o := .cells [.v (.map none)])
  rw [u3] at v1 v2 v3
  have o5 := (v1 (hp.length + 1) (by omega)).trans ((u1 (hp.length + 1) (by omega)).trans o4)
  have c5 := (v1 (hp.length + 2) (by omega)).trans ((u1 (hp.length + 2) (by omega)).trans c4)
  have w5 := (v1 (hp.length + 3) (by omega)).trans u2
  have kp5 : ∀ j, j < hp.length → nthH (G5 ++ [.cells [.v (.map none)]]) j = nthH hp j := fun j hj => (v1 j (by omega)).trans ((u1 j (by omega)).trans (kp4 j hj))
  generalize G5 ++ [HObj.cells [AV.v (.map none)]] = G6 at v2 v3 o5 c5 w5 kp5 ⊢
  have l6 : hp.length + 4 < G6.length := by omega
  simp -implicitDefEqProofs (disch := omega) [wrap_id, v2, l6, v3]
  have c8 : nthH (G6.set (hp.length + 4) (.cells [.mp (hp.length + 3)])) (hp.length + 4) = some (.cells [.mp (hp.length + 3)]) := nthH_set_same l6
  have n8 : ∀ j, j ≠ hp.length + 4 → nthH (G6.set (hp.length + 4) (.cells [.mp (hp.length + 3)])) j = nthH G6 j := fun j hj => nthH_set_ne (Ne.symm hj)
  have o7 := (n8 (hp.length + 1) (by omega)).trans o5
  have c7 := (n8 (hp.length + 2) (by omega)).trans c5
  have w7 := (n8 (hp.length + 3) (by omega)).trans w5
  have kp7 : ∀ j, j < hp.length → nthH (G6.set (hp.length + 4) (.cells [.mp (hp.length + 3)])) j = nthH hp j := fun j hj => (n8 j (by omega)).trans (kp5 j hj)
  have l7 : (G6.set (hp.length + 4) (.cells [.mp (hp.length + 3)])).length = hp.length + 5 := by rw [List.length_set, v3]
  have ea : G6.set (hp.length + 3 + 1) (.cells [.mp (hp.length + 3)]) = G6.set (hp.length + 4) (.cells [.mp (hp.length + 3)]) := rfl
  rw [ea]
  generalize G6.set (hp.length + 4) (.cells [.mp (hp.length + 3)]) = G7 at c8 o7 c7 w7 kp7 l7 ⊢
  obtain ⟨y1, y2, y3⟩ := app_new (H := G7) (o := .cells [I 0])
  rw [l7] at y1 y2 y3
  have c8 := (y1 (hp.length + 4) (by omega)).trans c8
  have o7 := (y1 (hp.length + 1) (by omega)).trans o7
  have c7 := (y1 (hp.length + 2) (by omega)).trans c7
  have w7 := (y1 (hp.length + 3) (by omega)).trans w7
  have kp7 : ∀ j, j < hp.length → nthH (G7 ++ [.cells [I 0]]) j = nthH hp j := fun j hj => (y1 j (by omega)).trans (kp7 j hj)
  generalize G7 ++ [HObj.cells [I 0]] = G8 at y2 y3 c8 o7 c7 w7 kp7 ⊢
  have y2' : nthH G8 (hp.length + 4 + 1) = some (.cells [I 0]) := y2
  have l8 : hp.length + 4 + 1 < G8.length := by omega
  simp -implicitDefEqProofs (disch := omega) [wrap_id, y2', l8]
  have c9 : nthH (G8.set (hp.length + 5) (.cells [I 0])) (hp.length + 5) = some (.cells [I 0]) := nthH_set_same l8
  have n9 : ∀ j, j ≠ hp.length + 5 → nthH (G8.set (hp.length + 5) (.cells [I 0])) j = nthH G8 j := fun j hj => nthH_set_ne (Ne.symm hj)
  have m1 : MapR 6 [(pad x0, 0, 0)] 1 := ⟨by simp, by simp [p0], by simp, by simp⟩
  have fh0 : FarH hp (G8.set (hp.length + 5) (.cells [I 0])) (hp.length + 5) [(pad x0, 0, 0)] [(pad x0, 0, 0)] 1 1 0 :=
    ⟨fun j hj => (n9 j (by omega)).trans (kp7 j hj), (n9 _ (by omega)).trans c7, (n9 _ (by omega)).trans o7, (n9 _ (by omega)).trans c8, (n9 _ (by omega)).trans w7, c9, by omega, m1, m1⟩
  refine loop_eq (fun q : Nat × Nat × List HObj => ⟨[(0, DK g b), (2, stepV g b fs), (6, .v (.map none)), (7, .ref (hp.length + 2) 0), (8, .ref (hp.length + 4) 0), (9, .ref q.2.1 0)], q.2.2⟩)
    (fun q => q.1 ≤ 46656 ∧ ∃ Lo Lw ko kw, FarH hp q.2.2 q.2.1 Lo Lw ko kw q.1 ∧ FarO n T x0 q.1 Lo Lw) (fun q => 46657 - q.1) (0, hp.length + 5, G8.set (hp.length + 5) (.cells [I 0])) ⟨by simp only; omega, _, _, _, _, fh0, FarO.init h0⟩ rfl ?_
  clear fh0 m1 n9 c9 l8 y2' y2 y3 c8 o7 c7 w7 kp7 y1 l7 ea n8 v1 v2 v3 u1 u2 u3 b1 b2 b3 o5 c5 w5 kp5 l6 lt4 lt1 r4 o4 c4 kp4 w1 r3 o3 kp3 c3 n3 l3 a1 a2 a3 r1 kp1
  rintro ⟨m, i9, H⟩ ⟨m0, Lo, Lw, ko, kw, fh, fo⟩
  simp only at m0 fh fo ⊢
  refine hideK' fun K0 hK0 => ?_
  simp -implicitDefEqProofs (disch := omega) [wrap_id, fh.c8]
  refine lnmR_of (id := hp.length + 3) rfl fh.w ?_
  simp -implicitDefEqProofs (disch := omega) [wrap_id]
  refine c_split (fun hcw => ?_) (fun hcw => ?_)
  · have hne : Lw ≠ [] := by
      intro e; subst e; simp at hcw
    have mlt : m < 46656 := by
      obtain ⟨q, L', rfl⟩ : ∃ q L', Lw = q :: L' := by
        cases Lw with
        | nil => exact absurd rfl hne
        | cons q L' => exact ⟨q, L', rfl⟩
      obtain ⟨x, lx, ex⟩ := fo.kw q (by simp)
      refine far_lt hT h0 h6 hc (x := x) ((fo.wait x lx).1 ?_)
      rw [← ex, getR_of fh.mw.keys (by simp)]
      exact fun h => by cases h
    simp -implicitDefEqProofs (disch := omega) [wrap_id, fh.c8, xx_rng]
    refine rngR_of fh.w ?_
    obtain ⟨b1, b2, b3⟩ := app_new (H := H) (o := .it (hp.length + 3) kw [] kw)
    simp -implicitDefEqProofs (disch := omega) [wrap_id]
    have fh1 := fh.mono b1
    have it1 := b2
    generalize H ++ [HObj.it (hp.length + 3) kw [] kw] = H1 at b1 it1 b3 fh1 ⊢
    refine loop_eq (fun q : List Nat × AV × List HObj => ⟨[(0, DK g b), (2, stepV g b fs), (6, .v (.map none)), (7, .ref (hp.length + 2) 0), (8, .ref (hp.length + 4) 0), (9, .ref i9 0), (10, q.2.1), (30, .ref H.length 0)], q.2.2⟩)
      (fun q => H.length < q.2.2.length ∧ (∀ j, j < H.length → nthH q.2.2 j = nthH H j) ∧ nthH q.2.2 H.length = some (.it (hp.length + 3) kw q.1 kw) ∧ ∃ N, Col n Lw q.1 N ∧ AccG q.2.2 q.2.1 6 N.length (rowsF N) ∧ ∀ i, rid q.2.1 = some i → H.length < i) (fun q => unsR q.1 Lw)
      ([], .sl true 0 [], H1) ⟨by simp only; omega, b1, it1, [], ⟨by simp, by simp, by simp, by simp⟩, AccG.nil, fun i h => by cases h⟩ rfl ?_
    rintro ⟨S, y, H2⟩ ⟨d0, d1, d2, N, d3, d4, d5⟩
    simp only at d0 d1 d2 d3 d4 d5 ⊢
    have fh2 := fh.mono d1
    refine hideK' fun K1 hK1 => ?_
    simp -implicitDefEqProofs (disch := omega) [wrap_id, xx_nxt]
    refine nxtR_of d2 fh2.w fh2.mw (fun hall => ?_) (fun q hq hns => ?_)
    · have wv := d3.wave hT h0 fh.mw hall fo
      have fs0 := fo.start hT h0 wv
      subst hK1
      simp -implicitDefEqProofs (disch := omega) [wrap_id, d4.lenW]
      have hy9 : ∀ i, rid y = some i → hp.length + 5 ≤ i ∧ i ≠ i9 := fun i hi => by
        have h1 := d5 i hi
        have h2 := nthH_lt fh.c9
        have h3 := fh.l9
        omega
      have l9 := fh.l9
      have d3l := d3.len
      have pl6 : ∀ x ∈ N, x.length ≤ 6 := fun x hx => by rw [d3.len x hx]; exact h6
      clear d5 d2 d1 d0 it1 b3 b1 b2
      have nl : N.length ≤ 46656 := rows_le hT h0 h6 hc wv.nd fun x hx => (wv.mem x).1 hx
      refine loop_eq (fun q : Nat × List HObj => ⟨[(0, DK g b), (2, stepV g b fs), (6, .v (.map none)), (7, .ref (hp.length + 2) 0), (8, .ref (hp.length + 4) 0), (9, .ref i9 0), (39, y), (40, I (N.length : Int)), (41, I (q.1 : Int))], q.2⟩)
        (fun q => q.1 ≤ N.length ∧ AccG q.2 y 6 N.length (rowsF N) ∧ ∃ Lo Lw ko kw, FarH hp q.2 i9 Lo Lw ko kw m ∧ FarS n T x0 m N q.1 0 q.1 Lo Lw) (fun q => N.length - q.1)
        (0, H2) ⟨Nat.zero_le _, d4, Lo, Lw, ko, kw, fh2, fs0⟩ rfl ?_
      clear fh2 fs0 fo fh d4 d3 hall fh1
      rintro ⟨j, G⟩ ⟨e1, e2, Lo, Lw, ko, kw, fh, fsn⟩
      simp only at e1 e2 fh fsn ⊢
      refine hideK' fun K2 hK2 => ?_
      simp -implicitDefEqProofs (disch := omega) [wrap_id]
      refine c_split (fun h => ?_) (fun h => ?_)
      · have hj : j < N.length := by simpa using h
        have jx : ((j : Int) + 1) = ((j + 1 : Nat) : Int) := by omega
        have vw := rowsF_view pl6 hj
        obtain ⟨x, hx⟩ : ∃ x, N.getD j [] = x := ⟨_, rfl⟩
        have lx : x.length = n := by rw [← hx]; exact d3l _ (getD_mem hj)
        have px : (pad x).length = 6 := pad_len (by omega)
        have tx := take_row px
        rcases e2 with ⟨_, e, _⟩ | ⟨id, rfl, g0, g1, g2, g3⟩
        · omega
        have yid := hy9 id rfl
        have lid := nthH_lt g1
        rw [hx] at vw
        simp only [view] at vw
        have lw : j * 6 + 6 ≤ (rowsF N).length := by omega
        simp -implicitDefEqProofs (disch := omega) [wrap_id, g1, lw, vw, px]
        obtain ⟨f1, f2, f3⟩ := app_new (H := G) (o := .cells (rowC (pad x)))
        have fh1 := fh.mono f1
        have g1' := (f1 _ lid).trans g1
        have lG : i9 < G.length := nthH_lt fh.c9
        generalize G ++ [HObj.cells (rowC (pad x))] = G1 at f1 f2 f3 fh1 g1' ⊢
        refine ⟨hj, ?_⟩
        simp -implicitDefEqProofs (disch := omega) [wrap_id, fh1.c8, f2, px, tx]
        refine delR_of (n := 6) (x := hp.length + 3) (D := pad x) rfl row_valC fh1.w px fh1.mw.wid (fun A q B eL eq _ => ?_) (fun hn => ?_)
        · subst eL
          have fd := fsn.del hT h0 wv hj (by rw [hx]; exact eq) fh1.mw.keys
          have fh2 := fh1.putW fh1.mw.del
          have lw1 := nthH_lt fh1.w
          have n2 : ∀ j, j ≠ hp.length + 3 → nthH (G1.set (hp.length + 3) (mpR (A ++ B) kw)) j = nthH G1 j := fun j hj => nthH_set_ne (Ne.symm hj)
          have g1' := (n2 id (by omega)).trans g1'
          have f2' := (n2 G.length (by omega)).trans f2
          have l2 : (G1.set (hp.length + 3) (mpR (A ++ B) kw)).length = G.length + 1 := by rw [List.length_set, f3]
          simp -implicitDefEqProofs (disch := omega) [wrap_id, lw1]
          generalize G1.set (hp.length + 3) (mpR (A ++ B) kw) = G2 at fh2 n2 g1' f2' l2 ⊢
          simp -implicitDefEqProofs (disch := omega) [wrap_id, f2', px, tx]
          refine d_behind_w lx h6 ?_
          have bk : ∀ (j : Nat) (l : List HObj), j < G2.length → nthH (G2 ++ l) j = nthH G2 j := fun j l hj => nthH_front hj
          have l3 : (G2 ++ [HObj.cells [DK g b], HObj.cells (rowC (pad x)), HObj.cells [stepV g b fs]]).length = G2.length + 3 := by simp
          simp -implicitDefEqProofs (disch := omega) [wrap_id]
          refine rf_of (K0 := fun H' => FarJ g b n fs T x0 m N hp i9 (G2.length + 3) G2.length x (.ms id 0 N.length 6) j b.s.length H' ∨ False)
            (d_behind_R hs (by omega) h6 lx (J := FarJ g b n fs T x0 m N hp i9 (G2.length + 3) G2.length x (.ms id 0 N.length 6) j) (D := fun _ => False) (a := G2.length) ?_ ?_ (fun s H' h => h.box) ?_) ?_
          · exact ⟨by rw [nthH_eq, List.getElem?_append_right (Nat.le_refl _)]; simp, by rw [nthH_eq, List.getElem?_append_right (by omega)]; simp, by rw [nthH_eq, List.getElem?_append_right (by omega)]; simp⟩
          · rw [l3, List.append_assoc]
            have ew : ∀ i, nthH (G2 ++ ([HObj.cells [DK g b], HObj.cells (rowC (pad x)), HObj.cells [stepV g b fs]] ++ [HObj.lp .ready (G2.length + 3 + 1), HObj.gone])) (G2.length + i) = nthH [HObj.cells [DK g b], HObj.cells (rowC (pad x)), HObj.cells [stepV g b fs], HObj.lp .ready (G2.length + 3 + 1), HObj.gone] i := fun i => by
              rw [nthH_eq, List.getElem?_append_right (by omega), nthH_eq]
              simp
            exact ⟨⟨ew 0, ew 1, ew 2⟩, ew 3, by simp, .inr ⟨id, rfl, g0, (bk _ _ (nthH_lt g1')).trans g1', g2, g3⟩, _, _, _, _, fh2.mono fun j hj => bk _ _ hj, fd⟩
          · intro s H' hs' hJ
            rw [l3]
            obtain ⟨b1, b2, b3, b4, Lo', Lw', ko', kw', b5, b6⟩ := hJ
            refine ⟨by rw [hpf_nthH]; exact b2, rfl, ?_⟩
            have sT : s < T.length := by rw [hs.len]; exact hs'
            have lz : (aft (T.getD s []) x).length = n := by rw [aft_len]; exact (hT.at sT).len
            have old := fun v => b6.old hT h0 wv hj sT (v := v)
            have new := fun (Lo2 Lw2 : List R3) => b6.new hT h0 wv hj sT (Lo' := Lo2) (Lw' := Lw2)
            rw [hx] at old new
            generalize aft (T.getD s []) x = z at lz old new ⊢
            have pz : (pad z).length = 6 := pad_len (by omega)
            have tz := take_row pz
            have lW : G2.length + 3 < H'.length + 1 := by omega
            have i9W : i9 < G2.length + 3 := by omega
            obtain ⟨f1, f2, f3⟩ := app_new (H := H'.set (G2.length + 3) (.lp .busy (G2.length + 3 + 1))) (o := .cells (rowC (pad z)))
            rw [List.length_set] at f1 f2 f3
            have e4 : ∀ i, i ≠ G2.length + 3 → i < H'.length → nthH (H'.set (G2.length + 3) (.lp .busy (G2.length + 3 + 1)) ++ [.cells (rowC (pad z))]) i = nthH H' i := fun i hi h2 => (f1 i h2).trans (nthH_set_ne (Ne.symm hi))
            have e5 : nthH (H'.set (G2.length + 3) (.lp .busy (G2.length + 3 + 1)) ++ [.cells (rowC (pad z))]) (G2.length + 3) = some (.lp .busy (G2.length + 3 + 1)) := (f1 _ b3).trans (nthH_set_same b3)
            have lp0 := (nthH_front (k := [HObj.cells (rowC (pad z))]) b3).trans b2
            simp -implicitDefEqProofs (disch := omega) [wrap_id, putPs, hpf_nthH, b2, pz, lW, lp0]
            generalize H'.set (G2.length + 3) (.lp .busy (G2.length + 3 + 1)) ++ [HObj.cells (rowC (pad z))] = H1 at f1 f2 f3 e4 e5 ⊢
            have hi5 := b5.l9
            have b5' := b5.mono2 (H' := H1) fun i hi => e4 i (by omega) (by rcases hi with hi | hi <;> omega)
            have bx' : BoxB g b fs x G2.length H1 := ⟨(e4 _ (by omega) (by omega)).trans b1.1, (e4 _ (by omega) (by omega)).trans b1.2.1, (e4 _ (by omega) (by omega)).trans b1.2.2⟩
            have acc' : AccG H1 (.ms id 0 N.length 6) 6 N.length (rowsF N) := b4.mono fun i hi => e4 i (by injection hi with hi; have := nthH_lt g1'; omega) (b4.lt hi)
            simp -implicitDefEqProofs (disch := omega) [wrap_id, b5'.c7, f2, pz, tz]
            refine lkuR (n := 6) (x := hp.length + 1) (D := pad z) rfl row_valC b5'.o pz b5'.mo.wid ?_
            have fin : ∀ (fr : List (Nat × AV)) (H2 : List HObj) (Lo2 Lw2 : List R3) (ko2 kw2 : Nat), (∀ i, i ≠ hp.length + 1 → i ≠ hp.length + 3 → nthH H2 i = nthH H1 i) → FarH hp H2 i9 Lo2 Lw2 ko2 kw2 m → FarS n T x0 m N j (s + 1) (j + 1) Lo2 Lw2 →
                RoundQ (G2.length + 3) (fun rr hp'' => rr = AM.B true ∧ FarJ g b n fs T x0 m N hp i9 (G2.length + 3) G2.length x (.ms id 0 N.length 6) j (s + 1) hp'') .normal ⟨fr, H2⟩ := fun fr H2 Lo2 Lw2 ko2 kw2 q1 q2 q3 => by
              have w2 := (q1 (G2.length + 3) (by omega) (by omega)).trans e5
              have lw2 := nthH_lt w2
              refine ⟨by rw [hpf_nthH]; exact w2, rfl, ?_⟩
              simp only [setL, lw2, if_true]
              have e6 : ∀ i, i ≠ G2.length + 3 → nthH (H2.set (G2.length + 3) (.lp .ready (G2.length + 3 + 1))) i = nthH H2 i := fun i hi => nthH_set_ne (Ne.symm hi)
              have e7 : ∀ i, i ≠ G2.length + 3 → i ≠ hp.length + 1 → i ≠ hp.length + 3 → nthH (H2.set (G2.length + 3) (.lp .ready (G2.length + 3 + 1))) i = nthH H1 i := fun i h1 h2 h3 => (e6 i h1).trans (q1 i h2 h3)
              have lid := nthH_lt g1'
              exact ⟨⟨(e7 _ (by omega) (by omega) (by omega)).trans bx'.1, (e7 _ (by omega) (by omega) (by omega)).trans bx'.2.1, (e7 _ (by omega) (by omega) (by omega)).trans bx'.2.2⟩, nthH_set_same lw2, by rw [List.length_set]; exact lw2,
                acc'.mono fun i hi => e7 i (by injection hi with hi; omega) (by injection hi with hi; omega) (by injection hi with hi; omega), _, _, _, _, q2.mono2 fun i hi => e6 i (by omega), q3⟩
            cases hg : getR Lo' (pad z) with
            | some v =>
              simp -implicitDefEqProofs (disch := omega) [wrap_id]
              exact fin _ _ _ _ _ _ (fun i _ _ => rfl) b5' (old _ hg)
            | none =>
              have hgn : ∀ q ∈ Lo', q.1 ≠ pad z := fun q hq e => by
                have := getR_of b5'.mo.keys hq
                rw [e, hg] at this; cases this
              have sep : (H'.length == hp.length + 1) = false := by
                rw [beq_eq_false_iff_ne]; omega
              have sep3 : (H'.length == hp.length + 3) = false := by
                rw [beq_eq_false_iff_ne]; omega
              have mx : ((m : Int) + 1) = ((m + 1 : Nat) : Int) := by omega
              simp -implicitDefEqProofs (disch := omega) [wrap_id, b5'.c7, b5'.c8, b5'.c9, f2, pz, tz]
              refine insR_of (n := 6) (x := hp.length + 1) (D := pad z) (v := (m : Int) + 1) rfl row_valC rfl b5'.o pz b5'.mo.wid (fun A q B e e2 => absurd e2 (hgn q (by rw [e]; simp))) (fun _ => ?_)
              have b6' := b5'.putO (b5'.mo.push pz hgn (v := (m : Int) + 1))
              have lo1 := nthH_lt b5'.o
              have q1 : ∀ i, i ≠ hp.length + 1 → nthH (H1.set (hp.length + 1) (mpR (Lo' ++ [(pad z, ko', (m : Int) + 1)]) (ko' + 1))) i = nthH H1 i := fun i hi => nthH_set_ne (Ne.symm hi)
              have kO : Keys6 n (Lo' ++ [(pad z, ko', (m : Int) + 1)]) := fun q hq => by
                rcases List.mem_append.1 hq with hq | hq
                · exact b6.ko q hq
                · rw [List.mem_singleton] at hq; subst hq; exact ⟨z, lz, rfl⟩
              have gO : ∀ D, getR (Lo' ++ [(pad z, ko', (m : Int) + 1)]) D = if D = pad z then some ((m + 1 : Nat) : Int) else getR Lo' D := fun D => by
                rw [← mx]; exact getR_push hgn
              simp -implicitDefEqProofs (disch := omega) [wrap_id, lo1]
              generalize H1.set (hp.length + 1) (mpR (Lo' ++ [(pad z, ko', (m : Int) + 1)]) (ko' + 1)) = H2 at b6' q1 ⊢
              generalize Lo' ++ [(pad z, ko', (m : Int) + 1)] = Lo2 at b6' kO gO
              have lo3 := nthH_lt b6'.w
              refine insR_of (n := 6) (x := hp.length + 3) (D := pad z) (v := (m : Int) + 1) rfl row_valC rfl b6'.w pz b6'.mw.wid (fun A q B e e2 e3 => ?_) (fun hgw => ?_)
              · subst e
                have b7 := b6'.putW (b6'.mw.set (v := (m : Int) + 1))
                have q2 : ∀ i, i ≠ hp.length + 3 → nthH (H2.set (hp.length + 3) (mpR (A ++ (q.1, q.2.1, (m : Int) + 1) :: B) kw')) i = nthH H2 i := fun i hi => nthH_set_ne (Ne.symm hi)
                simp -implicitDefEqProofs (disch := omega) [wrap_id, lo3, cmp2, nthT]
                refine ⟨⟨by omega, by omega⟩, fin _ _ _ _ _ _ (fun i h1 h2 => (q2 i h2).trans (q1 i h1)) b7 (new _ _ hg gO (fun D => ?_) kO fun r hr => ?_)⟩
                · rw [← mx, getR_set (by rw [e2]; exact e3), e2]
                · rcases List.mem_append.1 hr with hr | hr
                  · exact b6.kw r (by simp [hr])
                  · rcases List.mem_cons.1 hr with rfl | hr
                    · exact ⟨z, lz, e2⟩
                    · exact b6.kw r (by simp [hr])
              · have b7 := b6'.putW (b6'.mw.push pz hgw (v := (m : Int) + 1))
                have q2 : ∀ i, i ≠ hp.length + 3 → nthH (H2.set (hp.length + 3) (mpR (Lw' ++ [(pad z, kw', (m : Int) + 1)]) (kw' + 1))) i = nthH H2 i := fun i hi => nthH_set_ne (Ne.symm hi)
                simp -implicitDefEqProofs (disch := omega) [wrap_id, lo3, cmp2, nthT]
                refine ⟨⟨by omega, by omega⟩, fin _ _ _ _ _ _ (fun i h1 h2 => (q2 i h2).trans (q1 i h1)) b7 (new _ _ hg gO (fun D => ?_) kO fun r hr => ?_)⟩
                · rw [← mx]; exact getR_push hgw
                · rcases List.mem_append.1 hr with hr | hr
                  · exact b6.kw r hr
                  · rw [List.mem_singleton] at hr; subst hr; exact ⟨z, lz, rfl⟩
          · rintro H' (hJ | h)
            · obtain ⟨b1, b2, b3, b4, Lo', Lw', ko', kw', b5, b6⟩ := hJ
              rw [l3]
              refine rfEnd_ready b2 ?_
              simp -implicitDefEqProofs (disch := omega) [wrap_id]
              rw [hK2]
              have lw4 : i9 < G2.length := by omega
              have e4 : ∀ i, i ≠ G2.length + 3 → nthH (H'.set (G2.length + 3) .gone) i = nthH H' i := fun i hi => nthH_set_ne (Ne.symm hi)
              rw [← hs.len] at b6
              exact next_eq (j + 1, H'.set (G2.length + 3) .gone) ⟨by simp only; omega, b4.mono fun i hi => e4 i (by have := b4.lt hi; injection hi with hi; have := nthH_lt g1'; omega), _, _, _, _, b5.mono2 fun i hi => e4 i (by omega), b6.row⟩ (by simp only; omega) (by simp only [jx])
            · exact h.elim
        · exact absurd (by rw [hx]; exact hn) (fsn.waits hT h0 wv hj)
      · have hj : j = N.length := by simp at h; omega
        subst hj
        subst hK2
        have fw := fsn.wave hT h0 wv
        have lc := nthH_lt fh.c9
        have mx : ((m : Int) + 1) = ((m + 1 : Nat) : Int) := by omega
        simp -implicitDefEqProofs (disch := omega) [wrap_id, fh.c9]
        rw [hK0]
        exact next_eq (m + 1, G.length, G ++ [.cells [I (m + 1 : Int)]]) ⟨by simp only; omega, _, _, _, _, by simp only [← mx]; exact fh.next, fw⟩ (by simp only; omega) rfl
    · obtain ⟨x, lx, ex⟩ := fo.kw q hq
      have px : (pad x).length = 6 := pad_len (by omega)
      have tx := take_row px
      have lit := nthH_lt d2
      have cs := d3.step fh.mw fo.kw hq hns lx ex
      have ul := unsR_lt hq hns
      have ms : (S ++ [q.2.1]) = (S ++ [q.2.1]) := rfl
      have i3 : nthH (H2.set H.length (.it (hp.length + 3) kw (S ++ [q.2.1]) kw)) H.length = some (.it (hp.length + 3) kw (S ++ [q.2.1]) kw) := nthH_set_same lit
      have n3 : ∀ j, j ≠ H.length → nthH (H2.set H.length (.it (hp.length + 3) kw (S ++ [q.2.1]) kw)) j = nthH H2 j := fun j hj => nthH_set_ne (Ne.symm hj)
      have l3 : (H2.set H.length (.it (hp.length + 3) kw (S ++ [q.2.1]) kw)).length = H2.length := by simp
      have lw3 : hp.length + 3 < H.length := nthH_lt fh.w
      have k3 : ∀ j, j < H.length → nthH (H2.set H.length (.it (hp.length + 3) kw (S ++ [q.2.1]) kw)) j = nthH H j := fun j hj => (n3 j (by omega)).trans (d1 j hj)
      have a3 : AccG (H2.set H.length (.it (hp.length + 3) kw (S ++ [q.2.1]) kw)) y 6 N.length (rowsF N) := d4.mono fun j hj => n3 j (by have := d5 j hj; omega)
      have w3 := (k3 _ lw3).trans fh.w
      simp -implicitDefEqProofs (disch := omega) [wrap_id, lit]
      generalize H2.set H.length (.it (hp.length + 3) kw (S ++ [q.2.1]) kw) = H3 at i3 n3 l3 k3 a3 w3 ⊢
      simp -implicitDefEqProofs (disch := omega) [wrap_id, xx_ent]
      refine entR_of (L := Lw) (clk := kw) (S := S) i3 w3 fh.mw hq ?_
      rw [ex]
      simp -implicitDefEqProofs (disch := omega) [wrap_id, px]
      obtain ⟨f1, f2, f3⟩ := app_new (H := H3) (o := .cells (rowC (pad x)))
      have a4 : AccG (H3 ++ [.cells (rowC (pad x))]) y 6 N.length (rowsF N) := a3.mono fun j hj => f1 j (a3.lt hj)
      generalize H3 ++ [HObj.cells (rowC (pad x))] = H4 at f1 f2 f3 a4 ⊢
      rw [tx]
      refine bsl_of (ys := [.agg (rowC (pad x))]) row_pur1 ?_ ?_
      · simp only [List.all_cons, List.all_nil, Bool.and_true]
        show ((rowC _).all _ && (rowC _).all _ && _) = true
        rw [row_ci, row_pu]
        simp [AV.cells, px]
      rw [zrow px]
      simp -implicitDefEqProofs (disch := omega) [wrap_id]
      have nl : N.length ≤ 46656 := rows_le hT h0 h6 hc (m := m) d3.nd fun x hx => by
        obtain ⟨r, hr, _, e⟩ := d3.sub x hx
        refine (fo.wait x (d3.len x hx)).1 ?_
        rw [← e, getR_of fh.mw.keys hr]
        exact fun h => by cases h
      refine app_accG (ys := rowC (pad x)) a4 (by omega) (by decide) (by simp [px]) row_pc fun ws q1 q2 q3 => ?_
      simp -implicitDefEqProofs (disch := omega) [wrap_id]
      have q4 : ∀ j, j < H3.length → rid y ≠ some j → nthH (writeL H4 ws) j = nthH H3 j := fun j hj hr => (q1 j (by omega) hr).trans (f1 j hj)
      have nr : ∀ j, j ≤ H.length → rid y ≠ some j := fun j hj e => by have := d5 j e; omega
      rw [hK1]
      refine next_eq (S ++ [q.2.1], .ms H4.length 0 (N.length + 1) 6, writeL H4 ws) ⟨by simp only; omega, fun j hj => ((q4 j (by omega) (nr j (by omega))).trans (k3 j hj)), (q4 _ (by omega) (nr _ (Nat.le_refl _))).trans i3, N ++ [x], cs, ?_, ?_⟩ ul rfl
      · simp only
        rw [rowsF_snoc, List.length_append, List.length_singleton]
        exact q3
      · simp only [rid]; intro j hj; injection hj with hj; omega
  · have he : Lw = [] := by
      cases Lw with
      | nil => rfl
      | cons q L => simp at hcw
    subst he
    subst hK0
    simp -implicitDefEqProofs (disch := omega) [wrap_id, fh.c7]
    exact hK H _ Lo ko fh.mo (fo.fin hT h0) fh.o (by omega) fh.keep
end Go.AM
