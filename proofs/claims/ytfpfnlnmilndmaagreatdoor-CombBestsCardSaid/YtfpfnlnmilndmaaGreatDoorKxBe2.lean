/-
  KxBe2: texts joined: FmCF Cb4 Cb5 Cb6 Cb7 Cb8 Cb15 Cb16 Cb17 Cb18 FmCL Lc1 Ld2. Own work.
-/
import Derived.Test.YtfpfnlnmilndmaaGreatDoorKxBe1
import Derived.Test.YtfpfnlnmilndmaaGreatDoorProg
set_option linter.unusedSimpArgs false
set_option linter.unusedVariables false

set_option maxRecDepth 100000
namespace Go.AM
open Go.RowKit Go.Proofs
abbrev n_r_Places : Nat := 21
def G_r_Places : AC := (.seq (.rgn [⟨none,[(.box 2 2 (.t 0)),(.mv 4 (.k (.sl true 0 []))),(.mv 5 (.k (I 0)))]⟩] [1,2]) (.seq (.seq (.rgn [⟨none,[(.ld 8 true 2 (.t 2)),(.call 9 25 [(.t 8)]),(.bin 10 .neq (.t 9) (.k (I 0)))]⟩] [1,2,10]) (.cond (.t 10) (.seq (.rgn [⟨none,[(.ld 11 true 2 (.t 2)),(.call 12 25 [(.t 11)]),(.mv 4 (.k (.sl true 0 []))),(.mv 5 (.t 12))]⟩] [4,5]) .ret) .skip)) (.seq (.seq (.rgn [⟨none,[(.ld 13 true 2 (.t 2)),(.mv 14 (.t 1)),(.call 15 61 [(.t 13),(.t 14)]),(.un 16 .not (.t 15))]⟩] [1,2,16]) (.cond (.t 16) (.seq (.rgn [⟨none,[(.mv 4 (.k (.sl true 0 []))),(.mv 5 (.k (I 2)))]⟩] [4,5]) .ret) .skip)) (.seq (.rgn [⟨none,[(.mv 6 (.k (.sl true 0 [])))]⟩] [1,2,6]) (.seq (.seq (.rgn [⟨none,[(.mv 7 (.k (I 0)))]⟩] [1,2,6,7]) (.block 0 (.loop (.seq (.seq (.rgn [⟨none,[(.mv 17 (.t 7)),(.bin 18 .leq (.t 17) (.k (I 500)))]⟩] [1,2,6,7,18]) (.cond (.t 18) .skip (.exit 0))) (.seq (.block 1 (.seq (.rgn [⟨none,[(.ld 21 true 2 (.t 2)),(.mv 22 (.t 1)),(.mv 23 (.t 7)),(.bld 24 [(I 0),(I 0)] [(0,1,(.t 22)),(1,1,(.t 23))]),(.call 25 62 [(.t 21),(.t 24)]),(.bin 26 .neq (.t 25) (.k (I 0)))]⟩] [1,2,6,7,26]) (.cond (.t 26) (.rgn [⟨none,[(.mv 27 (.t 6)),(.mv 28 (.t 7)),(.bsl 29 1 1 [(I 0)] [(0,(.t 28))]),(.app 30 1 8 (.t 27) (.t 29)),(.mv 6 (.t 30))]⟩] [1,2,6,7]) .skip))) (.rgn [⟨none,[(.mv 19 (.t 7)),(.bin 20 .add (.t 19) (.k (I 1))),(.mv 7 (.t 20))]⟩] [1,2,6,7])))))) (.seq (.rgn [⟨none,[(.mv 31 (.t 6)),(.mv 4 (.t 31)),(.mv 5 (.k (I 0)))]⟩] [4,5]) .ret))))))
theorem func_r_Places : Tryz.prog.funcs[n_r_Places]? = some Tryz.f21 := Tryz.func21
theorem form_r_Places : formOf Tryz.prog Tryz.f21 [4,5] = some G_r_Places := by kernel_rfl
theorem res_r_Places : resTmps Tryz.f21.results.toList = some [4,5] := by kernel_rfl
abbrev n_r_Count : Nat := 31
def G_r_Count : AC := (.seq (.rgn [⟨none,[(.box 1 2 (.t 0)),(.mv 2 (.k (I 0))),(.mv 3 (.k (I 0)))]⟩] [1]) (.seq (.seq (.rgn [⟨none,[(.ld 6 true 2 (.t 1)),(.call 7 25 [(.t 6)]),(.bin 8 .neq (.t 7) (.k (I 0)))]⟩] [1,8]) (.cond (.t 8) (.seq (.rgn [⟨none,[(.ld 9 true 2 (.t 1)),(.call 10 25 [(.t 9)]),(.mv 2 (.k (I 0))),(.mv 3 (.t 10))]⟩] [2,3]) .ret) .skip)) (.seq (.seq (.rgn [⟨none,[(.ld 11 true 2 (.t 1)),(.call 12 66 [(.t 11)]),(.len 13 (.t 12)),(.bin 14 .gtr (.t 13) (.k (I 0)))]⟩] [1,14]) (.cond (.t 14) (.seq (.rgn [⟨none,[(.mv 2 (.k (I 0))),(.mv 3 (.k (I 19)))]⟩] [2,3]) .ret) .skip)) (.seq (.drw [⟨none,[(.ld 16 true 2 (.t 1)),(.ld 17 true 2 (.t 1)),(.call 18 35 [(.t 17)]),(.call 19 34 [(.t 16),(.t 18)]),(.mv 15 (.t 19)),(.ext 20 (.t 15) 0),(.ext 21 (.t 15) 1),(.mv 4 (.t 20)),(.mv 5 (.t 21))]⟩] [(0,1),(0,2)] [5]) (.seq (.seq (.rgn [⟨none,[(.mv 22 (.t 5)),(.bin 23 .eql (.t 22) (.k (I 1099511627777)))]⟩] [5,23]) (.cond (.t 23) (.seq (.rgn [⟨none,[(.mv 2 (.k (I 0))),(.mv 3 (.k (I 4)))]⟩] [2,3]) .ret) .skip)) (.seq (.rgn [⟨none,[(.mv 24 (.t 5)),(.mv 2 (.t 24)),(.mv 3 (.k (I 0)))]⟩] [2,3]) .ret))))))
theorem func_r_Count : Tryz.prog.funcs[n_r_Count]? = some Tryz.f31 := Tryz.func31
theorem form_r_Count : formOf Tryz.prog Tryz.f31 [2,3] = some G_r_Count := by kernel_rfl
theorem res_r_Count : resTmps Tryz.f31.results.toList = some [2,3] := by kernel_rfl
abbrev n_r_Fewest : Nat := 34
def G_r_Fewest : AC := (.seq (.rgn [⟨none,[(.box 2 2 (.t 0)),(.mv 4 (.k (I 0))),(.mv 5 (.k (I 0)))]⟩] [1,2]) (.seq (.rgn [⟨none,[(.ld 8 true 2 (.t 2)),(.mv 9 (.t 1)),(.call 10 83 [(.t 8),(.t 9),(.k (I 0))]),(.mv 6 (.t 10))]⟩] [6]) (.seq (.seq (.rgn [⟨none,[(.mv 7 (.k (I 1)))]⟩] [6,7]) (.block 0 (.loop (.seq (.seq (.rgn [⟨none,[(.mv 11 (.t 7)),(.mv 12 (.t 6)),(.len 13 (.t 12)),(.bin 14 .lss (.t 11) (.t 13))]⟩] [6,7,14]) (.cond (.t 14) .skip (.exit 0))) (.seq (.block 1 (.seq (.rgn [⟨none,[(.mv 17 (.t 6)),(.mv 18 (.t 7)),(.ia 19 1 (.t 17) (.t 18)),(.ld 20 false 1 (.t 19)),(.bin 21 .gtr (.t 20) (.k (I 0)))]⟩] [6,7,21]) (.cond (.t 21) (.seq (.drw [⟨none,[(.mv 22 (.t 7)),(.mv 23 (.t 6)),(.mv 24 (.t 7)),(.ia 25 1 (.t 23) (.t 24)),(.ld 26 false 1 (.t 25)),(.mv 4 (.t 22)),(.mv 5 (.t 26))]⟩] [] [4,5]) .ret) .skip))) (.rgn [⟨none,[(.mv 15 (.t 7)),(.bin 16 .add (.t 15) (.k (I 1))),(.mv 7 (.t 16))]⟩] [6,7])))))) (.seq (.rgn [⟨none,[(.mv 4 (.k (I 0))),(.mv 5 (.k (I 0)))]⟩] [4,5]) .ret))))
theorem func_r_Fewest : Tryz.prog.funcs[n_r_Fewest]? = some Tryz.f34 := Tryz.func34
theorem form_r_Fewest : formOf Tryz.prog Tryz.f34 [4,5] = some G_r_Fewest := by kernel_rfl
theorem res_r_Fewest : resTmps Tryz.f34.results.toList = some [4,5] := by kernel_rfl
abbrev n_r_Rows : Nat := 35
def G_r_Rows : AC := (.seq (.rgn [⟨none,[(.box 1 2 (.t 0)),(.mv 2 (.k (.sl true 0 [])))]⟩] [1]) (.seq (.rgn [⟨none,[(.mv 3 (.k (.sl true 0 [])))]⟩] [1,3]) (.seq (.seq (.rgn [⟨none,[(.mv 4 (.k (I 0)))]⟩] [1,3,4]) (.block 0 (.loop (.seq (.seq (.rgn [⟨none,[(.mv 8 (.t 4)),(.fa 9 (.t 1) 0),(.ld 10 false 1 (.t 9)),(.len 11 (.t 10)),(.bin 12 .lss (.t 8) (.t 11))]⟩] [1,3,4,12]) (.cond (.t 12) .skip (.exit 0))) (.seq (.block 1 (.seq (.rgn [⟨none,[(.ld 16 true 2 (.t 1)),(.mv 17 (.t 4)),(.call 18 21 [(.t 16),(.t 17)]),(.mv 15 (.t 18)),(.ext 19 (.t 15) 0),(.ext 20 (.t 15) 1),(.mv 5 (.t 19)),(.mv 6 (.t 20))]⟩] [1,3,4,5]) (.seq (.rgn [⟨none,[(.mv 7 (.k (I 0)))]⟩] [1,3,4,5,7]) (.block 2 (.loop (.seq (.seq (.rgn [⟨none,[(.mv 21 (.t 7)),(.mv 22 (.t 5)),(.len 23 (.t 22)),(.bin 24 .lss (.t 21) (.t 23))]⟩] [1,3,4,5,7,24]) (.cond (.t 24) .skip (.exit 2))) (.seq (.block 3 (.rgn [⟨none,[(.mv 27 (.t 3)),(.mv 28 (.t 4)),(.mv 29 (.t 5)),(.mv 30 (.t 7)),(.ia 31 1 (.t 29) (.t 30)),(.ld 32 false 1 (.t 31)),(.bld 33 [(I 0),(I 0)] [(0,1,(.t 28)),(1,1,(.t 32))]),(.bsl 34 1 2 [(I 0),(I 0)] [(0,(.t 33))]),(.app 35 2 16 (.t 27) (.t 34)),(.mv 3 (.t 35))]⟩] [1,3,4,5,7])) (.rgn [⟨none,[(.mv 25 (.t 7)),(.bin 26 .add (.t 25) (.k (I 1))),(.mv 7 (.t 26))]⟩] [1,3,4,5,7])))))))) (.rgn [⟨none,[(.mv 13 (.t 4)),(.bin 14 .add (.t 13) (.k (I 1))),(.mv 4 (.t 14))]⟩] [1,3,4])))))) (.seq (.rgn [⟨none,[(.mv 36 (.t 3)),(.mv 2 (.t 36))]⟩] [2]) .ret))))
theorem func_r_Rows : Tryz.prog.funcs[n_r_Rows]? = some Tryz.f35 := Tryz.func35
theorem form_r_Rows : formOf Tryz.prog Tryz.f35 [2] = some G_r_Rows := by kernel_rfl
theorem res_r_Rows : resTmps Tryz.f35.results.toList = some [2] := by kernel_rfl
abbrev n_r_Ordered : Nat := 36
def G_r_Ordered : AC := (.seq (.rgn [⟨none,[(.mv 2 (.k (B false)))]⟩] [0]) (.seq (.seq (.rgn [⟨none,[(.mv 3 (.k (I 1)))]⟩] [0,3]) (.block 0 (.loop (.seq (.seq (.rgn [⟨none,[(.mv 6 (.t 3)),(.mv 7 (.t 0)),(.len 8 (.t 7)),(.bin 9 .lss (.t 6) (.t 8))]⟩] [0,3,9]) (.cond (.t 9) .skip (.exit 0))) (.seq (.block 1 (.seq (.drw [⟨none,[(.mv 12 (.t 0)),(.mv 13 (.t 3)),(.bin 14 .sub (.t 13) (.k (I 1))),(.ia 15 2 (.t 12) (.t 14)),(.ld 16 true 2 (.t 15)),(.mv 17 (.t 0)),(.mv 18 (.t 3)),(.ia 19 2 (.t 17) (.t 18)),(.ld 20 true 2 (.t 19)),(.al 4 [(I 0),(I 0)]),(.al 5 [(I 0),(I 0)]),(.st 2 (.t 4) (.t 16)),(.st 2 (.t 5) (.t 20))]⟩] [(4,8),(4,9),(8,9),(4,10),(8,10),(9,10),(8,11)] [0,3,4,5]) (.seq (.rgn [⟨none,[(.fa 21 (.t 5) 0),(.ld 22 false 1 (.t 21)),(.fa 23 (.t 4) 0),(.ld 24 false 1 (.t 23)),(.bin 25 .lss (.t 22) (.t 24)),(.mv 26 (.t 25))]⟩,⟨(some (26,false)),[(.fa 27 (.t 5) 0),(.ld 28 false 1 (.t 27)),(.fa 29 (.t 4) 0),(.ld 30 false 1 (.t 29)),(.bin 31 .eql (.t 28) (.t 30)),(.mv 32 (.t 31))]⟩,⟨(some (32,true)),[(.fa 33 (.t 5) 1),(.ld 34 false 1 (.t 33)),(.fa 35 (.t 4) 1),(.ld 36 false 1 (.t 35)),(.bin 37 .leq (.t 34) (.t 36))]⟩,⟨(some (26,false)),[(.pick 38 (.t 32) (.t 37) (.k (B false)))]⟩,⟨none,[(.pick 39 (.t 26) (.k (B true)) (.t 38))]⟩] [0,3,39]) (.cond (.t 39) (.seq (.rgn [⟨none,[(.mv 2 (.k (B false)))]⟩] [2]) .ret) .skip)))) (.rgn [⟨none,[(.mv 10 (.t 3)),(.bin 11 .add (.t 10) (.k (I 1))),(.mv 3 (.t 11))]⟩] [0,3])))))) (.seq (.rgn [⟨none,[(.mv 2 (.k (B true)))]⟩] [2]) .ret)))
theorem func_r_Ordered : Tryz.prog.funcs[n_r_Ordered]? = some Tryz.f36 := Tryz.func36
theorem form_r_Ordered : formOf Tryz.prog Tryz.f36 [2] = some G_r_Ordered := by kernel_rfl
theorem res_r_Ordered : resTmps Tryz.f36.results.toList = some [2] := by kernel_rfl
abbrev n_r_List : Nat := 52
def G_r_List : AC := (.seq (.rgn [⟨none,[(.mv 2 (.k (.sl true 0 [])))]⟩] [0]) (.seq (.rgn [⟨none,[(.mv 3 (.k (.sl true 0 [])))]⟩] [0,3]) (.seq (.seq (.rgn [⟨none,[(.mv 4 (.k (I 0)))]⟩] [0,3,4]) (.block 0 (.loop (.seq (.seq (.rgn [⟨none,[(.mv 5 (.t 0)),(.mv 6 (.t 4)),(.bin 7 .shr (.t 5) (.t 6)),(.bin 8 .gtr (.t 7) (.k (I 0)))]⟩] [0,3,4,8]) (.cond (.t 8) .skip (.exit 0))) (.seq (.block 1 (.seq (.rgn [⟨none,[(.mv 11 (.t 0)),(.mv 12 (.t 4)),(.bin 13 .shr (.t 11) (.t 12)),(.bin 14 .and (.t 13) (.k (I 1))),(.bin 15 .eql (.t 14) (.k (I 1)))]⟩] [0,3,4,15]) (.cond (.t 15) (.rgn [⟨none,[(.mv 16 (.t 3)),(.mv 17 (.t 4)),(.bsl 18 1 1 [(I 0)] [(0,(.t 17))]),(.app 19 1 8 (.t 16) (.t 18)),(.mv 3 (.t 19))]⟩] [0,3,4]) .skip))) (.rgn [⟨none,[(.mv 9 (.t 4)),(.bin 10 .add (.t 9) (.k (I 1))),(.mv 4 (.t 10))]⟩] [0,3,4])))))) (.seq (.rgn [⟨none,[(.mv 20 (.t 3)),(.mv 2 (.t 20))]⟩] [2]) .ret))))
theorem func_r_List : Tryz.prog.funcs[n_r_List]? = some Tryz.f52 := Tryz.func52
theorem form_r_List : formOf Tryz.prog Tryz.f52 [2] = some G_r_List := by kernel_rfl
theorem res_r_List : resTmps Tryz.f52.results.toList = some [2] := by kernel_rfl
abbrev n_r_lost : Nat := 66
def G_r_lost : AC := (.seq (.rgn [⟨none,[(.box 1 2 (.t 0)),(.mv 2 (.k (.sl true 0 [])))]⟩] [1]) (.seq (.rgn [⟨none,[(.ld 6 true 2 (.t 1)),(.call 7 35 [(.t 6)]),(.mv 3 (.t 7))]⟩] [1,3]) (.seq (.rgn [⟨none,[(.mv 4 (.k (I 0)))]⟩] [1,3,4]) (.seq (.seq (.rgn [⟨none,[(.mv 5 (.k (I 0)))]⟩] [1,3,4,5]) (.block 0 (.loop (.seq (.seq (.rgn [⟨none,[(.mv 8 (.t 5)),(.mv 9 (.t 3)),(.len 10 (.t 9)),(.bin 11 .lss (.t 8) (.t 10))]⟩] [1,3,4,5,11]) (.cond (.t 11) .skip (.exit 0))) (.seq (.block 1 (.drw [⟨none,[(.mv 14 (.t 4)),(.ld 15 true 2 (.t 1)),(.mv 16 (.t 3)),(.mv 17 (.t 5)),(.ia 18 2 (.t 16) (.t 17)),(.ld 19 true 2 (.t 18)),(.call 20 62 [(.t 15),(.t 19)]),(.bin 21 .or (.t 14) (.t 20)),(.mv 4 (.t 21))]⟩] [(1,5)] [1,3,4,5])) (.rgn [⟨none,[(.mv 12 (.t 5)),(.bin 13 .add (.t 12) (.k (I 1))),(.mv 5 (.t 13))]⟩] [1,3,4,5])))))) (.seq (.rgn [⟨none,[(.fa 22 (.t 1) 1),(.ld 23 false 1 (.t 22)),(.len 24 (.t 23)),(.bin 25 .shl (.k (I 1)) (.t 24)),(.bin 26 .sub (.t 25) (.k (I 1))),(.mv 27 (.t 4)),(.bin 28 .sub (.t 26) (.t 27)),(.call 29 52 [(.t 28)]),(.mv 2 (.t 29))]⟩] [2]) .ret)))))
theorem func_r_lost : Tryz.prog.funcs[n_r_lost]? = some Tryz.f66 := Tryz.func66
theorem form_r_lost : formOf Tryz.prog Tryz.f66 [2] = some G_r_lost := by kernel_rfl
theorem res_r_lost : resTmps Tryz.f66.results.toList = some [2] := by kernel_rfl
abbrev n_r_counts : Nat := 83
def G_r_counts : AC := (.seq (.rgn [⟨none,[(.box 3 2 (.t 0)),(.mv 6 (.k (.sl true 0 [])))]⟩] [1,2,3]) (.seq (.drw [⟨none,[(.fa 17 (.t 3) 1),(.ld 18 false 1 (.t 17)),(.len 19 (.t 18)),(.fa 20 (.t 3) 1),(.ld 21 false 1 (.t 20)),(.len 22 (.t 21)),(.bin 23 .shl (.k (I 1)) (.t 22)),(.mv 7 (.t 19)),(.mv 8 (.t 23))]⟩] [(1,4)] [1,2,3,7,8]) (.seq (.rgn [⟨none,[(.mv 24 (.t 7)),(.bin 25 .add (.t 24) (.k (I 1))),(.mv 26 (.t 8)),(.bin 27 .mul (.t 25) (.t 26)),(.mks 28 1 8 [(I 0)] (.t 27) (.t 27)),(.mv 9 (.t 28))]⟩] [1,2,3,7,8,9]) (.seq (.rgn [⟨none,[(.mv 29 (.t 9)),(.mv 30 (.t 2)),(.ia 31 1 (.t 29) (.t 30)),(.st 1 (.t 31) (.k (I 1)))]⟩] [1,3,7,8,9]) (.seq (.seq (.rgn [⟨none,[(.mv 10 (.k (I 0)))]⟩] [1,3,7,8,9,10]) (.block 0 (.loop (.seq (.seq (.rgn [⟨none,[(.mv 32 (.t 10)),(.mv 33 (.t 1)),(.len 34 (.t 33)),(.bin 35 .lss (.t 32) (.t 34))]⟩] [1,3,7,8,9,10,35]) (.cond (.t 35) .skip (.exit 0))) (.seq (.block 1 (.seq (.drw [⟨none,[(.ld 38 true 2 (.t 3)),(.mv 39 (.t 1)),(.mv 40 (.t 10)),(.ia 41 2 (.t 39) (.t 40)),(.ld 42 true 2 (.t 41)),(.call 43 62 [(.t 38),(.t 42)]),(.mv 11 (.t 43))]⟩] [(0,4)] [1,3,7,8,9,10,11]) (.seq (.rgn [⟨none,[(.mv 44 (.t 7)),(.bin 45 .sub (.t 44) (.k (I 1))),(.mv 12 (.t 45))]⟩] [1,3,7,8,9,10,11,12]) (.block 2 (.loop (.seq (.seq (.rgn [⟨none,[(.mv 46 (.t 12)),(.bin 47 .geq (.t 46) (.k (I 0)))]⟩] [1,3,7,8,9,10,11,12,47]) (.cond (.t 47) .skip (.exit 2))) (.seq (.block 3 (.seq (.rgn [⟨none,[(.mv 13 (.k (I 0)))]⟩] [1,3,7,8,9,10,11,12,13]) (.block 4 (.loop (.seq (.seq (.rgn [⟨none,[(.mv 50 (.t 13)),(.mv 51 (.t 8)),(.bin 52 .lss (.t 50) (.t 51))]⟩] [1,3,7,8,9,10,11,12,13,52]) (.cond (.t 52) .skip (.exit 4))) (.seq (.block 5 (.seq (.rgn [⟨none,[(.mv 55 (.t 12)),(.bin 56 .add (.t 55) (.k (I 1))),(.mv 57 (.t 8)),(.bin 58 .mul (.t 56) (.t 57)),(.mv 59 (.t 13)),(.mv 60 (.t 11)),(.bin 61 .or (.t 59) (.t 60)),(.bin 62 .add (.t 58) (.t 61)),(.mv 14 (.t 62))]⟩] [1,3,7,8,9,10,11,12,13,14]) (.drw [⟨none,[(.mv 63 (.t 9)),(.mv 64 (.t 14)),(.mv 65 (.t 9)),(.mv 66 (.t 14)),(.ia 67 1 (.t 65) (.t 66)),(.ld 68 false 1 (.t 67)),(.mv 69 (.t 9)),(.mv 70 (.t 12)),(.mv 71 (.t 8)),(.bin 72 .mul (.t 70) (.t 71)),(.mv 73 (.t 13)),(.bin 74 .add (.t 72) (.t 73)),(.ia 75 1 (.t 69) (.t 74)),(.ld 76 false 1 (.t 75)),(.bin 77 .add (.t 68) (.t 76)),(.mx 78 false (.k (I 1099511627777)) (.t 77)),(.ia 79 1 (.t 63) (.t 64)),(.st 1 (.t 79) (.t 78))]⟩] [(5,13)] [1,3,7,8,9,10,11,12,13]))) (.rgn [⟨none,[(.mv 53 (.t 13)),(.bin 54 .add (.t 53) (.k (I 1))),(.mv 13 (.t 54))]⟩] [1,3,7,8,9,10,11,12,13]))))))) (.rgn [⟨none,[(.mv 48 (.t 12)),(.bin 49 .sub (.t 48) (.k (I 1))),(.mv 12 (.t 49))]⟩] [1,3,7,8,9,10,11,12])))))))) (.rgn [⟨none,[(.mv 36 (.t 10)),(.bin 37 .add (.t 36) (.k (I 1))),(.mv 10 (.t 37))]⟩] [1,3,7,8,9,10])))))) (.seq (.rgn [⟨none,[(.mv 15 (.k (.sl true 0 [])))]⟩] [7,8,9,15]) (.seq (.seq (.rgn [⟨none,[(.mv 16 (.k (I 0)))]⟩] [7,8,9,15,16]) (.block 6 (.loop (.seq (.seq (.rgn [⟨none,[(.mv 80 (.t 16)),(.mv 81 (.t 7)),(.bin 82 .leq (.t 80) (.t 81))]⟩] [7,8,9,15,16,82]) (.cond (.t 82) .skip (.exit 6))) (.seq (.block 7 (.rgn [⟨none,[(.mv 85 (.t 15)),(.mv 86 (.t 9)),(.mv 87 (.t 16)),(.mv 88 (.t 8)),(.bin 89 .mul (.t 87) (.t 88)),(.mv 90 (.t 8)),(.bin 91 .add (.t 89) (.t 90)),(.bin 92 .sub (.t 91) (.k (I 1))),(.ia 93 1 (.t 86) (.t 92)),(.ld 94 false 1 (.t 93)),(.bsl 95 1 1 [(I 0)] [(0,(.t 94))]),(.app 96 1 8 (.t 85) (.t 95)),(.mv 15 (.t 96))]⟩] [7,8,9,15,16])) (.rgn [⟨none,[(.mv 83 (.t 16)),(.bin 84 .add (.t 83) (.k (I 1))),(.mv 16 (.t 84))]⟩] [7,8,9,15,16])))))) (.seq (.rgn [⟨none,[(.mv 97 (.t 15)),(.mv 6 (.t 97))]⟩] [6]) .ret))))))))
theorem func_r_counts : Tryz.prog.funcs[n_r_counts]? = some Tryz.f83 := Tryz.func83
theorem form_r_counts : formOf Tryz.prog Tryz.f83 [6] = some G_r_counts := by kernel_rfl
theorem res_r_counts : resTmps Tryz.f83.results.toList = some [6] := by kernel_rfl
end Go.AM

namespace Go.AM
open Go.RowKit Go.Proofs
theorem bitT_end {n i : Nat} (h : shrN n i = 0) : ∀ {d : Nat},bitT n (i + d) = bitT n i
 | 0 => rfl
 | d + 1 => by
   rw [show i + (d + 1) = i + d + 1 from rfl,bitT_succ,bitT_end h]
   have : n.testBit (i + d) = false := by
    rw [Nat.testBit_eq_decide_div_mod_eq]
    have h0 : n < 2 ^ i := by
     unfold shrN at h
     rcases Nat.div_eq_zero_iff.1 h with h | h
     · have := Nat.two_pow_pos i; omega
     · exact h
    have h1 : n < 2 ^ (i + d) := Nat.lt_of_lt_of_le h0 (Nat.pow_le_pow_right (by decide) (by omega))
    rw [Nat.div_eq_of_lt h1]; rfl
   rw [this]; simp
set_option maxHeartbeats 2000000 in
theorem r_List_ok (n : Nat) (hn : n < 2 ^ 60) : PureOK Tryz.prog n_r_List [I (n : Int)] (Ls (bitL n).isEmpty (bitL n)) := by
 refine pure_of (walk func_r_List form_r_List res_r_List (by show 1 ≤ _; decide) ?_)
 simp -implicitDefEqProofs (disch := omega) [G_r_List,wrap_id]
 refine loop_eq (fun q : Nat × AV × List HObj => ⟨[(0,I (n : Int)),(3,q.2.1),(4,I (q.1 : Int))],q.2.2⟩) (fun q => q.1 ≤ 60 ∧ AccR q.2.2 q.2.1 (bitT n q.1)) (fun q => 60 - q.1) (0,.sl true 0 [],[]) ⟨Nat.zero_le _,.inl ⟨rfl,by simp [bitT]⟩⟩ rfl ?_
 rintro ⟨i,x,H⟩ ⟨d1,d2⟩
 simp only at d1 d2 ⊢
 refine hideK' fun K0 hK0 => ?_
 have hs := shrN_small (i := i) hn
 simp -implicitDefEqProofs (disch := omega) [wrap_id,-b_shr,bw_shr]
 refine c_split (fun hc => ?_) (fun hc => ?_)
 · have hc : 0 < shrN n i := by simpa using hc
   have hi : i < 60 := by
    apply Classical.byContradiction
    intro h
    have : i = 60 := by omega
    subst this
    unfold shrN at hc
    rw [Nat.div_eq_of_lt hn] at hc
    omega
   have ix : ((i : Int) + 1) = ((i + 1 : Nat) : Int) := by omega
   have bl := bitT_len (n := n) (i := i)
   simp -implicitDefEqProofs (disch := omega) [wrap_id,-b_shr,bw_shr,-b_and,bw_and,hs,bitN_one]
   cases hb : n.testBit i with
   | false =>
     have e : bitT n (i + 1) = bitT n i := by rw [bitT_succ,hb]; simp
     simp -implicitDefEqProofs (disch := omega) [wrap_id]
     rw [hK0]
     refine next_eq (i + 1,x,H) ⟨by simp only; omega,by simp only [e]; exact d2⟩ (by simp only; omega) (by simp only [ix])
   | true =>
     have e : bitT n (i + 1) = bitT n i ++ [(i : Int)] := by rw [bitT_succ,hb]; simp
     simp -implicitDefEqProofs (disch := omega) [wrap_id]
     refine bsl_of (ys := [I (i : Int)]) rfl rfl ?_
     simp -implicitDefEqProofs (disch := omega) [wrap_id,zrep]
     refine app_row d2.row (by omega) fun ws w1 w2 w3 => ?_
     simp -implicitDefEqProofs (disch := omega) [wrap_id]
     rw [hK0]
     refine next_eq (i + 1,.ms H.length 0 ((bitT n i).length + 1) 1,writeL H ws) ⟨by simp only; omega,.inr ⟨H.length,?_,?_,?_⟩⟩ (by simp only; omega) (by simp only [ix])
     · simp only [e]; simp
     · simp only [e]; simp
     · simp only [e]; exact w3
 · have hc : shrN n i = 0 := by simp at hc; omega
   subst hK0
   have e : bitL n = bitT n i := by
    have := bitT_end hc (d := 60 - i)
    rw [show i + (60 - i) = 60 from by omega] at this
    exact this
   rw [e]
   simp -implicitDefEqProofs (disch := omega) [wrap_id]
   exact d2.out
end Go.AM

namespace Go.AM
open Go.RowKit Go.Proofs
set_option maxHeartbeats 4000000 in
theorem r_Places_ok (f g : Bool) (s : SH) (hz : SzS s) (c : Int) : PureOK Tryz.prog n_r_Places [Sn f g s,I c] (.tup [Ls (plsL s c).isEmpty (plsL s c),I (plsE s c)]) := by
 refine pure_of (walk func_r_Places form_r_Places res_r_Places (by show 2 ≤ _; decide) ?_)
 simp -implicitDefEqProofs (disch := omega) [G_r_Places,wrap_id]
 refine callW_pure rfl (r_CheckSheet_ok f g s hz) ?_
 by_cases h0 : shtE s = 0
 · have hv := val_of h0
   rw [h0]
   simp -implicitDefEqProofs (disch := omega) [wrap_id]
   refine callW_pure rfl (r_IsComb_ok f g s c) ?_
   cases hk : isK s c with
   | false =>
     have e : plsE s c = 2 := by unfold plsE; rw [if_neg (by omega),if_pos hk]
     have e2 : plsL s c = [] := by unfold plsL; rw [if_neg (by omega)]
     rw [e,e2]
     simp -implicitDefEqProofs (disch := omega) [wrap_id]
     exact out_of (is := []) rfl
   | true =>
     have e : plsE s c = 0 := by unfold plsE; rw [if_neg (by omega),if_neg (by rw [hk]; decide)]
     have e2 : plsL s c = plcT s c 501 := by unfold plsL; rw [if_pos e]
     rw [e,e2]
     simp -implicitDefEqProofs (disch := omega) [wrap_id]
     refine loop_eq (fun q : Nat × AV × List HObj => ⟨[(1,I c),(2,.ref 0 0),(6,q.2.1),(7,I (q.1 : Int))],q.2.2⟩) (fun q => q.1 ≤ 501 ∧ AccR q.2.2 q.2.1 (plcT s c q.1) ∧ nthH q.2.2 0 = some (.cells [Ps f s.k,Ps g s.m]) ∧ rid q.2.1 ≠ some 0) (fun q => 501 - q.1) (0,.sl true 0 [],[.cells [Ps f s.k,Ps g s.m]]) ⟨Nat.zero_le _,.inl ⟨rfl,by simp [plcT]⟩,rfl,by simp [rid]⟩ rfl ?_
     rintro ⟨i,x,H⟩ ⟨d1,d2,d3,d4⟩
     simp only at d1 d2 d3 d4 ⊢
     have l0 := nthH_lt d3
     refine hideK' fun K0 hK0 => ?_
     simp -implicitDefEqProofs (disch := omega) [wrap_id]
     refine c_split (fun hc => ?_) (fun hc => ?_)
     · have hi : i < 501 := by simp at hc; omega
       have ix : ((i : Int) + 1) = ((i + 1 : Nat) : Int) := by omega
       have pl := plcT_len (s := s) (c := c) (i := i)
       simp -implicitDefEqProofs (disch := omega) [wrap_id,d3,ldr_some]
       refine callW_pure rfl (r_Bits_ok f g s hv (c,(i : Int)) hk) ?_
       by_cases hb : bitO s (c,(i : Int)) = 0
       · have e : plcT s c (i + 1) = plcT s c i := by rw [plcT_succ,if_neg (by omega)]; simp
         rw [hb]
         simp -implicitDefEqProofs (disch := omega) [wrap_id]
         rw [hK0]
         refine next_eq (i + 1,x,H) ⟨by simp only; omega,by simp only [e]; exact d2,d3,d4⟩ (by simp only; omega) (by simp only [ix])
       · have e : plcT s c (i + 1) = plcT s c i ++ [(i : Int)] := by rw [plcT_succ,if_pos hb]
         have hb2 : ((bitO s (c,(i : Int)) : Int) != 0) = true := by simp; omega
         simp -implicitDefEqProofs (disch := omega) [wrap_id,hb2]
         refine bsl_of (ys := [I (i : Int)]) rfl rfl ?_
         simp -implicitDefEqProofs (disch := omega) [wrap_id,zrep]
         refine app_row d2.row (by omega) fun ws w1 w2 w3 => ?_
         simp -implicitDefEqProofs (disch := omega) [wrap_id]
         rw [hK0]
         refine next_eq (i + 1,.ms H.length 0 ((plcT s c i).length + 1) 1,writeL H ws) ⟨by simp only; omega,.inr ⟨H.length,?_,?_,?_⟩,(w1 0 l0 (fun h => d4 h)).trans d3,?_⟩ (by simp only; omega) (by simp only [ix])
         · simp only [e]; simp
         · simp only [e]; simp
         · simp only [e]; exact w3
         · simp only [rid]; intro h; injection h with h; omega
     · have hi : i = 501 := by simp at hc; omega
       subst hi
       subst hK0
       simp -implicitDefEqProofs (disch := omega) [wrap_id]
       exact d2.tupE
 · have e : plsE s c = shtE s := by unfold plsE; rw [if_pos h0]
   have e2 : plsL s c = [] := by unfold plsL; rw [if_neg (by omega)]
   have h0' : (shtE s != 0) = true := by simp [h0]
   rw [e,e2]
   simp -implicitDefEqProofs (disch := omega) [wrap_id,h0']
   refine callW_pure rfl (r_CheckSheet_ok f g s hz) ?_
   simp -implicitDefEqProofs (disch := omega) [wrap_id]
   exact out_of (is := []) rfl
end Go.AM

namespace Go.AM
open Go.RowKit Go.Proofs
set_option maxHeartbeats 4000000 in
theorem r_Rows_ok (f g : Bool) (s : SH) (h0 : shtE s = 0) : PureOK Tryz.prog n_r_Rows [Sn f g s] (Ps (allR s).isEmpty (allR s)) := by
 have hv := val_of h0
 have hz : SzS s := ⟨by have := hv.k8; omega,by have := hv.m12; omega⟩
 have hk8 := hv.k8
 refine pure_of (walk func_r_Rows form_r_Rows res_r_Rows (by show 1 ≤ _; decide) ?_)
 simp -implicitDefEqProofs (disch := omega) [G_r_Rows,wrap_id]
 refine loop_eq (fun q : Nat × AV × List HObj => ⟨[(1,.ref 0 0),(3,q.2.1),(4,I (q.1 : Int))],q.2.2⟩) (fun q => q.1 ≤ s.k.length ∧ AccK q.2.2 q.2.1 (rwsK s q.1) ∧ nthH q.2.2 0 = some (.cells [Ps f s.k,Ps g s.m]) ∧ rid q.2.1 ≠ some 0) (fun q => s.k.length - q.1) (0,.sl true 0 [],[.cells [Ps f s.k,Ps g s.m]]) ⟨Nat.zero_le _,AccG.nil,rfl,by simp [rid]⟩ rfl ?_
 rintro ⟨i,x,H⟩ ⟨d1,d2,d3,d4⟩
 simp only at d1 d2 d3 d4 ⊢
 refine hideK' fun K0 hK0 => ?_
 simp -implicitDefEqProofs (disch := omega) [wrap_id,d3]
 refine c_split (fun hc => ?_) (fun hc => ?_)
 · have hi : i < s.k.length := by simpa using hc
   have ix : ((i : Int) + 1) = ((i + 1 : Nat) : Int) := by omega
   have hk : isK s (i : Int) = true := by unfold isK; simp; omega
   have e : plsE s (i : Int) = 0 := by unfold plsE; rw [if_neg (by omega),if_neg (by rw [hk]; decide)]
   have e2 : plsL s (i : Int) = plcT s i 501 := by unfold plsL; rw [if_pos e]
   have pl := plcT_len (s := s) (c := (i : Int)) (i := 501)
   have rl := rwsK_len (s := s) (n := i)
   simp -implicitDefEqProofs (disch := omega) [wrap_id,d3,ldr_some]
   refine callW_pure rfl (r_Places_ok f g s hz (i : Int)) ?_
   rw [e,e2]
   have hro : rowOf s i = (plcT s (i : Int) 501).map fun a => ((i : Int),a) := rfl
   generalize plcT s (i : Int) 501 = P at *
   simp -implicitDefEqProofs (disch := omega) [wrap_id]
   refine loop_eq (fun q : Nat × AV × List HObj => ⟨[(1,.ref 0 0),(3,q.2.1),(4,I (i : Int)),(5,Ls P.isEmpty P),(7,I (q.1 : Int))],q.2.2⟩) (fun q => q.1 ≤ P.length ∧ AccK q.2.2 q.2.1 (rwsK s i ++ (P.take q.1).map fun a => ((i : Int),a)) ∧ nthH q.2.2 0 = some (.cells [Ps f s.k,Ps g s.m]) ∧ rid q.2.1 ≠ some 0) (fun q => P.length - q.1) (0,x,H) ⟨Nat.zero_le _,by simpa using d2,d3,d4⟩ rfl ?_
   rintro ⟨j,y,H2⟩ ⟨f1,f2,f3,f4⟩
   simp only at f1 f2 f3 f4 ⊢
   refine hideK' fun K1 hK1 => ?_
   simp -implicitDefEqProofs (disch := omega) [wrap_id]
   refine c_split (fun hc => ?_) (fun hc => ?_)
   · have hj : j < P.length := by simpa using hc
     have jx : ((j : Int) + 1) = ((j + 1 : Nat) : Int) := by omega
     have tk : P.take (j + 1) = P.take j ++ [P[j]] := by rw [List.take_succ_eq_append_getElem hj]
     have ll : (rwsK s i ++ (P.take j).map fun a => ((i : Int),a)).length ≤ 1000000 := by
      rw [List.length_append,List.length_map,List.length_take]
      have : i * 501 ≤ 8 * 501 := Nat.mul_le_mul_right _ (by omega)
      omega
     have eQ : rwsK s i ++ (P.take (j + 1)).map (fun a => ((i : Int),a)) = (rwsK s i ++ (P.take j).map fun a => ((i : Int),a)) ++ [((i : Int),P[j])] := by
      rw [tk,List.map_append,List.append_assoc]; rfl
     generalize (rwsK s i ++ (P.take j).map fun a => ((i : Int),a)) = Q at f2 ll eQ
     simp -implicitDefEqProofs (disch := omega) [wrap_id,cells_ls,hj]
     refine bsl_of (ys := [.agg [I (i : Int),I P[j]]]) rfl rfl ?_
     simp -implicitDefEqProofs (disch := omega) [wrap_id,zrep]
     refine app_accG (ys := [I (i : Int),I P[j]]) f2 (by omega) (by decide) rfl rfl fun ws w1 w2 w3 => ?_
     simp -implicitDefEqProofs (disch := omega) [wrap_id]
     rw [hK1]
     have l0 := nthH_lt f3
     refine next_eq (j + 1,.ms H2.length 0 (Q.length + 1) 2,writeL H2 ws) ⟨by simp only; omega,?_,(w1 0 l0 f4).trans f3,?_⟩ (by simp only; omega) (by simp only [jx])
     · simp only [eQ]
       unfold AccK
       rw [flat2_appK,List.length_append]
       exact w3
     · simp only [rid]; intro e; injection e; omega
   · have hj : j = P.length := by simp at hc; omega
     subst hj
     subst hK1
     simp -implicitDefEqProofs (disch := omega) [wrap_id]
     rw [hK0]
     refine next_eq (i + 1,y,H2) ⟨by simp only; omega,?_,f3,f4⟩ (by simp only; omega) (by simp only [ix])
     simp only [rwsK_succ,hro]
     rw [List.take_length] at f2
     exact f2
 · have hi : i = s.k.length := by simp at hc; omega
   subst hi
   subst hK0
   simp -implicitDefEqProofs (disch := omega) [wrap_id]
   exact AccK.out d2
end Go.AM

namespace Go.AM
open Go.RowKit Go.Proofs
theorem allR_len {s : SH} (hv : ValS s) : (allR s).length ≤ 4008 := by
 have := rwsK_len (s := s) (n := s.k.length)
 have h : s.k.length * 501 ≤ 8 * 501 := Nat.mul_le_mul_right _ hv.k8
 unfold allR; omega
set_option maxHeartbeats 4000000 in
theorem r_lost_ok (f g : Bool) (s : SH) (h0 : shtE s = 0) : PureOK Tryz.prog n_r_lost [Sn f g s] (Ls (lostL s).isEmpty (lostL s)) := by
 have hv := val_of h0
 have hm12 := hv.m12
 obtain ⟨w1,w2⟩ := pwN_12 hv
 have al := allR_len hv
 refine pure_of (walk func_r_lost form_r_lost res_r_lost (by show 1 ≤ _; decide) ?_)
 simp -implicitDefEqProofs (disch := omega) [G_r_lost,wrap_id]
 refine callW_pure rfl (r_Rows_ok f g s h0) ?_
 have km := fun r (h : r ∈ allR s) => (isK_allR h).1
 have eL : lostL s = bitL (pwN s.m.length - 1 - orT s (allR s) (allR s).length) := rfl
 rw [eL]
 generalize allR s = R at *
 simp -implicitDefEqProofs (disch := omega) [wrap_id]
 refine loop_eq (fun i : Nat => ⟨[(1,.ref 0 0),(3,Ps R.isEmpty R),(4,I (orT s R i : Nat)),(5,I (i : Int))],[.cells [Ps f s.k,Ps g s.m]]⟩) (fun i => i ≤ R.length) (fun i => R.length - i) 0 (Nat.zero_le _) rfl ?_
 rintro i d1
 refine hideK' fun K0 hK0 => ?_
 simp -implicitDefEqProofs (disch := omega) [wrap_id]
 refine c_split (fun hc => ?_) (fun hc => ?_)
 · have hi : i < R.length := by simpa using hc
   have ix : ((i : Int) + 1) = ((i + 1 : Nat) : Int) := by omega
   have e : orT s R (i + 1) = orN (orT s R i) (bitO s R[i]) := by show orN _ (bitO s (R.getD i (0,0))) = _; rw [getD_at hi]
   have o1 := orT_60 hv (l := R) (i := i)
   have o2 := bitO_60 hv R[i]
   simp -implicitDefEqProofs (disch := omega) [wrap_id,cells_pair,hi]
   refine ⟨flat2_len _,?_⟩
   refine pureW_of rfl (r_Bits_ok f g s hv R[i] (km _ (List.getElem_mem hi))) ?_
   simp -implicitDefEqProofs (disch := omega) [wrap_id,cmp2,nthT,-b_or,bw_or,o1,o2]
   rw [hK0]
   exact next_eq (i + 1) (by omega) (by omega) (by simp only [ix,e])
 · have hi : i = R.length := by simp at hc; omega
   subst hi
   subst hK0
   have o1 : orT s R R.length < pwN s.m.length := orT_small hv
   generalize orT s R R.length = o at *
   generalize hp : pwN s.m.length = p at *
   have e1 : (p : Int) - 1 - (o : Int) = ((p - 1 - o : Nat) : Int) := by omega
   simp -implicitDefEqProofs (disch := omega) [wrap_id,-b_shl,bw_shl,hp,e1]
   refine callW_pure rfl (r_List_ok _ (by omega)) ?_
   simp -implicitDefEqProofs (disch := omega) [wrap_id]
   exact out_of (is := []) rfl
end Go.AM

namespace Go.AM
open Go.RowKit Go.Proofs
def ltK (a b : Int × Int) : Bool := decide (a.1 < b.1) || (decide (a.1 = b.1) && decide (a.2 < b.2))
def ordK (l : List (Int × Int)) : Bool := (List.range l.length).all fun i => decide (i = 0) || ltK (l.getD (i - 1) (0,0)) (l.getD i (0,0))
set_option maxHeartbeats 4000000 in
theorem r_Ordered_ok (f : Bool) (l : List (Int × Int)) (hl : l.length ≤ 1000000) : PureOK Tryz.prog n_r_Ordered [Ps f l] (B (ordK l)) := by
 refine pure_of (walk func_r_Ordered form_r_Ordered res_r_Ordered (by show 1 ≤ _; decide) ?_)
 simp -implicitDefEqProofs (disch := omega) [G_r_Ordered,wrap_id]
 have bad : ∀ i,i < l.length → 0 < i → ltK (l.getD (i - 1) (0,0)) (l.getD i (0,0)) = false → ordK l = false := fun i hi h0 hb => by
  unfold ordK
  rw [List.all_eq_false]
  exact ⟨i,List.mem_range.2 hi,by rw [hb,decide_eq_false (by omega)]; decide⟩
 have good : (∀ i,i < l.length → 0 < i → ltK (l.getD (i - 1) (0,0)) (l.getD i (0,0)) = true) → ordK l = true := fun h => by
  unfold ordK
  rw [List.all_eq_true]
  intro i hi
  have hi := List.mem_range.1 hi
  by_cases e : i = 0
  · subst e; rfl
  · rw [h i hi (by omega)]; simp
 refine loop_eq (fun q : Nat × List HObj => ⟨[(0,Ps f l),(3,I (q.1 : Int))],q.2⟩) (fun q => 1 ≤ q.1 ∧ q.1 ≤ l.length + 1 ∧ ∀ i,i < l.length → 0 < i → i < q.1 → ltK (l.getD (i - 1) (0,0)) (l.getD i (0,0)) = true) (fun q => l.length + 1 - q.1) (1,[]) ⟨Nat.le_refl _,by omega,fun i _ h1 h2 => by simp only at h2; omega⟩ rfl ?_
 rintro ⟨i,H⟩ ⟨d0,d1,d2⟩
 simp only at d0 d1 d2 ⊢
 refine hideK' fun K0 hK0 => ?_
 simp -implicitDefEqProofs (disch := omega) [wrap_id]
 refine c_split (fun hc => ?_) (fun hc => ?_)
 · have hi : i < l.length := by simpa using hc
   have hi0 : i - 1 < l.length := by omega
   have ix : ((i : Int) + 1) = ((i + 1 : Nat) : Int) := by omega
   have iy : ((i : Int) - 1) = ((i - 1 : Nat) : Int) := by omega
   have nx := bad i hi (by omega)
   rw [getD_at hi0,getD_at hi] at nx
   have nd : ltK l[i - 1] l[i] = true → ∀ k,k < l.length → 0 < k → k < i + 1 → ltK (l.getD (k - 1) (0,0)) (l.getD k (0,0)) = true := fun h k h1 h2 h3 => by
    by_cases e : k = i
    · subst e; rw [getD_at hi0,getD_at hi]; exact h
    · exact d2 k h1 h2 (by omega)
   simp -implicitDefEqProofs (disch := omega) [wrap_id,cmp2,nthT,iy,hi,hi0,cells_pair]
   refine ⟨flat2_len _,?_⟩
   have a1 : nthH (H ++ [.cells [I 0,I 0],.cells [I 0,I 0]]) H.length = some (.cells [I 0,I 0]) := by rw [nthH_eq,List.getElem?_append_right (Nat.le_refl _)]; simp
   have a2 : nthH (H ++ [.cells [I 0,I 0],.cells [I 0,I 0]]) (H.length + 1) = some (.cells [I 0,I 0]) := by rw [nthH_eq,List.getElem?_append_right (by omega)]; simp
   generalize H ++ [.cells [I 0,I 0],.cells [I 0,I 0]] = H1 at a1 a2 ⊢
   generalize H.length = Q at *
   have l1 := nthH_lt a1
   have l2 := nthH_lt a2
   have qn : ¬ Q = Q + 1 := by omega
   have qn2 : ¬ Q + 1 = Q := by omega
   rw [a1,str_some]
   refine ⟨⟨rfl,rfl,by decide⟩,?_⟩
   simp -implicitDefEqProofs (disch := omega) [wrap_id,cmp2,nthT,l1]
   have b1 : nthH (H1.set Q (.cells [I l[i - 1].1,I l[i - 1].2])) Q = some (.cells [I l[i - 1].1,I l[i - 1].2]) := nthH_set_same l1
   have b2 : nthH (H1.set Q (.cells [I l[i - 1].1,I l[i - 1].2])) (Q + 1) = some (.cells [I 0,I 0]) := (nthH_set_ne (by omega)).trans a2
   generalize H1.set Q (.cells [I l[i - 1].1,I l[i - 1].2]) = H2 at b1 b2 ⊢
   have l3 := nthH_lt b2
   rw [b2,str_some]
   refine ⟨⟨rfl,rfl,by decide⟩,?_⟩
   simp -implicitDefEqProofs (disch := omega) [wrap_id,cmp2,nthT,l3,qn,qn2]
   have e1 : nthH (H2.set (Q + 1) (.cells [I l[i].1,I l[i].2])) Q = some (.cells [I l[i - 1].1,I l[i - 1].2]) := (nthH_set_ne (by omega)).trans b1
   have e2 : nthH (H2.set (Q + 1) (.cells [I l[i].1,I l[i].2])) (Q + 1) = some (.cells [I l[i].1,I l[i].2]) := nthH_set_same l3
   generalize H2.set (Q + 1) (.cells [I l[i].1,I l[i].2]) = H3 at e1 e2 ⊢
   by_cases q1 : l[i].1 < l[i - 1].1
   · have eb : ordK l = false := nx (by unfold ltK; rw [decide_eq_false (by omega),decide_eq_false (by omega : ¬ l[i - 1].1 = l[i].1)]; rfl)
     rw [eb] at hK0
     subst hK0
     simp -implicitDefEqProofs (disch := omega) [wrap_id,e1,e2,q1,ldr_some]
   by_cases q2 : l[i].1 = l[i - 1].1
   · have q2' : (l[i].1 == l[i - 1].1) = true := by simp [q2]
     by_cases q3 : l[i].2 ≤ l[i - 1].2
     · have eb : ordK l = false := nx (by unfold ltK; rw [decide_eq_false (by omega),decide_eq_false (by omega : ¬ l[i - 1].2 < l[i].2)]; simp)
       rw [eb] at hK0
       subst hK0
       simp -implicitDefEqProofs (disch := omega) [wrap_id,e1,e2,q1,q2',q3,ldr_some]
     · have nd := nd (by unfold ltK; rw [decide_eq_true q2.symm,decide_eq_true (by omega : l[i - 1].2 < l[i].2)]; simp)
       simp -implicitDefEqProofs (disch := omega) [wrap_id,e1,e2,q1,q2',q3,ldr_some]
       rw [hK0]
       refine next_eq (i + 1,H3) ⟨by simp only; omega,by simp only; omega,nd⟩ (by simp only; omega) (by simp only [ix])
   · have q2' : (l[i].1 == l[i - 1].1) = false := by simp [q2]
     have nd := nd (by unfold ltK; rw [decide_eq_true (by omega : l[i - 1].1 < l[i].1)]; rfl)
     simp -implicitDefEqProofs (disch := omega) [wrap_id,e1,e2,q1,q2',ldr_some]
     rw [hK0]
     refine next_eq (i + 1,H3) ⟨by simp only; omega,by simp only; omega,nd⟩ (by simp only; omega) (by simp only [ix])
 · have hi : ¬ i < l.length := by simpa using hc
   subst hK0
   rw [good fun k h1 h2 => d2 k h1 h2 (by omega)]
   simp -implicitDefEqProofs (disch := omega) [wrap_id]
end Go.AM

namespace Go.AM
open Go.RowKit Go.Proofs
theorem capM_add {x y : Nat} : min 1099511627777 (capM x + capM y) = capM (x + y) := by unfold capM; omega
def lvl (s : SH) (R : List (Int × Int)) (had i n b k c : Nat) : Nat :=
 if n + 1 < k then cw s R had (i + 1) k c else if k = n + 1 then cw s R had i (n + 1) c + sK (fun d => if orN d (bitO s (R.getD i (0,0))) = c then cw s R had i n d else 0) b else cw s R had i k c
theorem lvl_end {s : SH} {R : List (Int × Int)} {had i n k c : Nat} : lvl s R had i n (pwN s.m.length) k c = if n < k then cw s R had (i + 1) k c else cw s R had i k c := by
 unfold lvl
 by_cases h1 : n + 1 < k
 · rw [if_pos h1,if_pos (by omega)]
 · rw [if_neg h1]
   by_cases h2 : k = n + 1
   · subst h2
     rw [if_pos rfl,if_pos (by omega)]; rfl
   · rw [if_neg h2,if_neg (by omega)]
theorem lvl_zero {s : SH} {R : List (Int × Int)} {had i n k c : Nat} : lvl s R had i n 0 k c = if n + 1 < k then cw s R had (i + 1) k c else cw s R had i k c := by
 unfold lvl
 by_cases h1 : n + 1 < k
 · rw [if_pos h1,if_pos h1]
 · rw [if_neg h1,if_neg h1]
   by_cases h2 : k = n + 1
   · subst h2; rw [if_pos rfl]; rfl
   · rw [if_neg h2]
theorem lvl_step {s : SH} {R : List (Int × Int)} {had i n b k c : Nat} : lvl s R had i n (b + 1) k c = lvl s R had i n b k c + if k = n + 1 ∧ c = orN b (bitO s (R.getD i (0,0))) then cw s R had i n b else 0 := by
 unfold lvl
 by_cases h1 : n + 1 < k
 · rw [if_pos h1,if_pos h1,if_neg (by omega)]; rfl
 · rw [if_neg h1,if_neg h1]
   by_cases h2 : k = n + 1
   · subst h2
     rw [if_pos rfl,if_pos rfl]
     rw [show ∀ f : Nat → Nat,sK f (b + 1) = sK f b + f b from fun _ => rfl]
     by_cases h3 : c = orN b (bitO s (R.getD i (0,0)))
     · rw [if_pos h3.symm,if_pos ⟨rfl,h3⟩]; omega
     · rw [if_neg (fun h => h3 h.symm),if_neg (fun h => h3 h.2)]; omega
   · rw [if_neg h2,if_neg h2,if_neg (by omega)]; rfl
theorem lvl_low {s : SH} {R : List (Int × Int)} {had i n b c : Nat} : lvl s R had i n b n c = cw s R had i n c := by
 unfold lvl; rw [if_neg (by omega),if_neg (by omega)]
end Go.AM

namespace Go.AM
open Go.RowKit Go.Proofs
theorem zrep_lsK : ∀ k,zrep k [I 0] = (List.replicate k (0 : Int)).map fun n => I n
 | 0 => rfl
 | k + 1 => by rw [zrep_succ,zrep_lsK k]; rfl
theorem put_lsK {M : List Int} {k : Nat} {v : Int} (h : k < M.length) : (M.map fun n => I n).take k ++ I v :: (M.map fun n => I n).drop (k + 1) = (M.set k v).map fun n => I n := by
 have := splice_ls (l := M) (k := k) (v := v) h
 simpa [splice] using this
theorem nthK {M : List Int} {k : Nat} (h : k < M.length) : nthA (M.map fun n => I n) k = some (I (M.getD k 0)) := by
 rw [nthA_eq,List.getElem?_map,List.getElem?_eq_getElem h,List.getD_eq_getElem?_getD,List.getElem?_eq_getElem h]; rfl
def InvK (N A : Nat) (M : List Int) (w : Nat → Nat → Nat) : Prop := M.length = (N + 1) * A ∧ ∀ k c,k ≤ N → c < A → M.getD (k * A + c) 0 = (capM (w k c) : Int)
set_option maxHeartbeats 8000000 in
theorem r_counts_ok (f g h : Bool) (s : SH) (hv : ValS s) (R : List (Int × Int)) (hR : R.length ≤ 1000000) (hk : ∀ r ∈ R,isK s r.1 = true) (had : Nat) (hh : had < pwN s.m.length) :
 PureOK Tryz.prog n_r_counts [Sn f g s,Ps h R,I (had : Int)] (Ls false ((List.range (s.m.length + 1)).map fun n => ((capM (cw s R had R.length n (pwN s.m.length - 1)) : Nat) : Int))) := by
 have hm12 := hv.m12
 obtain ⟨w1,w2⟩ := pwN_12 hv
 refine pure_of (walk func_r_counts form_r_counts res_r_counts (by show 3 ≤ _; decide) ?_)
 simp -implicitDefEqProofs (disch := omega) [G_r_counts,wrap_id,cmp2,nthT,-b_shl,bw_shl]
 generalize hA : pwN s.m.length = A at *
 generalize hN : s.m.length = N at *
 have mA : (N + 1) * A ≤ 13 * 4096 := Nat.mul_le_mul (by omega) w1
 obtain ⟨ln,hln⟩ : ∃ ln,(N + 1) * A = ln := ⟨_,rfl⟩
 have eM : ((N : Int) + 1) * (A : Int) = (ln : Int) := by rw [← hln,Int.natCast_mul]; rfl
 rw [hln] at mA
 simp -implicitDefEqProofs (disch := omega) [wrap_id,eM]
 have hA1 : A ≤ ln := by rw [← hln]; exact Nat.le_mul_of_pos_left _ (by omega)
 have idx : ∀ k c,k ≤ N → c < A → k * A + c < ln := fun k c h1 h2 => by
  have : (k + 1) * A ≤ (N + 1) * A := Nat.mul_le_mul_right _ (by omega)
  rw [Nat.add_mul,Nat.one_mul] at this
  omega
 have inj : ∀ k c k' c',c < A → c' < A → k * A + c = k' * A + c' → k = k' ∧ c = c' := fun k c k' c' h1 h2 h3 => by
  have e1 : (k * A + c) / A = k := by rw [Nat.mul_comm,Nat.mul_add_div (by omega),Nat.div_eq_of_lt h1]; rfl
  have e2 : (k' * A + c') / A = k' := by rw [Nat.mul_comm,Nat.mul_add_div (by omega),Nat.div_eq_of_lt h2]; rfl
  have ek : k = k' := by rw [← e1,h3,e2]
  subst ek
  exact ⟨rfl,by omega⟩
 have setG : ∀ (M : List Int) (w w' : Nat → Nat → Nat) (k c : Nat) (v : Int),InvK N A M w → k ≤ N → c < A → v = (capM (w' k c) : Int) → (∀ k' c',k' ≤ N → c' < A → ¬ (k' = k ∧ c' = c) → w' k' c' = w k' c') → InvK N A (M.set (k * A + c) v) w' := fun M w w' k c v hI h1 h2 h3 h4 => by
  refine ⟨by rw [List.length_set]; exact hI.1,fun k' c' h5 h6 => ?_⟩
  have hl : k * A + c < M.length := by rw [hI.1,hln]; exact idx k c h1 h2
  have hl2 : k' * A + c' < M.length := by rw [hI.1,hln]; exact idx k' c' h5 h6
  rw [List.getD_eq_getElem?_getD,List.getElem?_set]
  by_cases e : k * A + c = k' * A + c'
  · obtain ⟨rfl,rfl⟩ := inj _ _ _ _ h2 h6 e
    rw [if_pos rfl,if_pos hl]
    exact h3
  · rw [if_neg e,← List.getD_eq_getElem?_getD,hI.2 k' c' h5 h6,h4 k' c' h5 h6 (fun h => e (by rw [h.1,h.2]))]
 refine ⟨ln,rfl,rfl,by omega,by omega,rfl,?_⟩
 rw [zrep_lsK]
 have I0 : InvK N A (List.replicate ln (0 : Int)) (fun _ _ => 0) := ⟨by rw [List.length_replicate,hln],fun k c h1 h2 => by
  rw [List.getD_eq_getElem?_getD,List.getElem?_replicate,if_pos (idx k c h1 h2)]; rfl⟩
 have I1 := setG _ _ (cw s R had 0) 0 had 1 I0 (by omega) hh (by simp [cw,capM]) fun k' c' h1 h2 h3 => by simp [cw]; exact fun e1 e2 => h3 ⟨e1,e2⟩
 rw [Nat.zero_mul,Nat.zero_add] at I1
 have lr : had < (List.replicate ln (0 : Int)).length := by rw [List.length_replicate]; omega
 have hl1 : had < ln := by omega
 generalize List.replicate ln (0 : Int) = M0 at *
 have lM := I0.1
 rw [hln] at lM
 simp -implicitDefEqProofs (disch := omega) [wrap_id,hl1,lM]
 rw [put_lsK lr]
 generalize M0.set had 1 = M1 at *
 refine ⟨by omega,?_⟩
 refine loop_eq (fun q : Nat × List Int => ⟨[(1,Ps h R),(3,.ref 0 0),(7,I (N : Int)),(8,I (A : Int)),(9,.ms 1 0 ln 1),(10,I (q.1 : Int))],[.cells [Ps f s.k,Ps g s.m],.cells (q.2.map fun n => I n)]⟩) (fun q => q.1 ≤ R.length ∧ InvK N A q.2 (cw s R had q.1)) (fun q => R.length - q.1) (0,M1) ⟨Nat.zero_le _,I1⟩ rfl ?_
 rintro ⟨i,M⟩ ⟨d1,d2⟩
 simp only at d1 d2 ⊢
 refine hideK' fun K0 hK0 => ?_
 simp -implicitDefEqProofs (disch := omega) [wrap_id]
 refine c_split (fun hc => ?_) (fun hc => ?_)
 · have hi : i < R.length := by simpa using hc
   have ix : ((i : Int) + 1) = ((i + 1 : Nat) : Int) := by omega
   simp -implicitDefEqProofs (disch := omega) [wrap_id,cells_pair,hi]
   refine ⟨flat2_len _,?_⟩
   refine pureW_of rfl (r_Bits_ok f g s hv R[i] (hk _ (List.getElem_mem hi))) ?_
   have eb : bitO s (R.getD i (0,0)) = bitO s R[i] := by rw [getD_at hi]
   have lb := bitO_small hv R[i]
   rw [hN] at lb
   have hA2 : 2 ^ N = A := hA
   rw [hA2] at lb
   simp -implicitDefEqProofs (disch := omega) [wrap_id,cmp2,nthT]
   refine loop_eq (fun q : Nat × List Int => ⟨[(1,Ps h R),(3,.ref 0 0),(7,I (N : Int)),(8,I (A : Int)),(9,.ms 1 0 ln 1),(10,I (i : Int)),(11,I (bitO s R[i] : Nat)),(12,I ((N : Int) - 1 - (q.1 : Int)))],[.cells [Ps f s.k,Ps g s.m],.cells (q.2.map fun n => I n)]⟩) (fun q => q.1 ≤ N ∧ InvK N A q.2 (fun k c => if N - q.1 < k then cw s R had (i + 1) k c else cw s R had i k c)) (fun q => N - q.1) (0,M) ⟨Nat.zero_le _,d2.1,fun k c h1 h2 => by simp only; rw [if_neg (by omega)]; exact d2.2 k c h1 h2⟩ (by simp only [Int.natCast_zero,Int.sub_zero]) ?_
   rintro ⟨t,M2⟩ ⟨e1,e2⟩
   simp only at e1 e2 ⊢
   refine hideK' fun K1 hK1 => ?_
   simp -implicitDefEqProofs (disch := omega) [wrap_id]
   refine c_split (fun hc => ?_) (fun hc => ?_)
   · have ht : t < N := by simp at hc; omega
     obtain ⟨n,hn⟩ : ∃ n : Nat,(N : Int) - 1 - (t : Int) = n := ⟨N - 1 - t,by omega⟩
     have hn1 : N - t = n + 1 := by omega
     have hn2 : (N : Int) - 1 - ((t + 1 : Nat) : Int) = (n : Int) - 1 := by omega
     rw [hn1] at e2
     rw [hn]
     simp -implicitDefEqProofs (disch := omega) [wrap_id]
     refine loop_eq (fun q : Nat × List Int => ⟨[(1,Ps h R),(3,.ref 0 0),(7,I (N : Int)),(8,I (A : Int)),(9,.ms 1 0 ln 1),(10,I (i : Int)),(11,I (bitO s R[i] : Nat)),(12,I (n : Int)),(13,I (q.1 : Int))],[.cells [Ps f s.k,Ps g s.m],.cells (q.2.map fun n => I n)]⟩) (fun q => q.1 ≤ A ∧ InvK N A q.2 (lvl s R had i n q.1)) (fun q => A - q.1) (0,M2) ⟨Nat.zero_le _,e2.1,fun k c h1 h2 => by simp only; rw [lvl_zero]; exact e2.2 k c h1 h2⟩ rfl ?_
     rintro ⟨b,M3⟩ ⟨f1,f2⟩
     simp only at f1 f2 ⊢
     refine hideK' fun K2 hK2 => ?_
     simp -implicitDefEqProofs (disch := omega) [wrap_id]
     refine c_split (fun hc => ?_) (fun hc => ?_)
     · have hb : b < A := by simpa using hc
       have bx : ((b : Int) + 1) = ((b + 1 : Nat) : Int) := by omega
       have b60 : b < 2 ^ 60 := by omega
       have o60 := bitO_60 hv R[i]
       have ho : orN b (bitO s R[i]) < A := by rw [← hA2]; exact Nat.or_lt_two_pow (by rw [hA2]; exact hb) (by rw [hA2]; exact lb)
       have stp := fun k c => lvl_step (s := s) (R := R) (had := had) (i := i) (n := n) (b := b) (k := k) (c := c)
       rw [eb] at stp
       generalize bitO s R[i] = mm at *
       obtain ⟨oo,hoo⟩ : ∃ oo,orN b mm = oo := ⟨_,rfl⟩
       rw [hoo] at ho stp
       have h1N : n + 1 ≤ N := by omega
       have i1 := idx (n + 1) oo h1N ho
       have i2 := idx n b (by omega) hb
       have g1 := f2.2 (n + 1) oo h1N ho
       have g2 := f2.2 n b (by omega) hb
       rw [lvl_low] at g2
       obtain ⟨to,hto⟩ : ∃ to,(n + 1) * A + oo = to := ⟨_,rfl⟩
       obtain ⟨fr,hfr⟩ : ∃ fr,n * A + b = fr := ⟨_,rfl⟩
       have eto : ((n : Int) + 1) * (A : Int) + (oo : Int) = (to : Int) := by rw [← hto,Int.natCast_add,Int.natCast_mul]; rfl
       have efr : (n : Int) * (A : Int) + (b : Int) = (fr : Int) := by rw [← hfr,Int.natCast_add,Int.natCast_mul]
       have m1 : ((n : Int) + 1) * (A : Int) = (((n + 1) * A : Nat) : Int) := by rw [Int.natCast_mul]; rfl
       have m2 : (n : Int) * (A : Int) = ((n * A : Nat) : Int) := by rw [Int.natCast_mul]
       have m3 : 0 ≤ ((n : Int) + 1) * (A : Int) ∧ ((n : Int) + 1) * (A : Int) ≤ 100000 := by rw [m1]; omega
       have m4 : 0 ≤ (n : Int) * (A : Int) ∧ (n : Int) * (A : Int) ≤ 100000 := by rw [m2]; omega
       rw [hto] at g1 i1
       rw [hfr] at g2 i2
       have lM3 := f2.1
       rw [hln] at lM3
       simp -implicitDefEqProofs (disch := omega) [wrap_id,cmp2,nthT,-b_or,bw_or,b60,o60,hoo,eto,efr]
       have n1 : nthA (M3.map fun n => I n) to = some (I (capM (lvl s R had i n b (n + 1) oo) : Nat)) := by rw [nthK (by omega),g1]
       have n2 : nthA (M3.map fun n => I n) fr = some (I (capM (cw s R had i n b) : Nat)) := by rw [nthK (by omega),g2]
       have c1 := capM_le (x := lvl s R had i n b (n + 1) oo)
       have c2 := capM_le (x := cw s R had i n b)
       have ca := capM_add (x := lvl s R had i n b (n + 1) oo) (y := cw s R had i n b)
       have st := stp (n + 1) oo
       rw [if_pos ⟨rfl,rfl⟩] at st
       rw [← st] at ca
       have fin := setG M3 (lvl s R had i n b) (lvl s R had i n (b + 1)) (n + 1) oo _ f2 h1N ho rfl fun k' c' h1 h2 h3 => by rw [stp,if_neg h3]; rfl
       rw [hto] at fin
       generalize capM (lvl s R had i n b (n + 1) oo) = X at *
       generalize capM (cw s R had i n b) = Y at *
       refine ⟨i1,?_⟩
       simp -implicitDefEqProofs (disch := omega) [wrap_id,cmp2,nthT,n1,n2,efr,i2,i1]
       have em : min 1099511627777 ((X : Int) + (Y : Int)) = ((capM (lvl s R had i n (b + 1) (n + 1) oo) : Nat) : Int) := by rw [← ca]; omega
       refine ⟨by omega,?_⟩
       rw [em,put_lsK (by omega)]
       rw [hK2]
       exact next_eq (b + 1,M3.set to (capM (lvl s R had i n (b + 1) (n + 1) oo) : Nat)) ⟨by simp only; omega,fin⟩ (by simp only; omega) (by simp only [bx])
     · have hb : b = A := by simp at hc; omega
       have lE := fun k c => lvl_end (s := s) (R := R) (had := had) (i := i) (n := n) (k := k) (c := c)
       simp only [hN,hA] at lE
       subst hb
       subst hK2
       simp -implicitDefEqProofs (disch := omega) [wrap_id]
       rw [hK1]
       refine next_eq (t + 1,M3) ⟨by simp only; omega,f2.1,fun k c h1 h2 => ?_⟩ (by simp only; omega) (by simp only [hn2])
       simp only
       rw [show N - (t + 1) = n from by omega]
       have := f2.2 k c h1 h2
       rw [lE] at this
       exact this
   · have ht : t = N := by simp at hc; omega
     subst ht
     subst hK1
     simp -implicitDefEqProofs (disch := omega) [wrap_id]
     rw [hK0]
     refine next_eq (i + 1,M2) ⟨by simp only; omega,e2.1,fun k c h1 h2 => ?_⟩ (by simp only; omega) (by simp only [ix])
     have := e2.2 k c h1 h2
     simp only [Nat.sub_self] at this
     rw [this]
     by_cases e : 0 < k
     · rw [if_pos e]
     · have : k = 0 := by omega
       subst this
       rw [if_neg e]; rfl
 · have hi : i = R.length := by simp at hc; omega
   subst hi
   subst hK0
   simp -implicitDefEqProofs (disch := omega) [wrap_id]
   have vL : ((List.range (N + 1)).map fun n => ((capM (cw s R had R.length n (A - 1)) : Nat) : Int)).length = N + 1 := by simp
   have vG : ∀ k (h : k < ((List.range (N + 1)).map fun n => ((capM (cw s R had R.length n (A - 1)) : Nat) : Int)).length),((List.range (N + 1)).map fun n => ((capM (cw s R had R.length n (A - 1)) : Nat) : Int))[k] = ((capM (cw s R had R.length k (A - 1)) : Nat) : Int) := fun k h => by simp
   generalize ((List.range (N + 1)).map fun n => ((capM (cw s R had R.length n (A - 1)) : Nat) : Int)) = V at *
   refine loop_eq (fun q : Nat × AV × List HObj => ⟨[(7,I (N : Int)),(8,I (A : Int)),(9,.ms 1 0 ln 1),(15,q.2.1),(16,I (q.1 : Int))],q.2.2⟩) (fun q => q.1 ≤ N + 1 ∧ AccR q.2.2 q.2.1 (V.take q.1) ∧ nthH q.2.2 1 = some (.cells (M.map fun n => I n)) ∧ rid q.2.1 ≠ some 1) (fun q => N + 1 - q.1) (0,.sl true 0 [],[.cells [Ps f s.k,Ps g s.m],.cells (M.map fun n => I n)]) ⟨Nat.zero_le _,.inl ⟨rfl,by simp⟩,rfl,by simp [rid]⟩ rfl ?_
   rintro ⟨k,x,H⟩ ⟨k1,k2,k3,k4⟩
   simp only at k1 k2 k3 k4 ⊢
   have l1 := nthH_lt k3
   refine hideK' fun K0 hK0 => ?_
   simp -implicitDefEqProofs (disch := omega) [wrap_id]
   refine c_split (fun hc => ?_) (fun hc => ?_)
   · have hkN : k ≤ N := by simp at hc; omega
     have kx : ((k : Int) + 1) = ((k + 1 : Nat) : Int) := by omega
     have hkV : k < V.length := by omega
     have tk : V.take (k + 1) = V.take k ++ [V[k]] := by rw [List.take_succ_eq_append_getElem hkV]
     have lk : (V.take k).length = k := by rw [List.length_take]; omega
     have g1 := d2.2 k (A - 1) hkN (by omega)
     have i1 := idx k (A - 1) hkN (by omega)
     obtain ⟨at_,hat⟩ : ∃ a,k * A + (A - 1) = a := ⟨_,rfl⟩
     have m2 : (k : Int) * (A : Int) = ((k * A : Nat) : Int) := by rw [Int.natCast_mul]
     have m4 : 0 ≤ (k : Int) * (A : Int) ∧ (k : Int) * (A : Int) ≤ 100000 := by rw [m2]; omega
     have ea : (k : Int) * (A : Int) + (A : Int) - 1 = (at_ : Int) := by rw [m2]; omega
     rw [hat] at g1 i1
     rw [← vG k hkV] at g1
     have lMM := d2.1
     rw [hln] at lMM
     have n1 : nthA (M.map fun n => I n) at_ = some (I V[k]) := by rw [nthK (by omega),g1]
     simp -implicitDefEqProofs (disch := omega) [wrap_id,ea,i1,k3,ldr_some,n1]
     refine bsl_of (ys := [I V[k]]) rfl rfl ?_
     simp -implicitDefEqProofs (disch := omega) [wrap_id,zrep]
     refine app_row k2.row (by omega) fun ws w1 w2 w3 => ?_
     simp -implicitDefEqProofs (disch := omega) [wrap_id,lk]
     rw [hK0]
     refine next_eq (k + 1,.ms H.length 0 (k + 1) 1,writeL H ws) ⟨by simp only; omega,.inr ⟨H.length,?_,?_,?_⟩,(w1 1 l1 (fun h => k4 h)).trans k3,?_⟩ (by simp only; omega) (by simp only [kx])
     · rw [List.length_take,Nat.min_eq_left (by omega)]
     · simp only [tk]; exact List.append_ne_nil_of_right_ne_nil _ (List.cons_ne_nil _ _)
     · simp only [tk]; exact w3
     · simp only [rid]; intro h; injection h with h; omega
   · have hkN : k = N + 1 := by simp at hc; omega
     subst hkN
     subst hK0
     rw [List.take_of_length_le (by omega)] at k2
     simp -implicitDefEqProofs (disch := omega) [wrap_id]
     have := k2.out
     rw [show V.isEmpty = false from by cases V with | nil => simp at vL | cons a b => rfl] at this
     exact this
end Go.AM

namespace Go.AM
open Go.RowKit Go.Proofs
theorem ansW_ex (s : SH) (R : List (Int × Int)) : ∃ n c,AnsW s R n c := by
 by_cases h : ∃ k,(1 ≤ k ∧ k ≤ s.m.length) ∧ 0 < cwA s R 0 k
 · obtain ⟨k,hk⟩ := h
   obtain ⟨j,h1,⟨h2,h3⟩,h4⟩ := leastN (P := fun k => (1 ≤ k ∧ k ≤ s.m.length) ∧ 0 < cwA s R 0 k) hk
   exact ⟨j,_,.inr ⟨h2.1,h2.2,h3,fun i h5 h6 => by
    have := h4 i h6
    apply Classical.byContradiction
    intro h
    exact this ⟨⟨h5,by omega⟩,by omega⟩,rfl⟩⟩
 · exact ⟨0,0,.inl ⟨fun k h1 h2 => by
    apply Classical.byContradiction
    intro h3
    exact h ⟨k,⟨h1,h2⟩,by omega⟩,rfl,rfl⟩⟩
theorem capM_pos {x : Nat} : 0 < capM x ↔ 0 < x := by unfold capM; omega
set_option maxHeartbeats 4000000 in
theorem r_Fewest_ok (f g h : Bool) (s : SH) (hv : ValS s) (R : List (Int × Int)) (hR : R.length ≤ 1000000) (hk : ∀ r ∈ R, isK s r.1 = true) {n c : Nat} (hA : AnsW s R n c) :
 PureOK Tryz.prog n_r_Fewest [Sn f g s,Ps h R] (.tup [I (n : Int),I (c : Int)]) := by
 have hm12 := hv.m12
 obtain ⟨w1,w2⟩ := pwN_12 hv
 refine pure_of (walk func_r_Fewest form_r_Fewest res_r_Fewest (by show 2 ≤ _; decide) ?_)
 simp -implicitDefEqProofs (disch := omega) [G_r_Fewest,wrap_id]
 refine callW_pure (ys := [Sn f g s,Ps h R,I ((0 : Nat) : Int)]) (ids := []) rfl (r_counts_ok f g h s hv R hR hk 0 (by omega)) ?_
 have vL : ((List.range (s.m.length + 1)).map fun n => ((capM (cw s R 0 R.length n (pwN s.m.length - 1)) : Nat) : Int)).length = s.m.length + 1 := by simp
 have vG : ∀ k (h : k < ((List.range (s.m.length + 1)).map fun n => ((capM (cw s R 0 R.length n (pwN s.m.length - 1)) : Nat) : Int)).length),((List.range (s.m.length + 1)).map fun n => ((capM (cw s R 0 R.length n (pwN s.m.length - 1)) : Nat) : Int))[k] = ((capM (cwA s R 0 k) : Nat) : Int) := fun k h => by simp [cwA]
 generalize ((List.range (s.m.length + 1)).map fun n => ((capM (cw s R 0 R.length n (pwN s.m.length - 1)) : Nat) : Int)) = V at *
 simp -implicitDefEqProofs (disch := omega) [wrap_id]
 refine loop_eq (fun i : Nat => ⟨[(6,Ls false V),(7,I (i : Int))],[.cells [Ps f s.k,Ps g s.m]]⟩) (fun i => 1 ≤ i ∧ i ≤ s.m.length + 1 ∧ ∀ k,1 ≤ k → k < i → cwA s R 0 k = 0) (fun i => s.m.length + 1 - i) 1 ⟨Nat.le_refl _,by omega,fun k h1 h2 => by omega⟩ rfl ?_
 rintro i ⟨i0,i1,i2⟩
 refine hideK' fun K0 hK0 => ?_
 simp -implicitDefEqProofs (disch := omega) [wrap_id]
 refine c_split (fun hc => ?_) (fun hc => ?_)
 · have hi : i < V.length := by simpa using hc
   have ix : ((i : Int) + 1) = ((i + 1 : Nat) : Int) := by omega
   have e := vG i hi
   by_cases q : 0 < cwA s R 0 i
   · have q2 : (0 : Int) < V[i] := by rw [e]; have := capM_pos.2 q; omega
     obtain ⟨rfl,rfl⟩ : n = i ∧ c = capM (cwA s R 0 i) := by
      rcases hA with ⟨h1,_⟩ | ⟨h1,h2,h3,h4,h5⟩
      · have := h1 i i0 (by omega); omega
      · have : n = i := by
         rcases Nat.lt_trichotomy n i with h | h | h
         · have := i2 n h1 h; omega
         · exact h
         · have := h4 i i0 h; omega
        subst this
        exact ⟨rfl,h5⟩
     subst hK0
     simp -implicitDefEqProofs (disch := omega) [wrap_id,cells_ls,hi,q2,cmp2,nthT]
     rw [e]
     exact out_of (is := []) rfl
   · have q2 : ¬ (0 : Int) < V[i] := by rw [e]; have := mt capM_pos.1 q; omega
     simp -implicitDefEqProofs (disch := omega) [wrap_id,cells_ls,hi,q2]
     rw [hK0]
     refine next_eq (i + 1) ⟨by omega,by omega,fun k h1 h2 => ?_⟩ (by omega) (by simp only [ix])
     by_cases e2 : k = i
     · subst e2; omega
     · exact i2 k h1 (by omega)
 · have hi : ¬ i < V.length := by simpa using hc
   obtain ⟨rfl,rfl⟩ : n = 0 ∧ c = 0 := by
    rcases hA with ⟨_,h⟩ | ⟨h1,h2,h3,_⟩
    · exact h
    · have := i2 n h1 (by omega); omega
   subst hK0
   simp -implicitDefEqProofs (disch := omega) [wrap_id]
   exact out_of (is := []) rfl
end Go.AM

namespace Go.AM
open Go.RowKit Go.Proofs
theorem ansCt_ex (s : SH) : ∃ v e,AnsCt s v e := by
 by_cases h0 : shtE s = 0
 · by_cases h1 : lostL s = []
   · obtain ⟨n,c,h⟩ := ansW_ex s (allR s)
     by_cases h2 : c = 1099511627777
     · exact ⟨0,4,.inr ⟨h0,.inr ⟨h1,n,c,h,.inl ⟨h2,rfl,rfl⟩⟩⟩⟩
     · exact ⟨c,0,.inr ⟨h0,.inr ⟨h1,n,c,h,.inr ⟨h2,rfl,rfl⟩⟩⟩⟩
   · exact ⟨0,19,.inr ⟨h0,.inl ⟨h1,rfl,rfl⟩⟩⟩
 · exact ⟨0,_,.inl ⟨h0,rfl,rfl⟩⟩
set_option maxHeartbeats 2000000 in
theorem r_Count_ok (f g : Bool) (s : SH) (hz : SzS s) {v e : Int} (hA : AnsCt s v e) : PureOK Tryz.prog n_r_Count [Sn f g s] (.tup [I v,I e]) := by
 refine pure_of (walk func_r_Count form_r_Count res_r_Count (by show 1 ≤ _; decide) ?_)
 simp -implicitDefEqProofs (disch := omega) [G_r_Count,wrap_id]
 refine callW_pure rfl (r_CheckSheet_ok f g s hz) ?_
 rcases hA with ⟨h0,rfl,rfl⟩ | ⟨h0,hA⟩
 · have h0' : (shtE s != 0) = true := by simp [h0]
   simp -implicitDefEqProofs (disch := omega) [wrap_id,h0']
   refine callW_pure rfl (r_CheckSheet_ok f g s hz) ?_
   simp -implicitDefEqProofs (disch := omega) [wrap_id]
   exact out_of (is := []) rfl
 have hv := val_of h0
 have al := allR_len hv
 rw [h0]
 simp -implicitDefEqProofs (disch := omega) [wrap_id]
 refine callW_pure rfl (r_lost_ok f g s h0) ?_
 rcases hA with ⟨h1,rfl,rfl⟩ | ⟨h1,n,c,hW,hA⟩
 · have q : (0 : Int) < (lostL s).length := by
    have : (lostL s).length ≠ 0 := fun h => h1 (List.length_eq_zero_iff.1 h)
    omega
   have q2 : 0 < (lostL s).length := by omega
   simp -implicitDefEqProofs (disch := omega) [wrap_id,q,q2]
   exact out_of (is := []) rfl
 rw [h1]
 simp -implicitDefEqProofs (disch := omega) [wrap_id]
 refine pureW_of rfl (r_Rows_ok f g s h0) ?_
 simp -implicitDefEqProofs (disch := omega) [wrap_id,cmp2,nthT]
 refine pureW_of rfl (r_Fewest_ok f g _ s hv (allR s) (by omega) (fun r h => (isK_allR h).1) hW) ?_
 simp -implicitDefEqProofs (disch := omega) [wrap_id,cmp2,nthT]
 rcases hA with ⟨rfl,rfl,rfl⟩ | ⟨hc,rfl,rfl⟩
 · simp -implicitDefEqProofs (disch := omega) [wrap_id]
   exact out_of (is := []) rfl
 · have hc2 : ((c : Int) == 1099511627777) = false := by rw [beq_eq_false_iff_ne]; omega
   simp -implicitDefEqProofs (disch := omega) [wrap_id,hc2]
   exact out_of (is := []) rfl
end Go.AM

set_option maxRecDepth 100000
namespace Go.AM
open Go.RowKit Go.Proofs
abbrev n_l_CombBests : Nat := 4
def G_l_CombBests : AC := (.seq (.rgn [⟨none,[(.box 2 2 (.t 0)),(.mv 4 (.k (B false)))]⟩] [1,2]) (.seq (.seq (.rgn [⟨none,[(.ld 13 true 2 (.t 2)),(.call 14 16 [(.t 13)]),(.mv 15 (.t 14))]⟩,⟨(some (15,false)),[(.ld 16 true 2 (.t 2)),(.call 17 28 [(.t 16)])]⟩,⟨none,[(.pick 18 (.t 15) (.k (B true)) (.t 17)),(.mv 19 (.t 18))]⟩,⟨(some (19,false)),[(.mv 20 (.t 1)),(.len 21 (.t 20)),(.bin 22 .gtr (.t 21) (.k (I 30)))]⟩,⟨none,[(.pick 23 (.t 19) (.k (B true)) (.t 22))]⟩] [1,2,23]) (.cond (.t 23) (.seq (.rgn [⟨none,[(.call 24 17 []),(.mv 4 (.t 24))]⟩] [4]) .ret) .skip)) (.seq (.rgn [⟨none,[(.ld 26 true 2 (.t 2)),(.call 27 29 [(.t 26)]),(.mv 25 (.t 27)),(.ext 28 (.t 25) 0),(.ext 29 (.t 25) 1),(.mv 5 (.t 28)),(.mv 6 (.t 29))]⟩] [1,2,5,6]) (.seq (.rgn [⟨none,[(.ld 31 true 2 (.t 2)),(.call 32 30 [(.t 31)]),(.mv 30 (.t 32)),(.ext 33 (.t 30) 0),(.ext 34 (.t 30) 1),(.mv 7 (.t 33)),(.mv 8 (.t 34))]⟩] [1,2,5,6,7,8]) (.seq (.rgn [⟨none,[(.ld 36 true 2 (.t 2)),(.call 37 31 [(.t 36)]),(.mv 35 (.t 37)),(.ext 38 (.t 35) 0),(.ext 39 (.t 35) 1),(.mv 9 (.t 38)),(.mv 10 (.t 39))]⟩] [1,2,5,6,7,8,9,10]) (.seq (.seq (.drw [⟨none,[(.ld 40 true 2 (.t 2)),(.mv 41 (.t 1)),(.call 42 32 [(.t 40),(.t 41)]),(.ld 43 true 2 (.t 2)),(.mv 44 (.t 1)),(.call 45 33 [(.t 43),(.t 44)]),(.bin 46 .neq (.t 42) (.t 45)),(.mv 47 (.t 46))]⟩,⟨(some (47,false)),[(.mv 48 (.t 7)),(.mv 49 (.t 9)),(.bin 50 .neq (.t 48) (.t 49))]⟩,⟨none,[(.pick 51 (.t 47) (.k (B true)) (.t 50)),(.mv 52 (.t 51))]⟩,⟨(some (52,false)),[(.mv 53 (.t 8)),(.mv 54 (.t 10)),(.bin 55 .neq (.t 53) (.t 54))]⟩,⟨none,[(.pick 56 (.t 52) (.k (B true)) (.t 55))]⟩] [(0,3),(2,3)] [2,5,6,10,56]) (.cond (.t 56) (.seq (.rgn [⟨none,[(.mv 4 (.k (B false)))]⟩] [4]) .ret) .skip)) (.seq (.seq (.rgn [⟨none,[(.ld 57 true 2 (.t 2)),(.call 58 25 [(.t 57)]),(.bin 59 .neq (.t 58) (.k (I 0))),(.mv 60 (.t 59))]⟩,⟨(some (60,false)),[(.mv 61 (.t 10)),(.bin 62 .eql (.t 61) (.k (I 19)))]⟩,⟨none,[(.pick 63 (.t 60) (.k (B true)) (.t 62))]⟩] [2,5,6,10,63]) (.cond (.t 63) (.seq (.rgn [⟨none,[(.mv 64 (.t 6)),(.mv 65 (.t 10)),(.bin 66 .eql (.t 64) (.t 65)),(.mv 67 (.t 66))]⟩,⟨(some (67,true)),[(.mv 68 (.t 5)),(.len 69 (.t 68)),(.bin 70 .eql (.t 69) (.k (I 0)))]⟩,⟨none,[(.pick 71 (.t 67) (.t 70) (.k (B false))),(.mv 72 (.t 71))]⟩,⟨(some (72,true)),[(.call 73 17 [])]⟩,⟨none,[(.pick 74 (.t 72) (.t 73) (.k (B false))),(.mv 4 (.t 74))]⟩] [4]) .ret) .skip)) (.seq (.drw [⟨none,[(.ld 76 true 2 (.t 2)),(.ld 77 true 2 (.t 2)),(.call 78 35 [(.t 77)]),(.call 79 34 [(.t 76),(.t 78)]),(.mv 75 (.t 79)),(.ext 80 (.t 75) 0),(.ext 81 (.t 75) 1),(.mv 11 (.t 80)),(.mv 12 (.t 81))]⟩] [(0,1),(0,2)] [2,5,6,11]) (.seq (.rgn [⟨none,[(.mv 82 (.t 6)),(.bin 83 .eql (.t 82) (.k (I 0))),(.mv 84 (.t 83))]⟩,⟨(some (84,true)),[(.ld 85 true 2 (.t 2)),(.mv 86 (.t 5)),(.call 87 33 [(.t 85),(.t 86)]),(.bin 88 .eql (.t 87) (.k (I 0)))]⟩,⟨none,[(.pick 89 (.t 84) (.t 88) (.k (B false))),(.mv 90 (.t 89))]⟩,⟨(some (90,true)),[(.mv 91 (.t 5)),(.len 92 (.t 91)),(.mv 93 (.t 11)),(.bin 94 .eql (.t 92) (.t 93))]⟩,⟨none,[(.pick 95 (.t 90) (.t 94) (.k (B false))),(.mv 96 (.t 95))]⟩,⟨(some (96,true)),[(.mv 97 (.t 5)),(.call 98 36 [(.t 97)])]⟩,⟨none,[(.pick 99 (.t 96) (.t 98) (.k (B false))),(.mv 100 (.t 99))]⟩,⟨(some (100,true)),[(.call 101 17 [])]⟩,⟨none,[(.pick 102 (.t 100) (.t 101) (.k (B false))),(.mv 4 (.t 102))]⟩] [4]) .ret)))))))))
theorem func_l_CombBests : Tryz.prog.funcs[n_l_CombBests]? = some Tryz.f4 := Tryz.func4
theorem form_l_CombBests : formOf Tryz.prog Tryz.f4 [4] = some G_l_CombBests := by kernel_rfl
theorem res_l_CombBests : resTmps Tryz.f4.results.toList = some [4] := by kernel_rfl
abbrev n_l_great : Nat := 16
def G_l_great : AC := (.seq (.rgn [⟨none,[(.box 1 2 (.t 0)),(.mv 2 (.k (B false)))]⟩] [1]) (.seq (.rgn [⟨none,[(.fa 3 (.t 1) 0),(.ld 4 false 1 (.t 3)),(.len 5 (.t 4)),(.bin 6 .gtr (.t 5) (.k (I 12))),(.mv 7 (.t 6))]⟩,⟨(some (7,false)),[(.fa 8 (.t 1) 1),(.ld 9 false 1 (.t 8)),(.len 10 (.t 9)),(.bin 11 .gtr (.t 10) (.k (I 18)))]⟩,⟨none,[(.pick 12 (.t 7) (.k (B true)) (.t 11)),(.mv 2 (.t 12))]⟩] [2]) .ret))
theorem func_l_great : Tryz.prog.funcs[n_l_great]? = some Tryz.f16 := Tryz.func16
theorem form_l_great : formOf Tryz.prog Tryz.f16 [2] = some G_l_great := by kernel_rfl
theorem res_l_great : resTmps Tryz.f16.results.toList = some [2] := by kernel_rfl
abbrev n_l_wide : Nat := 28
def G_l_wide : AC := (.seq (.rgn [⟨none,[(.box 1 2 (.t 0)),(.mv 2 (.k (B false)))]⟩] [1]) (.seq (.rgn [⟨none,[(.ld 3 true 2 (.t 1)),(.call 4 25 [(.t 3)]),(.bin 5 .eql (.t 4) (.k (I 0))),(.mv 6 (.t 5))]⟩,⟨(some (6,true)),[(.fa 7 (.t 1) 1),(.ld 8 false 1 (.t 7)),(.len 9 (.t 8)),(.bin 10 .gtr (.t 9) (.k (I 7)))]⟩,⟨none,[(.pick 11 (.t 6) (.t 10) (.k (B false))),(.mv 2 (.t 11))]⟩] [2]) .ret))
theorem func_l_wide : Tryz.prog.funcs[n_l_wide]? = some Tryz.f28 := Tryz.func28
theorem form_l_wide : formOf Tryz.prog Tryz.f28 [2] = some G_l_wide := by kernel_rfl
theorem res_l_wide : resTmps Tryz.f28.results.toList = some [2] := by kernel_rfl
end Go.AM

namespace Go.AM
open Go.RowKit Go.Proofs
def grtK (s : SH) : Bool := decide (12 < s.k.length) || decide (18 < s.m.length)
theorem grtK_sz {s : SH} (h : grtK s = false) : SzS s ∧ s.k.length ≤ 12 ∧ s.m.length ≤ 18 := by
 unfold grtK at h
 simp only [Bool.or_eq_false_iff,decide_eq_false_iff_not] at h
 exact ⟨⟨by omega,by omega⟩,by omega,by omega⟩
theorem lk_great_ok (f g : Bool) (s : SH) : PureOK Tryz.prog n_l_great [Sn f g s] (B (grtK s)) := by
 refine pure_of (walk func_l_great form_l_great res_l_great (by show 1 ≤ _; decide) ?_)
 simp -implicitDefEqProofs (disch := omega) [G_l_great,wrap_id]
 unfold grtK
 have e1 : decide ((12 : Int) < (s.k.length : Int)) = decide (12 < s.k.length) := by rw [decide_eq_decide]; omega
 have e2 : decide ((18 : Int) < (s.m.length : Int)) = decide (18 < s.m.length) := by rw [decide_eq_decide]; omega
 cases h : decide (12 < s.k.length) with
 | true =>
   rw [h] at e1
   simp -implicitDefEqProofs (disch := omega) [wrap_id,e1]
 | false =>
   rw [h] at e1
   simp -implicitDefEqProofs (disch := omega) [wrap_id,e1,e2]
def widK (s : SH) : Bool := decide (shtE s = 0) && decide (7 < s.m.length)
theorem lk_wide_ok (f g : Bool) (s : SH) (hz : SzS s) : PureOK Tryz.prog n_l_wide [Sn f g s] (B (widK s)) := by
 refine pure_of (walk func_l_wide form_l_wide res_l_wide (by show 1 ≤ _; decide) ?_)
 simp -implicitDefEqProofs (disch := omega) [G_l_wide,wrap_id]
 refine callW_pure rfl (r_CheckSheet_ok f g s hz) ?_
 unfold widK
 have e2 : decide ((7 : Int) < (s.m.length : Int)) = decide (7 < s.m.length) := by rw [decide_eq_decide]; omega
 by_cases h : shtE s = 0
 · rw [h]
   simp -implicitDefEqProofs (disch := omega) [wrap_id,e2]
 · have h' : (shtE s == 0) = false := by rw [beq_eq_false_iff_ne]; exact h
   simp -implicitDefEqProofs (disch := omega) [wrap_id,h',h]
end Go.AM

namespace Go.AM
open Go.RowKit Go.Proofs
theorem mpp2 {c : List AV} : NoMpp [HObj.cells c] := mpp_list rfl
theorem ord_K {s : SH} (hv : ValS s) {R : List (Int × Int)} (h : Bst s R) (ho : OrdR R) : ordK R = true := by
 unfold ordK
 rw [List.all_eq_true]
 intro i hi
 have hi := List.mem_range.1 hi
 by_cases e : i = 0
 · subst e; rfl
 · have := (List.pairwise_iff_getElem.1 ho) (i - 1) i (by omega) hi (by omega)
   have o1 := rw_ok hv (h.mem _ (List.getElem_mem (show i - 1 < R.length by omega)))
   have o2 := rw_ok hv (h.mem _ (List.getElem_mem hi))
   rw [getD_at (by omega),getD_at hi]
   unfold ltK
   unfold kapR at this
   unfold RwOK at o1 o2
   simp only [Bool.or_eq_true,Bool.and_eq_true,decide_eq_true_eq]
   right
   omega
theorem bst_W {s : SH} (h0 : shtE s = 0) {R : List (Int × Int)} (h : Bst s R) {n c : Nat} (hW : AnsW s (allR s) n c) : n = R.length := ansW_iff (val_of h0) (bst_rk h) h.few h.len hW
set_option maxHeartbeats 8000000 in
theorem lawBests (f g h : Bool) (s : SH) (R : List (Int × Int)) : PureOK Tryz.prog n_l_CombBests [Sn f g s,Ps h R] (B true) := by
 refine pure_of (walk func_l_CombBests form_l_CombBests res_l_CombBests (by show 2 ≤ _; decide) ?_)
 simp -implicitDefEqProofs (disch := omega) [G_l_CombBests,wrap_id]
 refine callW_pure (ys := [Sn f g s]) (ids := []) rfl (lk_great_ok f g s) ?_
 cases hg : grtK s with
 | true =>
   simp -implicitDefEqProofs (disch := omega) [wrap_id]
   refine callW_pure rfl lk_Works_ok ?_
   simp -implicitDefEqProofs (disch := omega) [wrap_id]
 | false =>
   obtain ⟨hz,_,_⟩ := grtK_sz hg
   simp -implicitDefEqProofs (disch := omega) [wrap_id]
   refine callW_pure (ys := [Sn f g s]) (ids := []) rfl (lk_wide_ok f g s hz) ?_
   cases hw : widK s with
   | true =>
     simp -implicitDefEqProofs (disch := omega) [wrap_id]
     refine callW_pure rfl lk_Works_ok ?_
     simp -implicitDefEqProofs (disch := omega) [wrap_id]
   | false =>
     simp -implicitDefEqProofs (disch := omega) [wrap_id]
     refine c_split (fun hc => ?_) (fun hc => ?_)
     · simp -implicitDefEqProofs (disch := omega) [wrap_id]
       refine callW_pure rfl lk_Works_ok ?_
       simp -implicitDefEqProofs (disch := omega) [wrap_id]
     · have hR : R.length ≤ 1000000 := by simp at hc; omega
       obtain ⟨v,e,hA⟩ := ansCt_ex s
       simp -implicitDefEqProofs (disch := omega) [wrap_id]
       refine k_Best_v hz mpp2 (fun hb => ?_) (fun hb h0 hL B hB0 hB hO => ?_)
       · have he : e = whE s [] ∧ v = 0 := by
          unfold whE at hb ⊢
          rcases hA with ⟨h1,h2,h3⟩ | ⟨h1,⟨h2,h3,h4⟩ | ⟨h2,_⟩⟩
          · rw [if_pos h1]; exact ⟨h3,h2⟩
          · rw [if_neg (by omega),if_neg (by simp),if_pos h2]; exact ⟨h4,h3⟩
          · rw [if_neg (by omega),if_neg (by simp),if_neg (by simp [h2])] at hb; exact absurd rfl hb
         obtain ⟨rfl,rfl⟩ := he
         simp -implicitDefEqProofs (disch := omega) [wrap_id]
         refine callW_pure (ys := [Sn f g s]) (ids := []) rfl (k_Count_ok f g s hz hA) ?_
         simp -implicitDefEqProofs (disch := omega) [wrap_id]
         refine callW_pure (ys := [Sn f g s]) (ids := []) rfl (r_Count_ok f g s hz hA) ?_
         simp -implicitDefEqProofs (disch := omega) [wrap_id]
         refine pureW_of (ys := [Sn f g s,Ps h R]) (ids := []) rfl (k_CheckRows_ok f g h s hz R hR) ?_
         simp -implicitDefEqProofs (disch := omega) [wrap_id]
         refine pureW_of (ys := [Sn f g s,Ps h R]) (ids := []) rfl (r_CheckRows_ok f g h s hz R hR) ?_
         simp -implicitDefEqProofs (disch := omega) [wrap_id,cmp2,nthT,disj]
         refine callW_pure (ys := [Sn f g s]) (ids := []) rfl (r_CheckSheet_ok f g s hz) ?_
         have hor : shtE s ≠ 0 ∨ (shtE s = 0 ∧ whE s [] = 19) := by
          by_cases h0 : shtE s = 0
          · right
            refine ⟨h0,?_⟩
            unfold whE at hb ⊢
            rw [if_neg (by omega),if_neg (by simp)] at hb ⊢
            by_cases hL : lostL s = []
            · rw [if_neg (by simp [hL])] at hb; exact absurd rfl hb
            · rw [if_pos hL]
          · exact .inl h0
         rcases hor with h0 | ⟨h0,h19⟩
         · have h0' : (shtE s != 0) = true := by simp [h0]
           simp -implicitDefEqProofs (disch := omega) [wrap_id,h0']
           refine callW_pure rfl lk_Works_ok ?_
           simp -implicitDefEqProofs (disch := omega) [wrap_id]
         · rw [h0,h19]
           simp -implicitDefEqProofs (disch := omega) [wrap_id]
           refine callW_pure rfl lk_Works_ok ?_
           simp -implicitDefEqProofs (disch := omega) [wrap_id]
       · have hv := val_of h0
         have al := allR_len hv
         have hm12 := hv.m12
         have hlB := hB.len
         obtain ⟨n,c,hW⟩ := ansW_ex s (allR s)
         have hn := bst_W h0 hB hW
         have he : e ≠ 19 := by
          rcases hA with ⟨h1,_⟩ | ⟨_,⟨h1,_⟩ | ⟨_,n,c,_,⟨_,_,h⟩ | ⟨_,_,h⟩⟩⟩
          · exact absurd h0 h1
          · exact absurd hL h1
          · omega
          · omega
         have he' : (e == 19) = false := by simp [he]
         have cB := bst_rws h0 hB hO
         have oB := ord_K hv hB hO
         simp -implicitDefEqProofs (disch := omega) [wrap_id]
         refine callW_pure (ys := [Sn f g s]) (ids := []) rfl (k_Count_ok f g s hz hA) ?_
         simp -implicitDefEqProofs (disch := omega) [wrap_id]
         refine callW_pure (ys := [Sn f g s]) (ids := []) rfl (r_Count_ok f g s hz hA) ?_
         simp -implicitDefEqProofs (disch := omega) [wrap_id]
         refine pureW_of (ys := [Sn f g s,Ps h R]) (ids := []) rfl (k_CheckRows_ok f g h s hz R hR) ?_
         simp -implicitDefEqProofs (disch := omega) [wrap_id]
         refine pureW_of (ys := [Sn f g s,Ps h R]) (ids := []) rfl (r_CheckRows_ok f g h s hz R hR) ?_
         simp -implicitDefEqProofs (disch := omega) [wrap_id,cmp2,nthT,disj]
         refine callW_pure (ys := [Sn f g s]) (ids := []) rfl (r_CheckSheet_ok f g s hz) ?_
         rw [h0]
         simp -implicitDefEqProofs (disch := omega) [wrap_id,he']
         refine pureW_of (ys := [Sn f g s]) (ids := []) rfl (r_Rows_ok f g s h0) ?_
         simp -implicitDefEqProofs (disch := omega) [wrap_id]
         refine pureW_of (ys := [Sn f g s,Ps (allR s).isEmpty (allR s)]) (ids := []) rfl (r_Fewest_ok f g _ s hv (allR s) (by omega) (fun r h => (isK_allR h).1) hW) ?_
         rw [hn]
         simp -implicitDefEqProofs (disch := omega) [wrap_id,cmp2,nthT,disj]
         refine callW_pure (ys := [Sn f g s,Ps false B]) (ids := []) rfl (r_CheckRows_ok f g false s hz B (by omega)) ?_
         rw [cB]
         simp -implicitDefEqProofs (disch := omega) [wrap_id]
         refine callW_pure (ys := [Ps false B]) (ids := []) rfl (r_Ordered_ok false B (by omega)) ?_
         rw [oB]
         simp -implicitDefEqProofs (disch := omega) [wrap_id]
         refine callW_pure rfl lk_Works_ok ?_
         simp -implicitDefEqProofs (disch := omega) [wrap_id]
end Go.AM
