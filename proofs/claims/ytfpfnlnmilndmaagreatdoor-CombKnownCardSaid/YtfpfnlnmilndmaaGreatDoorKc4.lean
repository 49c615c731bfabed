/-
  Kc4: texts joined: FmCF Cb1 Cb2 Cb3 Cb4 Cb5 Cb6 Cb7 Cb9 Cb10 Cb11 FmCS Ce1 Ce2 Ce3 Cb12 Ce4 Ce5 Ce6 TzL Cb13 Ce7 Cb14 Cb15 Cb17 Cb18 Cb19 Cb20 Ce8 Ce9. Own work.
-/
import Derived.Test.YtfpfnlnmilndmaaGreatDoorKc3
import Derived.Test.YtfpfnlnmilndmaaGreatDoorProg
import Derived.Shelf.Spec.TrailingZeros
set_option linter.unusedSimpArgs false
set_option linter.unusedVariables false

set_option maxRecDepth 100000
namespace Go.AM
open Go.RowKit Go.Proofs
abbrev n_k_Has : Nat := 18
def G_k_Has : AC := (.seq (.rgn [⟨none,[(.box 2 2 (.t 0)),(.box 3 2 (.t 1)),(.mv 4 (.k (.sl true 0 []))),(.mv 5 (.k (I 0)))]⟩] [2,3]) (.seq (.rgn [⟨none,[(.ld 10 true 2 (.t 2)),(.call 11 57 [(.t 10)]),(.mv 9 (.t 11)),(.ext 12 (.t 9) 0),(.ext 13 (.t 9) 1),(.mv 6 (.t 12)),(.mv 7 (.t 13))]⟩] [3,6,7]) (.seq (.block 0 (.seq (.rgn [⟨none,[(.mv 15 (.t 7)),(.bin 16 .neq (.t 15) (.k (I 0))),(.mv 14 (.t 16))]⟩] [3,6,7,14]) (.cond (.t 14) (.seq (.rgn [⟨none,[(.mv 17 (.t 7)),(.mv 4 (.k (.sl true 0 []))),(.mv 5 (.t 17))]⟩] [4,5]) .ret) (.seq (.rgn [⟨none,[(.mv 19 (.t 6)),(.fa 20 (.t 3) 0),(.ld 21 false 1 (.t 20)),(.call 22 58 [(.t 19),(.t 21)]),(.un 23 .not (.t 22)),(.mv 18 (.t 23))]⟩] [3,6,18]) (.cond (.t 18) (.seq (.rgn [⟨none,[(.mv 4 (.k (.sl true 0 []))),(.mv 5 (.k (I 2)))]⟩] [4,5]) .ret) .skip))))) (.seq (.rgn [⟨none,[(.mv 24 (.t 6)),(.ld 25 true 2 (.t 3)),(.call 26 59 [(.t 24),(.t 25)]),(.mv 8 (.t 26))]⟩] [8]) (.seq (.seq (.rgn [⟨none,[(.mv 27 (.t 8)),(.bin 28 .eql (.t 27) (.k (.v (.int .u64 0))))]⟩] [8,28]) (.cond (.t 28) (.seq (.rgn [⟨none,[(.mv 4 (.k (.sl true 0 []))),(.mv 5 (.k (I 19)))]⟩] [4,5]) .ret) .skip)) (.seq (.rgn [⟨none,[(.mv 29 (.t 8)),(.call 30 60 [(.t 29)]),(.mv 4 (.t 30)),(.mv 5 (.k (I 0)))]⟩] [4,5]) .ret))))))
theorem func_k_Has : Tryz.prog.funcs[n_k_Has]? = some Tryz.f18 := Tryz.func18
theorem form_k_Has : formOf Tryz.prog Tryz.f18 [4,5] = some G_k_Has := by kernel_rfl
theorem res_k_Has : resTmps Tryz.f18.results.toList = some [4,5] := by kernel_rfl
abbrev n_k_Places : Nat := 20
def G_k_Places : AC := (.seq (.rgn [⟨none,[(.box 2 2 (.t 0)),(.box 3 1 (.t 1)),(.mv 4 (.k (.sl true 0 []))),(.mv 5 (.k (I 0)))]⟩] [2,3,4,5]) (.seq (.rgn [⟨none,[(.ld 11 true 2 (.t 2)),(.call 12 57 [(.t 11)]),(.mv 10 (.t 12)),(.ext 13 (.t 10) 0),(.ext 14 (.t 10) 1),(.mv 6 (.t 13)),(.mv 7 (.t 14))]⟩] [3,4,5,6,7]) (.seq (.block 0 (.seq (.rgn [⟨none,[(.mv 16 (.t 7)),(.bin 17 .neq (.t 16) (.k (I 0))),(.mv 15 (.t 17))]⟩] [3,4,5,6,7,15]) (.cond (.t 15) (.seq (.rgn [⟨none,[(.mv 18 (.t 7)),(.mv 4 (.k (.sl true 0 []))),(.mv 5 (.t 18))]⟩] [4,5]) .ret) (.seq (.rgn [⟨none,[(.mv 20 (.t 6)),(.ld 21 false 1 (.t 3)),(.call 22 58 [(.t 20),(.t 21)]),(.un 23 .not (.t 22)),(.mv 19 (.t 23))]⟩] [3,4,5,6,19]) (.cond (.t 19) (.seq (.rgn [⟨none,[(.mv 4 (.k (.sl true 0 []))),(.mv 5 (.k (I 2)))]⟩] [4,5]) .ret) .skip))))) (.seq (.rgn [⟨none,[(.al 8 [(.sl true 0 [])])]⟩] [3,4,5,6,8]) (.seq (.seq (.rgn [⟨none,[(.mv 24 (.t 6)),(.call 25 63 [(.t 24)])]⟩] [3,4,5,8,25]) (.block 1 (.rf (.t 25) [26] (.rgn [⟨none,[(.al 9 [(I 0),(I 0)]),(.st 2 (.t 9) (.t 26))]⟩] [3,8,9]) (.block 2 (.seq (.rgn [⟨none,[(.fa 27 (.t 9) 0),(.ld 28 false 1 (.t 27)),(.ld 29 false 1 (.t 3)),(.bin 30 .eql (.t 28) (.t 29))]⟩] [8,9,30]) (.cond (.t 30) (.drw [⟨none,[(.ld 31 false 1 (.t 8)),(.ld 32 false 1 (.t 8)),(.len 33 (.t 32)),(.ld 34 false 1 (.t 8)),(.len 35 (.t 34)),(.slc 36 1 (.t 31) none (some (.t 33)) (some (.t 35))),(.fa 37 (.t 9) 1),(.ld 38 false 1 (.t 37)),(.bsl 39 1 1 [(I 0)] [(0,(.t 38))]),(.app 40 1 8 (.t 36) (.t 39)),(.st 1 (.t 8) (.t 40))]⟩] [(0,1),(0,3),(1,3),(0,7),(1,7),(3,7),(0,8),(1,8),(3,8)] []) .skip))) [8]))) (.seq (.rgn [⟨none,[(.ld 41 false 1 (.t 8)),(.mv 4 (.t 41)),(.mv 5 (.k (I 0)))]⟩] [4,5]) .ret))))))
theorem func_k_Places : Tryz.prog.funcs[n_k_Places]? = some Tryz.f20 := Tryz.func20
theorem form_k_Places : formOf Tryz.prog Tryz.f20 [4,5] = some G_k_Places := by kernel_rfl
theorem res_k_Places : resTmps Tryz.f20.results.toList = some [4,5] := by kernel_rfl
abbrev n_k_Lost : Nat := 22
def G_k_Lost : AC := (.seq (.rgn [⟨none,[(.box 1 2 (.t 0)),(.mv 2 (.k (.sl true 0 []))),(.mv 3 (.k (I 0)))]⟩] [1]) (.seq (.rgn [⟨none,[(.ld 7 true 2 (.t 1)),(.call 8 57 [(.t 7)]),(.mv 6 (.t 8)),(.ext 9 (.t 6) 0),(.ext 10 (.t 6) 1),(.mv 4 (.t 9)),(.mv 5 (.t 10))]⟩] [4,5]) (.seq (.seq (.rgn [⟨none,[(.mv 11 (.t 5)),(.bin 12 .neq (.t 11) (.k (I 0)))]⟩] [4,5,12]) (.cond (.t 12) (.seq (.rgn [⟨none,[(.mv 13 (.t 5)),(.mv 2 (.k (.sl true 0 []))),(.mv 3 (.t 13))]⟩] [2,3]) .ret) .skip)) (.seq (.rgn [⟨none,[(.mv 14 (.t 4)),(.call 15 64 [(.t 14)]),(.mv 16 (.t 4)),(.call 17 65 [(.t 16)]),(.bin 18 .andNot (.t 15) (.t 17)),(.call 19 60 [(.t 18)]),(.mv 2 (.t 19)),(.mv 3 (.k (I 0)))]⟩] [2,3]) .ret))))
theorem func_k_Lost : Tryz.prog.funcs[n_k_Lost]? = some Tryz.f22 := Tryz.func22
theorem form_k_Lost : formOf Tryz.prog Tryz.f22 [2,3] = some G_k_Lost := by kernel_rfl
theorem res_k_Lost : resTmps Tryz.f22.results.toList = some [2,3] := by kernel_rfl
abbrev n_k_CheckSheet : Nat := 24
def G_k_CheckSheet : AC := (.seq (.rgn [⟨none,[(.box 1 2 (.t 0)),(.mv 2 (.k (I 0)))]⟩] [1]) (.seq (.rgn [⟨none,[(.mv 3 (.k (.fn (.func 67) [] [])))]⟩] [1,3]) (.seq (.block 0 (.seq (.rgn [⟨none,[(.fa 5 (.t 1) 0),(.ld 6 false 1 (.t 5)),(.len 7 (.t 6)),(.bsl 8 1 1 [(I 0)] [(0,(.t 7))]),(.call 9 68 [(.k (I 1)),(.k (I 8)),(.t 8)]),(.un 10 .not (.t 9)),(.mv 11 (.t 10))]⟩,⟨(some (11,false)),[(.fa 12 (.t 1) 1),(.ld 13 false 1 (.t 12)),(.len 14 (.t 13)),(.bsl 15 1 1 [(I 0)] [(0,(.t 14))]),(.call 16 68 [(.k (I 1)),(.k (I 12)),(.t 15)]),(.un 17 .not (.t 16))]⟩,⟨none,[(.pick 18 (.t 11) (.k (B true)) (.t 17)),(.mv 4 (.t 18))]⟩] [1,3,4]) (.cond (.t 4) (.seq (.rgn [⟨none,[(.mv 2 (.k (I 6)))]⟩] [2]) .ret) (.seq (.rgn [⟨none,[(.fa 20 (.t 1) 0),(.ld 21 false 1 (.t 20)),(.mv 22 (.t 3)),(.call 23 69 [(.t 21),(.t 22)]),(.mv 19 (.t 23))]⟩] [1,19]) (.cond (.t 19) (.seq (.rgn [⟨none,[(.mv 2 (.k (I 2)))]⟩] [2]) .ret) .skip))))) (.seq (.rgn [⟨none,[(.fa 24 (.t 1) 1),(.ld 25 false 1 (.t 24)),(.call 26 70 [(.t 25)]),(.mv 2 (.t 26))]⟩] [2]) .ret))))
theorem func_k_CheckSheet : Tryz.prog.funcs[n_k_CheckSheet]? = some Tryz.f24 := Tryz.func24
theorem form_k_CheckSheet : formOf Tryz.prog Tryz.f24 [2] = some G_k_CheckSheet := by kernel_rfl
theorem res_k_CheckSheet : resTmps Tryz.f24.results.toList = some [2] := by kernel_rfl
abbrev n_r_CheckSheet : Nat := 25
def G_r_CheckSheet : AC := (.seq (.rgn [⟨none,[(.box 1 2 (.t 0)),(.mv 2 (.k (I 0)))]⟩] [1]) (.seq (.seq (.rgn [⟨none,[(.fa 5 (.t 1) 0),(.ld 6 false 1 (.t 5)),(.len 7 (.t 6)),(.bin 8 .lss (.t 7) (.k (I 1))),(.mv 9 (.t 8))]⟩,⟨(some (9,false)),[(.fa 10 (.t 1) 0),(.ld 11 false 1 (.t 10)),(.len 12 (.t 11)),(.bin 13 .gtr (.t 12) (.k (I 8)))]⟩,⟨none,[(.pick 14 (.t 9) (.k (B true)) (.t 13)),(.mv 15 (.t 14))]⟩,⟨(some (15,false)),[(.fa 16 (.t 1) 1),(.ld 17 false 1 (.t 16)),(.len 18 (.t 17)),(.bin 19 .lss (.t 18) (.k (I 1)))]⟩,⟨none,[(.pick 20 (.t 15) (.k (B true)) (.t 19)),(.mv 21 (.t 20))]⟩,⟨(some (21,false)),[(.fa 22 (.t 1) 1),(.ld 23 false 1 (.t 22)),(.len 24 (.t 23)),(.bin 25 .gtr (.t 24) (.k (I 12)))]⟩,⟨none,[(.pick 26 (.t 21) (.k (B true)) (.t 25))]⟩] [1,26]) (.cond (.t 26) (.seq (.rgn [⟨none,[(.mv 2 (.k (I 6)))]⟩] [2]) .ret) .skip)) (.seq (.seq (.rgn [⟨none,[(.mv 3 (.k (I 0)))]⟩] [1,3]) (.block 0 (.loop (.seq (.seq (.rgn [⟨none,[(.mv 27 (.t 3)),(.fa 28 (.t 1) 0),(.ld 29 false 1 (.t 28)),(.len 30 (.t 29)),(.bin 31 .lss (.t 27) (.t 30))]⟩] [1,3,31]) (.cond (.t 31) .skip (.exit 0))) (.seq (.block 1 (.seq (.rgn [⟨none,[(.fa 34 (.t 1) 0),(.ld 35 false 1 (.t 34)),(.mv 36 (.t 3)),(.ia 37 2 (.t 35) (.t 36)),(.ld 38 true 2 (.t 37)),(.al 4 [(I 0),(I 0)]),(.st 2 (.t 4) (.t 38))]⟩] [1,3,4]) (.seq (.rgn [⟨none,[(.fa 39 (.t 4) 0),(.ld 40 false 1 (.t 39)),(.bin 41 .lss (.t 40) (.k (I 1))),(.mv 42 (.t 41))]⟩,⟨(some (42,false)),[(.fa 43 (.t 4) 0),(.ld 44 false 1 (.t 43)),(.bin 45 .gtr (.t 44) (.k (I 50)))]⟩,⟨none,[(.pick 46 (.t 42) (.k (B true)) (.t 45)),(.mv 47 (.t 46))]⟩,⟨(some (47,false)),[(.fa 48 (.t 4) 1),(.ld 49 false 1 (.t 48)),(.bin 50 .lss (.t 49) (.k (I 2)))]⟩,⟨none,[(.pick 51 (.t 47) (.k (B true)) (.t 50)),(.mv 52 (.t 51))]⟩,⟨(some (52,false)),[(.fa 53 (.t 4) 1),(.ld 54 false 1 (.t 53)),(.bin 55 .gtr (.t 54) (.k (I 20)))]⟩,⟨none,[(.pick 56 (.t 52) (.k (B true)) (.t 55))]⟩] [1,3,56]) (.cond (.t 56) (.seq (.rgn [⟨none,[(.mv 2 (.k (I 2)))]⟩] [2]) .ret) .skip)))) (.rgn [⟨none,[(.mv 32 (.t 3)),(.bin 33 .add (.t 32) (.k (I 1))),(.mv 3 (.t 33))]⟩] [1,3])))))) (.seq (.rgn [⟨none,[(.fa 57 (.t 1) 1),(.ld 58 false 1 (.t 57)),(.call 59 71 [(.t 58)]),(.mv 2 (.t 59))]⟩] [2]) .ret))))
theorem func_r_CheckSheet : Tryz.prog.funcs[n_r_CheckSheet]? = some Tryz.f25 := Tryz.func25
theorem form_r_CheckSheet : formOf Tryz.prog Tryz.f25 [2] = some G_r_CheckSheet := by kernel_rfl
theorem res_r_CheckSheet : resTmps Tryz.f25.results.toList = some [2] := by kernel_rfl
abbrev n_k_Best : Nat := 29
def G_k_Best : AC := (.seq (.rgn [⟨none,[(.box 1 2 (.t 0)),(.mv 2 (.k (.sl true 0 []))),(.mv 3 (.k (I 0)))]⟩] [1]) (.seq (.rgn [⟨none,[(.ld 9 true 2 (.t 1)),(.call 10 72 [(.t 9),(.k (.sl true 0 []))]),(.mv 8 (.t 10)),(.ext 11 (.t 8) 0),(.ext 12 (.t 8) 1),(.mv 4 (.t 11)),(.mv 5 (.t 12))]⟩] [4,5]) (.seq (.seq (.rgn [⟨none,[(.mv 13 (.t 5)),(.bin 14 .neq (.t 13) (.k (I 0)))]⟩] [4,5,14]) (.cond (.t 14) (.seq (.rgn [⟨none,[(.mv 15 (.t 5)),(.mv 2 (.k (.sl true 0 []))),(.mv 3 (.t 15))]⟩] [2,3]) .ret) .skip)) (.seq (.rgn [⟨none,[(.mv 16 (.t 4)),(.call 17 73 [(.t 16)]),(.mv 6 (.t 17))]⟩] [6]) (.seq (.rgn [⟨none,[(.mv 18 (.t 6)),(.call 19 74 [(.t 18),(.k (.fn (.func 75) [] []))])]⟩] [6]) (.seq (.rgn [⟨none,[(.mv 20 (.t 6)),(.len 21 (.t 20)),(.mks 22 2 16 [(I 0),(I 0)] (.t 21) (.t 21)),(.mv 7 (.t 22))]⟩] [6,7]) (.seq (.rgn [⟨none,[(.mv 23 (.t 7)),(.mv 24 (.t 6)),(.cpy 25 2 (.t 23) (.t 24))]⟩] [7]) (.seq (.rgn [⟨none,[(.mv 26 (.t 7)),(.mv 2 (.t 26)),(.mv 3 (.k (I 0)))]⟩] [2,3]) .ret))))))))
theorem func_k_Best : Tryz.prog.funcs[n_k_Best]? = some Tryz.f29 := Tryz.func29
theorem form_k_Best : formOf Tryz.prog Tryz.f29 [2,3] = some G_k_Best := by kernel_rfl
theorem res_k_Best : resTmps Tryz.f29.results.toList = some [2,3] := by kernel_rfl
abbrev n_k_Count : Nat := 30
def G_k_Count : AC := (.seq (.rgn [⟨none,[(.box 1 2 (.t 0)),(.mv 2 (.k (I 0))),(.mv 3 (.k (I 0)))]⟩] [1]) (.seq (.rgn [⟨none,[(.ld 8 true 2 (.t 1)),(.call 9 72 [(.t 8),(.k (.sl true 0 []))]),(.mv 7 (.t 9)),(.ext 10 (.t 7) 0),(.ext 11 (.t 7) 1),(.mv 4 (.t 10)),(.mv 5 (.t 11))]⟩] [4,5]) (.seq (.seq (.rgn [⟨none,[(.mv 12 (.t 5)),(.bin 13 .neq (.t 12) (.k (I 0)))]⟩] [4,5,13]) (.cond (.t 13) (.seq (.rgn [⟨none,[(.mv 14 (.t 5)),(.mv 2 (.k (I 0))),(.mv 3 (.t 14))]⟩] [2,3]) .ret) .skip)) (.seq (.drw [⟨none,[(.mv 15 (.t 4)),(.mv 16 (.t 4)),(.call 17 79 [(.t 16),(.k (.v (.int .u64 0)))]),(.mv 18 (.t 4)),(.call 19 64 [(.t 18)]),(.nilc 20 (.t 17)),(.iaa 21 4096 1 (.t 20) (.t 19)),(.ld 22 false 1 (.t 21)),(.call 23 78 [(.t 15),(.t 22)]),(.mv 6 (.t 23))]⟩] [] [6]) (.seq (.seq (.rgn [⟨none,[(.mv 24 (.t 6)),(.bin 25 .gtr (.t 24) (.k (I 1099511627776)))]⟩] [6,25]) (.cond (.t 25) (.seq (.rgn [⟨none,[(.mv 2 (.k (I 0))),(.mv 3 (.k (I 4)))]⟩] [2,3]) .ret) .skip)) (.seq (.rgn [⟨none,[(.mv 26 (.t 6)),(.mv 2 (.t 26)),(.mv 3 (.k (I 0)))]⟩] [2,3]) .ret))))))
theorem func_k_Count : Tryz.prog.funcs[n_k_Count]? = some Tryz.f30 := Tryz.func30
theorem form_k_Count : formOf Tryz.prog Tryz.f30 [2,3] = some G_k_Count := by kernel_rfl
theorem res_k_Count : resTmps Tryz.f30.results.toList = some [2,3] := by kernel_rfl
abbrev n_k_CheckRows : Nat := 32
def G_k_CheckRows : AC := (.seq (.rgn [⟨none,[(.box 2 2 (.t 0)),(.mv 4 (.k (I 0)))]⟩] [1,2]) (.seq (.rgn [⟨none,[(.ld 13 true 2 (.t 2)),(.call 14 57 [(.t 13)]),(.mv 12 (.t 14)),(.ext 15 (.t 12) 0),(.ext 16 (.t 12) 1),(.al 5 [(.v (.pointer none))]),(.st 1 (.t 5) (.t 15)),(.mv 6 (.t 16))]⟩] [1,5,6]) (.seq (.block 0 (.seq (.rgn [⟨none,[(.mv 18 (.t 6)),(.bin 19 .neq (.t 18) (.k (I 0))),(.mv 17 (.t 19))]⟩] [1,5,6,17]) (.cond (.t 17) (.seq (.rgn [⟨none,[(.mv 20 (.t 6)),(.mv 4 (.t 20))]⟩] [4]) .ret) (.seq (.rgn [⟨none,[(.mv 22 (.t 1)),(.len 23 (.t 22)),(.bin 24 .gtr (.t 23) (.k (I 20))),(.mv 21 (.t 24))]⟩] [1,5,21]) (.cond (.t 21) (.seq (.rgn [⟨none,[(.mv 4 (.k (I 6)))]⟩] [4]) .ret) (.seq (.rgn [⟨none,[(.mv 26 (.t 1)),(.mkf 27 (.func 81) [] [(.t 5)]),(.call 28 80 [(.t 26),(.t 27)]),(.mv 25 (.t 28))]⟩] [1,5,25]) (.cond (.t 25) (.seq (.rgn [⟨none,[(.mv 4 (.k (I 2)))]⟩] [4]) .ret) (.seq (.rgn [⟨none,[(.mv 30 (.t 1)),(.mkf 31 (.func 82) [] [(.t 5)]),(.call 32 80 [(.t 30),(.t 31)]),(.mv 29 (.t 32))]⟩] [1,5,29]) (.cond (.t 29) (.seq (.rgn [⟨none,[(.mv 4 (.k (I 19)))]⟩] [4]) .ret) .skip))))))))) (.seq (.rgn [⟨none,[(.mv 7 (.k (.v (.int .u64 0))))]⟩] [1,5,7]) (.seq (.seq (.rgn [⟨none,[(.mv 33 (.t 1)),(.len 34 (.t 33)),(.mv 35 (.k (I 0)))]⟩] [1,5,7,33,34,35]) (.block 1 (.loop (.seq (.rgn [⟨none,[(.bin 36 .lss (.t 35) (.t 34))]⟩] [1,5,7,33,34,35,36]) (.seq (.cond (.t 36) .skip (.exit 1)) (.seq (.block 2 (.seq (.rgn [⟨none,[(.mv 37 (.t 35)),(.ia 38 2 (.t 33) (.t 35)),(.ld 39 true 2 (.t 38)),(.al 9 [(I 0),(I 0)]),(.mv 8 (.t 37)),(.st 2 (.t 9) (.t 39))]⟩] [1,5,7,8,9,33,34,35]) (.seq (.seq (.rgn [⟨none,[(.mv 40 (.t 1)),(.mv 41 (.t 8)),(.slc 42 2 (.t 40) none (some (.t 41)) none),(.len 43 (.t 42)),(.mv 44 (.k (I 0)))]⟩] [1,5,7,9,33,34,35,42,43,44]) (.block 3 (.loop (.seq (.rgn [⟨none,[(.bin 45 .lss (.t 44) (.t 43))]⟩] [1,5,7,9,33,34,35,42,43,44,45]) (.seq (.cond (.t 45) .skip (.exit 3)) (.seq (.block 4 (.seq (.rgn [⟨none,[(.ia 46 2 (.t 42) (.t 44)),(.ld 47 true 2 (.t 46)),(.al 11 [(I 0),(I 0)]),(.st 2 (.t 11) (.t 47))]⟩] [1,5,7,9,11,33,34,35,42,43,44]) (.seq (.rgn [⟨none,[(.ld 48 true 2 (.t 9)),(.ld 49 true 2 (.t 11)),(.eqk 50 false (true,[.int,.int]) (.t 48) (.t 49))]⟩] [1,5,7,9,33,34,35,42,43,44,50]) (.cond (.t 50) (.seq (.rgn [⟨none,[(.mv 4 (.k (I 15)))]⟩] [4]) .ret) .skip)))) (.rgn [⟨none,[(.bin 51 .add (.t 44) (.k (I 1))),(.mv 44 (.t 51))]⟩] [1,5,7,9,33,34,35,42,43,44]))))))) (.rgn [⟨none,[(.mv 52 (.t 7)),(.ld 53 false 1 (.t 5)),(.ld 54 true 2 (.t 9)),(.call 55 59 [(.t 53),(.t 54)]),(.bin 56 .or (.t 52) (.t 55)),(.mv 7 (.t 56))]⟩] [1,5,7,33,34,35])))) (.rgn [⟨none,[(.bin 57 .add (.t 35) (.k (I 1))),(.mv 35 (.t 57))]⟩] [1,5,7,33,34,35]))))))) (.seq (.seq (.rgn [⟨none,[(.mv 58 (.t 7)),(.ld 59 false 1 (.t 5)),(.call 60 64 [(.t 59)]),(.bin 61 .neq (.t 58) (.t 60))]⟩] [61]) (.cond (.t 61) (.seq (.rgn [⟨none,[(.mv 4 (.k (I 16)))]⟩] [4]) .ret) .skip)) (.seq (.rgn [⟨none,[(.mv 4 (.k (I 0)))]⟩] [4]) .ret)))))))
theorem func_k_CheckRows : Tryz.prog.funcs[n_k_CheckRows]? = some Tryz.f32 := Tryz.func32
theorem form_k_CheckRows : formOf Tryz.prog Tryz.f32 [4] = some G_k_CheckRows := by kernel_rfl
theorem res_k_CheckRows : resTmps Tryz.f32.results.toList = some [4] := by kernel_rfl
abbrev n_r_CheckRows : Nat := 33
def G_r_CheckRows : AC := (.seq (.rgn [⟨none,[(.box 2 2 (.t 0)),(.mv 4 (.k (I 0)))]⟩] [1,2]) (.seq (.seq (.rgn [⟨none,[(.ld 10 true 2 (.t 2)),(.call 11 25 [(.t 10)]),(.bin 12 .neq (.t 11) (.k (I 0)))]⟩] [1,2,12]) (.cond (.t 12) (.seq (.rgn [⟨none,[(.ld 13 true 2 (.t 2)),(.call 14 25 [(.t 13)]),(.mv 4 (.t 14))]⟩] [4]) .ret) .skip)) (.seq (.seq (.rgn [⟨none,[(.mv 15 (.t 1)),(.len 16 (.t 15)),(.bin 17 .gtr (.t 16) (.k (I 20)))]⟩] [1,2,17]) (.cond (.t 17) (.seq (.rgn [⟨none,[(.mv 4 (.k (I 6)))]⟩] [4]) .ret) .skip)) (.seq (.seq (.rgn [⟨none,[(.mv 5 (.k (I 0)))]⟩] [1,2,5]) (.block 0 (.loop (.seq (.seq (.rgn [⟨none,[(.mv 18 (.t 5)),(.mv 19 (.t 1)),(.len 20 (.t 19)),(.bin 21 .lss (.t 18) (.t 20))]⟩] [1,2,5,21]) (.cond (.t 21) .skip (.exit 0))) (.seq (.block 1 (.seq (.drw [⟨none,[(.ld 24 true 2 (.t 2)),(.mv 25 (.t 1)),(.mv 26 (.t 5)),(.ia 27 2 (.t 25) (.t 26)),(.fa 28 (.t 27) 0),(.ld 29 false 1 (.t 28)),(.call 30 61 [(.t 24),(.t 29)]),(.un 31 .not (.t 30))]⟩] [(0,5)] [1,2,5,31]) (.cond (.t 31) (.seq (.rgn [⟨none,[(.mv 4 (.k (I 2)))]⟩] [4]) .ret) .skip))) (.rgn [⟨none,[(.mv 22 (.t 5)),(.bin 23 .add (.t 22) (.k (I 1))),(.mv 5 (.t 23))]⟩] [1,2,5])))))) (.seq (.rgn [⟨none,[(.mv 6 (.k (I 0)))]⟩] [1,2,6]) (.seq (.seq (.rgn [⟨none,[(.mv 7 (.k (I 0)))]⟩] [1,2,6,7]) (.block 2 (.loop (.seq (.seq (.rgn [⟨none,[(.mv 32 (.t 7)),(.mv 33 (.t 1)),(.len 34 (.t 33)),(.bin 35 .lss (.t 32) (.t 34))]⟩] [1,2,6,7,35]) (.cond (.t 35) .skip (.exit 2))) (.seq (.block 3 (.seq (.seq (.drw [⟨none,[(.ld 38 true 2 (.t 2)),(.mv 39 (.t 1)),(.mv 40 (.t 7)),(.ia 41 2 (.t 39) (.t 40)),(.ld 42 true 2 (.t 41)),(.call 43 62 [(.t 38),(.t 42)]),(.bin 44 .eql (.t 43) (.k (I 0)))]⟩] [(0,4)] [1,2,6,7,44]) (.cond (.t 44) (.seq (.rgn [⟨none,[(.mv 4 (.k (I 19)))]⟩] [4]) .ret) .skip)) (.drw [⟨none,[(.mv 45 (.t 6)),(.ld 46 true 2 (.t 2)),(.mv 47 (.t 1)),(.mv 48 (.t 7)),(.ia 49 2 (.t 47) (.t 48)),(.ld 50 true 2 (.t 49)),(.call 51 62 [(.t 46),(.t 50)]),(.bin 52 .or (.t 45) (.t 51)),(.mv 6 (.t 52))]⟩] [(1,5)] [1,2,6,7]))) (.rgn [⟨none,[(.mv 36 (.t 7)),(.bin 37 .add (.t 36) (.k (I 1))),(.mv 7 (.t 37))]⟩] [1,2,6,7])))))) (.seq (.seq (.rgn [⟨none,[(.mv 8 (.k (I 0)))]⟩] [1,2,6,8]) (.block 4 (.loop (.seq (.seq (.rgn [⟨none,[(.mv 53 (.t 8)),(.mv 54 (.t 1)),(.len 55 (.t 54)),(.bin 56 .lss (.t 53) (.t 55))]⟩] [1,2,6,8,56]) (.cond (.t 56) .skip (.exit 4))) (.seq (.block 5 (.seq (.rgn [⟨none,[(.mv 9 (.k (I 0)))]⟩] [1,2,6,8,9]) (.block 6 (.loop (.seq (.seq (.rgn [⟨none,[(.mv 59 (.t 9)),(.mv 60 (.t 8)),(.bin 61 .lss (.t 59) (.t 60))]⟩] [1,2,6,8,9,61]) (.cond (.t 61) .skip (.exit 6))) (.seq (.block 7 (.seq (.drw [⟨none,[(.mv 64 (.t 1)),(.mv 65 (.t 8)),(.ia 66 2 (.t 64) (.t 65)),(.ld 67 true 2 (.t 66)),(.mv 68 (.t 1)),(.mv 69 (.t 9)),(.ia 70 2 (.t 68) (.t 69)),(.ld 71 true 2 (.t 70)),(.eqk 72 false (true,[.int,.int]) (.t 67) (.t 71))]⟩] [(3,7)] [1,2,6,8,9,72]) (.cond (.t 72) (.seq (.rgn [⟨none,[(.mv 4 (.k (I 15)))]⟩] [4]) .ret) .skip))) (.rgn [⟨none,[(.mv 62 (.t 9)),(.bin 63 .add (.t 62) (.k (I 1))),(.mv 9 (.t 63))]⟩] [1,2,6,8,9]))))))) (.rgn [⟨none,[(.mv 57 (.t 8)),(.bin 58 .add (.t 57) (.k (I 1))),(.mv 8 (.t 58))]⟩] [1,2,6,8])))))) (.seq (.seq (.rgn [⟨none,[(.mv 73 (.t 6)),(.fa 74 (.t 2) 1),(.ld 75 false 1 (.t 74)),(.len 76 (.t 75)),(.bin 77 .shl (.k (I 1)) (.t 76)),(.bin 78 .sub (.t 77) (.k (I 1))),(.bin 79 .neq (.t 73) (.t 78))]⟩] [79]) (.cond (.t 79) (.seq (.rgn [⟨none,[(.mv 4 (.k (I 16)))]⟩] [4]) .ret) .skip)) (.seq (.rgn [⟨none,[(.mv 4 (.k (I 0)))]⟩] [4]) .ret)))))))))
theorem func_r_CheckRows : Tryz.prog.funcs[n_r_CheckRows]? = some Tryz.f33 := Tryz.func33
theorem form_r_CheckRows : formOf Tryz.prog Tryz.f33 [4] = some G_r_CheckRows := by kernel_rfl
theorem res_r_CheckRows : resTmps Tryz.f33.results.toList = some [4] := by kernel_rfl
abbrev n_k_Apart : Nat := 37
def G_k_Apart : AC := (.seq (.rgn [⟨none,[(.box 1 2 (.t 0)),(.mv 2 (.k (.sl true 0 []))),(.mv 3 (.k (I 0)))]⟩] [1]) (.seq (.rgn [⟨none,[(.ld 7 true 2 (.t 1)),(.call 8 57 [(.t 7)]),(.mv 6 (.t 8)),(.ext 9 (.t 6) 0),(.ext 10 (.t 6) 1),(.mv 4 (.t 9)),(.mv 5 (.t 10))]⟩] [4,5]) (.seq (.seq (.rgn [⟨none,[(.mv 11 (.t 5)),(.bin 12 .neq (.t 11) (.k (I 0)))]⟩] [4,5,12]) (.cond (.t 12) (.seq (.rgn [⟨none,[(.mv 13 (.t 5)),(.mv 2 (.k (.sl true 0 []))),(.mv 3 (.t 13))]⟩] [2,3]) .ret) .skip)) (.seq (.rgn [⟨none,[(.mv 14 (.t 4)),(.mv 15 (.t 4)),(.call 16 64 [(.t 15)]),(.call 17 84 [(.t 14),(.t 16)]),(.call 18 60 [(.t 17)]),(.mv 2 (.t 18)),(.mv 3 (.k (I 0)))]⟩] [2,3]) .ret))))
theorem func_k_Apart : Tryz.prog.funcs[n_k_Apart]? = some Tryz.f37 := Tryz.func37
theorem form_k_Apart : formOf Tryz.prog Tryz.f37 [2,3] = some G_k_Apart := by kernel_rfl
theorem res_k_Apart : resTmps Tryz.f37.results.toList = some [2,3] := by kernel_rfl
abbrev n_k_CheckApart : Nat := 39
def G_k_CheckApart : AC := (.seq (.rgn [⟨none,[(.box 2 2 (.t 0)),(.mv 4 (.k (I 0)))]⟩] [1,2]) (.seq (.rgn [⟨none,[(.ld 14 true 2 (.t 2)),(.call 15 57 [(.t 14)]),(.mv 13 (.t 15)),(.ext 16 (.t 13) 0),(.ext 17 (.t 13) 1),(.mv 5 (.t 16)),(.mv 6 (.t 17))]⟩] [1,2,5,6]) (.seq (.seq (.rgn [⟨none,[(.mv 18 (.t 6)),(.bin 19 .neq (.t 18) (.k (I 0)))]⟩] [1,2,5,6,19]) (.cond (.t 19) (.seq (.rgn [⟨none,[(.mv 20 (.t 6)),(.mv 4 (.t 20))]⟩] [4]) .ret) .skip)) (.seq (.rgn [⟨none,[(.mv 7 (.k (I (-1)))),(.mv 8 (.k (.v (.int .u64 0))))]⟩] [1,2,5,7,8]) (.seq (.seq (.rgn [⟨none,[(.mv 21 (.t 1)),(.len 22 (.t 21)),(.mv 23 (.k (I 0)))]⟩] [1,2,5,7,8,21,22,23]) (.block 0 (.loop (.seq (.rgn [⟨none,[(.bin 24 .lss (.t 23) (.t 22))]⟩] [1,2,5,7,8,21,22,23,24]) (.seq (.cond (.t 24) .skip (.exit 0)) (.seq (.block 1 (.seq (.rgn [⟨none,[(.ia 25 1 (.t 21) (.t 23)),(.ld 26 false 1 (.t 25)),(.mv 10 (.t 26))]⟩] [1,2,5,7,8,10,21,22,23]) (.seq (.seq (.rgn [⟨none,[(.mv 27 (.t 10)),(.mv 28 (.t 7)),(.bin 29 .leq (.t 27) (.t 28)),(.mv 30 (.t 29))]⟩,⟨(some (30,false)),[(.mv 31 (.t 10)),(.fa 32 (.t 2) 1),(.ld 33 false 1 (.t 32)),(.len 34 (.t 33)),(.bin 35 .geq (.t 31) (.t 34))]⟩,⟨none,[(.pick 36 (.t 30) (.k (B true)) (.t 35))]⟩] [1,2,5,8,10,21,22,23,36]) (.cond (.t 36) (.seq (.rgn [⟨none,[(.mv 4 (.k (I 3)))]⟩] [4]) .ret) .skip)) (.seq (.rgn [⟨none,[(.mv 37 (.t 10)),(.mv 7 (.t 37))]⟩] [1,2,5,7,8,10,21,22,23]) (.rgn [⟨none,[(.mv 38 (.t 8)),(.mv 39 (.t 10)),(.bin 40 .shl (.k (.v (.int .u64 1))) (.t 39)),(.bin 41 .or (.t 38) (.t 40)),(.mv 8 (.t 41))]⟩] [1,2,5,7,8,21,22,23]))))) (.rgn [⟨none,[(.bin 42 .add (.t 23) (.k (I 1))),(.mv 23 (.t 42))]⟩] [1,2,5,7,8,21,22,23]))))))) (.seq (.seq (.rgn [⟨none,[(.mv 43 (.t 1)),(.len 44 (.t 43)),(.mv 45 (.k (I 0)))]⟩] [5,8,43,44,45]) (.block 2 (.loop (.seq (.rgn [⟨none,[(.bin 46 .lss (.t 45) (.t 44))]⟩] [5,8,43,44,45,46]) (.seq (.cond (.t 46) .skip (.exit 2)) (.seq (.block 3 (.seq (.rgn [⟨none,[(.ia 47 1 (.t 43) (.t 45)),(.ld 48 false 1 (.t 47)),(.mv 12 (.t 48))]⟩] [5,8,12,43,44,45]) (.seq (.rgn [⟨none,[(.mv 49 (.t 5)),(.mv 50 (.t 12)),(.call 51 86 [(.t 49),(.t 50)]),(.mv 52 (.t 8)),(.bin 53 .and (.t 51) (.t 52)),(.bin 54 .neq (.t 53) (.k (.v (.int .u64 0))))]⟩] [5,8,43,44,45,54]) (.cond (.t 54) (.seq (.rgn [⟨none,[(.mv 4 (.k (I 14)))]⟩] [4]) .ret) .skip)))) (.rgn [⟨none,[(.bin 55 .add (.t 45) (.k (I 1))),(.mv 45 (.t 55))]⟩] [5,8,43,44,45]))))))) (.seq (.rgn [⟨none,[(.mv 4 (.k (I 0)))]⟩] [4]) .ret)))))))
theorem func_k_CheckApart : Tryz.prog.funcs[n_k_CheckApart]? = some Tryz.f39 := Tryz.func39
theorem form_k_CheckApart : formOf Tryz.prog Tryz.f39 [4] = some G_k_CheckApart := by kernel_rfl
theorem res_k_CheckApart : resTmps Tryz.f39.results.toList = some [4] := by kernel_rfl
abbrev n_k_Kind : Nat := 41
def G_k_Kind : AC := (.seq (.rgn [⟨none,[(.box 2 2 (.t 0)),(.box 3 2 (.t 1)),(.mv 4 (.k (I 0))),(.mv 5 (.k (I 0)))]⟩] [2,3]) (.seq (.rgn [⟨none,[(.ld 12 true 2 (.t 2)),(.fa 13 (.t 3) 0),(.ld 14 false 1 (.t 13)),(.bsl 15 1 1 [(I 0)] [(0,(.t 14))]),(.call 16 72 [(.t 12),(.t 15)]),(.mv 11 (.t 16)),(.ext 17 (.t 11) 0),(.ext 18 (.t 11) 1),(.mv 6 (.t 17)),(.mv 7 (.t 18))]⟩] [3,6,7]) (.seq (.seq (.rgn [⟨none,[(.mv 19 (.t 7)),(.bin 20 .neq (.t 19) (.k (I 0)))]⟩] [3,6,7,20]) (.cond (.t 20) (.seq (.rgn [⟨none,[(.mv 21 (.t 7)),(.mv 4 (.k (I 0))),(.mv 5 (.t 21))]⟩] [4,5]) .ret) .skip)) (.seq (.rgn [⟨none,[(.mv 22 (.t 6)),(.ld 23 true 2 (.t 3)),(.call 24 59 [(.t 22),(.t 23)]),(.mv 8 (.t 24))]⟩] [6,8]) (.seq (.seq (.rgn [⟨none,[(.mv 25 (.t 8)),(.bin 26 .eql (.t 25) (.k (.v (.int .u64 0))))]⟩] [6,8,26]) (.cond (.t 26) (.seq (.rgn [⟨none,[(.mv 4 (.k (I 0))),(.mv 5 (.k (I 0)))]⟩] [4,5]) .ret) .skip)) (.seq (.drw [⟨none,[(.mv 27 (.t 6)),(.call 28 79 [(.t 27),(.k (.v (.int .u64 0)))]),(.mv 29 (.t 6)),(.call 30 64 [(.t 29)]),(.nilc 31 (.t 28)),(.iaa 32 4096 1 (.t 31) (.t 30)),(.ld 33 false 1 (.t 32)),(.mv 9 (.t 33))]⟩] [] [6,8,9]) (.seq (.drw [⟨none,[(.mv 34 (.t 6)),(.mv 35 (.t 8)),(.call 36 79 [(.t 34),(.t 35)]),(.mv 37 (.t 6)),(.call 38 64 [(.t 37)]),(.nilc 39 (.t 36)),(.iaa 40 4096 1 (.t 39) (.t 38)),(.ld 41 false 1 (.t 40)),(.mv 10 (.t 41))]⟩] [] [6,8,9,10]) (.seq (.seq (.rgn [⟨none,[(.mv 42 (.t 6)),(.nilc 43 (.t 42)),(.fa 44 (.t 43) 2),(.ld 45 false 1 (.t 44)),(.mv 46 (.t 8)),(.lku 47 (false,[.int]) (.sl true 0 []) false (.t 45) (.t 46)),(.len 48 (.t 47)),(.bin 49 .eql (.t 48) (.k (I 1)))]⟩] [6,8,9,10,49]) (.cond (.t 49) (.seq (.rgn [⟨none,[(.mv 50 (.t 6)),(.nilc 51 (.t 50)),(.fa 52 (.t 51) 2),(.ld 53 false 1 (.t 52)),(.mv 54 (.t 8)),(.del (false,[.int]) (.t 53) (.t 54))]⟩] [6,9,10]) (.seq (.drw [⟨none,[(.mv 55 (.t 6)),(.call 56 79 [(.t 55),(.k (.v (.int .u64 0)))]),(.mv 57 (.t 6)),(.call 58 64 [(.t 57)]),(.nilc 59 (.t 56)),(.iaa 60 4096 1 (.t 59) (.t 58)),(.ld 61 false 1 (.t 60)),(.mv 62 (.t 9)),(.bin 63 .neq (.t 61) (.t 62))]⟩] [] [9,10,63]) (.cond (.t 63) (.seq (.rgn [⟨none,[(.mv 4 (.k (I 2))),(.mv 5 (.k (I 0)))]⟩] [4,5]) .ret) .skip))) .skip)) (.seq (.seq (.rgn [⟨none,[(.mv 64 (.t 10)),(.bin 65 .add (.t 64) (.k (I 1))),(.mv 66 (.t 9)),(.bin 67 .eql (.t 65) (.t 66))]⟩] [67]) (.cond (.t 67) (.seq (.rgn [⟨none,[(.mv 4 (.k (I 1))),(.mv 5 (.k (I 0)))]⟩] [4,5]) .ret) .skip)) (.seq (.rgn [⟨none,[(.mv 4 (.k (I 0))),(.mv 5 (.k (I 0)))]⟩] [4,5]) .ret))))))))))
theorem func_k_Kind : Tryz.prog.funcs[n_k_Kind]? = some Tryz.f41 := Tryz.func41
theorem form_k_Kind : formOf Tryz.prog Tryz.f41 [4,5] = some G_k_Kind := by kernel_rfl
theorem res_k_Kind : resTmps Tryz.f41.results.toList = some [4,5] := by kernel_rfl
abbrev n_k_Meet : Nat := 43
def G_k_Meet : AC := (.seq (.rgn [⟨none,[(.mv 8 (.k (I 0))),(.mv 9 (.k (I 0))),(.mv 10 (.k (I 0)))]⟩] [0,1,2,3]) (.seq (.seq (.rgn [⟨none,[(.mv 14 (.t 0)),(.mv 15 (.t 1)),(.bsl 16 2 1 [(I 0)] [(0,(.t 14)),(1,(.t 15))]),(.call 17 68 [(.k (I 1)),(.k (I 50)),(.t 16)]),(.un 18 .not (.t 17)),(.mv 19 (.t 18))]⟩,⟨(some (19,false)),[(.mv 20 (.t 2)),(.mv 21 (.t 3)),(.bsl 22 2 1 [(I 0)] [(0,(.t 20)),(1,(.t 21))]),(.call 23 68 [(.k (I 0)),(.k (I 500)),(.t 22)]),(.un 24 .not (.t 23))]⟩,⟨none,[(.pick 25 (.t 19) (.k (B true)) (.t 24))]⟩] [0,1,2,3,25]) (.cond (.t 25) (.seq (.rgn [⟨none,[(.mv 8 (.k (I 0))),(.mv 9 (.k (I 0))),(.mv 10 (.k (I 2)))]⟩] [8,9,10]) .ret) .skip)) (.seq (.rgn [⟨none,[(.mv 26 (.t 0)),(.mv 27 (.t 1)),(.call 28 87 [(.t 26),(.t 27)]),(.mv 11 (.t 28))]⟩] [0,1,2,3,11]) (.seq (.seq (.rgn [⟨none,[(.mv 29 (.t 2)),(.mv 30 (.t 3)),(.bin 31 .sub (.t 29) (.t 30)),(.mv 32 (.t 11)),(.bin 33 .rem (.t 31) (.t 32)),(.bin 34 .neq (.t 33) (.k (I 0)))]⟩] [0,1,2,3,11,34]) (.cond (.t 34) (.seq (.rgn [⟨none,[(.mv 8 (.k (I 0))),(.mv 9 (.k (I 0))),(.mv 10 (.k (I 5)))]⟩] [8,9,10]) .ret) .skip)) (.seq (.rgn [⟨none,[(.mv 35 (.t 2)),(.mv 36 (.t 3)),(.mx 37 true (.t 35) (.t 36)),(.mv 12 (.t 37))]⟩] [0,1,2,3,11,12]) (.seq (.rgn [⟨none,[(.mv 38 (.t 2)),(.mv 39 (.t 12)),(.mv 40 (.t 2)),(.bin 41 .sub (.t 39) (.t 40)),(.mv 42 (.t 0)),(.bin 43 .add (.t 41) (.t 42)),(.bin 44 .sub (.t 43) (.k (I 1))),(.mv 45 (.t 0)),(.bin 46 .quo (.t 44) (.t 45)),(.mv 47 (.t 0)),(.bin 48 .mul (.t 46) (.t 47)),(.bin 49 .add (.t 38) (.t 48)),(.mv 13 (.t 49))]⟩] [0,1,3,11,13]) (.seq (.block 0 (.loop (.seq (.seq (.rgn [⟨none,[(.mv 50 (.t 13)),(.mv 51 (.t 3)),(.bin 52 .sub (.t 50) (.t 51)),(.mv 53 (.t 1)),(.bin 54 .rem (.t 52) (.t 53)),(.bin 55 .neq (.t 54) (.k (I 0)))]⟩] [0,1,3,11,13,55]) (.cond (.t 55) .skip (.exit 0))) (.block 1 (.rgn [⟨none,[(.mv 56 (.t 13)),(.mv 57 (.t 0)),(.bin 58 .add (.t 56) (.t 57)),(.mv 13 (.t 58))]⟩] [0,1,3,11,13]))))) (.seq (.drw [⟨none,[(.mv 59 (.t 13)),(.mv 60 (.t 0)),(.mv 61 (.t 11)),(.bin 62 .quo (.t 60) (.t 61)),(.mv 63 (.t 1)),(.bin 64 .mul (.t 62) (.t 63)),(.mv 8 (.t 59)),(.mv 9 (.t 64)),(.mv 10 (.k (I 0)))]⟩] [] [8,9,10]) .ret))))))))
theorem func_k_Meet : Tryz.prog.funcs[n_k_Meet]? = some Tryz.f43 := Tryz.func43
theorem form_k_Meet : formOf Tryz.prog Tryz.f43 [8,9,10] = some G_k_Meet := by kernel_rfl
theorem res_k_Meet : resTmps Tryz.f43.results.toList = some [8,9,10] := by kernel_rfl
abbrev n_k_Spaces : Nat := 45
def G_k_Spaces : AC := (.seq (.rgn [⟨none,[(.mv 2 (.k (.sl true 0 []))),(.mv 3 (.k (I 0)))]⟩] [0]) (.seq (.seq (.rgn [⟨none,[(.mv 11 (.t 0)),(.len 12 (.t 11)),(.bsl 13 1 1 [(I 0)] [(0,(.t 12))]),(.call 14 68 [(.k (I 2)),(.k (I 12)),(.t 13)]),(.un 15 .not (.t 14))]⟩] [0,15]) (.cond (.t 15) (.seq (.rgn [⟨none,[(.mv 2 (.k (.sl true 0 []))),(.mv 3 (.k (I 6)))]⟩] [2,3]) .ret) .skip)) (.seq (.seq (.rgn [⟨none,[(.mv 16 (.t 0)),(.call 17 70 [(.t 16)]),(.mv 4 (.t 17))]⟩] [0,4]) (.seq (.rgn [⟨none,[(.mv 18 (.t 4)),(.bin 19 .neq (.t 18) (.k (I 0)))]⟩] [0,4,19]) (.cond (.t 19) (.seq (.rgn [⟨none,[(.mv 20 (.t 4)),(.mv 2 (.k (.sl true 0 []))),(.mv 3 (.t 20))]⟩] [2,3]) .ret) .skip))) (.seq (.rgn [⟨none,[(.mv 5 (.k (.sl true 0 [])))]⟩] [0,5]) (.seq (.seq (.rgn [⟨none,[(.mv 6 (.k (I 1)))]⟩] [0,5,6]) (.block 0 (.loop (.seq (.seq (.rgn [⟨none,[(.mv 21 (.t 6)),(.bin 22 .leq (.t 21) (.k (I 50)))]⟩] [0,5,6,22]) (.cond (.t 22) .skip (.exit 0))) (.seq (.block 1 (.seq (.rgn [⟨none,[(.mv 25 (.t 0)),(.ia 26 2 (.t 25) (.k (I 0))),(.ld 27 true 2 (.t 26)),(.al 7 [(I 0),(I 0)]),(.st 2 (.t 7) (.t 27))]⟩] [0,5,6,7]) (.seq (.seq (.rgn [⟨none,[(.mv 28 (.t 0)),(.len 29 (.t 28)),(.mv 30 (.k (I 0)))]⟩] [0,5,6,7,28,29,30]) (.block 2 (.loop (.seq (.rgn [⟨none,[(.bin 31 .lss (.t 30) (.t 29))]⟩] [0,5,6,7,28,29,30,31]) (.seq (.cond (.t 31) .skip (.exit 2)) (.seq (.block 3 (.seq (.rgn [⟨none,[(.mv 32 (.t 30)),(.ia 33 2 (.t 28) (.t 30)),(.ld 34 true 2 (.t 33)),(.al 9 [(I 0),(I 0)]),(.mv 8 (.t 32)),(.st 2 (.t 9) (.t 34))]⟩] [0,5,6,7,8,9,28,29,30]) (.seq (.rgn [⟨none,[(.mv 35 (.t 8)),(.mv 36 (.t 6)),(.bin 37 .mul (.t 35) (.t 36)),(.mv 10 (.t 37))]⟩] [0,5,6,7,9,10,28,29,30]) (.rgn [⟨none,[(.fa 38 (.t 7) 0),(.ld 39 false 1 (.t 38)),(.fa 40 (.t 9) 0),(.ld 41 false 1 (.t 40)),(.mv 42 (.t 10)),(.bin 43 .sub (.t 41) (.t 42)),(.mx 44 true (.t 39) (.t 43)),(.fa 45 (.t 7) 1),(.ld 46 false 1 (.t 45)),(.fa 47 (.t 9) 1),(.ld 48 false 1 (.t 47)),(.mv 49 (.t 10)),(.bin 50 .sub (.t 48) (.t 49)),(.mx 51 false (.t 46) (.t 50)),(.bld 52 [(I 0),(I 0)] [(0,1,(.t 44)),(1,1,(.t 51))]),(.st 2 (.t 7) (.t 52))]⟩] [0,5,6,7,28,29,30])))) (.rgn [⟨none,[(.bin 53 .add (.t 30) (.k (I 1))),(.mv 30 (.t 53))]⟩] [0,5,6,7,28,29,30]))))))) (.seq (.rgn [⟨none,[(.fa 54 (.t 7) 0),(.ld 55 false 1 (.t 54)),(.fa 56 (.t 7) 1),(.ld 57 false 1 (.t 56)),(.bin 58 .leq (.t 55) (.t 57))]⟩] [0,5,6,7,58]) (.cond (.t 58) (.rgn [⟨none,[(.mv 59 (.t 5)),(.mv 60 (.t 6)),(.ld 61 true 2 (.t 7)),(.bld 62 [(I 0),(I 0),(I 0)] [(0,1,(.t 60)),(1,2,(.t 61))]),(.bsl 63 1 3 [(I 0),(I 0),(I 0)] [(0,(.t 62))]),(.app 64 3 24 (.t 59) (.t 63)),(.mv 5 (.t 64))]⟩] [0,5,6]) .skip))))) (.rgn [⟨none,[(.mv 23 (.t 6)),(.bin 24 .add (.t 23) (.k (I 1))),(.mv 6 (.t 24))]⟩] [0,5,6])))))) (.seq (.rgn [⟨none,[(.mv 65 (.t 5)),(.mv 2 (.t 65)),(.mv 3 (.k (I 0)))]⟩] [2,3]) .ret))))))
theorem func_k_Spaces : Tryz.prog.funcs[n_k_Spaces]? = some Tryz.f45 := Tryz.func45
theorem form_k_Spaces : formOf Tryz.prog Tryz.f45 [2,3] = some G_k_Spaces := by kernel_rfl
theorem res_k_Spaces : resTmps Tryz.f45.results.toList = some [2,3] := by kernel_rfl
abbrev n_k_open : Nat := 57
def G_k_open : AC := (.seq (.rgn [⟨none,[(.box 1 2 (.t 0)),(.mv 2 (.k (.v (.pointer none)))),(.mv 3 (.k (I 0)))]⟩] [1]) (.seq (.seq (.rgn [⟨none,[(.ld 5 true 2 (.t 1)),(.call 6 24 [(.t 5)]),(.mv 4 (.t 6))]⟩] [1,4]) (.seq (.rgn [⟨none,[(.mv 7 (.t 4)),(.bin 8 .neq (.t 7) (.k (I 0)))]⟩] [1,4,8]) (.cond (.t 8) (.seq (.rgn [⟨none,[(.mv 9 (.t 4)),(.mv 2 (.k (.v (.pointer none)))),(.mv 3 (.t 9))]⟩] [2,3]) .ret) .skip))) (.seq (.rgn [⟨none,[(.ld 10 true 2 (.t 1)),(.call 11 89 [(.t 10)]),(.mv 2 (.t 11)),(.mv 3 (.k (I 0)))]⟩] [2,3]) .ret)))
theorem func_k_open : Tryz.prog.funcs[n_k_open]? = some Tryz.f57 := Tryz.func57
theorem form_k_open : formOf Tryz.prog Tryz.f57 [2,3] = some G_k_open := by kernel_rfl
theorem res_k_open : resTmps Tryz.f57.results.toList = some [2,3] := by kernel_rfl
abbrev n_q_isComb : Nat := 58
def G_q_isComb : AC := (.seq (.rgn [⟨none,[(.mv 4 (.k (B false)))]⟩] [0,1]) (.seq (.rgn [⟨none,[(.mv 5 (.t 1)),(.bin 6 .geq (.t 5) (.k (I 0))),(.mv 7 (.t 6))]⟩,⟨(some (7,true)),[(.mv 8 (.t 1)),(.mv 9 (.t 0)),(.nilc 10 (.t 9)),(.fa 11 (.t 10) 0),(.fa 12 (.t 11) 0),(.ld 13 false 1 (.t 12)),(.len 14 (.t 13)),(.bin 15 .lss (.t 8) (.t 14))]⟩,⟨none,[(.pick 16 (.t 7) (.t 15) (.k (B false))),(.mv 4 (.t 16))]⟩] [4]) .ret))
theorem func_q_isComb : Tryz.prog.funcs[n_q_isComb]? = some Tryz.f58 := Tryz.func58
theorem form_q_isComb : formOf Tryz.prog Tryz.f58 [4] = some G_q_isComb := by kernel_rfl
theorem res_q_isComb : resTmps Tryz.f58.results.toList = some [4] := by kernel_rfl
abbrev n_q_marks : Nat := 59
def G_q_marks : AC := (.seq (.rgn [⟨none,[(.box 3 2 (.t 1)),(.mv 4 (.k (.v (.int .u64 0))))]⟩] [0,3]) (.seq (.seq (.rgn [⟨none,[(.mv 10 (.t 0)),(.fa 11 (.t 3) 1),(.ld 12 false 1 (.t 11)),(.call 13 90 [(.t 10),(.t 12)]),(.bin 14 .lss (.t 13) (.k (I 0)))]⟩] [0,3,14]) (.cond (.t 14) (.seq (.rgn [⟨none,[(.mv 4 (.k (.v (.int .u64 0))))]⟩] [4]) .ret) .skip)) (.seq (.rgn [⟨none,[(.mv 15 (.t 0)),(.mkf 16 (.func 90) [(.t 15)] []),(.mv 5 (.k (.v (.int .u64 0)))),(.mv 6 (.t 16))]⟩] [0,3,5,6]) (.seq (.drw [⟨none,[(.mv 17 (.t 0)),(.nilc 18 (.t 17)),(.fa 19 (.t 18) 0),(.fa 20 (.t 19) 0),(.ld 21 false 1 (.t 20)),(.fa 22 (.t 3) 0),(.ld 23 false 1 (.t 22)),(.ia 24 2 (.t 21) (.t 23)),(.ld 25 true 2 (.t 24)),(.al 7 [(I 0),(I 0)]),(.st 2 (.t 7) (.t 25))]⟩] [(4,6),(4,9),(6,9),(8,9)] [3,5,6,7]) (.seq (.seq (.rgn [⟨none,[(.fa 26 (.t 7) 1),(.ld 27 false 1 (.t 26)),(.mv 28 (.k (I 0)))]⟩] [3,5,6,7,27,28]) (.block 0 (.loop (.seq (.rgn [⟨none,[(.bin 29 .lss (.t 28) (.t 27))]⟩] [3,5,6,7,27,28,29]) (.seq (.cond (.t 29) .skip (.exit 0)) (.seq (.block 1 (.seq (.rgn [⟨none,[(.mv 30 (.t 28)),(.mv 8 (.t 30))]⟩] [3,5,6,7,8,27,28]) (.seq (.rgn [⟨none,[(.mv 31 (.t 6)),(.fa 32 (.t 3) 1),(.ld 33 false 1 (.t 32)),(.mv 34 (.t 8)),(.fa 35 (.t 7) 0),(.ld 36 false 1 (.t 35)),(.bin 37 .mul (.t 34) (.t 36)),(.bin 38 .add (.t 33) (.t 37)),(.callv 39 (.t 31) [(.t 38)]),(.mv 9 (.t 39))]⟩] [3,5,6,7,9,27,28]) (.seq (.seq (.rgn [⟨none,[(.mv 40 (.t 9)),(.bin 41 .lss (.t 40) (.k (I 0)))]⟩] [3,5,6,7,9,27,28,41]) (.cond (.t 41) (.seq (.rgn [⟨none,[(.mv 4 (.k (.v (.int .u64 0))))]⟩] [4]) .ret) .skip)) (.rgn [⟨none,[(.mv 42 (.t 5)),(.mv 43 (.t 9)),(.bin 44 .shl (.k (.v (.int .u64 1))) (.t 43)),(.bin 45 .or (.t 42) (.t 44)),(.mv 5 (.t 45))]⟩] [3,5,6,7,27,28]))))) (.rgn [⟨none,[(.bin 46 .add (.t 28) (.k (I 1))),(.mv 28 (.t 46))]⟩] [3,5,6,7,27,28]))))))) (.seq (.rgn [⟨none,[(.mv 47 (.t 5)),(.mv 4 (.t 47))]⟩] [4]) .ret))))))
theorem func_q_marks : Tryz.prog.funcs[n_q_marks]? = some Tryz.f59 := Tryz.func59
theorem form_q_marks : formOf Tryz.prog Tryz.f59 [4] = some G_q_marks := by kernel_rfl
theorem res_q_marks : resTmps Tryz.f59.results.toList = some [4] := by kernel_rfl
abbrev n_t_list : Nat := 60
def G_t_list : AC := (.seq (.rgn [⟨none,[(.mv 2 (.k (.sl true 0 [])))]⟩] [0]) (.seq (.rgn [⟨none,[(.mv 3 (.k (.sl true 0 [])))]⟩] [0,3]) (.seq (.block 0 (.loop (.seq (.seq (.rgn [⟨none,[(.mv 4 (.t 0)),(.bin 5 .neq (.t 4) (.k (.v (.int .u64 0))))]⟩] [0,3,5]) (.cond (.t 5) .skip (.exit 0))) (.block 1 (.seq (.rgn [⟨none,[(.mv 6 (.t 3)),(.mv 7 (.t 0)),(.call 8 91 [(.t 7)]),(.bsl 9 1 1 [(I 0)] [(0,(.t 8))]),(.app 10 1 8 (.t 6) (.t 9)),(.mv 3 (.t 10))]⟩] [0,3]) (.rgn [⟨none,[(.mv 11 (.t 0)),(.mv 12 (.t 0)),(.bin 13 .sub (.t 12) (.k (.v (.int .u64 1)))),(.bin 14 .and (.t 11) (.t 13)),(.mv 0 (.t 14))]⟩] [0,3])))))) (.seq (.rgn [⟨none,[(.mv 15 (.t 3)),(.mv 2 (.t 15))]⟩] [2]) .ret))))
theorem func_t_list : Tryz.prog.funcs[n_t_list]? = some Tryz.f60 := Tryz.func60
theorem form_t_list : formOf Tryz.prog Tryz.f60 [2] = some G_t_list := by kernel_rfl
theorem res_t_list : resTmps Tryz.f60.results.toList = some [2] := by kernel_rfl
abbrev n_r_IsComb : Nat := 61
def G_r_IsComb : AC := (.seq (.rgn [⟨none,[(.box 2 2 (.t 0)),(.mv 4 (.k (B false)))]⟩] [1,2]) (.seq (.rgn [⟨none,[(.mv 5 (.t 1)),(.bin 6 .geq (.t 5) (.k (I 0))),(.mv 7 (.t 6))]⟩,⟨(some (7,true)),[(.mv 8 (.t 1)),(.fa 9 (.t 2) 0),(.ld 10 false 1 (.t 9)),(.len 11 (.t 10)),(.bin 12 .lss (.t 8) (.t 11))]⟩,⟨none,[(.pick 13 (.t 7) (.t 12) (.k (B false))),(.mv 4 (.t 13))]⟩] [4]) .ret))
theorem func_r_IsComb : Tryz.prog.funcs[n_r_IsComb]? = some Tryz.f61 := Tryz.func61
theorem form_r_IsComb : formOf Tryz.prog Tryz.f61 [4] = some G_r_IsComb := by kernel_rfl
theorem res_r_IsComb : resTmps Tryz.f61.results.toList = some [4] := by kernel_rfl
abbrev n_r_Bits : Nat := 62
def G_r_Bits : AC := (.seq (.rgn [⟨none,[(.box 2 2 (.t 0)),(.box 3 2 (.t 1)),(.mv 4 (.k (I 0)))]⟩] [2,3]) (.seq (.seq (.rgn [⟨none,[(.fa 11 (.t 3) 1),(.ld 12 false 1 (.t 11)),(.bin 13 .lss (.t 12) (.k (I 0))),(.mv 14 (.t 13))]⟩,⟨(some (14,false)),[(.fa 15 (.t 3) 1),(.ld 16 false 1 (.t 15)),(.bin 17 .gtr (.t 16) (.k (I 500)))]⟩,⟨none,[(.pick 18 (.t 14) (.k (B true)) (.t 17))]⟩] [2,3,18]) (.cond (.t 18) (.seq (.rgn [⟨none,[(.mv 4 (.k (I 0)))]⟩] [4]) .ret) .skip)) (.seq (.rgn [⟨none,[(.fa 19 (.t 2) 0),(.ld 20 false 1 (.t 19)),(.fa 21 (.t 3) 0),(.ld 22 false 1 (.t 21)),(.ia 23 2 (.t 20) (.t 22)),(.ld 24 true 2 (.t 23)),(.al 5 [(I 0),(I 0)]),(.st 2 (.t 5) (.t 24))]⟩] [2,3,5]) (.seq (.rgn [⟨none,[(.mv 6 (.k (I 0)))]⟩] [2,3,5,6]) (.seq (.seq (.rgn [⟨none,[(.mv 7 (.k (I 0)))]⟩] [2,3,5,6,7]) (.block 0 (.loop (.seq (.seq (.rgn [⟨none,[(.mv 25 (.t 7)),(.fa 26 (.t 5) 1),(.ld 27 false 1 (.t 26)),(.bin 28 .lss (.t 25) (.t 27))]⟩] [2,3,5,6,7,28]) (.cond (.t 28) .skip (.exit 0))) (.seq (.block 1 (.seq (.rgn [⟨none,[(.fa 31 (.t 3) 1),(.ld 32 false 1 (.t 31)),(.mv 33 (.t 7)),(.fa 34 (.t 5) 0),(.ld 35 false 1 (.t 34)),(.bin 36 .mul (.t 33) (.t 35)),(.bin 37 .add (.t 32) (.t 36)),(.mv 8 (.t 37))]⟩] [2,3,5,6,7,8]) (.seq (.rgn [⟨none,[(.mv 9 (.k (I (-1))))]⟩] [2,3,5,6,7,8,9]) (.seq (.seq (.rgn [⟨none,[(.mv 10 (.k (I 0)))]⟩] [2,3,5,6,7,8,9,10]) (.block 2 (.loop (.seq (.seq (.rgn [⟨none,[(.mv 38 (.t 10)),(.fa 39 (.t 2) 1),(.ld 40 false 1 (.t 39)),(.len 41 (.t 40)),(.bin 42 .lss (.t 38) (.t 41))]⟩] [2,3,5,6,7,8,9,10,42]) (.cond (.t 42) .skip (.exit 2))) (.seq (.block 3 (.seq (.rgn [⟨none,[(.mv 45 (.t 8)),(.fa 46 (.t 2) 1),(.ld 47 false 1 (.t 46)),(.mv 48 (.t 10)),(.ia 49 2 (.t 47) (.t 48)),(.fa 50 (.t 49) 0),(.ld 51 false 1 (.t 50)),(.bin 52 .geq (.t 45) (.t 51)),(.mv 53 (.t 52))]⟩,⟨(some (53,true)),[(.mv 54 (.t 8)),(.fa 55 (.t 2) 1),(.ld 56 false 1 (.t 55)),(.mv 57 (.t 10)),(.ia 58 2 (.t 56) (.t 57)),(.fa 59 (.t 58) 1),(.ld 60 false 1 (.t 59)),(.bin 61 .leq (.t 54) (.t 60))]⟩,⟨none,[(.pick 62 (.t 53) (.t 61) (.k (B false)))]⟩] [2,3,5,6,7,8,9,10,62]) (.cond (.t 62) (.rgn [⟨none,[(.mv 63 (.t 10)),(.mv 9 (.t 63))]⟩] [2,3,5,6,7,8,9,10]) .skip))) (.rgn [⟨none,[(.mv 43 (.t 10)),(.bin 44 .add (.t 43) (.k (I 1))),(.mv 10 (.t 44))]⟩] [2,3,5,6,7,8,9,10])))))) (.seq (.seq (.rgn [⟨none,[(.mv 64 (.t 9)),(.bin 65 .lss (.t 64) (.k (I 0)))]⟩] [2,3,5,6,7,9,65]) (.cond (.t 65) (.seq (.rgn [⟨none,[(.mv 4 (.k (I 0)))]⟩] [4]) .ret) .skip)) (.rgn [⟨none,[(.mv 66 (.t 6)),(.mv 67 (.t 9)),(.bin 68 .shl (.k (I 1)) (.t 67)),(.bin 69 .or (.t 66) (.t 68)),(.mv 6 (.t 69))]⟩] [2,3,5,6,7])))))) (.rgn [⟨none,[(.mv 29 (.t 7)),(.bin 30 .add (.t 29) (.k (I 1))),(.mv 7 (.t 30))]⟩] [2,3,5,6,7])))))) (.seq (.rgn [⟨none,[(.mv 70 (.t 6)),(.mv 4 (.t 70))]⟩] [4]) .ret))))))
theorem func_r_Bits : Tryz.prog.funcs[n_r_Bits]? = some Tryz.f62 := Tryz.func62
theorem form_r_Bits : formOf Tryz.prog Tryz.f62 [4] = some G_r_Bits := by kernel_rfl
theorem res_r_Bits : resTmps Tryz.f62.results.toList = some [4] := by kernel_rfl
abbrev n_q_rows : Nat := 63
def G_q_rows : AC := (.seq (.rgn [⟨none,[(.box 1 1 (.t 0)),(.mv 2 (.k (.v .nilFunc)))]⟩] [1]) (.seq (.rgn [⟨none,[(.mkf 3 (.func 92) [] [(.t 1)]),(.mv 2 (.t 3))]⟩] [2]) .ret))
theorem func_q_rows : Tryz.prog.funcs[n_q_rows]? = some Tryz.f63 := Tryz.func63
theorem form_q_rows : formOf Tryz.prog Tryz.f63 [2] = some G_q_rows := by kernel_rfl
theorem res_q_rows : resTmps Tryz.f63.results.toList = some [2] := by kernel_rfl
abbrev n_q_all : Nat := 64
def G_q_all : AC := (.seq (.rgn [⟨none,[(.mv 2 (.k (.v (.int .u64 0))))]⟩] [0]) (.seq (.rgn [⟨none,[(.mv 3 (.t 0)),(.nilc 4 (.t 3)),(.fa 5 (.t 4) 0),(.fa 6 (.t 5) 1),(.ld 7 false 1 (.t 6)),(.len 8 (.t 7)),(.bin 9 .shl (.k (.v (.int .u64 1))) (.t 8)),(.bin 10 .sub (.t 9) (.k (.v (.int .u64 1)))),(.mv 2 (.t 10))]⟩] [2]) .ret))
theorem func_q_all : Tryz.prog.funcs[n_q_all]? = some Tryz.f64 := Tryz.func64
theorem form_q_all : formOf Tryz.prog Tryz.f64 [2] = some G_q_all := by kernel_rfl
theorem res_q_all : resTmps Tryz.f64.results.toList = some [2] := by kernel_rfl
abbrev n_q_had : Nat := 65
def G_q_had : AC := (.seq (.rgn [⟨none,[(.mv 2 (.k (.v (.int .u64 0))))]⟩] [0]) (.seq (.rgn [⟨none,[(.mv 3 (.k (.v (.int .u64 0))))]⟩] [0,3]) (.seq (.seq (.rgn [⟨none,[(.mv 5 (.t 0)),(.nilc 6 (.t 5)),(.fa 7 (.t 6) 2),(.ld 8 false 1 (.t 7)),(.rng 9 (.t 8))]⟩] [3,9]) (.block 0 (.loop (.seq (.rgn [⟨none,[(.nxt 10 (.t 9)),(.ext 11 (.t 10) 0)]⟩] [3,9,11]) (.seq (.cond (.t 11) .skip (.exit 0)) (.block 1 (.seq (.rgn [⟨none,[(.ent 12 (.t 9)),(.ext 13 (.t 12) 0),(.mv 4 (.t 13))]⟩] [3,4,9]) (.rgn [⟨none,[(.mv 14 (.t 3)),(.mv 15 (.t 4)),(.bin 16 .or (.t 14) (.t 15)),(.mv 3 (.t 16))]⟩] [3,9])))))))) (.seq (.rgn [⟨none,[(.mv 17 (.t 3)),(.mv 2 (.t 17))]⟩] [2]) .ret))))
theorem func_q_had : Tryz.prog.funcs[n_q_had]? = some Tryz.f65 := Tryz.func65
theorem form_q_had : formOf Tryz.prog Tryz.f65 [2] = some G_q_had := by kernel_rfl
theorem res_q_had : resTmps Tryz.f65.results.toList = some [2] := by kernel_rfl
abbrev n_k_CheckSheet_1 : Nat := 67
def G_k_CheckSheet_1 : AC := (.seq (.rgn [⟨none,[(.box 1 2 (.t 0)),(.mv 2 (.k (B false)))]⟩] [1]) (.seq (.rgn [⟨none,[(.fa 3 (.t 1) 0),(.ld 4 false 1 (.t 3)),(.bsl 5 1 1 [(I 0)] [(0,(.t 4))]),(.call 6 68 [(.k (I 1)),(.k (I 50)),(.t 5)]),(.un 7 .not (.t 6)),(.mv 8 (.t 7))]⟩,⟨(some (8,false)),[(.fa 9 (.t 1) 1),(.ld 10 false 1 (.t 9)),(.bsl 11 1 1 [(I 0)] [(0,(.t 10))]),(.call 12 68 [(.k (I 2)),(.k (I 20)),(.t 11)]),(.un 13 .not (.t 12))]⟩,⟨none,[(.pick 14 (.t 8) (.k (B true)) (.t 13)),(.mv 2 (.t 14))]⟩] [2]) .ret))
theorem func_k_CheckSheet_1 : Tryz.prog.funcs[n_k_CheckSheet_1]? = some Tryz.f67 := Tryz.func67
theorem form_k_CheckSheet_1 : formOf Tryz.prog Tryz.f67 [2] = some G_k_CheckSheet_1 := by kernel_rfl
theorem res_k_CheckSheet_1 : resTmps Tryz.f67.results.toList = some [2] := by kernel_rfl
abbrev n_k_within : Nat := 68
def G_k_within : AC := (.seq (.rgn [⟨none,[(.box 3 1 (.t 0)),(.box 4 1 (.t 1)),(.mv 6 (.k (B false)))]⟩] [2,3,4]) (.seq (.rgn [⟨none,[(.mv 7 (.t 2)),(.mkf 8 (.func 94) [] [(.t 3),(.t 4)]),(.call 9 93 [(.t 7),(.t 8)]),(.un 10 .not (.t 9)),(.mv 6 (.t 10))]⟩] [6]) .ret))
theorem func_k_within : Tryz.prog.funcs[n_k_within]? = some Tryz.f68 := Tryz.func68
theorem form_k_within : formOf Tryz.prog Tryz.f68 [6] = some G_k_within := by kernel_rfl
theorem res_k_within : resTmps Tryz.f68.results.toList = some [6] := by kernel_rfl
abbrev n_k_checkMarks : Nat := 70
def G_k_checkMarks : AC := (.seq (.rgn [⟨none,[(.mv 2 (.k (I 0)))]⟩] [0]) (.seq (.rgn [⟨none,[(.mv 3 (.k (I 0)))]⟩] [0,3]) (.seq (.seq (.rgn [⟨none,[(.mv 6 (.t 0)),(.len 7 (.t 6)),(.mv 8 (.k (I 0)))]⟩] [3,6,7,8]) (.block 0 (.loop (.seq (.rgn [⟨none,[(.bin 9 .lss (.t 8) (.t 7))]⟩] [3,6,7,8,9]) (.seq (.cond (.t 9) .skip (.exit 0)) (.seq (.block 1 (.seq (.rgn [⟨none,[(.ia 10 2 (.t 6) (.t 8)),(.ld 11 true 2 (.t 10)),(.al 5 [(I 0),(I 0)]),(.st 2 (.t 5) (.t 11))]⟩] [3,5,6,7,8]) (.seq (.seq (.rgn [⟨none,[(.mv 12 (.t 3)),(.fa 13 (.t 5) 0),(.ld 14 false 1 (.t 13)),(.fa 15 (.t 5) 1),(.ld 16 false 1 (.t 15)),(.bsl 17 2 1 [(I 0)] [(0,(.t 14)),(1,(.t 16))]),(.call 18 68 [(.t 12),(.k (I 500)),(.t 17)]),(.un 19 .not (.t 18)),(.mv 20 (.t 19))]⟩,⟨(some (20,false)),[(.fa 21 (.t 5) 1),(.ld 22 false 1 (.t 21)),(.fa 23 (.t 5) 0),(.ld 24 false 1 (.t 23)),(.bin 25 .sub (.t 22) (.t 24)),(.bsl 26 1 1 [(I 0)] [(0,(.t 25))]),(.call 27 68 [(.k (I 0)),(.k (I 3)),(.t 26)]),(.un 28 .not (.t 27))]⟩,⟨none,[(.pick 29 (.t 20) (.k (B true)) (.t 28))]⟩] [5,6,7,8,29]) (.cond (.t 29) (.seq (.rgn [⟨none,[(.mv 2 (.k (I 3)))]⟩] [2]) .ret) .skip)) (.rgn [⟨none,[(.fa 30 (.t 5) 1),(.ld 31 false 1 (.t 30)),(.bin 32 .add (.t 31) (.k (I 1))),(.mv 3 (.t 32))]⟩] [3,6,7,8])))) (.rgn [⟨none,[(.bin 33 .add (.t 8) (.k (I 1))),(.mv 8 (.t 33))]⟩] [3,6,7,8]))))))) (.seq (.rgn [⟨none,[(.mv 2 (.k (I 0)))]⟩] [2]) .ret))))
theorem func_k_checkMarks : Tryz.prog.funcs[n_k_checkMarks]? = some Tryz.f70 := Tryz.func70
theorem form_k_checkMarks : formOf Tryz.prog Tryz.f70 [2] = some G_k_checkMarks := by kernel_rfl
theorem res_k_checkMarks : resTmps Tryz.f70.results.toList = some [2] := by kernel_rfl
abbrev n_r_MarksError : Nat := 71
def G_r_MarksError : AC := (.seq (.rgn [⟨none,[(.mv 2 (.k (I 0)))]⟩] [0]) (.seq (.seq (.rgn [⟨none,[(.mv 3 (.k (I 0)))]⟩] [0,3]) (.block 0 (.loop (.seq (.seq (.rgn [⟨none,[(.mv 5 (.t 3)),(.mv 6 (.t 0)),(.len 7 (.t 6)),(.bin 8 .lss (.t 5) (.t 7))]⟩] [0,3,8]) (.cond (.t 8) .skip (.exit 0))) (.seq (.block 1 (.seq (.rgn [⟨none,[(.mv 11 (.t 0)),(.mv 12 (.t 3)),(.ia 13 2 (.t 11) (.t 12)),(.ld 14 true 2 (.t 13)),(.al 4 [(I 0),(I 0)]),(.st 2 (.t 4) (.t 14))]⟩] [0,3,4]) (.seq (.drw [⟨none,[(.fa 15 (.t 4) 0),(.ld 16 false 1 (.t 15)),(.bin 17 .lss (.t 16) (.k (I 0))),(.mv 18 (.t 17))]⟩,⟨(some (18,false)),[(.fa 19 (.t 4) 0),(.ld 20 false 1 (.t 19)),(.fa 21 (.t 4) 1),(.ld 22 false 1 (.t 21)),(.bin 23 .gtr (.t 20) (.t 22))]⟩,⟨none,[(.pick 24 (.t 18) (.k (B true)) (.t 23)),(.mv 25 (.t 24))]⟩,⟨(some (25,false)),[(.fa 26 (.t 4) 1),(.ld 27 false 1 (.t 26)),(.bin 28 .gtr (.t 27) (.k (I 500)))]⟩,⟨none,[(.pick 29 (.t 25) (.k (B true)) (.t 28)),(.mv 30 (.t 29))]⟩,⟨(some (30,false)),[(.fa 31 (.t 4) 1),(.ld 32 false 1 (.t 31)),(.fa 33 (.t 4) 0),(.ld 34 false 1 (.t 33)),(.bin 35 .sub (.t 32) (.t 34)),(.bin 36 .gtr (.t 35) (.k (I 3)))]⟩,⟨none,[(.pick 37 (.t 30) (.k (B true)) (.t 36)),(.mv 38 (.t 37))]⟩,⟨(some (38,false)),[(.mv 39 (.t 3)),(.bin 40 .gtr (.t 39) (.k (I 0))),(.mv 41 (.t 40))]⟩,⟨(some (41,true)),[(.fa 42 (.t 4) 0),(.ld 43 false 1 (.t 42)),(.mv 44 (.t 0)),(.mv 45 (.t 3)),(.bin 46 .sub (.t 45) (.k (I 1))),(.ia 47 2 (.t 44) (.t 46)),(.fa 48 (.t 47) 1),(.ld 49 false 1 (.t 48)),(.bin 50 .leq (.t 43) (.t 49))]⟩,⟨(some (38,false)),[(.pick 51 (.t 41) (.t 50) (.k (B false)))]⟩,⟨none,[(.pick 52 (.t 38) (.k (B true)) (.t 51))]⟩] [(5,7),(17,19),(28,34)] [0,3,52]) (.cond (.t 52) (.seq (.rgn [⟨none,[(.mv 2 (.k (I 3)))]⟩] [2]) .ret) .skip)))) (.rgn [⟨none,[(.mv 9 (.t 3)),(.bin 10 .add (.t 9) (.k (I 1))),(.mv 3 (.t 10))]⟩] [0,3])))))) (.seq (.rgn [⟨none,[(.mv 2 (.k (I 0)))]⟩] [2]) .ret)))
theorem func_r_MarksError : Tryz.prog.funcs[n_r_MarksError]? = some Tryz.f71 := Tryz.func71
theorem form_r_MarksError : formOf Tryz.prog Tryz.f71 [2] = some G_r_MarksError := by kernel_rfl
theorem res_r_MarksError : resTmps Tryz.f71.results.toList = some [2] := by kernel_rfl
abbrev n_k_whole : Nat := 72
def G_k_whole : AC := (.seq (.rgn [⟨none,[(.box 2 2 (.t 0)),(.mv 4 (.k (.v (.pointer none)))),(.mv 5 (.k (I 0)))]⟩] [1,2]) (.seq (.rgn [⟨none,[(.ld 9 true 2 (.t 2)),(.call 10 57 [(.t 9)]),(.mv 8 (.t 10)),(.ext 11 (.t 8) 0),(.ext 12 (.t 8) 1),(.al 6 [(.v (.pointer none))]),(.st 1 (.t 6) (.t 11)),(.mv 7 (.t 12))]⟩] [1,6,7]) (.seq (.block 0 (.seq (.rgn [⟨none,[(.mv 14 (.t 7)),(.bin 15 .neq (.t 14) (.k (I 0))),(.mv 13 (.t 15))]⟩] [1,6,7,13]) (.cond (.t 13) (.seq (.rgn [⟨none,[(.mv 16 (.t 7)),(.mv 4 (.k (.v (.pointer none)))),(.mv 5 (.t 16))]⟩] [4,5]) .ret) (.seq (.rgn [⟨none,[(.mv 18 (.t 1)),(.mkf 19 (.func 97) [] [(.t 6)]),(.call 20 96 [(.t 18),(.t 19)]),(.mv 17 (.t 20))]⟩] [6,17]) (.cond (.t 17) (.seq (.rgn [⟨none,[(.mv 4 (.k (.v (.pointer none)))),(.mv 5 (.k (I 2)))]⟩] [4,5]) .ret) (.seq (.drw [⟨none,[(.ld 22 false 1 (.t 6)),(.call 23 65 [(.t 22)]),(.ld 24 false 1 (.t 6)),(.call 25 64 [(.t 24)]),(.bin 26 .neq (.t 23) (.t 25)),(.mv 21 (.t 26))]⟩] [(0,2),(1,2)] [6,21]) (.cond (.t 21) (.seq (.rgn [⟨none,[(.mv 4 (.k (.v (.pointer none)))),(.mv 5 (.k (I 19)))]⟩] [4,5]) .ret) .skip))))))) (.seq (.rgn [⟨none,[(.ld 27 false 1 (.t 6)),(.mv 4 (.t 27)),(.mv 5 (.k (I 0)))]⟩] [4,5]) .ret))))
theorem func_k_whole : Tryz.prog.funcs[n_k_whole]? = some Tryz.f72 := Tryz.func72
theorem form_k_whole : formOf Tryz.prog Tryz.f72 [4,5] = some G_k_whole := by kernel_rfl
theorem res_k_whole : resTmps Tryz.f72.results.toList = some [4,5] := by kernel_rfl
abbrev n_q_best : Nat := 73
def G_q_best : AC := (.seq (.rgn [⟨none,[(.mv 2 (.k (.sl true 0 [])))]⟩] [0]) (.seq (.rgn [⟨none,[(.mv 3 (.k (.sl true 0 [])))]⟩] [0,3]) (.seq (.rgn [⟨none,[(.mv 8 (.t 0)),(.call 9 98 [(.t 8)]),(.mv 4 (.t 9))]⟩] [0,3,4]) (.seq (.seq (.rgn [⟨none,[(.mv 10 (.t 4)),(.len 11 (.t 10)),(.mv 12 (.k (I 0)))]⟩] [0,3,10,11,12]) (.block 0 (.loop (.seq (.rgn [⟨none,[(.bin 13 .lss (.t 12) (.t 11))]⟩] [0,3,10,11,12,13]) (.seq (.cond (.t 13) .skip (.exit 0)) (.seq (.block 1 (.seq (.rgn [⟨none,[(.ia 14 1 (.t 10) (.t 12)),(.ld 15 false 1 (.t 14)),(.mv 6 (.t 15))]⟩] [0,3,6,10,11,12]) (.seq (.rgn [⟨none,[(.mv 16 (.t 0)),(.nilc 17 (.t 16)),(.fa 18 (.t 17) 2),(.ld 19 false 1 (.t 18)),(.mv 20 (.t 6)),(.lku 21 (false,[.int]) (.sl true 0 []) false (.t 19) (.t 20)),(.ia 22 2 (.t 21) (.k (I 0))),(.ld 23 true 2 (.t 22)),(.al 7 [(I 0),(I 0)]),(.st 2 (.t 7) (.t 23))]⟩] [0,3,7,10,11,12]) (.drw [⟨none,[(.mv 24 (.t 3)),(.mv 25 (.t 3)),(.len 26 (.t 25)),(.mv 27 (.t 3)),(.len 28 (.t 27)),(.slc 29 2 (.t 24) none (some (.t 26)) (some (.t 28))),(.ld 30 true 2 (.t 7)),(.bsl 31 1 2 [(I 0),(I 0)] [(0,(.t 30))]),(.app 32 2 16 (.t 29) (.t 31)),(.mv 3 (.t 32))]⟩] [] [0,3,10,11,12])))) (.rgn [⟨none,[(.bin 33 .add (.t 12) (.k (I 1))),(.mv 12 (.t 33))]⟩] [0,3,10,11,12]))))))) (.seq (.rgn [⟨none,[(.mv 34 (.t 3)),(.mv 2 (.t 34))]⟩] [2]) .ret)))))
theorem func_q_best : Tryz.prog.funcs[n_q_best]? = some Tryz.f73 := Tryz.func73
theorem form_q_best : formOf Tryz.prog Tryz.f73 [2] = some G_q_best := by kernel_rfl
theorem res_q_best : resTmps Tryz.f73.results.toList = some [2] := by kernel_rfl
abbrev n_k_Best_1 : Nat := 75
def G_k_Best_1 : AC := (.seq (.rgn [⟨none,[(.box 2 2 (.t 0)),(.box 3 2 (.t 1)),(.mv 4 (.k (I 0)))]⟩] [2,3]) (.seq (.drw [⟨none,[(.fa 5 (.t 2) 0),(.ld 6 false 1 (.t 5)),(.fa 7 (.t 3) 0),(.ld 8 false 1 (.t 7)),(.bin 9 .sub (.t 6) (.t 8)),(.fa 10 (.t 2) 1),(.ld 11 false 1 (.t 10)),(.fa 12 (.t 3) 1),(.ld 13 false 1 (.t 12)),(.call 14 77 [(.t 11),(.t 13)]),(.bsl 15 2 1 [(I 0)] [(0,(.t 9)),(1,(.t 14))]),(.call 16 76 [(.t 15)]),(.mv 4 (.t 16))]⟩] [(1,3),(1,6),(3,6),(1,8),(3,8),(6,8),(1,9),(3,9)] [4]) .ret))
theorem func_k_Best_1 : Tryz.prog.funcs[n_k_Best_1]? = some Tryz.f75 := Tryz.func75
theorem form_k_Best_1 : formOf Tryz.prog Tryz.f75 [4] = some G_k_Best_1 := by kernel_rfl
theorem res_k_Best_1 : resTmps Tryz.f75.results.toList = some [4] := by kernel_rfl
abbrev n_q_count : Nat := 78
def G_q_count : AC := (.seq (.rgn [⟨none,[(.mv 4 (.k (I 0)))]⟩] [0,1]) (.seq (.rgn [⟨none,[(.mv 12 (.t 1)),(.bin 13 .add (.t 12) (.k (I 1))),(.mks 14 4096 32768 (List.replicate 4096 (I 0)) (.t 13) (.t 13)),(.mv 5 (.t 14))]⟩] [0,1,5]) (.seq (.seq (.rgn [⟨none,[(.mv 15 (.t 5)),(.len 16 (.t 15)),(.mv 17 (.k (I 0)))]⟩] [0,1,5,16,17]) (.block 0 (.loop (.seq (.rgn [⟨none,[(.bin 18 .lss (.t 17) (.t 16))]⟩] [0,1,5,16,17,18]) (.seq (.cond (.t 18) .skip (.exit 0)) (.seq (.block 1 (.seq (.rgn [⟨none,[(.mv 19 (.t 17)),(.mv 6 (.t 19))]⟩] [0,1,5,6,16,17]) (.rgn [⟨none,[(.mv 20 (.t 5)),(.mv 21 (.t 6)),(.ia 22 4096 (.t 20) (.t 21)),(.slp 23 1 4096 (.t 22) none none none),(.clr 1 [(I 0)] (.t 23))]⟩] [0,1,5,16,17]))) (.rgn [⟨none,[(.bin 24 .add (.t 17) (.k (I 1))),(.mv 17 (.t 24))]⟩] [0,1,5,16,17]))))))) (.seq (.rgn [⟨none,[(.mv 25 (.t 5)),(.ia 26 4096 (.t 25) (.k (I 0))),(.iaa 27 4096 1 (.t 26) (.k (I 0))),(.st 1 (.t 27) (.k (I 1)))]⟩] [0,1,5]) (.seq (.seq (.rgn [⟨none,[(.mv 28 (.t 0)),(.nilc 29 (.t 28)),(.fa 30 (.t 29) 2),(.ld 31 false 1 (.t 30)),(.rng 32 (.t 31))]⟩] [0,1,5,32]) (.block 2 (.loop (.seq (.rgn [⟨none,[(.nxt 33 (.t 32)),(.ext 34 (.t 33) 0)]⟩] [0,1,5,32,34]) (.seq (.cond (.t 34) .skip (.exit 2)) (.block 3 (.seq (.rgn [⟨none,[(.ent 35 (.t 32)),(.ext 36 (.t 35) 0),(.ext 37 (.t 35) 1),(.mv 7 (.t 36)),(.mv 8 (.t 37))]⟩] [0,1,5,7,8,32]) (.seq (.rgn [⟨none,[(.mv 38 (.t 1)),(.bin 39 .sub (.t 38) (.k (I 1))),(.mv 9 (.t 39))]⟩] [0,1,5,7,8,9,32]) (.block 4 (.loop (.seq (.seq (.rgn [⟨none,[(.mv 40 (.t 9)),(.bin 41 .geq (.t 40) (.k (I 0)))]⟩] [0,1,5,7,8,9,32,41]) (.cond (.t 41) .skip (.exit 4))) (.seq (.block 5 (.seq (.rgn [⟨none,[(.mv 10 (.k (.v (.int .u64 0))))]⟩] [0,1,5,7,8,9,10,32]) (.block 6 (.loop (.seq (.seq (.rgn [⟨none,[(.mv 44 (.t 10)),(.mv 45 (.t 0)),(.call 46 64 [(.t 45)]),(.bin 47 .leq (.t 44) (.t 46))]⟩] [0,1,5,7,8,9,10,32,47]) (.cond (.t 47) .skip (.exit 6))) (.seq (.block 7 (.seq (.rgn [⟨none,[(.mv 50 (.t 5)),(.mv 51 (.t 9)),(.mv 52 (.t 10)),(.ia 53 4096 (.t 50) (.t 51)),(.iaa 54 4096 1 (.t 53) (.t 52)),(.ld 55 false 1 (.t 54)),(.mv 11 (.t 55))]⟩] [0,1,5,7,8,9,10,11,32]) (.seq (.rgn [⟨none,[(.mv 56 (.t 11)),(.bin 57 .gtr (.t 56) (.k (I 0)))]⟩] [0,1,5,7,8,9,10,11,32,57]) (.cond (.t 57) (.drw [⟨none,[(.mv 58 (.t 5)),(.mv 59 (.t 9)),(.bin 60 .add (.t 59) (.k (I 1))),(.mv 61 (.t 10)),(.mv 62 (.t 7)),(.bin 63 .or (.t 61) (.t 62)),(.mv 64 (.t 5)),(.mv 65 (.t 9)),(.bin 66 .add (.t 65) (.k (I 1))),(.mv 67 (.t 10)),(.mv 68 (.t 7)),(.bin 69 .or (.t 67) (.t 68)),(.ia 70 4096 (.t 64) (.t 66)),(.iaa 71 4096 1 (.t 70) (.t 69)),(.ld 72 false 1 (.t 71)),(.mv 73 (.t 11)),(.mv 74 (.t 8)),(.len 75 (.t 74)),(.bin 76 .mul (.t 73) (.t 75)),(.bin 77 .add (.t 72) (.t 76)),(.mx 78 false (.k (I 1099511627777)) (.t 77)),(.ia 79 4096 (.t 58) (.t 60)),(.iaa 80 4096 1 (.t 79) (.t 63)),(.st 1 (.t 80) (.t 78))]⟩] [] [0,1,5,7,8,9,10,32]) .skip)))) (.rgn [⟨none,[(.mv 48 (.t 10)),(.bin 49 .add (.t 48) (.k (.v (.int .u64 1)))),(.mv 10 (.t 49))]⟩] [0,1,5,7,8,9,10,32]))))))) (.rgn [⟨none,[(.mv 42 (.t 9)),(.bin 43 .sub (.t 42) (.k (I 1))),(.mv 9 (.t 43))]⟩] [0,1,5,7,8,9,32]))))))))))))) (.seq (.drw [⟨none,[(.mv 81 (.t 5)),(.mv 82 (.t 1)),(.mv 83 (.t 0)),(.call 84 64 [(.t 83)]),(.ia 85 4096 (.t 81) (.t 82)),(.iaa 86 4096 1 (.t 85) (.t 84)),(.ld 87 false 1 (.t 86)),(.mv 4 (.t 87))]⟩] [] [4]) .ret))))))
theorem func_q_count : Tryz.prog.funcs[n_q_count]? = some Tryz.f78 := Tryz.func78
theorem form_q_count : formOf Tryz.prog Tryz.f78 [4] = some G_q_count := by kernel_rfl
theorem res_q_count : resTmps Tryz.f78.results.toList = some [4] := by kernel_rfl
abbrev n_q_few : Nat := 79
def G_q_few : AC := (.seq (.rgn [⟨none,[(.mv 4 (.k (.v (.pointer none))))]⟩] [0,1]) (.seq (.rgn [⟨none,[(.al 5 (List.replicate 4096 (I 0)))]⟩] [0,1,5]) (.seq (.seq (.rgn [⟨none,[(.mv 9 (.k (I 0)))]⟩] [0,1,5,9]) (.block 0 (.loop (.seq (.rgn [⟨none,[(.bin 10 .lss (.t 9) (.k (I 4096)))]⟩] [0,1,5,9,10]) (.seq (.cond (.t 10) .skip (.exit 0)) (.seq (.block 1 (.seq (.rgn [⟨none,[(.mv 11 (.t 9)),(.mv 6 (.t 11))]⟩] [0,1,5,6,9]) (.rgn [⟨none,[(.mv 12 (.t 6)),(.iaa 13 4096 1 (.t 5) (.t 12)),(.st 1 (.t 13) (.k (I 1048576)))]⟩] [0,1,5,9]))) (.rgn [⟨none,[(.bin 14 .add (.t 9) (.k (I 1))),(.mv 9 (.t 14))]⟩] [0,1,5,9]))))))) (.seq (.rgn [⟨none,[(.mv 15 (.t 1)),(.iaa 16 4096 1 (.t 5) (.t 15)),(.st 1 (.t 16) (.k (I 0)))]⟩] [0,1,5]) (.seq (.seq (.rgn [⟨none,[(.mv 17 (.t 1)),(.mv 7 (.t 17))]⟩] [0,5,7]) (.block 2 (.loop (.seq (.seq (.rgn [⟨none,[(.mv 18 (.t 7)),(.mv 19 (.t 0)),(.call 20 64 [(.t 19)]),(.bin 21 .leq (.t 18) (.t 20))]⟩] [0,5,7,21]) (.cond (.t 21) .skip (.exit 2))) (.seq (.block 3 (.seq (.seq (.rgn [⟨none,[(.mv 24 (.t 7)),(.iaa 25 4096 1 (.t 5) (.t 24)),(.ld 26 false 1 (.t 25)),(.bin 27 .eql (.t 26) (.k (I 1048576)))]⟩] [0,5,7,27]) (.cond (.t 27) (.exit 3) .skip)) (.seq (.rgn [⟨none,[(.mv 28 (.t 0)),(.nilc 29 (.t 28)),(.fa 30 (.t 29) 2),(.ld 31 false 1 (.t 30)),(.rng 32 (.t 31))]⟩] [0,5,7,32]) (.block 4 (.loop (.seq (.rgn [⟨none,[(.nxt 33 (.t 32)),(.ext 34 (.t 33) 0)]⟩] [0,5,7,32,34]) (.seq (.cond (.t 34) .skip (.exit 4)) (.block 5 (.seq (.rgn [⟨none,[(.ent 35 (.t 32)),(.ext 36 (.t 35) 0),(.mv 8 (.t 36))]⟩] [0,5,7,8,32]) (.drw [⟨none,[(.mv 37 (.t 7)),(.mv 38 (.t 8)),(.bin 39 .or (.t 37) (.t 38)),(.mv 40 (.t 7)),(.mv 41 (.t 8)),(.bin 42 .or (.t 40) (.t 41)),(.iaa 43 4096 1 (.t 5) (.t 42)),(.ld 44 false 1 (.t 43)),(.mv 45 (.t 7)),(.iaa 46 4096 1 (.t 5) (.t 45)),(.ld 47 false 1 (.t 46)),(.bin 48 .add (.t 47) (.k (I 1))),(.mx 49 false (.t 44) (.t 48)),(.iaa 50 4096 1 (.t 5) (.t 39)),(.st 1 (.t 50) (.t 49))]⟩] [(7,10)] [0,5,7,32])))))))))) (.rgn [⟨none,[(.mv 22 (.t 7)),(.bin 23 .add (.t 22) (.k (.v (.int .u64 1)))),(.mv 7 (.t 23))]⟩] [0,5,7])))))) (.seq (.rgn [⟨none,[(.mv 4 (.t 5))]⟩] [4]) .ret))))))
theorem func_q_few : Tryz.prog.funcs[n_q_few]? = some Tryz.f79 := Tryz.func79
theorem form_q_few : formOf Tryz.prog Tryz.f79 [4] = some G_q_few := by kernel_rfl
theorem res_q_few : resTmps Tryz.f79.results.toList = some [4] := by kernel_rfl
abbrev n_k_CheckRows_1 : Nat := 81
def G_k_CheckRows_1 : AC := (.seq (.rgn [⟨none,[(.box 2 2 (.t 0)),(.mv 3 (.k (B false)))]⟩] [1,2]) (.seq (.rgn [⟨none,[(.ld 4 false 1 (.t 1)),(.fa 5 (.t 2) 0),(.ld 6 false 1 (.t 5)),(.call 7 58 [(.t 4),(.t 6)]),(.un 8 .not (.t 7)),(.mv 3 (.t 8))]⟩] [3]) .ret))
theorem func_k_CheckRows_1 : Tryz.prog.funcs[n_k_CheckRows_1]? = some Tryz.f81 := Tryz.func81
theorem form_k_CheckRows_1 : formOf Tryz.prog Tryz.f81 [3] = some G_k_CheckRows_1 := by kernel_rfl
theorem res_k_CheckRows_1 : resTmps Tryz.f81.results.toList = some [3] := by kernel_rfl
abbrev n_k_CheckRows_2 : Nat := 82
def G_k_CheckRows_2 : AC := (.seq (.rgn [⟨none,[(.box 2 2 (.t 0)),(.mv 3 (.k (B false)))]⟩] [1,2]) (.seq (.rgn [⟨none,[(.ld 4 false 1 (.t 1)),(.ld 5 true 2 (.t 2)),(.call 6 59 [(.t 4),(.t 5)]),(.bin 7 .eql (.t 6) (.k (.v (.int .u64 0)))),(.mv 3 (.t 7))]⟩] [3]) .ret))
theorem func_k_CheckRows_2 : Tryz.prog.funcs[n_k_CheckRows_2]? = some Tryz.f82 := Tryz.func82
theorem form_k_CheckRows_2 : formOf Tryz.prog Tryz.f82 [3] = some G_k_CheckRows_2 := by kernel_rfl
theorem res_k_CheckRows_2 : resTmps Tryz.f82.results.toList = some [3] := by kernel_rfl
abbrev n_q_apart : Nat := 84
def G_q_apart : AC := (.seq (.rgn [⟨none,[(.mv 4 (.k (.v (.int .u64 0))))]⟩] [0,1]) (.seq (.seq (.rgn [⟨none,[(.mv 8 (.t 1)),(.bin 9 .eql (.t 8) (.k (.v (.int .u64 0))))]⟩] [0,1,9]) (.cond (.t 9) (.seq (.rgn [⟨none,[(.mv 4 (.k (.v (.int .u64 0))))]⟩] [4]) .ret) .skip)) (.seq (.rgn [⟨none,[(.mv 10 (.t 1)),(.call 11 91 [(.t 10)]),(.mv 5 (.t 11))]⟩] [0,1,5]) (.seq (.drw [⟨none,[(.mv 12 (.t 5)),(.bin 13 .shl (.k (.v (.int .u64 1))) (.t 12)),(.mv 14 (.t 0)),(.mv 15 (.t 1)),(.mv 16 (.t 5)),(.bin 17 .shl (.k (.v (.int .u64 1))) (.t 16)),(.bin 18 .andNot (.t 15) (.t 17)),(.mv 19 (.t 0)),(.mv 20 (.t 5)),(.call 21 86 [(.t 19),(.t 20)]),(.bin 22 .andNot (.t 18) (.t 21)),(.call 23 84 [(.t 14),(.t 22)]),(.bin 24 .or (.t 13) (.t 23)),(.mv 6 (.t 24))]⟩] [] [0,1,5,6]) (.seq (.rgn [⟨none,[(.mv 25 (.t 0)),(.mv 26 (.t 1)),(.mv 27 (.t 5)),(.bin 28 .shl (.k (.v (.int .u64 1))) (.t 27)),(.bin 29 .andNot (.t 26) (.t 28)),(.call 30 84 [(.t 25),(.t 29)]),(.mv 7 (.t 30))]⟩] [6,7]) (.seq (.seq (.rgn [⟨none,[(.mv 31 (.t 6)),(.call 32 103 [(.t 31)]),(.mv 33 (.t 7)),(.call 34 103 [(.t 33)]),(.bin 35 .geq (.t 32) (.t 34))]⟩] [6,7,35]) (.cond (.t 35) (.seq (.rgn [⟨none,[(.mv 36 (.t 6)),(.mv 4 (.t 36))]⟩] [4]) .ret) .skip)) (.seq (.rgn [⟨none,[(.mv 37 (.t 7)),(.mv 4 (.t 37))]⟩] [4]) .ret)))))))
theorem func_q_apart : Tryz.prog.funcs[n_q_apart]? = some Tryz.f84 := Tryz.func84
theorem form_q_apart : formOf Tryz.prog Tryz.f84 [4] = some G_q_apart := by kernel_rfl
theorem res_q_apart : resTmps Tryz.f84.results.toList = some [4] := by kernel_rfl
abbrev n_q_beside : Nat := 86
def G_q_beside : AC := (.seq (.rgn [⟨none,[(.mv 4 (.k (.v (.int .u64 0))))]⟩] [0,1]) (.seq (.rgn [⟨none,[(.mv 5 (.k (.v (.int .u64 0))))]⟩] [0,1,5]) (.seq (.seq (.rgn [⟨none,[(.mv 7 (.t 0)),(.nilc 8 (.t 7)),(.fa 9 (.t 8) 2),(.ld 10 false 1 (.t 9)),(.rng 11 (.t 10))]⟩] [1,5,11]) (.block 0 (.loop (.seq (.rgn [⟨none,[(.nxt 12 (.t 11)),(.ext 13 (.t 12) 0)]⟩] [1,5,11,13]) (.seq (.cond (.t 13) .skip (.exit 0)) (.block 1 (.seq (.rgn [⟨none,[(.ent 14 (.t 11)),(.ext 15 (.t 14) 0),(.mv 6 (.t 15))]⟩] [1,5,6,11]) (.seq (.rgn [⟨none,[(.mv 16 (.t 6)),(.mv 17 (.t 1)),(.bin 18 .shl (.k (.v (.int .u64 1))) (.t 17)),(.bin 19 .and (.t 16) (.t 18)),(.bin 20 .neq (.t 19) (.k (.v (.int .u64 0))))]⟩] [1,5,6,11,20]) (.cond (.t 20) (.rgn [⟨none,[(.mv 21 (.t 5)),(.mv 22 (.t 6)),(.bin 23 .or (.t 21) (.t 22)),(.mv 5 (.t 23))]⟩] [1,5,11]) .skip))))))))) (.seq (.rgn [⟨none,[(.mv 24 (.t 5)),(.mv 25 (.t 1)),(.bin 26 .shl (.k (.v (.int .u64 1))) (.t 25)),(.bin 27 .andNot (.t 24) (.t 26)),(.mv 4 (.t 27))]⟩] [4]) .ret))))
theorem func_q_beside : Tryz.prog.funcs[n_q_beside]? = some Tryz.f86 := Tryz.func86
theorem form_q_beside : formOf Tryz.prog Tryz.f86 [4] = some G_q_beside := by kernel_rfl
theorem res_q_beside : resTmps Tryz.f86.results.toList = some [4] := by kernel_rfl
abbrev n_k_divisor : Nat := 87
def G_k_divisor : AC := (.seq (.rgn [⟨none,[(.mv 4 (.k (I 0)))]⟩] [0,1]) (.seq (.block 0 (.loop (.seq (.seq (.rgn [⟨none,[(.mv 5 (.t 1)),(.bin 6 .neq (.t 5) (.k (I 0)))]⟩] [0,1,6]) (.cond (.t 6) .skip (.exit 0))) (.block 1 (.drw [⟨none,[(.mv 7 (.t 1)),(.mv 8 (.t 0)),(.mv 9 (.t 1)),(.bin 10 .rem (.t 8) (.t 9)),(.mv 0 (.t 7)),(.mv 1 (.t 10))]⟩] [] [0,1]))))) (.seq (.rgn [⟨none,[(.mv 11 (.t 0)),(.mv 4 (.t 11))]⟩] [4]) .ret)))
theorem func_k_divisor : Tryz.prog.funcs[n_k_divisor]? = some Tryz.f87 := Tryz.func87
theorem form_k_divisor : formOf Tryz.prog Tryz.f87 [4] = some G_k_divisor := by kernel_rfl
theorem res_k_divisor : resTmps Tryz.f87.results.toList = some [4] := by kernel_rfl
abbrev n_k_newBoard : Nat := 89
def G_k_newBoard : AC := (.seq (.rgn [⟨none,[(.box 1 2 (.t 0)),(.mv 2 (.k (.v (.pointer none))))]⟩] [1,2]) (.seq (.rgn [⟨none,[(.ld 6 true 2 (.t 1)),(.mkm 7),(.bld 8 [(.sl true 0 []),(.sl true 0 []),(.v (.map none))] [(0,2,(.t 6)),(2,1,(.t 7))]),(.box 9 3 (.t 8)),(.al 3 [(.v (.pointer none))]),(.st 1 (.t 3) (.t 9))]⟩] [2,3]) (.seq (.seq (.rgn [⟨none,[(.ld 10 false 1 (.t 3)),(.call 11 63 [(.t 10)])]⟩] [2,3,11]) (.block 0 (.rf (.t 11) [12] (.rgn [⟨none,[(.al 4 [(I 0),(I 0)]),(.st 2 (.t 4) (.t 12))]⟩] [3,4]) (.block 1 (.seq (.rgn [⟨none,[(.ld 13 false 1 (.t 3)),(.ld 14 true 2 (.t 4)),(.call 15 59 [(.t 13),(.t 14)]),(.mv 5 (.t 15))]⟩] [3,4,5]) (.drw [⟨none,[(.ld 16 false 1 (.t 3)),(.nilc 17 (.t 16)),(.fa 18 (.t 17) 2),(.ld 19 false 1 (.t 18)),(.mv 20 (.t 5)),(.ld 21 false 1 (.t 3)),(.nilc 22 (.t 21)),(.fa 23 (.t 22) 2),(.ld 24 false 1 (.t 23)),(.mv 25 (.t 5)),(.lku 26 (false,[.int]) (.sl true 0 []) false (.t 24) (.t 25)),(.ld 27 true 2 (.t 4)),(.bsl 28 1 2 [(I 0),(I 0)] [(0,(.t 27))]),(.app 29 2 16 (.t 26) (.t 28)),(.ins (false,[.int]) (.t 19) (.t 20) (.t 29))]⟩] [(0,5),(3,5),(0,8),(3,8),(0,10),(3,10),(0,11),(3,11),(5,11),(8,11),(10,11),(0,12),(3,12),(5,12),(8,12),(10,12),(0,13),(3,13)] []))) [3]))) (.seq (.rgn [⟨none,[(.ld 30 false 1 (.t 3)),(.mv 2 (.t 30))]⟩] [2]) .ret))))
theorem func_k_newBoard : Tryz.prog.funcs[n_k_newBoard]? = some Tryz.f89 := Tryz.func89
theorem form_k_newBoard : formOf Tryz.prog Tryz.f89 [2] = some G_k_newBoard := by kernel_rfl
theorem res_k_newBoard : resTmps Tryz.f89.results.toList = some [2] := by kernel_rfl
abbrev n_q_in : Nat := 90
def G_q_in : AC := (.seq (.rgn [⟨none,[(.box 3 1 (.t 1)),(.mv 4 (.k (I 0)))]⟩] [0,3]) (.seq (.rgn [⟨none,[(.mv 5 (.t 0)),(.nilc 6 (.t 5)),(.fa 7 (.t 6) 0),(.fa 8 (.t 7) 1),(.ld 9 false 1 (.t 8)),(.mkf 10 (.func 105) [] [(.t 3)]),(.call 11 104 [(.t 9),(.t 10)]),(.mv 4 (.t 11))]⟩] [4]) .ret))
theorem func_q_in : Tryz.prog.funcs[n_q_in]? = some Tryz.f90 := Tryz.func90
theorem form_q_in : formOf Tryz.prog Tryz.f90 [4] = some G_q_in := by kernel_rfl
theorem res_q_in : resTmps Tryz.f90.results.toList = some [4] := by kernel_rfl
abbrev n_q_rows_1 : Nat := 92
def G_q_rows_1 : AC := (.seq (.rgn [⟨none,[(.ld 8 false 1 (.t 1)),(.nilc 9 (.t 8)),(.fa 10 (.t 9) 0),(.fa 11 (.t 10) 0),(.ld 12 false 1 (.t 11)),(.len 13 (.t 12)),(.mv 14 (.k (I 0)))]⟩] [0,1,13,14]) (.block 0 (.loop (.seq (.rgn [⟨none,[(.bin 15 .lss (.t 14) (.t 13))]⟩] [0,1,13,14,15]) (.seq (.cond (.t 15) .skip (.exit 0)) (.seq (.block 1 (.seq (.rgn [⟨none,[(.mv 16 (.t 14)),(.mv 3 (.t 16))]⟩] [0,1,3,13,14]) (.seq (.rgn [⟨none,[(.ld 17 false 1 (.t 1)),(.nilc 18 (.t 17)),(.fa 19 (.t 18) 0),(.fa 20 (.t 19) 1),(.ld 21 false 1 (.t 20)),(.len 22 (.t 21)),(.mv 23 (.k (I 0)))]⟩] [0,1,3,13,14,21,22,23]) (.block 2 (.loop (.seq (.rgn [⟨none,[(.bin 24 .lss (.t 23) (.t 22))]⟩] [0,1,3,13,14,21,22,23,24]) (.seq (.cond (.t 24) .skip (.exit 2)) (.seq (.block 3 (.seq (.rgn [⟨none,[(.ia 25 2 (.t 21) (.t 23)),(.ld 26 true 2 (.t 25)),(.al 5 [(I 0),(I 0)]),(.st 2 (.t 5) (.t 26))]⟩] [0,1,3,5,13,14,21,22,23]) (.seq (.rgn [⟨none,[(.fa 27 (.t 5) 0),(.ld 28 false 1 (.t 27)),(.mv 6 (.t 28))]⟩] [0,1,3,5,6,13,14,21,22,23]) (.block 4 (.loop (.seq (.seq (.rgn [⟨none,[(.mv 29 (.t 6)),(.fa 30 (.t 5) 1),(.ld 31 false 1 (.t 30)),(.bin 32 .leq (.t 29) (.t 31))]⟩] [0,1,3,5,6,13,14,21,22,23,32]) (.cond (.t 32) .skip (.exit 4))) (.seq (.block 5 (.seq (.rgn [⟨none,[(.mv 35 (.t 3)),(.mv 36 (.t 6)),(.bld 37 [(I 0),(I 0)] [(0,1,(.t 35)),(1,1,(.t 36))]),(.al 7 [(I 0),(I 0)]),(.st 2 (.t 7) (.t 37))]⟩] [0,1,3,5,6,7,13,14,21,22,23]) (.seq (.rgn [⟨none,[(.ld 38 false 1 (.t 1)),(.ld 39 true 2 (.t 7)),(.call 40 59 [(.t 38),(.t 39)]),(.bin 41 .neq (.t 40) (.k (.v (.int .u64 0)))),(.mv 42 (.t 41))]⟩,⟨(some (42,true)),[(.mv 43 (.t 0)),(.ld 44 true 2 (.t 7)),(.callv 45 (.t 43) [(.t 44)]),(.un 46 .not (.t 45))]⟩,⟨none,[(.pick 47 (.t 42) (.t 46) (.k (B false)))]⟩] [0,1,3,5,6,13,14,21,22,23,47]) (.cond (.t 47) .ret .skip)))) (.rgn [⟨none,[(.mv 33 (.t 6)),(.bin 34 .add (.t 33) (.k (I 1))),(.mv 6 (.t 34))]⟩] [0,1,3,5,6,13,14,21,22,23])))))))) (.rgn [⟨none,[(.bin 48 .add (.t 23) (.k (I 1))),(.mv 23 (.t 48))]⟩] [0,1,3,13,14,21,22,23]))))))))) (.rgn [⟨none,[(.bin 49 .add (.t 14) (.k (I 1))),(.mv 14 (.t 49))]⟩] [0,1,13,14])))))))
theorem func_q_rows_1 : Tryz.prog.funcs[n_q_rows_1]? = some Tryz.f92 := Tryz.func92
theorem form_q_rows_1 : formOf Tryz.prog Tryz.f92 [] = some G_q_rows_1 := by kernel_rfl
theorem res_q_rows_1 : resTmps Tryz.f92.results.toList = some [] := by kernel_rfl
abbrev n_k_within_1 : Nat := 94
def G_k_within_1 : AC := (.seq (.rgn [⟨none,[(.mv 4 (.k (B false)))]⟩] [0,1,2]) (.seq (.rgn [⟨none,[(.mv 5 (.t 0)),(.ld 6 false 1 (.t 1)),(.bin 7 .lss (.t 5) (.t 6)),(.mv 8 (.t 7))]⟩,⟨(some (8,false)),[(.mv 9 (.t 0)),(.ld 10 false 1 (.t 2)),(.bin 11 .gtr (.t 9) (.t 10))]⟩,⟨none,[(.pick 12 (.t 8) (.k (B true)) (.t 11)),(.mv 4 (.t 12))]⟩] [4]) .ret))
theorem func_k_within_1 : Tryz.prog.funcs[n_k_within_1]? = some Tryz.f94 := Tryz.func94
theorem form_k_within_1 : formOf Tryz.prog Tryz.f94 [4] = some G_k_within_1 := by kernel_rfl
theorem res_k_within_1 : resTmps Tryz.f94.results.toList = some [4] := by kernel_rfl
abbrev n_k_whole_1 : Nat := 97
def G_k_whole_1 : AC := (.seq (.rgn [⟨none,[(.mv 3 (.k (B false)))]⟩] [0,1]) (.seq (.rgn [⟨none,[(.ld 4 false 1 (.t 1)),(.mv 5 (.t 0)),(.call 6 58 [(.t 4),(.t 5)]),(.un 7 .not (.t 6)),(.mv 3 (.t 7))]⟩] [3]) .ret))
theorem func_k_whole_1 : Tryz.prog.funcs[n_k_whole_1]? = some Tryz.f97 := Tryz.func97
theorem form_k_whole_1 : formOf Tryz.prog Tryz.f97 [3] = some G_k_whole_1 := by kernel_rfl
theorem res_k_whole_1 : resTmps Tryz.f97.results.toList = some [3] := by kernel_rfl
abbrev n_q_ways : Nat := 98
def G_q_ways : AC := (.seq (.rgn [⟨none,[(.mv 2 (.k (.sl true 0 [])))]⟩] [0]) (.scope (.seq (.rgn [⟨none,[(.al 3 (List.replicate 4096 (.v (.int .u64 0))))]⟩] [0,3]) (.seq (.seq (.rgn [⟨none,[(.mv 11 (.t 0)),(.call 12 65 [(.t 11)]),(.bin 13 .eql (.t 12) (.k (.v (.int .u64 0)))),(.mv 14 (.t 13))]⟩,⟨(some (14,false)),[(.ld 15 true 4096 (.t 3)),(.bld 16 (List.replicate 4096 (.v (.int .u64 0))) []),(.eqk 17 true (true,(List.replicate 4096 .int)) (.t 15) (.t 16))]⟩,⟨none,[(.pick 18 (.t 14) (.k (B true)) (.t 17))]⟩] [0,18]) (.cond (.t 18) (.seq (.rgn [⟨none,[(.mv 2 (.k (.sl true 0 [])))]⟩] [2]) .ret) .skip)) (.seq (.rgn [⟨none,[(.mv 19 (.t 0)),(.call 20 79 [(.t 19),(.k (.v (.int .u64 0)))]),(.mv 4 (.t 20))]⟩] [0,4]) (.seq (.rgn [⟨none,[(.mv 21 (.t 0)),(.nilc 22 (.t 21)),(.fa 23 (.t 22) 2),(.ld 24 false 1 (.t 23)),(.call 25 111 [(.t 24)]),(.call 26 110 [(.t 25)]),(.mv 5 (.t 26))]⟩] [0,4,5]) (.seq (.rgn [⟨none,[(.mv 6 (.k (.sl true 0 [])))]⟩] [0,4,5,6]) (.seq (.rgn [⟨none,[(.mv 27 (.t 0)),(.call 28 64 [(.t 27)]),(.mv 7 (.t 28))]⟩] [4,5,6,7]) (.seq (.label 0) (.seq (.block 0 (.loop (.seq (.seq (.rgn [⟨none,[(.mv 29 (.t 7)),(.bin 30 .neq (.t 29) (.k (.v (.int .u64 0))))]⟩] [4,5,6,7,30]) (.cond (.t 30) .skip (.exit 0))) (.block 1 (.seq (.seq (.rgn [⟨none,[(.mv 8 (.k (.v (.int .u64 0))))]⟩] [4,5,6,7,8]) (.block 2 (.loop (.seq (.seq (.rgn [⟨none,[(.mv 31 (.t 8)),(.mv 32 (.t 7)),(.bin 33 .lss (.t 31) (.t 32))]⟩] [4,5,6,7,8,33]) (.cond (.t 33) .skip (.exit 2))) (.seq (.block 3 (.seq (.rgn [⟨none,[(.mv 36 (.t 5)),(.len 37 (.t 36)),(.mv 38 (.k (I 0)))]⟩] [4,5,6,7,8,36,37,38]) (.block 4 (.loop (.seq (.rgn [⟨none,[(.bin 39 .lss (.t 38) (.t 37))]⟩] [4,5,6,7,8,36,37,38,39]) (.seq (.cond (.t 39) .skip (.exit 4)) (.seq (.block 5 (.seq (.rgn [⟨none,[(.ia 40 1 (.t 36) (.t 38)),(.ld 41 false 1 (.t 40)),(.mv 10 (.t 41))]⟩] [4,5,6,7,8,10,36,37,38]) (.seq (.drw [⟨none,[(.mv 42 (.t 4)),(.mv 43 (.t 8)),(.nilc 44 (.t 42)),(.iaa 45 4096 1 (.t 44) (.t 43)),(.ld 46 false 1 (.t 45)),(.bin 47 .add (.t 46) (.k (I 1))),(.mv 48 (.t 4)),(.mv 49 (.t 7)),(.nilc 50 (.t 48)),(.iaa 51 4096 1 (.t 50) (.t 49)),(.ld 52 false 1 (.t 51)),(.bin 53 .eql (.t 47) (.t 52)),(.mv 54 (.t 53))]⟩,⟨(some (54,true)),[(.mv 55 (.t 8)),(.mv 56 (.t 10)),(.bin 57 .or (.t 55) (.t 56)),(.mv 58 (.t 7)),(.bin 59 .eql (.t 57) (.t 58))]⟩,⟨none,[(.pick 60 (.t 54) (.t 59) (.k (B false)))]⟩] [(4,10)] [4,5,6,7,8,10,36,37,38,60]) (.cond (.t 60) (.seq (.rgn [⟨none,[(.mv 61 (.t 6)),(.mv 62 (.t 10)),(.bsl 63 1 1 [(.v (.int .u64 0))] [(0,(.t 62))]),(.app 64 1 8 (.t 61) (.t 63)),(.mv 6 (.t 64))]⟩] [4,5,6,8]) (.seq (.rgn [⟨none,[(.mv 65 (.t 8)),(.mv 7 (.t 65))]⟩] [4,5,6,7]) (.exit 1))) .skip)))) (.rgn [⟨none,[(.bin 66 .add (.t 38) (.k (I 1))),(.mv 38 (.t 66))]⟩] [4,5,6,7,8,36,37,38])))))))) (.rgn [⟨none,[(.mv 34 (.t 8)),(.bin 35 .add (.t 34) (.k (.v (.int .u64 1)))),(.mv 8 (.t 35))]⟩] [4,5,6,7,8])))))) (.exit 0)))))) (.seq (.rgn [⟨none,[(.mv 67 (.t 6)),(.mv 2 (.t 67))]⟩] [2]) .ret)))))))))))
theorem func_q_ways : Tryz.prog.funcs[n_q_ways]? = some Tryz.f98 := Tryz.func98
theorem form_q_ways : formOf Tryz.prog Tryz.f98 [2] = some G_q_ways := by kernel_rfl
theorem res_q_ways : resTmps Tryz.f98.results.toList = some [2] := by kernel_rfl
abbrev n_k_first : Nat := 104
def G_k_first : AC := (.seq (.rgn [⟨none,[(.mv 4 (.k (I 0)))]⟩] [0,1]) (.seq (.seq (.rgn [⟨none,[(.mv 7 (.t 0)),(.len 8 (.t 7)),(.mv 9 (.k (I 0)))]⟩] [1,7,8,9]) (.block 0 (.loop (.seq (.rgn [⟨none,[(.bin 10 .lss (.t 9) (.t 8))]⟩] [1,7,8,9,10]) (.seq (.cond (.t 10) .skip (.exit 0)) (.seq (.block 1 (.seq (.rgn [⟨none,[(.mv 11 (.t 9)),(.ia 12 2 (.t 7) (.t 9)),(.ld 13 true 2 (.t 12)),(.al 6 [(I 0),(I 0)]),(.mv 5 (.t 11)),(.st 2 (.t 6) (.t 13))]⟩] [1,5,6,7,8,9]) (.seq (.rgn [⟨none,[(.mv 14 (.t 1)),(.ld 15 true 2 (.t 6)),(.callv 16 (.t 14) [(.t 15)])]⟩] [1,5,7,8,9,16]) (.cond (.t 16) (.seq (.rgn [⟨none,[(.mv 17 (.t 5)),(.mv 4 (.t 17))]⟩] [4]) .ret) .skip)))) (.rgn [⟨none,[(.bin 18 .add (.t 9) (.k (I 1))),(.mv 9 (.t 18))]⟩] [1,7,8,9]))))))) (.seq (.rgn [⟨none,[(.mv 4 (.k (I (-1))))]⟩] [4]) .ret)))
theorem func_k_first : Tryz.prog.funcs[n_k_first]? = some Tryz.f104 := Tryz.func104
theorem form_k_first : formOf Tryz.prog Tryz.f104 [4] = some G_k_first := by kernel_rfl
theorem res_k_first : resTmps Tryz.f104.results.toList = some [4] := by kernel_rfl
abbrev n_q_in_1 : Nat := 105
def G_q_in_1 : AC := (.seq (.rgn [⟨none,[(.box 2 2 (.t 0)),(.mv 3 (.k (B false)))]⟩] [1,2]) (.seq (.rgn [⟨none,[(.fa 4 (.t 2) 0),(.ld 5 false 1 (.t 4)),(.ld 6 false 1 (.t 1)),(.bin 7 .leq (.t 5) (.t 6)),(.mv 8 (.t 7))]⟩,⟨(some (8,true)),[(.ld 9 false 1 (.t 1)),(.fa 10 (.t 2) 1),(.ld 11 false 1 (.t 10)),(.bin 12 .leq (.t 9) (.t 11))]⟩,⟨none,[(.pick 13 (.t 8) (.t 12) (.k (B false))),(.mv 3 (.t 13))]⟩] [3]) .ret))
theorem func_q_in_1 : Tryz.prog.funcs[n_q_in_1]? = some Tryz.f105 := Tryz.func105
theorem form_q_in_1 : formOf Tryz.prog Tryz.f105 [3] = some G_q_in_1 := by kernel_rfl
theorem res_q_in_1 : resTmps Tryz.f105.results.toList = some [3] := by kernel_rfl
end Go.AM

namespace Go.AM
open Go.RowKit Go.Proofs
structure SH where
 k : List (Int × Int)
 m : List (Int × Int)
abbrev Sn (f g : Bool) (s : SH) : AV := .agg [Ps f s.k,Ps g s.m]
structure SzS (s : SH) : Prop where
 k : s.k.length ≤ 1000000
 m : s.m.length ≤ 1000000
def mkB (l : List (Int × Int)) (i : Nat) : Bool :=
 decide ((l.getD i (0,0)).1 < 0) || decide ((l.getD i (0,0)).2 < (l.getD i (0,0)).1) || decide (500 < (l.getD i (0,0)).2) || decide (3 < (l.getD i (0,0)).2 - (l.getD i (0,0)).1) || (decide (0 < i) && decide ((l.getD i (0,0)).1 ≤ (l.getD (i - 1) (0,0)).2))
def mrkE (l : List (Int × Int)) : Int := if (List.range l.length).any (mkB l) then 3 else 0
theorem mrkE_bad {l : List (Int × Int)} {i : Nat} (hi : i < l.length) (h : mkB l i = true) : mrkE l = 3 := by
 unfold mrkE; rw [if_pos (List.any_eq_true.2 ⟨i,List.mem_range.2 hi,h⟩)]
theorem mrkE_good {l : List (Int × Int)} (h : ∀ k,k < l.length → mkB l k = false) : mrkE l = 0 := by
 unfold mrkE; rw [if_neg]
 rw [Bool.not_eq_true,List.any_eq_false]
 exact fun k hk => by rw [h k (List.mem_range.1 hk)]; decide
theorem getD_at {l : List (Int × Int)} {i : Nat} (h : i < l.length) : l.getD i (0,0) = l[i] := by
 rw [List.getD_eq_getElem?_getD,List.getElem?_eq_getElem h]; rfl
theorem flat2_n1 {c : List (Int × Int)} {i : Nat} (h : i < c.length) : nthA (flat2 c) (i * 2) = some (I c[i].1) := by
 have h := congrArg (fun l => l[0]?) (flat2_view h)
 simp only [List.getElem?_take,List.getElem?_drop] at h
 rw [nthA_eq]
 simpa using h
theorem flat2_n2 {c : List (Int × Int)} {i : Nat} (h : i < c.length) : nthA (flat2 c) (i * 2 + 1) = some (I c[i].2) := by
 have h := congrArg (fun l => l[1]?) (flat2_view h)
 simp only [List.getElem?_take,List.getElem?_drop] at h
 rw [nthA_eq]
 simpa using h
set_option maxHeartbeats 2000000 in
theorem r_MarksError_ok (f : Bool) (l : List (Int × Int)) (hl : l.length ≤ 1000000) : PureOK Tryz.prog n_r_MarksError [Ps f l] (I (mrkE l)) := by
 refine pure_of (walk func_r_MarksError form_r_MarksError res_r_MarksError (by show 1 ≤ _; decide) ?_)
 simp -implicitDefEqProofs (disch := omega) [G_r_MarksError,wrap_id]
 refine loop_eq (fun q : Nat × List HObj => ⟨[(0,Ps f l),(3,I (q.1 : Int))],q.2⟩) (fun q => q.1 ≤ l.length ∧ ∀ k,k < q.1 → mkB l k = false) (fun q => l.length - q.1) (0,[]) ⟨Nat.zero_le _,fun k hk => by omega⟩ rfl ?_
 rintro ⟨i,H⟩ ⟨d1,d2⟩
 simp only at d1 d2 ⊢
 refine hideK' fun K0 hK0 => ?_
 simp -implicitDefEqProofs (disch := omega) [wrap_id]
 refine c_split (fun hc => ?_) (fun hc => ?_)
 · have hi : i < l.length := by simpa using hc
   have ix : ((i : Int) + 1) = ((i + 1 : Nat) : Int) := by omega
   simp -implicitDefEqProofs (disch := omega) [wrap_id,cells_pair,hi]
   refine ⟨flat2_len l,?_⟩
   have mb : mkB l i = (decide (l[i].1 < 0) || decide (l[i].2 < l[i].1) || decide (500 < l[i].2) || decide (3 < l[i].2 - l[i].1) || (decide (0 < i) && decide (l[i].1 ≤ (l.getD (i - 1) (0,0)).2))) := by
    unfold mkB; rw [getD_at hi]
   by_cases q1 : l[i].1 < 0
   · rw [mrkE_bad hi (by rw [mb,decide_eq_true q1]; simp)] at hK0
     subst hK0
     simp -implicitDefEqProofs (disch := omega) [wrap_id,cmp2,nthT,q1]
   by_cases q2 : l[i].2 < l[i].1
   · rw [mrkE_bad hi (by rw [mb,decide_eq_true q2]; simp)] at hK0
     subst hK0
     simp -implicitDefEqProofs (disch := omega) [wrap_id,cmp2,nthT,q1,q2]
   by_cases q3 : 500 < l[i].2
   · rw [mrkE_bad hi (by rw [mb,decide_eq_true q3]; simp)] at hK0
     subst hK0
     simp -implicitDefEqProofs (disch := omega) [wrap_id,cmp2,nthT,q1,q2,q3]
   by_cases q4 : 3 < l[i].2 - l[i].1
   · rw [mrkE_bad hi (by rw [mb,decide_eq_true q4]; simp)] at hK0
     subst hK0
     simp -implicitDefEqProofs (disch := omega) [wrap_id,cmp2,nthT,q1,q2,q3,q4]
   by_cases q5 : 0 < i
   · have hj : i - 1 < l.length := by omega
     have iy : ((i : Int) - 1) = ((i - 1 : Nat) : Int) := by omega
     have q5' : (0 : Int) < (i : Int) := by omega
     by_cases q6 : l[i].1 ≤ l[i - 1].2
     · rw [mrkE_bad hi (by rw [mb,getD_at hj,decide_eq_true q5,decide_eq_true q6]; simp)] at hK0
       subst hK0
       simp -implicitDefEqProofs (disch := omega) [wrap_id,cmp2,nthT,q1,q2,q3,q4,q5,q5',q6,iy,hj,flat2_len,flat2_n2]
     · simp -implicitDefEqProofs (disch := omega) [wrap_id,cmp2,nthT,q1,q2,q3,q4,q5,q5',q6,iy,hj,flat2_len,flat2_n2]
       rw [hK0]
       refine next_eq (i + 1,H ++ [HObj.cells [I l[i].1,I l[i].2]]) ⟨by simp only; omega,fun k hk => ?_⟩ (by simp only; omega) (by simp only [ix])
       by_cases e : k = i
       · subst e; rw [mb]; rw [getD_at hj]; simp [q1,q2,q3,q4,q6]
       · exact d2 k (by simp only at hk; omega)
   · have q5' : ¬ (0 : Int) < (i : Int) := by omega
     simp -implicitDefEqProofs (disch := omega) [wrap_id,cmp2,nthT,q1,q2,q3,q4,q5,q5']
     rw [hK0]
     refine next_eq (i + 1,H ++ [HObj.cells [I l[i].1,I l[i].2]]) ⟨by simp only; omega,fun k hk => ?_⟩ (by simp only; omega) (by simp only [ix])
     by_cases e : k = i
     · subst e; rw [mb]; simp [q1,q2,q3,q4,q5]
     · exact d2 k (by simp only at hk; omega)
 · have hi : i = l.length := by simp at hc; omega
   subst hi
   subst hK0
   rw [mrkE_good d2]
   simp -implicitDefEqProofs (disch := omega) [wrap_id]
end Go.AM

namespace Go.AM
open Go.RowKit Go.Proofs
def cmbO (p : Int × Int) : Bool := decide (1 ≤ p.1) && decide (p.1 ≤ 50) && decide (2 ≤ p.2) && decide (p.2 ≤ 20)
def shtE (s : SH) : Int := if s.k.length < 1 ∨ 8 < s.k.length ∨ s.m.length < 1 ∨ 12 < s.m.length then 6 else if s.k.all cmbO = false then 2 else mrkE s.m
set_option maxHeartbeats 2000000 in
theorem r_CheckSheet_ok (f g : Bool) (s : SH) (hz : SzS s) : PureOK Tryz.prog n_r_CheckSheet [Sn f g s] (I (shtE s)) := by
 obtain ⟨z1,z2⟩ := hz
 refine pure_of (walk func_r_CheckSheet form_r_CheckSheet res_r_CheckSheet (by show 1 ≤ _; decide) ?_)
 simp -implicitDefEqProofs (disch := omega) [G_r_CheckSheet,wrap_id]
 by_cases a1 : s.k.length < 1
 · have e : shtE s = 6 := by unfold shtE; rw [if_pos (.inl a1)]
   have a1' : (s.k.length : Int) < 1 := by omega
   simp -implicitDefEqProofs (disch := omega) [wrap_id,a1',e]
 have a1' : ¬ (s.k.length : Int) < 1 := by omega
 by_cases a2 : 8 < s.k.length
 · have e : shtE s = 6 := by unfold shtE; rw [if_pos (.inr (.inl a2))]
   have a2' : (8 : Int) < s.k.length := by omega
   simp -implicitDefEqProofs (disch := omega) [wrap_id,a1',a2',e]
 have a2' : ¬ (8 : Int) < s.k.length := by omega
 by_cases a3 : s.m.length < 1
 · have e : shtE s = 6 := by unfold shtE; rw [if_pos (.inr (.inr (.inl a3)))]
   have a3' : (s.m.length : Int) < 1 := by omega
   simp -implicitDefEqProofs (disch := omega) [wrap_id,a1',a2',a3',e]
 have a3' : ¬ (s.m.length : Int) < 1 := by omega
 by_cases a4 : 12 < s.m.length
 · have e : shtE s = 6 := by unfold shtE; rw [if_pos (.inr (.inr (.inr a4)))]
   have a4' : (12 : Int) < s.m.length := by omega
   simp -implicitDefEqProofs (disch := omega) [wrap_id,a1',a2',a3',a4',e]
 have a4' : ¬ (12 : Int) < s.m.length := by omega
 have e0 : shtE s = if s.k.all cmbO = false then 2 else mrkE s.m := by unfold shtE; rw [if_neg (by omega)]
 simp -implicitDefEqProofs (disch := omega) [wrap_id,a1',a2',a3',a4']
 rw [e0]
 refine loop_eq (fun q : Nat × List HObj => ⟨[(1,.ref 0 0),(3,I (q.1 : Int))],q.2⟩) (fun q => q.1 ≤ s.k.length ∧ nthH q.2 0 = some (.cells [Ps f s.k,Ps g s.m]) ∧ ∀ k (hk : k < s.k.length),k < q.1 → cmbO s.k[k] = true) (fun q => s.k.length - q.1) (0,[.cells [Ps f s.k,Ps g s.m]]) ⟨Nat.zero_le _,rfl,fun k _ hk => by omega⟩ rfl ?_
 rintro ⟨i,H⟩ ⟨d1,d2,d3⟩
 simp only at d1 d2 d3 ⊢
 have l0 := nthH_lt d2
 refine hideK' fun K0 hK0 => ?_
 simp -implicitDefEqProofs (disch := omega) [wrap_id,d2]
 refine c_split (fun hc => ?_) (fun hc => ?_)
 · have hi : i < s.k.length := by simpa using hc
   have ix : ((i : Int) + 1) = ((i + 1 : Nat) : Int) := by omega
   have bad : cmbO s.k[i] = false → (s.k.all cmbO) = false := fun hn => by
    rw [List.all_eq_false]; exact ⟨_,List.getElem_mem hi,by rw [hn]; decide⟩
   simp -implicitDefEqProofs (disch := omega) [wrap_id,cells_pair,hi,d2]
   refine ⟨flat2_len _,?_⟩
   by_cases q1 : s.k[i].1 < 1
   · rw [bad (by unfold cmbO; rw [decide_eq_false (by omega : ¬ 1 ≤ s.k[i].1)]; simp)] at hK0
     subst hK0
     simp -implicitDefEqProofs (disch := omega) [wrap_id,q1]
   by_cases q2 : 50 < s.k[i].1
   · rw [bad (by unfold cmbO; rw [decide_eq_false (by omega : ¬ s.k[i].1 ≤ 50)]; simp)] at hK0
     subst hK0
     simp -implicitDefEqProofs (disch := omega) [wrap_id,q1,q2]
   by_cases q3 : s.k[i].2 < 2
   · rw [bad (by unfold cmbO; rw [decide_eq_false (by omega : ¬ 2 ≤ s.k[i].2)]; simp)] at hK0
     subst hK0
     simp -implicitDefEqProofs (disch := omega) [wrap_id,q1,q2,q3]
   by_cases q4 : 20 < s.k[i].2
   · rw [bad (by unfold cmbO; rw [decide_eq_false (by omega : ¬ s.k[i].2 ≤ 20)]; simp)] at hK0
     subst hK0
     simp -implicitDefEqProofs (disch := omega) [wrap_id,q1,q2,q3,q4]
   simp -implicitDefEqProofs (disch := omega) [wrap_id,q1,q2,q3,q4]
   rw [hK0]
   refine next_eq (i + 1,H ++ [HObj.cells [I s.k[i].1,I s.k[i].2]]) ⟨by simp only; omega,(nthH_front l0).trans d2,fun k hk hk2 => ?_⟩ (by simp only; omega) (by simp only [ix])
   by_cases e : k = i
   · subst e; unfold cmbO; simp; omega
   · exact d3 k hk (by simp only at hk2; omega)
 · have hi : i = s.k.length := by simp at hc; omega
   subst hi
   have ht : (s.k.all cmbO) = true := by
    rw [List.all_eq_true]
    intro p hp
    obtain ⟨k,hk,rfl⟩ := List.getElem_of_mem hp
    exact d3 k hk hk
   rw [ht] at hK0
   subst hK0
   simp -implicitDefEqProofs (disch := omega) [wrap_id,d2]
   refine callW_pure rfl (r_MarksError_ok g s.m z2) ?_
   simp -implicitDefEqProofs (disch := omega) [wrap_id]
def isK (s : SH) (n : Int) : Bool := decide (0 ≤ n) && decide (n < s.k.length)
theorem r_IsComb_ok (f g : Bool) (s : SH) (n : Int) : PureOK Tryz.prog n_r_IsComb [Sn f g s,I n] (B (isK s n)) := by
 refine pure_of (walk func_r_IsComb form_r_IsComb res_r_IsComb (by show 2 ≤ _; decide) ?_)
 simp -implicitDefEqProofs (disch := omega) [G_r_IsComb,wrap_id]
 unfold isK
 by_cases q1 : 0 ≤ n
 · simp -implicitDefEqProofs (disch := omega) [wrap_id,q1]
 · simp -implicitDefEqProofs (disch := omega) [wrap_id,q1]
structure ValS (s : SH) : Prop where
 k1 : 1 ≤ s.k.length
 k8 : s.k.length ≤ 8
 m1 : 1 ≤ s.m.length
 m12 : s.m.length ≤ 12
 kc : ∀ p ∈ s.k,1 ≤ p.1 ∧ p.1 ≤ 50 ∧ 2 ≤ p.2 ∧ p.2 ≤ 20
 mc : ∀ p ∈ s.m,0 ≤ p.1 ∧ p.1 ≤ p.2 ∧ p.2 ≤ 500 ∧ p.2 - p.1 ≤ 3
 nx : ∀ i j (hi : i < s.m.length) (hj : j < s.m.length),i < j → s.m[i].2 < s.m[j].1
theorem val_of {s : SH} (h : shtE s = 0) : ValS s := by
 unfold shtE at h
 split at h
 · cases h
 rename_i h1
 split at h
 · cases h
 rename_i h2
 have h2 : s.k.all cmbO = true := by simpa using h2
 unfold mrkE at h
 split at h
 · cases h
 rename_i h3
 rw [Bool.not_eq_true,List.any_eq_false] at h3
 have h4 : ∀ i (hi : i < s.m.length),0 ≤ s.m[i].1 ∧ s.m[i].1 ≤ s.m[i].2 ∧ s.m[i].2 ≤ 500 ∧ s.m[i].2 - s.m[i].1 ≤ 3 ∧ (0 < i → (s.m.getD (i - 1) (0,0)).2 < s.m[i].1) := fun i hi => by
  have := h3 i (List.mem_range.2 hi)
  unfold mkB at this
  rw [getD_at hi] at this
  simp only [Bool.or_eq_true,Bool.and_eq_true,decide_eq_true_eq,not_or,not_and] at this
  refine ⟨by omega,by omega,by omega,by omega,fun h => ?_⟩
  have := this.2 h
  omega
 have h5 : ∀ d i (hi : i < s.m.length) (hj : i + d + 1 < s.m.length),s.m[i].2 < s.m[i + d + 1].1 := by
  intro d
  induction d with
  | zero =>
    intro i hi hj
    have := (h4 (i + 0 + 1) hj).2.2.2.2 (by omega)
    rw [show i + 0 + 1 - 1 = i from by omega,getD_at hi] at this
    exact this
  | succ d ih =>
    intro i hi hj
    have a := ih i hi (by omega)
    have c := (h4 (i + d + 1) (by omega)).2.1
    have e := (h4 (i + (d + 1) + 1) hj).2.2.2.2 (by omega)
    rw [show i + (d + 1) + 1 - 1 = i + d + 1 from by omega,getD_at (by omega)] at e
    omega
 refine ⟨by omega,by omega,by omega,by omega,fun p hp => ?_,fun p hp => ?_,fun i j hi hj hij => ?_⟩
 · have := List.all_eq_true.1 h2 p hp
   unfold cmbO at this
   simp only [Bool.and_eq_true,decide_eq_true_eq] at this
   omega
 · obtain ⟨k,hk,rfl⟩ := List.getElem_of_mem hp
   have := h4 k hk
   omega
 · have := h5 (j - i - 1) i hi (by omega)
   simp only [show i + (j - i - 1) + 1 = j from by omega] at this
   exact this
end Go.AM

namespace Go.AM
open Go.RowKit Go.Proofs
def inP (a : Int) (p : Int × Int) : Bool := decide (p.1 ≤ a) && decide (a ≤ p.2)
def inK (m : List (Int × Int)) (a : Int) : Int := idxI (inP a) m
def lastI (m : List (Int × Int)) (a : Int) : Nat → Int
 | 0 => -1
 | n + 1 => if inP a (m.getD n (0,0)) = true then (n : Int) else lastI m a n
theorem ValS.at {s : SH} (h : ValS s) {i : Nat} (hi : i < s.m.length) : 0 ≤ s.m[i].1 ∧ s.m[i].1 ≤ s.m[i].2 ∧ s.m[i].2 ≤ 500 ∧ s.m[i].2 - s.m[i].1 ≤ 3 := h.mc _ (List.getElem_mem hi)
theorem inP_uni {s : SH} (h : ValS s) {a : Int} {i j : Nat} (hi : i < s.m.length) (hj : j < s.m.length) (h1 : inP a s.m[i] = true) (h2 : inP a s.m[j] = true) : i = j := by
 unfold inP at h1 h2
 simp only [Bool.and_eq_true,decide_eq_true_eq] at h1 h2
 rcases Nat.lt_trichotomy i j with e | e | e
 · have := h.nx i j hi hj e; omega
 · exact e
 · have := h.nx j i hj hi e; omega
theorem inK_at {s : SH} (h : ValS s) {a : Int} {i : Nat} (hi : i < s.m.length) (h1 : inP a s.m[i] = true) : inK s.m a = i :=
 idxI_some hi h1 fun k hk hki => by
  cases e : inP a s.m[k] with
  | false => rfl
  | true => have := inP_uni h hi hk h1 e; omega
theorem lastI_inK {s : SH} (h : ValS s) {a : Int} : lastI s.m a s.m.length = inK s.m a := by
 have key : ∀ n, n ≤ s.m.length → (lastI s.m a n = inK s.m a ∧ 0 ≤ inK s.m a) ∨ (lastI s.m a n = -1 ∧ ∀ k (hk : k < s.m.length), k < n → inP a s.m[k] = false) := by
  intro n
  induction n with
  | zero => exact fun _ => .inr ⟨rfl,fun k _ hk => by omega⟩
  | succ n ih =>
    intro hn
    have hi : n < s.m.length := by omega
    unfold lastI
    rw [getD_at hi]
    by_cases e : inP a s.m[n] = true
    · rw [if_pos e]
      have := inK_at h hi e
      exact .inl ⟨this.symm,by omega⟩
    · rw [if_neg e]
      rcases ih (by omega) with h1 | ⟨h1,h2⟩
      · exact .inl h1
      · refine .inr ⟨h1,fun k hk hkn => ?_⟩
        by_cases e2 : k = n
        · subst e2; simpa using e
        · exact h2 k hk (by omega)
 rcases key s.m.length (Nat.le_refl _) with h1 | ⟨h1,h2⟩
 · exact h1.1
 · rw [h1]
   exact (idxI_none fun k hk => h2 k hk hk).symm
def rowB (m : List (Int × Int)) (sp a : Int) : Nat → Option Nat
 | 0 => some 0
 | t + 1 => match rowB m sp a t with
   | none => none
   | some o => if inK m (a + (t : Int) * sp) < 0 then none else some (orN o (pwN (inK m (a + (t : Int) * sp)).toNat))
def bitO (s : SH) (r : Int × Int) : Nat := if r.2 < 0 ∨ 500 < r.2 then 0 else (rowB s.m (s.k.getD r.1.toNat (0,0)).1 r.2 (s.k.getD r.1.toNat (0,0)).2.toNat).getD 0
theorem rowB_none {m : List (Int × Int)} {sp a : Int} {t : Nat} (h : rowB m sp a t = none) : ∀ {n : Nat},t ≤ n → rowB m sp a n = none
 | 0,hn => by rw [show t = 0 from by omega] at h; exact h
 | n + 1,hn => by
   by_cases e : t = n + 1
   · rw [← e]; exact h
   · unfold rowB; rw [rowB_none h (by omega)]
theorem inK_lt {m : List (Int × Int)} {a : Int} : inK m a < m.length ∧ -1 ≤ inK m a := by
 by_cases h : ∀ k (hk : k < m.length),inP a m[k] = false
 · unfold inK; rw [idxI_none h]; omega
 · unfold inK idxI
   split
   · rename_i i e
     have := (List.findIdx?_eq_some_iff_getElem.1 e).1
     omega
   · omega
theorem rowB_small {m : List (Int × Int)} (hm : m.length ≤ 12) {sp a : Int} : ∀ {t o : Nat},rowB m sp a t = some o → o < 2 ^ m.length
 | 0,o,h => by unfold rowB at h; injection h with h; rw [← h]; exact Nat.two_pow_pos _
 | t + 1, o, h => by
   unfold rowB at h
   cases e : rowB m sp a t with
   | none => rw [e] at h; cases h
   | some q =>
     rw [e] at h
     simp only at h
     split at h
     · cases h
     · injection h with h
       rw [← h]
       have := (inK_lt (m := m) (a := a + (t : Int) * sp)).1
       exact Nat.or_lt_two_pow (rowB_small hm e) (Nat.pow_lt_pow_right (by decide) (by omega))
set_option maxHeartbeats 4000000 in
theorem r_Bits_ok (f g : Bool) (s : SH) (hv : ValS s) (r : Int × Int) (hr : isK s r.1 = true) : PureOK Tryz.prog n_r_Bits [Sn f g s,Pr r] (I (bitO s r : Nat)) := by
 have hk8 := hv.k8
 have hm12 := hv.m12
 obtain ⟨c,a⟩ := r
 unfold isK at hr
 simp only [Bool.and_eq_true,decide_eq_true_eq] at hr
 obtain ⟨c,rfl⟩ : ∃ n : Nat,c = n := ⟨c.toNat,by omega⟩
 have hc : c < s.k.length := by omega
 obtain ⟨p1,p2,p3,p4⟩ := hv.kc _ (List.getElem_mem hc)
 refine pure_of (walk func_r_Bits form_r_Bits res_r_Bits (by show 2 ≤ _; decide) ?_)
 simp -implicitDefEqProofs (disch := omega) [G_r_Bits,wrap_id]
 have eB : bitO s ((c : Int),a) = if a < 0 ∨ 500 < a then 0 else (rowB s.m s.k[c].1 a s.k[c].2.toNat).getD 0 := by
  unfold bitO; simp only [Int.toNat_natCast]; rw [getD_at hc]
 rw [eB]
 by_cases q1 : a < 0
 · rw [if_pos (.inl q1)]
   simp -implicitDefEqProofs (disch := omega) [wrap_id,q1]
 by_cases q2 : 500 < a
 · rw [if_pos (.inr q2)]
   simp -implicitDefEqProofs (disch := omega) [wrap_id,q1,q2]
 rw [if_neg (by omega)]
 simp -implicitDefEqProofs (disch := omega) [wrap_id,q1,q2,cells_pair,hc]
 refine ⟨flat2_len _,?_⟩
 obtain ⟨te,hte⟩ : ∃ n : Nat,s.k[c].2 = n := ⟨s.k[c].2.toNat,by omega⟩
 rw [hte]
 generalize hsp : s.k[c].1 = sp at *
 rw [Int.toNat_natCast]
 have h20 : te ≤ 20 := by omega
 refine loop_eq (fun q : Nat × Nat => ⟨[(2,.ref 0 0),(3,.ref 1 0),(5,.ref 2 0),(6,I (q.2 : Int)),(7,I (q.1 : Int))],[.cells [Ps f s.k,Ps g s.m],.cells [I c,I a],.cells [I sp,I te]]⟩) (fun q => q.1 ≤ te ∧ rowB s.m sp a q.1 = some q.2) (fun q => te - q.1) (0,0) ⟨Nat.zero_le _,rfl⟩ rfl ?_
 rintro ⟨t,o⟩ ⟨d1,d2⟩
 simp only at d1 d2 ⊢
 refine hideK' fun K0 hK0 => ?_
 simp -implicitDefEqProofs (disch := omega) [wrap_id]
 refine c_split (fun hc2 => ?_) (fun hc2 => ?_)
 · have ht : t < te := by simpa using hc2
   have ix : ((t : Int) + 1) = ((t + 1 : Nat) : Int) := by omega
   have m0 : 0 ≤ (t : Int) * sp := Int.mul_nonneg (by omega) (by omega)
   have m1 : (t : Int) * sp ≤ 20 * 50 := Int.le_trans (Int.mul_le_mul_of_nonneg_right (by omega) (by omega)) (Int.mul_le_mul_of_nonneg_left p2 (by omega))
   have eR : ∀ u,u = rowB s.m sp a (t + 1) → u = if inK s.m (a + (t : Int) * sp) < 0 then none else some (orN o (pwN (inK s.m (a + (t : Int) * sp)).toNat)) := fun u hu => by
    rw [hu]; unfold rowB; rw [d2]
   have eR := eR _ rfl
   simp -implicitDefEqProofs (disch := omega) [wrap_id]
   generalize (t : Int) * sp = ts at *
   refine loop_eq (fun q : Nat => ⟨[(2,.ref 0 0),(3,.ref 1 0),(5,.ref 2 0),(6,I (o : Int)),(7,I (t : Int)),(8,I (a + ts)),(9,I (lastI s.m (a + ts) q)),(10,I (q : Int))],[.cells [Ps f s.k,Ps g s.m],.cells [I c,I a],.cells [I sp,I te]]⟩) (fun q => q ≤ s.m.length) (fun q => s.m.length - q) 0 (Nat.zero_le _) rfl ?_
   rintro i i1
   refine hideK' fun K1 hK1 => ?_
   simp -implicitDefEqProofs (disch := omega) [wrap_id]
   refine c_split (fun hc3 => ?_) (fun hc3 => ?_)
   · have hi : i < s.m.length := by simpa using hc3
     have iy : ((i : Int) + 1) = ((i + 1 : Nat) : Int) := by omega
     have eL : lastI s.m (a + ts) (i + 1) = if inP (a + ts) s.m[i] = true then (i : Int) else lastI s.m (a + ts) i := by
      show (if inP (a + ts) (s.m.getD i (0,0)) = true then (i : Int) else lastI s.m (a + ts) i) = _
      rw [getD_at hi]
     by_cases r1 : s.m[i].1 ≤ a + ts
     · by_cases r2 : a + ts ≤ s.m[i].2
       · have eP : inP (a + ts) s.m[i] = true := by unfold inP; simp [r1,r2]
         rw [if_pos eP] at eL
         simp -implicitDefEqProofs (disch := omega) [wrap_id,flat2_len,flat2_n1,flat2_n2,hi,r1,r2]
         rw [hK1]
         exact next_eq (i + 1) (by omega) (by omega) (by simp only [iy,eL])
       · have eP : ¬ inP (a + ts) s.m[i] = true := by unfold inP; simp [r1,r2]
         rw [if_neg eP] at eL
         simp -implicitDefEqProofs (disch := omega) [wrap_id,flat2_len,flat2_n1,flat2_n2,hi,r1,r2]
         rw [hK1]
         exact next_eq (i + 1) (by omega) (by omega) (by simp only [iy,eL])
     · have eP : ¬ inP (a + ts) s.m[i] = true := by unfold inP; simp [r1]
       rw [if_neg eP] at eL
       simp -implicitDefEqProofs (disch := omega) [wrap_id,flat2_len,flat2_n1,flat2_n2,hi,r1]
       rw [hK1]
       exact next_eq (i + 1) (by omega) (by omega) (by simp only [iy,eL])
   · have hi : i = s.m.length := by simp at hc3; omega
     subst hi
     subst hK1
     rw [lastI_inK hv]
     have lt := inK_lt (m := s.m) (a := a + ts)
     by_cases r1 : inK s.m (a + ts) < 0
     · rw [if_pos r1] at eR
       rw [rowB_none eR (by omega)] at hK0
       subst hK0
       simp -implicitDefEqProofs (disch := omega) [wrap_id,r1]
     · rw [if_neg r1] at eR
       obtain ⟨j,hj⟩ : ∃ j : Nat,inK s.m (a + ts) = j := ⟨(inK s.m (a + ts)).toNat,by omega⟩
       rw [hj] at eR lt ⊢
       rw [Int.toNat_natCast] at eR
       have o1 := rowB_small hm12 d2
       have o2 : o < 2 ^ 60 := Nat.lt_of_lt_of_le o1 (Nat.pow_le_pow_right (by decide) (by omega))
       have o3 := pwN_small (i := j) (by omega)
       have hj0 : ¬ (j : Int) < 0 := by omega
       simp -implicitDefEqProofs (disch := omega) [wrap_id,-b_shl,bw_shl,-b_or,bw_or,o2,o3,hj0]
       rw [hK0]
       refine next_eq (t + 1,orN o (pwN j)) ⟨by simp only; omega,eR⟩ (by simp only; omega) (by simp only [ix])
 · have ht : t = te := by simp at hc2; omega
   subst ht
   rw [d2] at hK0
   subst hK0
   simp -implicitDefEqProofs (disch := omega) [wrap_id]
end Go.AM

namespace Go.AM
open Go.RowKit Go.Proofs
def bitT (n i : Nat) : List Int := ((List.range i).filter fun k => n.testBit k).map fun (k : Nat) => (k : Int)
def bitL (n : Nat) : List Int := bitT n 60
theorem bitT_succ {n i : Nat} : bitT n (i + 1) = bitT n i ++ (if n.testBit i = true then [(i : Int)] else []) := by
 unfold bitT
 rw [List.range_succ,List.filter_append,List.map_append]
 congr 1
 by_cases h : n.testBit i = true
 · rw [if_pos h]; simp [h]
 · rw [if_neg h]; simp [h]
theorem bitT_len {n : Nat} : ∀ {i : Nat},(bitT n i).length ≤ i
 | i => by unfold bitT; rw [List.length_map]; exact Nat.le_trans (List.length_filter_le _ _) (by simp)
end Go.AM

namespace Go.AM
open Go.RowKit Go.Proofs
theorem bitO_small {s : SH} (hv : ValS s) (r : Int × Int) : bitO s r < 2 ^ s.m.length := by
 unfold bitO
 split
 · exact Nat.two_pow_pos _
 · cases e : rowB s.m (s.k.getD r.1.toNat (0,0)).1 r.2 (s.k.getD r.1.toNat (0,0)).2.toNat with
   | none => exact Nat.two_pow_pos _
   | some o => exact rowB_small hv.m12 e
theorem bitO_60 {s : SH} (hv : ValS s) (r : Int × Int) : bitO s r < 2 ^ 60 := Nat.lt_of_lt_of_le (bitO_small hv r) (Nat.pow_le_pow_right (by decide) (by have := hv.m12; omega))
theorem AccR.tupE {H : List HObj} {x : AV} {l : List Int} {e : Int} (h : AccR H x l) : Out (.tup [Ls l.isEmpty l,I e]) (.tup [x,I e]) H := by
 rcases h with ⟨rfl,rfl⟩ | ⟨id,rfl,h1,h2⟩
 · exact out_of (is := []) rfl
 · have e : l.isEmpty = false := by simpa using h1
   rw [e]
   have := ms_pur h2 rfl
   refine out_of (is := [id]) ?_
   simp only [purify] at this
   simp only [purify,purifyL,this]
   rfl
def hasE (s : SH) (r : Int × Int) : Int := if shtE s ≠ 0 then shtE s else if isK s r.1 = false then 2 else if bitO s r = 0 then 19 else 0
def hasL (s : SH) (r : Int × Int) : List Int := if hasE s r = 0 then bitL (bitO s r) else []
def plcT (s : SH) (c : Int) (i : Nat) : List Int := ((List.range i).filter fun (k : Nat) => decide (bitO s (c,(k : Int)) ≠ 0)).map fun (k : Nat) => (k : Int)
theorem plcT_succ {s : SH} {c : Int} {i : Nat} : plcT s c (i + 1) = plcT s c i ++ (if bitO s (c,(i : Int)) ≠ 0 then [(i : Int)] else []) := by
 unfold plcT
 rw [List.range_succ,List.filter_append,List.map_append]
 congr 1
 by_cases h : bitO s (c,(i : Int)) ≠ 0
 · rw [if_pos h]; simp [h]
 · rw [if_neg h]; simp [h]
theorem plcT_len {s : SH} {c : Int} {i : Nat} : (plcT s c i).length ≤ i := by unfold plcT; rw [List.length_map]; exact Nat.le_trans (List.length_filter_le _ _) (by simp)
def plsE (s : SH) (c : Int) : Int := if shtE s ≠ 0 then shtE s else if isK s c = false then 2 else 0
def plsL (s : SH) (c : Int) : List Int := if plsE s c = 0 then plcT s c 501 else []
end Go.AM

namespace Go.AM
open Go.RowKit Go.Proofs
def rowOf (s : SH) (c : Nat) : List (Int × Int) := (plcT s (c : Int) 501).map fun a => ((c : Int),a)
def rwsK (s : SH) (n : Nat) : List (Int × Int) := (List.range n).flatMap (rowOf s)
theorem rwsK_succ {s : SH} {n : Nat} : rwsK s (n + 1) = rwsK s n ++ rowOf s n := by simp [rwsK,List.range_succ]
theorem rowOf_len {s : SH} {c : Nat} : (rowOf s c).length ≤ 501 := by unfold rowOf; rw [List.length_map]; exact plcT_len
theorem rwsK_len {s : SH} : ∀ {n : Nat},(rwsK s n).length ≤ n * 501
 | 0 => by simp [rwsK]
 | n + 1 => by
   rw [rwsK_succ,List.length_append]
   have := rwsK_len (s := s) (n := n)
   have := rowOf_len (s := s) (c := n)
   omega
def allR (s : SH) : List (Int × Int) := rwsK s s.k.length
theorem flat2_appK (c d : List (Int × Int)) : flat2 (c ++ d) = flat2 c ++ flat2 d := by simp [flat2]
theorem emp_lenK {α : Type} {l : List α} : l.isEmpty = decide (l.length = 0) := by cases l <;> simp
abbrev AccK (hp : List HObj) (x : AV) (c : List (Int × Int)) : Prop := AccG hp x 2 c.length (flat2 c)
theorem AccK.out {hp x} {c : List (Int × Int)} (h : AccK hp x c) : Out (Ps c.isEmpty c) x hp := by
 have := AccG.out h
 rw [← emp_lenK] at this
 exact this
end Go.AM

namespace Go.AM
open Go.RowKit Go.Proofs
def orT (s : SH) (l : List (Int × Int)) : Nat → Nat
 | 0 => 0
 | i + 1 => orN (orT s l i) (bitO s (l.getD i (0,0)))
theorem orT_small {s : SH} (hv : ValS s) {l : List (Int × Int)} : ∀ {i : Nat},orT s l i < 2 ^ s.m.length
 | 0 => Nat.two_pow_pos _
 | i + 1 => Nat.or_lt_two_pow (orT_small hv) (bitO_small hv _)
theorem orT_60 {s : SH} (hv : ValS s) {l : List (Int × Int)} {i : Nat} : orT s l i < 2 ^ 60 := Nat.lt_of_lt_of_le (orT_small hv) (Nat.pow_le_pow_right (by decide) (by have := hv.m12; omega))
def allB (s : SH) (l : List (Int × Int)) : Nat := orT s l l.length
theorem isK_allR {s : SH} {r : Int × Int} (h : r ∈ allR s) : isK s r.1 = true ∧ bitO s r ≠ 0 := by
 unfold allR rwsK at h
 rw [List.mem_flatMap] at h
 obtain ⟨c,hc,hr⟩ := h
 have hc := List.mem_range.1 hc
 unfold rowOf at hr
 obtain ⟨a,ha,rfl⟩ := List.mem_map.1 hr
 unfold plcT at ha
 obtain ⟨k,hk,rfl⟩ := List.mem_map.1 ha
 have hk := (List.mem_filter.1 hk).2
 exact ⟨by unfold isK; simp; omega,by simpa using hk⟩
def lostL (s : SH) : List Int := bitL (pwN s.m.length - 1 - allB s (allR s))
theorem pwN_12 {s : SH} (hv : ValS s) : pwN s.m.length ≤ 4096 ∧ 1 ≤ pwN s.m.length := by
 unfold pwN
 exact ⟨Nat.le_trans (Nat.pow_le_pow_right (by decide) hv.m12) (by decide),Nat.two_pow_pos _⟩
def lstL (s : SH) : List Int := if shtE s = 0 then lostL s else []
end Go.AM

namespace Go.AM
open Go.RowKit Go.Proofs
def dupK (R : List (Int × Int)) : Bool := (List.range R.length).any fun i => (R.take i).contains (R.getD i (0,0))
def rwsE2 (s : SH) (R : List (Int × Int)) : Int := if shtE s ≠ 0 then shtE s else if 20 < R.length then 6 else if R.all (fun r => isK s r.1) = false then 2 else if R.any (fun r => decide (bitO s r = 0)) = true then 19 else if dupK R = true then 15 else if allB s R ≠ pwN s.m.length - 1 then 16 else 0
set_option maxHeartbeats 8000000 in
theorem r_CheckRows_ok (f g h : Bool) (s : SH) (hz : SzS s) (R : List (Int × Int)) (hR : R.length ≤ 1000000) : PureOK Tryz.prog n_r_CheckRows [Sn f g s, Ps h R] (I (rwsE2 s R)) := by
 refine pure_of (walk func_r_CheckRows form_r_CheckRows res_r_CheckRows (by show 2 ≤ _; decide) ?_)
 simp -implicitDefEqProofs (disch := omega) [G_r_CheckRows,wrap_id]
 refine callW_pure rfl (r_CheckSheet_ok f g s hz) ?_
 by_cases h0 : shtE s ≠ 0
 · have h0' : (shtE s != 0) = true := by simp [h0]
   rw [show rwsE2 s R = shtE s from by unfold rwsE2; rw [if_pos h0]]
   simp -implicitDefEqProofs (disch := omega) [wrap_id,h0']
   refine callW_pure rfl (r_CheckSheet_ok f g s hz) ?_
   simp -implicitDefEqProofs (disch := omega) [wrap_id]
 have h0 : shtE s = 0 := by omega
 have hv := val_of h0
 have hm12 := hv.m12
 obtain ⟨w1,w2⟩ := pwN_12 hv
 rw [h0]
 by_cases h1 : 20 < R.length
 · have h1' : (20 : Int) < R.length := by omega
   rw [show rwsE2 s R = 6 from by unfold rwsE2; rw [if_neg (by omega),if_pos h1]]
   simp -implicitDefEqProofs (disch := omega) [wrap_id,h1']
 have h1' : ¬ (20 : Int) < R.length := by omega
 have e0 : rwsE2 s R = if R.all (fun r => isK s r.1) = false then 2 else if R.any (fun r => decide (bitO s r = 0)) = true then 19 else if dupK R = true then 15 else if allB s R ≠ pwN s.m.length - 1 then 16 else 0 := by unfold rwsE2; rw [if_neg (by omega),if_neg h1]
 rw [e0]
 simp -implicitDefEqProofs (disch := omega) [wrap_id,h1']
 refine loop_eq (fun i : Nat => ⟨[(1,Ps h R),(2,.ref 0 0),(5,I (i : Int))],[.cells [Ps f s.k,Ps g s.m]]⟩) (fun i => i ≤ R.length ∧ ∀ k (hk : k < R.length),k < i → isK s R[k].1 = true) (fun i => R.length - i) 0 ⟨Nat.zero_le _,fun k _ hk => by omega⟩ rfl ?_
 rintro i ⟨d1,d2⟩
 refine hideK' fun K0 hK0 => ?_
 simp -implicitDefEqProofs (disch := omega) [wrap_id]
 refine c_split (fun hc => ?_) (fun hc => ?_)
 · have hi : i < R.length := by simpa using hc
   have ix : ((i : Int) + 1) = ((i + 1 : Nat) : Int) := by omega
   simp -implicitDefEqProofs (disch := omega) [wrap_id,flat2_len,flat2_n1,hi]
   refine pureW_of rfl (r_IsComb_ok f g s R[i].1) ?_
   cases hk : isK s R[i].1 with
   | false =>
     have ea : R.all (fun r => isK s r.1) = false := by rw [List.all_eq_false]; exact ⟨_,List.getElem_mem hi,by rw [hk]; decide⟩
     rw [if_pos ea] at hK0
     subst hK0
     simp -implicitDefEqProofs (disch := omega) [wrap_id,cmp2,nthT]
   | true =>
     simp -implicitDefEqProofs (disch := omega) [wrap_id,cmp2,nthT]
     rw [hK0]
     refine next_eq (i + 1) ⟨by omega,fun k h1 h2 => ?_⟩ (by omega) (by simp only [ix])
     by_cases e : k = i
     · subst e; exact hk
     · exact d2 k h1 (by omega)
 have hi : i = R.length := by simp at hc; omega
 subst hi
 subst hK0
 have ea : R.all (fun r => isK s r.1) = true := by
  rw [List.all_eq_true]
  intro r hr
  obtain ⟨k,hk,rfl⟩ := List.getElem_of_mem hr
  exact d2 k hk hk
 rw [if_neg (by rw [ea]; decide)]
 simp -implicitDefEqProofs (disch := omega) [wrap_id]
 refine loop_eq (fun i : Nat => ⟨[(1,Ps h R),(2,.ref 0 0),(6,I (orT s R i : Nat)),(7,I (i : Int))],[.cells [Ps f s.k,Ps g s.m]]⟩) (fun i => i ≤ R.length ∧ ∀ k (hk : k < R.length),k < i → bitO s R[k] ≠ 0) (fun i => R.length - i) 0 ⟨Nat.zero_le _,fun k _ hk => by omega⟩ rfl ?_
 rintro i ⟨c1,c2⟩
 refine hideK' fun K0 hK0 => ?_
 simp -implicitDefEqProofs (disch := omega) [wrap_id]
 refine c_split (fun hc => ?_) (fun hc => ?_)
 · have hi : i < R.length := by simpa using hc
   have ix : ((i : Int) + 1) = ((i + 1 : Nat) : Int) := by omega
   have e : orT s R (i + 1) = orN (orT s R i) (bitO s R[i]) := by show orN _ (bitO s (R.getD i (0,0))) = _; rw [getD_at hi]
   have o1 := orT_60 hv (l := R) (i := i)
   have o2 := bitO_60 hv R[i]
   simp -implicitDefEqProofs (disch := omega) [wrap_id,cells_pair,hi]
   refine ⟨flat2_len _,?_⟩
   refine pureW_of rfl (r_Bits_ok f g s hv R[i] (d2 i hi hi)) ?_
   by_cases hb : bitO s R[i] = 0
   · have eb : R.any (fun r => decide (bitO s r = 0)) = true := by rw [List.any_eq_true]; exact ⟨_,List.getElem_mem hi,decide_eq_true hb⟩
     rw [if_pos eb] at hK0
     subst hK0
     rw [hb]
     simp -implicitDefEqProofs (disch := omega) [wrap_id,cmp2,nthT]
   · have hb2 : ((bitO s R[i] : Int) == 0) = false := by rw [beq_eq_false_iff_ne]; omega
     simp -implicitDefEqProofs (disch := omega) [wrap_id,cmp2,nthT,hb2,cells_pair,hi]
     refine ⟨flat2_len _,?_⟩
     refine pureW_of rfl (r_Bits_ok f g s hv R[i] (d2 i hi hi)) ?_
     simp -implicitDefEqProofs (disch := omega) [wrap_id,cmp2,nthT,-b_or,bw_or,o1,o2]
     rw [hK0]
     refine next_eq (i + 1) ⟨by omega,fun k h1 h2 => ?_⟩ (by omega) (by simp only [ix,e])
     by_cases e : k = i
     · subst e; exact hb
     · exact c2 k h1 (by omega)
 have hi : i = R.length := by simp at hc; omega
 subst hi
 subst hK0
 have eb : R.any (fun r => decide (bitO s r = 0)) = false := by
  rw [List.any_eq_false]
  intro r hr
  obtain ⟨k,hk,rfl⟩ := List.getElem_of_mem hr
  have := c2 k hk hk
  simp [this]
 rw [if_neg (by rw [eb]; decide)]
 have eo : orT s R R.length = allB s R := rfl
 rw [eo]
 have o1 : allB s R < pwN s.m.length := orT_small hv
 generalize allB s R = o at *
 simp -implicitDefEqProofs (disch := omega) [wrap_id]
 refine loop_eq (fun i : Nat => ⟨[(1,Ps h R),(2,.ref 0 0),(6,I (o : Int)),(8,I (i : Int))],[.cells [Ps f s.k,Ps g s.m]]⟩) (fun i => i ≤ R.length ∧ ∀ k,k < R.length → k < i → (R.take k).contains (R.getD k (0,0)) = false) (fun i => R.length - i) 0 ⟨Nat.zero_le _,fun k _ hk => by omega⟩ rfl ?_
 rintro i ⟨c1,c3⟩
 refine hideK' fun K0 hK0 => ?_
 simp -implicitDefEqProofs (disch := omega) [wrap_id]
 refine c_split (fun hc => ?_) (fun hc => ?_)
 · have hi : i < R.length := by simpa using hc
   have ix : ((i : Int) + 1) = ((i + 1 : Nat) : Int) := by omega
   simp -implicitDefEqProofs (disch := omega) [wrap_id]
   refine loop_eq (fun j : Nat => ⟨[(1,Ps h R),(2,.ref 0 0),(6,I (o : Int)),(8,I (i : Int)),(9,I (j : Int))],[.cells [Ps f s.k,Ps g s.m]]⟩) (fun j => j ≤ i ∧ ∀ k (hk : k < R.length),k < j → R[k] ≠ R[i]) (fun j => i - j) 0 ⟨Nat.zero_le _,fun k _ hk => by omega⟩ rfl ?_
   rintro j ⟨j1,j2⟩
   refine hideK' fun K1 hK1 => ?_
   simp -implicitDefEqProofs (disch := omega) [wrap_id]
   refine c_split (fun hc => ?_) (fun hc => ?_)
   · have hj : j < i := by simpa using hc
     have hjR : j < R.length := by omega
     have jx : ((j : Int) + 1) = ((j + 1 : Nat) : Int) := by omega
     simp -implicitDefEqProofs (disch := omega) [wrap_id,cmp2,nthT,cells_pair,hi,hjR]
     refine ⟨flat2_len _,?_⟩
     rw [bing_pair]
     by_cases e : R[i] = R[j]
     · have ed : dupK R = true := by
        unfold dupK
        rw [List.any_eq_true]
        refine ⟨i,List.mem_range.2 hi,?_⟩
        rw [getD_at hi]
        exact in_take hi hj e.symm
       rw [if_pos ed] at hK0
       subst hK1
       subst hK0
       rw [decide_eq_true e]
       simp -implicitDefEqProofs (disch := omega) [wrap_id,cmp2,nthT]
     · rw [decide_eq_false e]
       simp -implicitDefEqProofs (disch := omega) [wrap_id,cmp2,nthT]
       rw [hK1]
       refine next_eq (j + 1) ⟨by omega,fun k h1 h2 => ?_⟩ (by omega) (by simp only [jx])
       by_cases e2 : k = j
       · subst e2; exact fun h => e h.symm
       · exact j2 k h1 (by omega)
   · have hj : j = i := by simp at hc; omega
     subst hj
     subst hK1
     simp -implicitDefEqProofs (disch := omega) [wrap_id]
     rw [hK0]
     refine next_eq (j + 1) ⟨by omega,fun k h1 h2 => ?_⟩ (by omega) (by simp only [ix])
     by_cases e : k = j
     · subst e
       rw [getD_at hi]
       exact not_take hi fun m hm h => j2 m hm h
     · exact c3 k h1 (by omega)
 have hi : i = R.length := by simp at hc; omega
 subst hi
 subst hK0
 have ed : dupK R = false := by
  unfold dupK
  rw [List.any_eq_false]
  intro k hk
  have := c3 k (List.mem_range.1 hk) (List.mem_range.1 hk)
  rw [this]; decide
 rw [if_neg (by rw [ed]; decide)]
 generalize hp : pwN s.m.length = p at *
 simp -implicitDefEqProofs (disch := omega) [wrap_id,-b_shl,bw_shl,hp]
 by_cases e : o = p - 1
 · have e1 : ((o : Int) != (p : Int) - 1) = false := by rw [bne_eq_false_iff_eq]; omega
   rw [if_pos e]
   simp -implicitDefEqProofs (disch := omega) [wrap_id,e1]
 · have e1 : ((o : Int) != (p : Int) - 1) = true := by rw [bne_iff_ne]; omega
   rw [if_neg e]
   simp -implicitDefEqProofs (disch := omega) [wrap_id,e1]
end Go.AM

namespace Go.AM
open Go.RowKit Go.Proofs
def frsK : List Int → List Int → Bool
 | x :: a,y :: b => if x = y then frsK a b else decide (x < y)
 | _,_ => false
theorem gcd_step (a b : Nat) (h : b ≠ 0) : Nat.gcd b (a % b) = Nat.gcd a b := by
 rw [Nat.gcd_comm a b,Nat.gcd_rec b a,Nat.gcd_comm]
end Go.AM

namespace Go.AM
open Go.RowKit Go.Proofs
def Both (one two a o x : Int) : Prop := one ∣ x - a ∧ two ∣ x - o
def okM (one two a o : Int) : Prop := (1 ≤ one ∧ one ≤ 50) ∧ (1 ≤ two ∧ two ≤ 50) ∧ (0 ≤ a ∧ a ≤ 500) ∧ 0 ≤ o ∧ o ≤ 500
def farM (one two : Int) : Int := one / (Nat.gcd one.toNat two.toNat : Nat) * two
def AnsM (one two a o n far e : Int) : Prop :=
 (¬ okM one two a o ∧ n = 0 ∧ far = 0 ∧ e = 2) ∨ (okM one two a o ∧ (((∀ x,max a o ≤ x → ¬ Both one two a o x) ∧ n = 0 ∧ far = 0 ∧ e = 5) ∨ (max a o ≤ n ∧ Both one two a o n ∧ (∀ x,max a o ≤ x → x < n → ¬ Both one two a o x) ∧ far = farM one two ∧ e = 0)))
theorem farM_ok {one two : Int} (h1 : 1 ≤ one ∧ one ≤ 50) (h2 : 1 ≤ two ∧ two ≤ 50) : one ∣ farM one two ∧ two ∣ farM one two ∧ 1 ≤ farM one two ∧ farM one two ≤ 2500 ∧ one / (Nat.gcd one.toNat two.toNat : Nat) ≤ 50 ∧ 1 ≤ one / (Nat.gcd one.toNat two.toNat : Nat) := by
 unfold farM
 obtain ⟨p,rfl⟩ : ∃ p : Nat,one = p := ⟨one.toNat,by omega⟩
 obtain ⟨q,rfl⟩ : ∃ q : Nat,two = q := ⟨two.toNat,by omega⟩
 simp only [Int.toNat_natCast]
 have g1 := Nat.gcd_dvd_left p q
 have g2 := Nat.gcd_dvd_right p q
 have gp : 0 < Nat.gcd p q := Nat.gcd_pos_of_pos_left _ (by omega)
 obtain ⟨c,hc⟩ := g1
 obtain ⟨d,hd⟩ := g2
 have e : (p : Int) / (Nat.gcd p q : Nat) = (c : Int) := by
  rw [← Int.natCast_ediv]
  congr 1
  rw [Nat.div_eq_of_eq_mul_right gp hc]
 rw [e]
 have cp : c ≤ p := by rw [hc]; exact Nat.le_mul_of_pos_left _ gp
 have c0 : 1 ≤ c := by
  apply Classical.byContradiction; intro h
  have : c = 0 := by omega
  rw [this] at hc; simp at hc; omega
 have m1 : c * q ≤ 50 * 50 := Nat.mul_le_mul (by omega) (by omega)
 have m2 : 1 * 1 ≤ c * q := Nat.mul_le_mul c0 (by omega)
 refine ⟨⟨(d : Int),?_⟩,⟨(c : Int),by rw [Int.mul_comm]⟩,by rw [← Int.natCast_mul]; omega,by rw [← Int.natCast_mul]; omega,by omega,by omega⟩
 rw [← Int.natCast_mul,← Int.natCast_mul]
 congr 1
 have k1 : c * q = c * (Nat.gcd p q * d) := by rw [← hd]
 have k2 : p * d = Nat.gcd p q * c * d := by rw [← hc]
 rw [k1,k2,Nat.mul_comm (Nat.gcd p q) c,Nat.mul_assoc]
theorem both_mod {one two a o x f y : Int} (h1 : one ∣ f) (h2 : two ∣ f) (h : Both one two a o x) (k : Int) (e : x = y + k * f) : Both one two a o y := by
 obtain ⟨b1,b2⟩ := h
 have e1 : y - a = (x - a) - k * f := by omega
 have e2 : y - o = (x - o) - k * f := by omega
 exact ⟨by rw [e1]; exact Int.dvd_sub b1 (Int.dvd_mul_of_dvd_right h1),by rw [e2]; exact Int.dvd_sub b2 (Int.dvd_mul_of_dvd_right h2)⟩
theorem tup3 {hp : List HObj} {a b e : Int} : Out (.tup [I a,I b,I e]) (.tup [I a,I b,I e]) hp := out_of (is := []) rfl
end Go.AM

set_option maxRecDepth 100000
namespace Go.AM
open Go.RowKit Go.Proofs
abbrev n_s_ContainsFuncK : Nat := 69
def G_s_ContainsFuncK : AC := (.seq (.rgn [⟨none,[(.mv 4 (.k (B false)))]⟩] [0,1]) (.seq (.rgn [⟨none,[(.mv 5 (.t 0)),(.mv 6 (.t 1)),(.call 7 95 [(.t 5),(.t 6)]),(.bin 8 .geq (.t 7) (.k (I 0))),(.mv 4 (.t 8))]⟩] [4]) .ret))
theorem func_s_ContainsFuncK : Tryz.prog.funcs[n_s_ContainsFuncK]? = some Tryz.f69 := Tryz.func69
theorem form_s_ContainsFuncK : formOf Tryz.prog Tryz.f69 [4] = some G_s_ContainsFuncK := by kernel_rfl
theorem res_s_ContainsFuncK : resTmps Tryz.f69.results.toList = some [4] := by kernel_rfl
abbrev n_s_SortFuncR : Nat := 74
def G_s_SortFuncR : AC := (.seq (.rgn [⟨none,[(.mv 5 (.t 0)),(.len 6 (.t 5)),(.mv 4 (.t 6))]⟩] [0,1,4]) (.rgn [⟨none,[(.mv 7 (.t 0)),(.mv 8 (.t 4)),(.mv 9 (.t 4)),(.cnv 10 .u64 (.t 9)),(.call 11 100 [(.t 10)]),(.mv 12 (.t 1)),(.call 13 99 [(.t 7),(.k (I 0)),(.t 8),(.t 11),(.t 12)])]⟩] []))
theorem func_s_SortFuncR : Tryz.prog.funcs[n_s_SortFuncR]? = some Tryz.f74 := Tryz.func74
theorem form_s_SortFuncR : formOf Tryz.prog Tryz.f74 [] = some G_s_SortFuncR := by kernel_rfl
theorem res_s_SortFuncR : resTmps Tryz.f74.results.toList = some [] := by kernel_rfl
abbrev n_c_Or : Nat := 76
def G_c_Or : AC := (.seq (.rgn [⟨none,[(.mv 2 (.k (I 0)))]⟩] [0]) (.seq (.rgn [⟨none,[(.mv 3 (.k (I 0)))]⟩] [0,3]) (.seq (.seq (.rgn [⟨none,[(.mv 6 (.t 0)),(.len 7 (.t 6)),(.mv 8 (.k (I 0)))]⟩] [3,6,7,8]) (.block 0 (.loop (.seq (.rgn [⟨none,[(.bin 9 .lss (.t 8) (.t 7))]⟩] [3,6,7,8,9]) (.seq (.cond (.t 9) .skip (.exit 0)) (.seq (.block 1 (.seq (.rgn [⟨none,[(.ia 10 1 (.t 6) (.t 8)),(.ld 11 false 1 (.t 10)),(.mv 5 (.t 11))]⟩] [3,5,6,7,8]) (.seq (.rgn [⟨none,[(.mv 12 (.t 5)),(.mv 13 (.t 3)),(.bin 14 .neq (.t 12) (.t 13))]⟩] [3,5,6,7,8,14]) (.cond (.t 14) (.seq (.rgn [⟨none,[(.mv 15 (.t 5)),(.mv 2 (.t 15))]⟩] [2]) .ret) .skip)))) (.rgn [⟨none,[(.bin 16 .add (.t 8) (.k (I 1))),(.mv 8 (.t 16))]⟩] [3,6,7,8]))))))) (.seq (.rgn [⟨none,[(.mv 17 (.t 3)),(.mv 2 (.t 17))]⟩] [2]) .ret))))
theorem func_c_Or : Tryz.prog.funcs[n_c_Or]? = some Tryz.f76 := Tryz.func76
theorem form_c_Or : formOf Tryz.prog Tryz.f76 [2] = some G_c_Or := by kernel_rfl
theorem res_c_Or : resTmps Tryz.f76.results.toList = some [2] := by kernel_rfl
abbrev n_c_Compare : Nat := 77
def G_c_Compare : AC := (.seq (.rgn [⟨none,[(.mv 4 (.k (I 0)))]⟩] [0,1]) (.seq (.rgn [⟨none,[(.mv 7 (.t 0)),(.call 8 101 [(.t 7)]),(.mv 5 (.t 8))]⟩] [0,1,5]) (.seq (.rgn [⟨none,[(.mv 9 (.t 1)),(.call 10 101 [(.t 9)]),(.mv 6 (.t 10))]⟩] [0,1,5,6]) (.seq (.seq (.rgn [⟨none,[(.mv 11 (.t 5))]⟩] [0,1,6,11]) (.cond (.t 11) (.seq (.seq (.rgn [⟨none,[(.mv 12 (.t 6))]⟩] [12]) (.cond (.t 12) (.seq (.rgn [⟨none,[(.mv 4 (.k (I 0)))]⟩] [4]) .ret) .skip)) (.seq (.rgn [⟨none,[(.mv 4 (.k (I (-1))))]⟩] [4]) .ret)) .skip)) (.seq (.seq (.rgn [⟨none,[(.mv 13 (.t 6))]⟩] [0,1,13]) (.cond (.t 13) (.seq (.rgn [⟨none,[(.mv 4 (.k (I 1)))]⟩] [4]) .ret) .skip)) (.seq (.seq (.rgn [⟨none,[(.mv 14 (.t 0)),(.mv 15 (.t 1)),(.bin 16 .lss (.t 14) (.t 15))]⟩] [0,1,16]) (.cond (.t 16) (.seq (.rgn [⟨none,[(.mv 4 (.k (I (-1))))]⟩] [4]) .ret) .skip)) (.seq (.seq (.rgn [⟨none,[(.mv 17 (.t 0)),(.mv 18 (.t 1)),(.bin 19 .gtr (.t 17) (.t 18))]⟩] [19]) (.cond (.t 19) (.seq (.rgn [⟨none,[(.mv 4 (.k (I 1)))]⟩] [4]) .ret) .skip)) (.seq (.rgn [⟨none,[(.mv 4 (.k (I 0)))]⟩] [4]) .ret))))))))
theorem func_c_Compare : Tryz.prog.funcs[n_c_Compare]? = some Tryz.f77 := Tryz.func77
theorem form_c_Compare : formOf Tryz.prog Tryz.f77 [4] = some G_c_Compare := by kernel_rfl
theorem res_c_Compare : resTmps Tryz.f77.results.toList = some [4] := by kernel_rfl
abbrev n_s_ContainsFuncR : Nat := 80
def G_s_ContainsFuncR : AC := (.seq (.rgn [⟨none,[(.mv 4 (.k (B false)))]⟩] [0,1]) (.seq (.rgn [⟨none,[(.mv 5 (.t 0)),(.mv 6 (.t 1)),(.call 7 102 [(.t 5),(.t 6)]),(.bin 8 .geq (.t 7) (.k (I 0))),(.mv 4 (.t 8))]⟩] [4]) .ret))
theorem func_s_ContainsFuncR : Tryz.prog.funcs[n_s_ContainsFuncR]? = some Tryz.f80 := Tryz.func80
theorem form_s_ContainsFuncR : formOf Tryz.prog Tryz.f80 [4] = some G_s_ContainsFuncR := by kernel_rfl
theorem res_s_ContainsFuncR : resTmps Tryz.f80.results.toList = some [4] := by kernel_rfl
abbrev n_b_TrailingZeros : Nat := 91
def G_b_TrailingZeros : AC := (.seq (.rgn [⟨none,[(.mv 2 (.k (I 0)))]⟩] [0]) (.seq (.cond (.k (B false)) (.seq (.rgn [⟨none,[(.mv 3 (.t 0)),(.cnv 4 .u32 (.t 3)),(.call 5 106 [(.t 4)]),(.mv 2 (.t 5))]⟩] [2]) .ret) .skip) (.seq (.rgn [⟨none,[(.mv 6 (.t 0)),(.call 7 107 [(.t 6)]),(.mv 2 (.t 7))]⟩] [2]) .ret)))
theorem func_b_TrailingZeros : Tryz.prog.funcs[n_b_TrailingZeros]? = some Tryz.f91 := Tryz.func91
theorem form_b_TrailingZeros : formOf Tryz.prog Tryz.f91 [2] = some G_b_TrailingZeros := by kernel_rfl
theorem res_b_TrailingZeros : resTmps Tryz.f91.results.toList = some [2] := by kernel_rfl
abbrev n_s_ContainsFuncW : Nat := 93
def G_s_ContainsFuncW : AC := (.seq (.rgn [⟨none,[(.mv 4 (.k (B false)))]⟩] [0,1]) (.seq (.rgn [⟨none,[(.mv 5 (.t 0)),(.mv 6 (.t 1)),(.call 7 108 [(.t 5),(.t 6)]),(.bin 8 .geq (.t 7) (.k (I 0))),(.mv 4 (.t 8))]⟩] [4]) .ret))
theorem func_s_ContainsFuncW : Tryz.prog.funcs[n_s_ContainsFuncW]? = some Tryz.f93 := Tryz.func93
theorem form_s_ContainsFuncW : formOf Tryz.prog Tryz.f93 [4] = some G_s_ContainsFuncW := by kernel_rfl
theorem res_s_ContainsFuncW : resTmps Tryz.f93.results.toList = some [4] := by kernel_rfl
abbrev n_s_IndexFuncK : Nat := 95
def G_s_IndexFuncK : AC := (.seq (.rgn [⟨none,[(.mv 4 (.k (I 0)))]⟩] [0,1]) (.seq (.seq (.rgn [⟨none,[(.mv 6 (.t 0)),(.len 7 (.t 6)),(.mv 8 (.k (I 0)))]⟩] [0,1,7,8]) (.block 0 (.loop (.seq (.rgn [⟨none,[(.bin 9 .lss (.t 8) (.t 7))]⟩] [0,1,7,8,9]) (.seq (.cond (.t 9) .skip (.exit 0)) (.seq (.block 1 (.seq (.rgn [⟨none,[(.mv 10 (.t 8)),(.mv 5 (.t 10))]⟩] [0,1,5,7,8]) (.seq (.rgn [⟨none,[(.mv 11 (.t 1)),(.mv 12 (.t 0)),(.mv 13 (.t 5)),(.ia 14 2 (.t 12) (.t 13)),(.ld 15 true 2 (.t 14)),(.callv 16 (.t 11) [(.t 15)])]⟩] [0,1,5,7,8,16]) (.cond (.t 16) (.seq (.rgn [⟨none,[(.mv 17 (.t 5)),(.mv 4 (.t 17))]⟩] [4]) .ret) .skip)))) (.rgn [⟨none,[(.bin 18 .add (.t 8) (.k (I 1))),(.mv 8 (.t 18))]⟩] [0,1,7,8]))))))) (.seq (.rgn [⟨none,[(.mv 4 (.k (I (-1))))]⟩] [4]) .ret)))
theorem func_s_IndexFuncK : Tryz.prog.funcs[n_s_IndexFuncK]? = some Tryz.f95 := Tryz.func95
theorem form_s_IndexFuncK : formOf Tryz.prog Tryz.f95 [4] = some G_s_IndexFuncK := by kernel_rfl
theorem res_s_IndexFuncK : resTmps Tryz.f95.results.toList = some [4] := by kernel_rfl
abbrev n_s_ContainsFuncL : Nat := 96
def G_s_ContainsFuncL : AC := (.seq (.rgn [⟨none,[(.mv 4 (.k (B false)))]⟩] [0,1]) (.seq (.rgn [⟨none,[(.mv 5 (.t 0)),(.mv 6 (.t 1)),(.call 7 109 [(.t 5),(.t 6)]),(.bin 8 .geq (.t 7) (.k (I 0))),(.mv 4 (.t 8))]⟩] [4]) .ret))
theorem func_s_ContainsFuncL : Tryz.prog.funcs[n_s_ContainsFuncL]? = some Tryz.f96 := Tryz.func96
theorem form_s_ContainsFuncL : formOf Tryz.prog Tryz.f96 [4] = some G_s_ContainsFuncL := by kernel_rfl
theorem res_s_ContainsFuncL : resTmps Tryz.f96.results.toList = some [4] := by kernel_rfl
abbrev n_s_pdqsortCmpFuncR : Nat := 99
def G_s_pdqsortCmpFuncR : AC := (.seq (.rgn [⟨none,[(.mv 10 (.k (B true)))]⟩] [0,1,2,3,4,10]) (.seq (.rgn [⟨none,[(.mv 11 (.k (B true)))]⟩] [0,1,2,3,4,10,11]) (.block 0 (.loop (.block 1 (.seq (.rgn [⟨none,[(.mv 21 (.t 2)),(.mv 22 (.t 1)),(.bin 23 .sub (.t 21) (.t 22)),(.mv 12 (.t 23))]⟩] [0,1,2,3,4,10,11,12]) (.seq (.seq (.rgn [⟨none,[(.mv 24 (.t 12)),(.bin 25 .leq (.t 24) (.k (I 12)))]⟩] [0,1,2,3,4,10,11,12,25]) (.cond (.t 25) (.seq (.rgn [⟨none,[(.mv 26 (.t 0)),(.mv 27 (.t 1)),(.mv 28 (.t 2)),(.mv 29 (.t 4)),(.call 30 112 [(.t 26),(.t 27),(.t 28),(.t 29)])]⟩] []) .ret) .skip)) (.seq (.seq (.rgn [⟨none,[(.mv 31 (.t 3)),(.bin 32 .eql (.t 31) (.k (I 0)))]⟩] [0,1,2,3,4,10,11,12,32]) (.cond (.t 32) (.seq (.rgn [⟨none,[(.mv 33 (.t 0)),(.mv 34 (.t 1)),(.mv 35 (.t 2)),(.mv 36 (.t 4)),(.call 37 113 [(.t 33),(.t 34),(.t 35),(.t 36)])]⟩] []) .ret) .skip)) (.seq (.seq (.rgn [⟨none,[(.mv 38 (.t 10)),(.un 39 .not (.t 38))]⟩] [0,1,2,3,4,10,11,12,39]) (.cond (.t 39) (.seq (.rgn [⟨none,[(.mv 40 (.t 0)),(.mv 41 (.t 1)),(.mv 42 (.t 2)),(.mv 43 (.t 4)),(.call 44 114 [(.t 40),(.t 41),(.t 42),(.t 43)])]⟩] [0,1,2,3,4,10,11,12]) (.rgn [⟨none,[(.mv 45 (.t 3)),(.bin 46 .sub (.t 45) (.k (I 1))),(.mv 3 (.t 46))]⟩] [0,1,2,3,4,10,11,12])) .skip)) (.seq (.rgn [⟨none,[(.mv 48 (.t 0)),(.mv 49 (.t 1)),(.mv 50 (.t 2)),(.mv 51 (.t 4)),(.call 52 115 [(.t 48),(.t 49),(.t 50),(.t 51)]),(.mv 47 (.t 52)),(.ext 53 (.t 47) 0),(.ext 54 (.t 47) 1),(.mv 13 (.t 53)),(.mv 14 (.t 54))]⟩] [0,1,2,3,4,10,11,12,13,14]) (.seq (.seq (.rgn [⟨none,[(.mv 55 (.t 14)),(.bin 56 .eql (.t 55) (.k (I 2)))]⟩] [0,1,2,3,4,10,11,12,13,14,56]) (.cond (.t 56) (.seq (.rgn [⟨none,[(.mv 57 (.t 0)),(.mv 58 (.t 1)),(.mv 59 (.t 2)),(.mv 60 (.t 4)),(.call 61 116 [(.t 57),(.t 58),(.t 59),(.t 60)])]⟩] [0,1,2,3,4,10,11,12,13]) (.seq (.rgn [⟨none,[(.mv 62 (.t 2)),(.bin 63 .sub (.t 62) (.k (I 1))),(.mv 64 (.t 13)),(.mv 65 (.t 1)),(.bin 66 .sub (.t 64) (.t 65)),(.bin 67 .sub (.t 63) (.t 66)),(.mv 13 (.t 67))]⟩] [0,1,2,3,4,10,11,12,13]) (.rgn [⟨none,[(.mv 14 (.k (I 1)))]⟩] [0,1,2,3,4,10,11,12,13,14]))) .skip)) (.seq (.seq (.rgn [⟨none,[(.mv 68 (.t 10)),(.mv 69 (.t 68))]⟩,⟨(some (69,true)),[(.mv 70 (.t 11))]⟩,⟨none,[(.pick 71 (.t 69) (.t 70) (.k (B false))),(.mv 72 (.t 71))]⟩,⟨(some (72,true)),[(.mv 73 (.t 14)),(.bin 74 .eql (.t 73) (.k (I 1)))]⟩,⟨none,[(.pick 75 (.t 72) (.t 74) (.k (B false)))]⟩] [0,1,2,3,4,10,11,12,13,75]) (.cond (.t 75) (.seq (.rgn [⟨none,[(.mv 76 (.t 0)),(.mv 77 (.t 1)),(.mv 78 (.t 2)),(.mv 79 (.t 4)),(.call 80 117 [(.t 76),(.t 77),(.t 78),(.t 79)])]⟩] [0,1,2,3,4,10,11,12,13,80]) (.cond (.t 80) .ret .skip)) .skip)) (.seq (.seq (.drw [⟨none,[(.mv 81 (.t 1)),(.bin 82 .gtr (.t 81) (.k (I 0))),(.mv 83 (.t 82))]⟩,⟨(some (83,true)),[(.mv 84 (.t 4)),(.mv 85 (.t 0)),(.mv 86 (.t 1)),(.bin 87 .sub (.t 86) (.k (I 1))),(.ia 88 2 (.t 85) (.t 87)),(.ld 89 true 2 (.t 88)),(.mv 90 (.t 0)),(.mv 91 (.t 13)),(.ia 92 2 (.t 90) (.t 91)),(.ld 93 true 2 (.t 92)),(.callv 94 (.t 84) [(.t 89),(.t 93)]),(.bin 95 .lss (.t 94) (.k (I 0))),(.un 96 .not (.t 95))]⟩,⟨none,[(.pick 97 (.t 83) (.t 96) (.k (B false)))]⟩] [(8,12)] [0,1,2,3,4,10,11,12,13,97]) (.cond (.t 97) (.seq (.rgn [⟨none,[(.mv 98 (.t 0)),(.mv 99 (.t 1)),(.mv 100 (.t 2)),(.mv 101 (.t 13)),(.mv 102 (.t 4)),(.call 103 118 [(.t 98),(.t 99),(.t 100),(.t 101),(.t 102)]),(.mv 15 (.t 103))]⟩] [0,2,3,4,10,11,15]) (.seq (.rgn [⟨none,[(.mv 104 (.t 15)),(.mv 1 (.t 104))]⟩] [0,1,2,3,4,10,11]) (.exit 1))) .skip)) (.seq (.rgn [⟨none,[(.mv 106 (.t 0)),(.mv 107 (.t 1)),(.mv 108 (.t 2)),(.mv 109 (.t 13)),(.mv 110 (.t 4)),(.call 111 119 [(.t 106),(.t 107),(.t 108),(.t 109),(.t 110)]),(.mv 105 (.t 111)),(.ext 112 (.t 105) 0),(.ext 113 (.t 105) 1),(.mv 16 (.t 112)),(.mv 17 (.t 113))]⟩] [0,1,2,3,4,12,16,17]) (.seq (.rgn [⟨none,[(.mv 114 (.t 17)),(.mv 11 (.t 114))]⟩] [0,1,2,3,4,11,12,16]) (.seq (.rgn [⟨none,[(.mv 115 (.t 16)),(.mv 116 (.t 1)),(.bin 117 .sub (.t 115) (.t 116)),(.mv 118 (.t 2)),(.mv 119 (.t 16)),(.bin 120 .sub (.t 118) (.t 119)),(.mv 18 (.t 117)),(.mv 19 (.t 120))]⟩] [0,1,2,3,4,11,12,16,18,19]) (.seq (.rgn [⟨none,[(.mv 121 (.t 12)),(.bin 122 .quo (.t 121) (.k (I 8))),(.mv 20 (.t 122))]⟩] [0,1,2,3,4,11,16,18,19,20]) (.seq (.rgn [⟨none,[(.mv 123 (.t 18)),(.mv 124 (.t 19)),(.bin 125 .lss (.t 123) (.t 124))]⟩] [0,1,2,3,4,11,16,18,19,20,125]) (.cond (.t 125) (.seq (.rgn [⟨none,[(.mv 126 (.t 18)),(.mv 127 (.t 20)),(.bin 128 .geq (.t 126) (.t 127)),(.mv 10 (.t 128))]⟩] [0,1,2,3,4,10,11,16]) (.seq (.rgn [⟨none,[(.mv 129 (.t 0)),(.mv 130 (.t 1)),(.mv 131 (.t 16)),(.mv 132 (.t 3)),(.mv 133 (.t 4)),(.call 134 99 [(.t 129),(.t 130),(.t 131),(.t 132),(.t 133)])]⟩] [0,2,3,4,10,11,16]) (.rgn [⟨none,[(.mv 135 (.t 16)),(.bin 136 .add (.t 135) (.k (I 1))),(.mv 1 (.t 136))]⟩] [0,1,2,3,4,10,11]))) (.seq (.rgn [⟨none,[(.mv 137 (.t 19)),(.mv 138 (.t 20)),(.bin 139 .geq (.t 137) (.t 138)),(.mv 10 (.t 139))]⟩] [0,1,2,3,4,10,11,16]) (.seq (.rgn [⟨none,[(.mv 140 (.t 0)),(.mv 141 (.t 16)),(.bin 142 .add (.t 141) (.k (I 1))),(.mv 143 (.t 2)),(.mv 144 (.t 3)),(.mv 145 (.t 4)),(.call 146 99 [(.t 140),(.t 142),(.t 143),(.t 144),(.t 145)])]⟩] [0,1,3,4,10,11,16]) (.rgn [⟨none,[(.mv 147 (.t 16)),(.mv 2 (.t 147))]⟩] [0,1,2,3,4,10,11]))))))))))))))))))))))
theorem func_s_pdqsortCmpFuncR : Tryz.prog.funcs[n_s_pdqsortCmpFuncR]? = some Tryz.f99 := Tryz.func99
theorem form_s_pdqsortCmpFuncR : formOf Tryz.prog Tryz.f99 [] = some G_s_pdqsortCmpFuncR := by kernel_rfl
theorem res_s_pdqsortCmpFuncR : resTmps Tryz.f99.results.toList = some [] := by kernel_rfl
abbrev n_b_Len : Nat := 100
def G_b_Len : AC := (.seq (.rgn [⟨none,[(.mv 2 (.k (I 0)))]⟩] [0]) (.seq (.cond (.k (B false)) (.seq (.rgn [⟨none,[(.mv 3 (.t 0)),(.cnv 4 .u32 (.t 3)),(.call 5 120 [(.t 4)]),(.mv 2 (.t 5))]⟩] [2]) .ret) .skip) (.seq (.rgn [⟨none,[(.mv 6 (.t 0)),(.call 7 121 [(.t 6)]),(.mv 2 (.t 7))]⟩] [2]) .ret)))
theorem func_b_Len : Tryz.prog.funcs[n_b_Len]? = some Tryz.f100 := Tryz.func100
theorem form_b_Len : formOf Tryz.prog Tryz.f100 [2] = some G_b_Len := by kernel_rfl
theorem res_b_Len : resTmps Tryz.f100.results.toList = some [2] := by kernel_rfl
abbrev n_c_isNaN : Nat := 101
def G_c_isNaN : AC := (.seq (.rgn [⟨none,[(.mv 2 (.k (B false)))]⟩] [0]) (.seq (.rgn [⟨none,[(.mv 3 (.t 0)),(.mv 4 (.t 0)),(.bin 5 .neq (.t 3) (.t 4)),(.mv 2 (.t 5))]⟩] [2]) .ret))
theorem func_c_isNaN : Tryz.prog.funcs[n_c_isNaN]? = some Tryz.f101 := Tryz.func101
theorem form_c_isNaN : formOf Tryz.prog Tryz.f101 [2] = some G_c_isNaN := by kernel_rfl
theorem res_c_isNaN : resTmps Tryz.f101.results.toList = some [2] := by kernel_rfl
abbrev n_s_IndexFuncR : Nat := 102
def G_s_IndexFuncR : AC := (.seq (.rgn [⟨none,[(.mv 4 (.k (I 0)))]⟩] [0,1]) (.seq (.seq (.rgn [⟨none,[(.mv 6 (.t 0)),(.len 7 (.t 6)),(.mv 8 (.k (I 0)))]⟩] [0,1,7,8]) (.block 0 (.loop (.seq (.rgn [⟨none,[(.bin 9 .lss (.t 8) (.t 7))]⟩] [0,1,7,8,9]) (.seq (.cond (.t 9) .skip (.exit 0)) (.seq (.block 1 (.seq (.rgn [⟨none,[(.mv 10 (.t 8)),(.mv 5 (.t 10))]⟩] [0,1,5,7,8]) (.seq (.rgn [⟨none,[(.mv 11 (.t 1)),(.mv 12 (.t 0)),(.mv 13 (.t 5)),(.ia 14 2 (.t 12) (.t 13)),(.ld 15 true 2 (.t 14)),(.callv 16 (.t 11) [(.t 15)])]⟩] [0,1,5,7,8,16]) (.cond (.t 16) (.seq (.rgn [⟨none,[(.mv 17 (.t 5)),(.mv 4 (.t 17))]⟩] [4]) .ret) .skip)))) (.rgn [⟨none,[(.bin 18 .add (.t 8) (.k (I 1))),(.mv 8 (.t 18))]⟩] [0,1,7,8]))))))) (.seq (.rgn [⟨none,[(.mv 4 (.k (I (-1))))]⟩] [4]) .ret)))
theorem func_s_IndexFuncR : Tryz.prog.funcs[n_s_IndexFuncR]? = some Tryz.f102 := Tryz.func102
theorem form_s_IndexFuncR : formOf Tryz.prog Tryz.f102 [4] = some G_s_IndexFuncR := by kernel_rfl
theorem res_s_IndexFuncR : resTmps Tryz.f102.results.toList = some [4] := by kernel_rfl
abbrev n_b_OnesCount : Nat := 103
def G_b_OnesCount : AC := (.seq (.rgn [⟨none,[(.mv 2 (.k (I 0)))]⟩] [0]) (.seq (.cond (.k (B false)) (.seq (.rgn [⟨none,[(.mv 3 (.t 0)),(.cnv 4 .u32 (.t 3)),(.call 5 122 [(.t 4)]),(.mv 2 (.t 5))]⟩] [2]) .ret) .skip) (.seq (.rgn [⟨none,[(.mv 6 (.t 0)),(.call 7 123 [(.t 6)]),(.mv 2 (.t 7))]⟩] [2]) .ret)))
theorem func_b_OnesCount : Tryz.prog.funcs[n_b_OnesCount]? = some Tryz.f103 := Tryz.func103
theorem form_b_OnesCount : formOf Tryz.prog Tryz.f103 [2] = some G_b_OnesCount := by kernel_rfl
theorem res_b_OnesCount : resTmps Tryz.f103.results.toList = some [2] := by kernel_rfl
abbrev n_b_TrailingZeros64 : Nat := 107
abbrev n_s_IndexFuncW : Nat := 108
def G_s_IndexFuncW : AC := (.seq (.rgn [⟨none,[(.mv 4 (.k (I 0)))]⟩] [0,1]) (.seq (.seq (.rgn [⟨none,[(.mv 6 (.t 0)),(.len 7 (.t 6)),(.mv 8 (.k (I 0)))]⟩] [0,1,7,8]) (.block 0 (.loop (.seq (.rgn [⟨none,[(.bin 9 .lss (.t 8) (.t 7))]⟩] [0,1,7,8,9]) (.seq (.cond (.t 9) .skip (.exit 0)) (.seq (.block 1 (.seq (.rgn [⟨none,[(.mv 10 (.t 8)),(.mv 5 (.t 10))]⟩] [0,1,5,7,8]) (.seq (.rgn [⟨none,[(.mv 11 (.t 1)),(.mv 12 (.t 0)),(.mv 13 (.t 5)),(.ia 14 1 (.t 12) (.t 13)),(.ld 15 false 1 (.t 14)),(.callv 16 (.t 11) [(.t 15)])]⟩] [0,1,5,7,8,16]) (.cond (.t 16) (.seq (.rgn [⟨none,[(.mv 17 (.t 5)),(.mv 4 (.t 17))]⟩] [4]) .ret) .skip)))) (.rgn [⟨none,[(.bin 18 .add (.t 8) (.k (I 1))),(.mv 8 (.t 18))]⟩] [0,1,7,8]))))))) (.seq (.rgn [⟨none,[(.mv 4 (.k (I (-1))))]⟩] [4]) .ret)))
theorem func_s_IndexFuncW : Tryz.prog.funcs[n_s_IndexFuncW]? = some Tryz.f108 := Tryz.func108
theorem form_s_IndexFuncW : formOf Tryz.prog Tryz.f108 [4] = some G_s_IndexFuncW := by kernel_rfl
theorem res_s_IndexFuncW : resTmps Tryz.f108.results.toList = some [4] := by kernel_rfl
abbrev n_s_IndexFuncL : Nat := 109
def G_s_IndexFuncL : AC := (.seq (.rgn [⟨none,[(.mv 4 (.k (I 0)))]⟩] [0,1]) (.seq (.seq (.rgn [⟨none,[(.mv 6 (.t 0)),(.len 7 (.t 6)),(.mv 8 (.k (I 0)))]⟩] [0,1,7,8]) (.block 0 (.loop (.seq (.rgn [⟨none,[(.bin 9 .lss (.t 8) (.t 7))]⟩] [0,1,7,8,9]) (.seq (.cond (.t 9) .skip (.exit 0)) (.seq (.block 1 (.seq (.rgn [⟨none,[(.mv 10 (.t 8)),(.mv 5 (.t 10))]⟩] [0,1,5,7,8]) (.seq (.rgn [⟨none,[(.mv 11 (.t 1)),(.mv 12 (.t 0)),(.mv 13 (.t 5)),(.ia 14 1 (.t 12) (.t 13)),(.ld 15 false 1 (.t 14)),(.callv 16 (.t 11) [(.t 15)])]⟩] [0,1,5,7,8,16]) (.cond (.t 16) (.seq (.rgn [⟨none,[(.mv 17 (.t 5)),(.mv 4 (.t 17))]⟩] [4]) .ret) .skip)))) (.rgn [⟨none,[(.bin 18 .add (.t 8) (.k (I 1))),(.mv 8 (.t 18))]⟩] [0,1,7,8]))))))) (.seq (.rgn [⟨none,[(.mv 4 (.k (I (-1))))]⟩] [4]) .ret)))
theorem func_s_IndexFuncL : Tryz.prog.funcs[n_s_IndexFuncL]? = some Tryz.f109 := Tryz.func109
theorem form_s_IndexFuncL : formOf Tryz.prog Tryz.f109 [4] = some G_s_IndexFuncL := by kernel_rfl
theorem res_s_IndexFuncL : resTmps Tryz.f109.results.toList = some [4] := by kernel_rfl
abbrev n_s_SortedT : Nat := 110
def G_s_SortedT : AC := (.seq (.rgn [⟨none,[(.mv 2 (.k (.sl true 0 [])))]⟩] [0]) (.seq (.rgn [⟨none,[(.mv 4 (.t 0)),(.call 5 124 [(.t 4)]),(.mv 3 (.t 5))]⟩] [3]) (.seq (.rgn [⟨none,[(.mv 6 (.t 3)),(.call 7 125 [(.t 6)])]⟩] [3]) (.seq (.rgn [⟨none,[(.mv 8 (.t 3)),(.mv 2 (.t 8))]⟩] [2]) .ret))))
theorem func_s_SortedT : Tryz.prog.funcs[n_s_SortedT]? = some Tryz.f110 := Tryz.func110
theorem form_s_SortedT : formOf Tryz.prog Tryz.f110 [2] = some G_s_SortedT := by kernel_rfl
theorem res_s_SortedT : resTmps Tryz.f110.results.toList = some [2] := by kernel_rfl
abbrev n_m_KeysM : Nat := 111
def G_m_KeysM : AC := (.seq (.rgn [⟨none,[(.box 1 1 (.t 0)),(.mv 2 (.k (.v .nilFunc)))]⟩] [1]) (.seq (.rgn [⟨none,[(.mkf 3 (.func 126) [] [(.t 1)]),(.mv 2 (.t 3))]⟩] [2]) .ret))
theorem func_m_KeysM : Tryz.prog.funcs[n_m_KeysM]? = some Tryz.f111 := Tryz.func111
theorem form_m_KeysM : formOf Tryz.prog Tryz.f111 [2] = some G_m_KeysM := by kernel_rfl
theorem res_m_KeysM : resTmps Tryz.f111.results.toList = some [2] := by kernel_rfl
abbrev n_s_insertionSortCmpFuncR : Nat := 112
def G_s_insertionSortCmpFuncR : AC := (.seq (.rgn [⟨none,[(.mv 10 (.t 1)),(.bin 11 .add (.t 10) (.k (I 1))),(.mv 8 (.t 11))]⟩] [0,1,2,3,8]) (.block 0 (.loop (.seq (.seq (.rgn [⟨none,[(.mv 12 (.t 8)),(.mv 13 (.t 2)),(.bin 14 .lss (.t 12) (.t 13))]⟩] [0,1,2,3,8,14]) (.cond (.t 14) .skip (.exit 0))) (.seq (.block 1 (.seq (.rgn [⟨none,[(.mv 17 (.t 8)),(.mv 9 (.t 17))]⟩] [0,1,2,3,8,9]) (.block 2 (.loop (.seq (.seq (.drw [⟨none,[(.mv 18 (.t 9)),(.mv 19 (.t 1)),(.bin 20 .gtr (.t 18) (.t 19)),(.mv 21 (.t 20))]⟩,⟨(some (21,true)),[(.mv 22 (.t 3)),(.mv 23 (.t 0)),(.mv 24 (.t 9)),(.ia 25 2 (.t 23) (.t 24)),(.ld 26 true 2 (.t 25)),(.mv 27 (.t 0)),(.mv 28 (.t 9)),(.bin 29 .sub (.t 28) (.k (I 1))),(.ia 30 2 (.t 27) (.t 29)),(.ld 31 true 2 (.t 30)),(.callv 32 (.t 22) [(.t 26),(.t 31)]),(.bin 33 .lss (.t 32) (.k (I 0)))]⟩,⟨none,[(.pick 34 (.t 21) (.t 33) (.k (B false)))]⟩] [(8,13)] [0,1,2,3,8,9,34]) (.cond (.t 34) .skip (.exit 2))) (.seq (.block 3 (.drw [⟨none,[(.mv 37 (.t 0)),(.mv 38 (.t 9)),(.mv 39 (.t 0)),(.mv 40 (.t 9)),(.bin 41 .sub (.t 40) (.k (I 1))),(.mv 42 (.t 0)),(.mv 43 (.t 9)),(.bin 44 .sub (.t 43) (.k (I 1))),(.ia 45 2 (.t 42) (.t 44)),(.ld 46 true 2 (.t 45)),(.mv 47 (.t 0)),(.mv 48 (.t 9)),(.ia 49 2 (.t 47) (.t 48)),(.ld 50 true 2 (.t 49)),(.ia 51 2 (.t 37) (.t 38)),(.st 2 (.t 51) (.t 46)),(.ia 52 2 (.t 39) (.t 41)),(.st 2 (.t 52) (.t 50))]⟩] [(9,13)] [0,1,2,3,8,9])) (.rgn [⟨none,[(.mv 35 (.t 9)),(.bin 36 .sub (.t 35) (.k (I 1))),(.mv 9 (.t 36))]⟩] [0,1,2,3,8,9]))))))) (.rgn [⟨none,[(.mv 15 (.t 8)),(.bin 16 .add (.t 15) (.k (I 1))),(.mv 8 (.t 16))]⟩] [0,1,2,3,8]))))))
theorem func_s_insertionSortCmpFuncR : Tryz.prog.funcs[n_s_insertionSortCmpFuncR]? = some Tryz.f112 := Tryz.func112
theorem form_s_insertionSortCmpFuncR : formOf Tryz.prog Tryz.f112 [] = some G_s_insertionSortCmpFuncR := by kernel_rfl
theorem res_s_insertionSortCmpFuncR : resTmps Tryz.f112.results.toList = some [] := by kernel_rfl
abbrev n_b_Len64 : Nat := 121
def G_b_Len64 : AC := (.seq (.rgn [⟨none,[(.mv 2 (.k (I 0)))]⟩] [0,2]) (.seq (.seq (.rgn [⟨none,[(.mv 3 (.t 0)),(.bin 4 .geq (.t 3) (.k (.v (.int .u64 4294967296))))]⟩] [0,2,4]) (.cond (.t 4) (.seq (.rgn [⟨none,[(.mv 5 (.t 0)),(.bin 6 .shr (.t 5) (.k (.v (.int .u64 32)))),(.mv 0 (.t 6))]⟩] [0]) (.rgn [⟨none,[(.mv 2 (.k (I 32)))]⟩] [0,2])) .skip)) (.seq (.seq (.rgn [⟨none,[(.mv 7 (.t 0)),(.bin 8 .geq (.t 7) (.k (.v (.int .u64 65536))))]⟩] [0,2,8]) (.cond (.t 8) (.seq (.rgn [⟨none,[(.mv 9 (.t 0)),(.bin 10 .shr (.t 9) (.k (.v (.int .u64 16)))),(.mv 0 (.t 10))]⟩] [0,2]) (.rgn [⟨none,[(.mv 11 (.t 2)),(.bin 12 .add (.t 11) (.k (I 16))),(.mv 2 (.t 12))]⟩] [0,2])) .skip)) (.seq (.seq (.rgn [⟨none,[(.mv 13 (.t 0)),(.bin 14 .geq (.t 13) (.k (.v (.int .u64 256))))]⟩] [0,2,14]) (.cond (.t 14) (.seq (.rgn [⟨none,[(.mv 15 (.t 0)),(.bin 16 .shr (.t 15) (.k (.v (.int .u64 8)))),(.mv 0 (.t 16))]⟩] [0,2]) (.rgn [⟨none,[(.mv 17 (.t 2)),(.bin 18 .add (.t 17) (.k (I 8))),(.mv 2 (.t 18))]⟩] [0,2])) .skip)) (.seq (.rgn [⟨none,[(.mv 19 (.t 2)),(.mv 20 (.t 0)),(.cnv 21 .u8 (.t 20)),(.ids 22 (.k (.v (.string ⟨#[0,1,2,2,3,3,3,3,4,4,4,4,4,4,4,4,5,5,5,5,5,5,5,5,5,5,5,5,5,5,5,5,6,6,6,6,6,6,6,6,6,6,6,6,6,6,6,6,6,6,6,6,6,6,6,6,6,6,6,6,6,6,6,6,7,7,7,7,7,7,7,7,7,7,7,7,7,7,7,7,7,7,7,7,7,7,7,7,7,7,7,7,7,7,7,7,7,7,7,7,7,7,7,7,7,7,7,7,7,7,7,7,7,7,7,7,7,7,7,7,7,7,7,7,7,7,7,7,8,8,8,8,8,8,8,8,8,8,8,8,8,8,8,8,8,8,8,8,8,8,8,8,8,8,8,8,8,8,8,8,8,8,8,8,8,8,8,8,8,8,8,8,8,8,8,8,8,8,8,8,8,8,8,8,8,8,8,8,8,8,8,8,8,8,8,8,8,8,8,8,8,8,8,8,8,8,8,8,8,8,8,8,8,8,8,8,8,8,8,8,8,8,8,8,8,8,8,8,8,8,8,8,8,8,8,8,8,8,8,8,8,8,8,8,8,8,8,8,8,8,8,8,8,8,8,8]⟩))) (.t 21)),(.cnv 23 .i64 (.t 22)),(.bin 24 .add (.t 19) (.t 23)),(.mv 2 (.t 24))]⟩] [2]) .ret)))))
theorem func_b_Len64 : Tryz.prog.funcs[n_b_Len64]? = some Tryz.f121 := Tryz.func121
theorem form_b_Len64 : formOf Tryz.prog Tryz.f121 [2] = some G_b_Len64 := by kernel_rfl
theorem res_b_Len64 : resTmps Tryz.f121.results.toList = some [2] := by kernel_rfl
abbrev n_b_OnesCount64 : Nat := 123
def G_b_OnesCount64 : AC := (.seq (.rgn [⟨none,[(.mv 2 (.k (I 0)))]⟩] [0]) (.seq (.rgn [⟨none,[(.mv 3 (.t 0)),(.bin 4 .shr (.t 3) (.k (.v (.int .u64 1)))),(.bin 5 .and (.t 4) (.k (.v (.int .u64 6148914691236517205)))),(.mv 6 (.t 0)),(.bin 7 .and (.t 6) (.k (.v (.int .u64 6148914691236517205)))),(.bin 8 .add (.t 5) (.t 7)),(.mv 0 (.t 8))]⟩] [0]) (.seq (.rgn [⟨none,[(.mv 9 (.t 0)),(.bin 10 .shr (.t 9) (.k (.v (.int .u64 2)))),(.bin 11 .and (.t 10) (.k (.v (.int .u64 3689348814741910323)))),(.mv 12 (.t 0)),(.bin 13 .and (.t 12) (.k (.v (.int .u64 3689348814741910323)))),(.bin 14 .add (.t 11) (.t 13)),(.mv 0 (.t 14))]⟩] [0]) (.seq (.rgn [⟨none,[(.mv 15 (.t 0)),(.bin 16 .shr (.t 15) (.k (.v (.int .u64 4)))),(.mv 17 (.t 0)),(.bin 18 .add (.t 16) (.t 17)),(.bin 19 .and (.t 18) (.k (.v (.int .u64 1085102592571150095)))),(.mv 0 (.t 19))]⟩] [0]) (.seq (.rgn [⟨none,[(.mv 20 (.t 0)),(.mv 21 (.t 0)),(.bin 22 .shr (.t 21) (.k (.v (.int .u64 8)))),(.bin 23 .add (.t 20) (.t 22)),(.mv 0 (.t 23))]⟩] [0]) (.seq (.rgn [⟨none,[(.mv 24 (.t 0)),(.mv 25 (.t 0)),(.bin 26 .shr (.t 25) (.k (.v (.int .u64 16)))),(.bin 27 .add (.t 24) (.t 26)),(.mv 0 (.t 27))]⟩] [0]) (.seq (.rgn [⟨none,[(.mv 28 (.t 0)),(.mv 29 (.t 0)),(.bin 30 .shr (.t 29) (.k (.v (.int .u64 32)))),(.bin 31 .add (.t 28) (.t 30)),(.mv 0 (.t 31))]⟩] [0]) (.seq (.rgn [⟨none,[(.mv 32 (.t 0)),(.cnv 33 .i64 (.t 32)),(.bin 34 .and (.t 33) (.k (I 127))),(.mv 2 (.t 34))]⟩] [2]) .ret))))))))
theorem func_b_OnesCount64 : Tryz.prog.funcs[n_b_OnesCount64]? = some Tryz.f123 := Tryz.func123
theorem form_b_OnesCount64 : formOf Tryz.prog Tryz.f123 [2] = some G_b_OnesCount64 := by kernel_rfl
theorem res_b_OnesCount64 : resTmps Tryz.f123.results.toList = some [2] := by kernel_rfl
abbrev n_s_CollectT : Nat := 124
def G_s_CollectT : AC := (.seq (.rgn [⟨none,[(.mv 2 (.k (.sl true 0 [])))]⟩] [0]) (.seq (.rgn [⟨none,[(.mv 3 (.t 0)),(.call 4 132 [(.k (.sl true 0 [])),(.t 3)]),(.mv 2 (.t 4))]⟩] [2]) .ret))
theorem func_s_CollectT : Tryz.prog.funcs[n_s_CollectT]? = some Tryz.f124 := Tryz.func124
theorem form_s_CollectT : formOf Tryz.prog Tryz.f124 [2] = some G_s_CollectT := by kernel_rfl
theorem res_s_CollectT : resTmps Tryz.f124.results.toList = some [2] := by kernel_rfl
abbrev n_s_SortT : Nat := 125
def G_s_SortT : AC := (.seq (.rgn [⟨none,[(.mv 3 (.t 0)),(.len 4 (.t 3)),(.mv 2 (.t 4))]⟩] [0,2]) (.rgn [⟨none,[(.mv 5 (.t 0)),(.mv 6 (.t 2)),(.mv 7 (.t 2)),(.cnv 8 .u64 (.t 7)),(.call 9 100 [(.t 8)]),(.call 10 133 [(.t 5),(.k (I 0)),(.t 6),(.t 9)])]⟩] []))
theorem func_s_SortT : Tryz.prog.funcs[n_s_SortT]? = some Tryz.f125 := Tryz.func125
theorem form_s_SortT : formOf Tryz.prog Tryz.f125 [] = some G_s_SortT := by kernel_rfl
theorem res_s_SortT : resTmps Tryz.f125.results.toList = some [] := by kernel_rfl
abbrev n_m_Keys_1M : Nat := 126
def G_m_Keys_1M : AC := (.seq (.rgn [⟨none,[(.ld 4 false 1 (.t 1)),(.rng 5 (.t 4))]⟩] [0,5]) (.block 0 (.loop (.seq (.rgn [⟨none,[(.nxt 6 (.t 5)),(.ext 7 (.t 6) 0)]⟩] [0,5,7]) (.seq (.cond (.t 7) .skip (.exit 0)) (.block 1 (.seq (.rgn [⟨none,[(.ent 8 (.t 5)),(.ext 9 (.t 8) 0),(.mv 3 (.t 9))]⟩] [0,3,5]) (.seq (.rgn [⟨none,[(.mv 10 (.t 0)),(.mv 11 (.t 3)),(.callv 12 (.t 10) [(.t 11)]),(.un 13 .not (.t 12))]⟩] [0,5,13]) (.cond (.t 13) .ret .skip)))))))))
theorem func_m_Keys_1M : Tryz.prog.funcs[n_m_Keys_1M]? = some Tryz.f126 := Tryz.func126
theorem form_m_Keys_1M : formOf Tryz.prog Tryz.f126 [] = some G_m_Keys_1M := by kernel_rfl
theorem res_m_Keys_1M : resTmps Tryz.f126.results.toList = some [] := by kernel_rfl
abbrev n_s_nextPowerOfTwo : Nat := 128
def G_s_nextPowerOfTwo : AC := (.seq (.rgn [⟨none,[(.mv 2 (.k (.v (.int .u64 0))))]⟩] [0]) (.seq (.rgn [⟨none,[(.mv 3 (.t 0)),(.cnv 4 .u64 (.t 3)),(.call 5 100 [(.t 4)]),(.bin 6 .shl (.k (.v (.int .u64 1))) (.t 5)),(.mv 2 (.t 6))]⟩] [2]) .ret))
theorem func_s_nextPowerOfTwo : Tryz.prog.funcs[n_s_nextPowerOfTwo]? = some Tryz.f128 := Tryz.func128
theorem form_s_nextPowerOfTwo : formOf Tryz.prog Tryz.f128 [2] = some G_s_nextPowerOfTwo := by kernel_rfl
theorem res_s_nextPowerOfTwo : resTmps Tryz.f128.results.toList = some [2] := by kernel_rfl
abbrev n_s_xorshiftNext : Nat := 129
def G_s_xorshiftNext : AC := (.seq (.rgn [⟨none,[(.mv 2 (.k (.v (.int .u64 0))))]⟩] [0]) (.seq (.drw [⟨none,[(.mv 3 (.t 0)),(.nilc 4 (.t 3)),(.ld 5 false 1 (.t 4)),(.mv 6 (.t 0)),(.nilc 7 (.t 6)),(.ld 8 false 1 (.t 7)),(.bin 9 .shl (.t 8) (.k (.v (.int .u64 13)))),(.bin 10 .xor (.t 5) (.t 9)),(.nilc 11 (.t 3)),(.st 1 (.t 11) (.t 10))]⟩] [(2,5)] [0]) (.seq (.drw [⟨none,[(.mv 12 (.t 0)),(.nilc 13 (.t 12)),(.ld 14 false 1 (.t 13)),(.mv 15 (.t 0)),(.nilc 16 (.t 15)),(.ld 17 false 1 (.t 16)),(.bin 18 .shr (.t 17) (.k (.v (.int .u64 7)))),(.bin 19 .xor (.t 14) (.t 18)),(.nilc 20 (.t 12)),(.st 1 (.t 20) (.t 19))]⟩] [(2,5)] [0]) (.seq (.drw [⟨none,[(.mv 21 (.t 0)),(.nilc 22 (.t 21)),(.ld 23 false 1 (.t 22)),(.mv 24 (.t 0)),(.nilc 25 (.t 24)),(.ld 26 false 1 (.t 25)),(.bin 27 .shl (.t 26) (.k (.v (.int .u64 17)))),(.bin 28 .xor (.t 23) (.t 27)),(.nilc 29 (.t 21)),(.st 1 (.t 29) (.t 28))]⟩] [(2,5)] [0]) (.seq (.rgn [⟨none,[(.mv 30 (.t 0)),(.nilc 31 (.t 30)),(.ld 32 false 1 (.t 31)),(.mv 2 (.t 32))]⟩] [2]) .ret)))))
theorem func_s_xorshiftNext : Tryz.prog.funcs[n_s_xorshiftNext]? = some Tryz.f129 := Tryz.func129
theorem form_s_xorshiftNext : formOf Tryz.prog Tryz.f129 [2] = some G_s_xorshiftNext := by kernel_rfl
theorem res_s_xorshiftNext : resTmps Tryz.f129.results.toList = some [2] := by kernel_rfl
abbrev n_s_AppendSeqT : Nat := 132
def G_s_AppendSeqT : AC := (.seq (.rgn [⟨none,[(.box 2 1 (.t 0)),(.mv 4 (.k (.sl true 0 [])))]⟩] [1,2,4]) (.seq (.seq (.rgn [⟨none,[(.mv 6 (.t 1))]⟩] [2,4,6]) (.block 0 (.rf (.t 6) [7] (.rgn [⟨none,[(.mv 5 (.t 7))]⟩] [2,5]) (.block 1 (.rgn [⟨none,[(.ld 8 false 1 (.t 2)),(.mv 9 (.t 5)),(.bsl 10 1 1 [(.v (.int .u64 0))] [(0,(.t 9))]),(.app 11 1 8 (.t 8) (.t 10)),(.st 1 (.t 2) (.t 11))]⟩] [])) [2]))) (.seq (.rgn [⟨none,[(.ld 12 false 1 (.t 2)),(.mv 4 (.t 12))]⟩] [4]) .ret)))
theorem func_s_AppendSeqT : Tryz.prog.funcs[n_s_AppendSeqT]? = some Tryz.f132 := Tryz.func132
theorem form_s_AppendSeqT : formOf Tryz.prog Tryz.f132 [4] = some G_s_AppendSeqT := by kernel_rfl
theorem res_s_AppendSeqT : resTmps Tryz.f132.results.toList = some [4] := by kernel_rfl
abbrev n_s_pdqsortOrderedT : Nat := 133
def G_s_pdqsortOrderedT : AC := (.seq (.rgn [⟨none,[(.mv 8 (.k (B true)))]⟩] [0,1,2,3,8]) (.seq (.rgn [⟨none,[(.mv 9 (.k (B true)))]⟩] [0,1,2,3,8,9]) (.block 0 (.loop (.block 1 (.seq (.rgn [⟨none,[(.mv 19 (.t 2)),(.mv 20 (.t 1)),(.bin 21 .sub (.t 19) (.t 20)),(.mv 10 (.t 21))]⟩] [0,1,2,3,8,9,10]) (.seq (.seq (.rgn [⟨none,[(.mv 22 (.t 10)),(.bin 23 .leq (.t 22) (.k (I 12)))]⟩] [0,1,2,3,8,9,10,23]) (.cond (.t 23) (.seq (.rgn [⟨none,[(.mv 24 (.t 0)),(.mv 25 (.t 1)),(.mv 26 (.t 2)),(.call 27 135 [(.t 24),(.t 25),(.t 26)])]⟩] []) .ret) .skip)) (.seq (.seq (.rgn [⟨none,[(.mv 28 (.t 3)),(.bin 29 .eql (.t 28) (.k (I 0)))]⟩] [0,1,2,3,8,9,10,29]) (.cond (.t 29) (.seq (.rgn [⟨none,[(.mv 30 (.t 0)),(.mv 31 (.t 1)),(.mv 32 (.t 2)),(.call 33 136 [(.t 30),(.t 31),(.t 32)])]⟩] []) .ret) .skip)) (.seq (.seq (.rgn [⟨none,[(.mv 34 (.t 8)),(.un 35 .not (.t 34))]⟩] [0,1,2,3,8,9,10,35]) (.cond (.t 35) (.seq (.rgn [⟨none,[(.mv 36 (.t 0)),(.mv 37 (.t 1)),(.mv 38 (.t 2)),(.call 39 137 [(.t 36),(.t 37),(.t 38)])]⟩] [0,1,2,3,8,9,10]) (.rgn [⟨none,[(.mv 40 (.t 3)),(.bin 41 .sub (.t 40) (.k (I 1))),(.mv 3 (.t 41))]⟩] [0,1,2,3,8,9,10])) .skip)) (.seq (.rgn [⟨none,[(.mv 43 (.t 0)),(.mv 44 (.t 1)),(.mv 45 (.t 2)),(.call 46 138 [(.t 43),(.t 44),(.t 45)]),(.mv 42 (.t 46)),(.ext 47 (.t 42) 0),(.ext 48 (.t 42) 1),(.mv 11 (.t 47)),(.mv 12 (.t 48))]⟩] [0,1,2,3,8,9,10,11,12]) (.seq (.seq (.rgn [⟨none,[(.mv 49 (.t 12)),(.bin 50 .eql (.t 49) (.k (I 2)))]⟩] [0,1,2,3,8,9,10,11,12,50]) (.cond (.t 50) (.seq (.rgn [⟨none,[(.mv 51 (.t 0)),(.mv 52 (.t 1)),(.mv 53 (.t 2)),(.call 54 139 [(.t 51),(.t 52),(.t 53)])]⟩] [0,1,2,3,8,9,10,11]) (.seq (.rgn [⟨none,[(.mv 55 (.t 2)),(.bin 56 .sub (.t 55) (.k (I 1))),(.mv 57 (.t 11)),(.mv 58 (.t 1)),(.bin 59 .sub (.t 57) (.t 58)),(.bin 60 .sub (.t 56) (.t 59)),(.mv 11 (.t 60))]⟩] [0,1,2,3,8,9,10,11]) (.rgn [⟨none,[(.mv 12 (.k (I 1)))]⟩] [0,1,2,3,8,9,10,11,12]))) .skip)) (.seq (.seq (.rgn [⟨none,[(.mv 61 (.t 8)),(.mv 62 (.t 61))]⟩,⟨(some (62,true)),[(.mv 63 (.t 9))]⟩,⟨none,[(.pick 64 (.t 62) (.t 63) (.k (B false))),(.mv 65 (.t 64))]⟩,⟨(some (65,true)),[(.mv 66 (.t 12)),(.bin 67 .eql (.t 66) (.k (I 1)))]⟩,⟨none,[(.pick 68 (.t 65) (.t 67) (.k (B false)))]⟩] [0,1,2,3,8,9,10,11,68]) (.cond (.t 68) (.seq (.rgn [⟨none,[(.mv 69 (.t 0)),(.mv 70 (.t 1)),(.mv 71 (.t 2)),(.call 72 140 [(.t 69),(.t 70),(.t 71)])]⟩] [0,1,2,3,8,9,10,11,72]) (.cond (.t 72) .ret .skip)) .skip)) (.seq (.seq (.drw [⟨none,[(.mv 73 (.t 1)),(.bin 74 .gtr (.t 73) (.k (I 0))),(.mv 75 (.t 74))]⟩,⟨(some (75,true)),[(.mv 76 (.t 0)),(.mv 77 (.t 1)),(.bin 78 .sub (.t 77) (.k (I 1))),(.ia 79 1 (.t 76) (.t 78)),(.ld 80 false 1 (.t 79)),(.mv 81 (.t 0)),(.mv 82 (.t 11)),(.ia 83 1 (.t 81) (.t 82)),(.ld 84 false 1 (.t 83)),(.call 85 141 [(.t 80),(.t 84)]),(.un 86 .not (.t 85))]⟩,⟨none,[(.pick 87 (.t 75) (.t 86) (.k (B false)))]⟩] [(7,11)] [0,1,2,3,8,9,10,11,87]) (.cond (.t 87) (.seq (.rgn [⟨none,[(.mv 88 (.t 0)),(.mv 89 (.t 1)),(.mv 90 (.t 2)),(.mv 91 (.t 11)),(.call 92 142 [(.t 88),(.t 89),(.t 90),(.t 91)]),(.mv 13 (.t 92))]⟩] [0,2,3,8,9,13]) (.seq (.rgn [⟨none,[(.mv 93 (.t 13)),(.mv 1 (.t 93))]⟩] [0,1,2,3,8,9]) (.exit 1))) .skip)) (.seq (.rgn [⟨none,[(.mv 95 (.t 0)),(.mv 96 (.t 1)),(.mv 97 (.t 2)),(.mv 98 (.t 11)),(.call 99 143 [(.t 95),(.t 96),(.t 97),(.t 98)]),(.mv 94 (.t 99)),(.ext 100 (.t 94) 0),(.ext 101 (.t 94) 1),(.mv 14 (.t 100)),(.mv 15 (.t 101))]⟩] [0,1,2,3,10,14,15]) (.seq (.rgn [⟨none,[(.mv 102 (.t 15)),(.mv 9 (.t 102))]⟩] [0,1,2,3,9,10,14]) (.seq (.rgn [⟨none,[(.mv 103 (.t 14)),(.mv 104 (.t 1)),(.bin 105 .sub (.t 103) (.t 104)),(.mv 106 (.t 2)),(.mv 107 (.t 14)),(.bin 108 .sub (.t 106) (.t 107)),(.mv 16 (.t 105)),(.mv 17 (.t 108))]⟩] [0,1,2,3,9,10,14,16,17]) (.seq (.rgn [⟨none,[(.mv 109 (.t 10)),(.bin 110 .quo (.t 109) (.k (I 8))),(.mv 18 (.t 110))]⟩] [0,1,2,3,9,14,16,17,18]) (.seq (.rgn [⟨none,[(.mv 111 (.t 16)),(.mv 112 (.t 17)),(.bin 113 .lss (.t 111) (.t 112))]⟩] [0,1,2,3,9,14,16,17,18,113]) (.cond (.t 113) (.seq (.rgn [⟨none,[(.mv 114 (.t 16)),(.mv 115 (.t 18)),(.bin 116 .geq (.t 114) (.t 115)),(.mv 8 (.t 116))]⟩] [0,1,2,3,8,9,14]) (.seq (.rgn [⟨none,[(.mv 117 (.t 0)),(.mv 118 (.t 1)),(.mv 119 (.t 14)),(.mv 120 (.t 3)),(.call 121 133 [(.t 117),(.t 118),(.t 119),(.t 120)])]⟩] [0,2,3,8,9,14]) (.rgn [⟨none,[(.mv 122 (.t 14)),(.bin 123 .add (.t 122) (.k (I 1))),(.mv 1 (.t 123))]⟩] [0,1,2,3,8,9]))) (.seq (.rgn [⟨none,[(.mv 124 (.t 17)),(.mv 125 (.t 18)),(.bin 126 .geq (.t 124) (.t 125)),(.mv 8 (.t 126))]⟩] [0,1,2,3,8,9,14]) (.seq (.rgn [⟨none,[(.mv 127 (.t 0)),(.mv 128 (.t 14)),(.bin 129 .add (.t 128) (.k (I 1))),(.mv 130 (.t 2)),(.mv 131 (.t 3)),(.call 132 133 [(.t 127),(.t 129),(.t 130),(.t 131)])]⟩] [0,1,3,8,9,14]) (.rgn [⟨none,[(.mv 133 (.t 14)),(.mv 2 (.t 133))]⟩] [0,1,2,3,8,9]))))))))))))))))))))))
theorem func_s_pdqsortOrderedT : Tryz.prog.funcs[n_s_pdqsortOrderedT]? = some Tryz.f133 := Tryz.func133
theorem form_s_pdqsortOrderedT : formOf Tryz.prog Tryz.f133 [] = some G_s_pdqsortOrderedT := by kernel_rfl
theorem res_s_pdqsortOrderedT : resTmps Tryz.f133.results.toList = some [] := by kernel_rfl
abbrev n_s_insertionSortOrderedT : Nat := 135
def G_s_insertionSortOrderedT : AC := (.seq (.rgn [⟨none,[(.mv 8 (.t 1)),(.bin 9 .add (.t 8) (.k (I 1))),(.mv 6 (.t 9))]⟩] [0,1,2,6]) (.block 0 (.loop (.seq (.seq (.rgn [⟨none,[(.mv 10 (.t 6)),(.mv 11 (.t 2)),(.bin 12 .lss (.t 10) (.t 11))]⟩] [0,1,2,6,12]) (.cond (.t 12) .skip (.exit 0))) (.seq (.block 1 (.seq (.rgn [⟨none,[(.mv 15 (.t 6)),(.mv 7 (.t 15))]⟩] [0,1,2,6,7]) (.block 2 (.loop (.seq (.seq (.drw [⟨none,[(.mv 16 (.t 7)),(.mv 17 (.t 1)),(.bin 18 .gtr (.t 16) (.t 17)),(.mv 19 (.t 18))]⟩,⟨(some (19,true)),[(.mv 20 (.t 0)),(.mv 21 (.t 7)),(.ia 22 1 (.t 20) (.t 21)),(.ld 23 false 1 (.t 22)),(.mv 24 (.t 0)),(.mv 25 (.t 7)),(.bin 26 .sub (.t 25) (.k (I 1))),(.ia 27 1 (.t 24) (.t 26)),(.ld 28 false 1 (.t 27)),(.call 29 141 [(.t 23),(.t 28)])]⟩,⟨none,[(.pick 30 (.t 19) (.t 29) (.k (B false)))]⟩] [(7,12)] [0,1,2,6,7,30]) (.cond (.t 30) .skip (.exit 2))) (.seq (.block 3 (.drw [⟨none,[(.mv 33 (.t 0)),(.mv 34 (.t 7)),(.mv 35 (.t 0)),(.mv 36 (.t 7)),(.bin 37 .sub (.t 36) (.k (I 1))),(.mv 38 (.t 0)),(.mv 39 (.t 7)),(.bin 40 .sub (.t 39) (.k (I 1))),(.ia 41 1 (.t 38) (.t 40)),(.ld 42 false 1 (.t 41)),(.mv 43 (.t 0)),(.mv 44 (.t 7)),(.ia 45 1 (.t 43) (.t 44)),(.ld 46 false 1 (.t 45)),(.ia 47 1 (.t 33) (.t 34)),(.st 1 (.t 47) (.t 42)),(.ia 48 1 (.t 35) (.t 37)),(.st 1 (.t 48) (.t 46))]⟩] [(9,13)] [0,1,2,6,7])) (.rgn [⟨none,[(.mv 31 (.t 7)),(.bin 32 .sub (.t 31) (.k (I 1))),(.mv 7 (.t 32))]⟩] [0,1,2,6,7]))))))) (.rgn [⟨none,[(.mv 13 (.t 6)),(.bin 14 .add (.t 13) (.k (I 1))),(.mv 6 (.t 14))]⟩] [0,1,2,6]))))))
theorem func_s_insertionSortOrderedT : Tryz.prog.funcs[n_s_insertionSortOrderedT]? = some Tryz.f135 := Tryz.func135
theorem form_s_insertionSortOrderedT : formOf Tryz.prog Tryz.f135 [] = some G_s_insertionSortOrderedT := by kernel_rfl
theorem res_s_insertionSortOrderedT : resTmps Tryz.f135.results.toList = some [] := by kernel_rfl
abbrev n_s_heapSortOrderedT : Nat := 136
def G_s_heapSortOrderedT : AC := (.seq (.rgn [⟨none,[(.mv 11 (.t 1)),(.mv 6 (.t 11))]⟩] [0,1,2,6]) (.seq (.rgn [⟨none,[(.mv 7 (.k (I 0)))]⟩] [0,1,2,6,7]) (.seq (.rgn [⟨none,[(.mv 12 (.t 2)),(.mv 13 (.t 1)),(.bin 14 .sub (.t 12) (.t 13)),(.mv 8 (.t 14))]⟩] [0,6,7,8]) (.seq (.seq (.rgn [⟨none,[(.mv 15 (.t 8)),(.bin 16 .sub (.t 15) (.k (I 1))),(.bin 17 .quo (.t 16) (.k (I 2))),(.mv 9 (.t 17))]⟩] [0,6,7,8,9]) (.block 0 (.loop (.seq (.seq (.rgn [⟨none,[(.mv 18 (.t 9)),(.bin 19 .geq (.t 18) (.k (I 0)))]⟩] [0,6,7,8,9,19]) (.cond (.t 19) .skip (.exit 0))) (.seq (.block 1 (.rgn [⟨none,[(.mv 22 (.t 0)),(.mv 23 (.t 9)),(.mv 24 (.t 8)),(.mv 25 (.t 6)),(.call 26 144 [(.t 22),(.t 23),(.t 24),(.t 25)])]⟩] [0,6,7,8,9])) (.rgn [⟨none,[(.mv 20 (.t 9)),(.bin 21 .sub (.t 20) (.k (I 1))),(.mv 9 (.t 21))]⟩] [0,6,7,8,9])))))) (.seq (.rgn [⟨none,[(.mv 27 (.t 8)),(.bin 28 .sub (.t 27) (.k (I 1))),(.mv 10 (.t 28))]⟩] [0,6,7,10]) (.block 2 (.loop (.seq (.seq (.rgn [⟨none,[(.mv 29 (.t 10)),(.bin 30 .geq (.t 29) (.k (I 0)))]⟩] [0,6,7,10,30]) (.cond (.t 30) .skip (.exit 2))) (.seq (.block 3 (.seq (.drw [⟨none,[(.mv 33 (.t 0)),(.mv 34 (.t 6)),(.mv 35 (.t 0)),(.mv 36 (.t 6)),(.mv 37 (.t 10)),(.bin 38 .add (.t 36) (.t 37)),(.mv 39 (.t 0)),(.mv 40 (.t 6)),(.mv 41 (.t 10)),(.bin 42 .add (.t 40) (.t 41)),(.ia 43 1 (.t 39) (.t 42)),(.ld 44 false 1 (.t 43)),(.mv 45 (.t 0)),(.mv 46 (.t 6)),(.ia 47 1 (.t 45) (.t 46)),(.ld 48 false 1 (.t 47)),(.ia 49 1 (.t 33) (.t 34)),(.st 1 (.t 49) (.t 44)),(.ia 50 1 (.t 35) (.t 38)),(.st 1 (.t 50) (.t 48))]⟩] [(11,15)] [0,6,7,10]) (.rgn [⟨none,[(.mv 51 (.t 0)),(.mv 52 (.t 7)),(.mv 53 (.t 10)),(.mv 54 (.t 6)),(.call 55 144 [(.t 51),(.t 52),(.t 53),(.t 54)])]⟩] [0,6,7,10]))) (.rgn [⟨none,[(.mv 31 (.t 10)),(.bin 32 .sub (.t 31) (.k (I 1))),(.mv 10 (.t 32))]⟩] [0,6,7,10]))))))))))
theorem func_s_heapSortOrderedT : Tryz.prog.funcs[n_s_heapSortOrderedT]? = some Tryz.f136 := Tryz.func136
theorem form_s_heapSortOrderedT : formOf Tryz.prog Tryz.f136 [] = some G_s_heapSortOrderedT := by kernel_rfl
theorem res_s_heapSortOrderedT : resTmps Tryz.f136.results.toList = some [] := by kernel_rfl
abbrev n_s_breakPatternsOrderedT : Nat := 137
def G_s_breakPatternsOrderedT : AC := (.seq (.rgn [⟨none,[(.mv 11 (.t 2)),(.mv 12 (.t 1)),(.bin 13 .sub (.t 11) (.t 12)),(.mv 6 (.t 13))]⟩] [0,1,6]) (.seq (.rgn [⟨none,[(.mv 14 (.t 6)),(.bin 15 .geq (.t 14) (.k (I 8)))]⟩] [0,1,6,15]) (.cond (.t 15) (.seq (.rgn [⟨none,[(.mv 16 (.t 6)),(.cnv 17 .u64 (.t 16)),(.al 7 [(.v (.int .u64 0))]),(.st 1 (.t 7) (.t 17))]⟩] [0,1,6,7]) (.seq (.rgn [⟨none,[(.mv 18 (.t 6)),(.call 19 128 [(.t 18)]),(.mv 8 (.t 19))]⟩] [0,1,6,7,8]) (.seq (.rgn [⟨none,[(.mv 20 (.t 1)),(.mv 21 (.t 6)),(.bin 22 .quo (.t 21) (.k (I 4))),(.bin 23 .mul (.t 22) (.k (I 2))),(.bin 24 .add (.t 20) (.t 23)),(.bin 25 .sub (.t 24) (.k (I 1))),(.mv 9 (.t 25))]⟩] [0,1,6,7,8,9]) (.block 0 (.loop (.seq (.seq (.rgn [⟨none,[(.mv 26 (.t 9)),(.mv 27 (.t 1)),(.mv 28 (.t 6)),(.bin 29 .quo (.t 28) (.k (I 4))),(.bin 30 .mul (.t 29) (.k (I 2))),(.bin 31 .add (.t 27) (.t 30)),(.bin 32 .add (.t 31) (.k (I 1))),(.bin 33 .leq (.t 26) (.t 32))]⟩] [0,1,6,7,8,9,33]) (.cond (.t 33) .skip (.exit 0))) (.seq (.block 1 (.seq (.rgn [⟨none,[(.call 36 129 [(.t 7)]),(.mv 37 (.t 8)),(.bin 38 .sub (.t 37) (.k (.v (.int .u64 1)))),(.bin 39 .and (.t 36) (.t 38)),(.cnv 40 .i64 (.t 39)),(.mv 10 (.t 40))]⟩] [0,1,6,7,8,9,10]) (.seq (.seq (.rgn [⟨none,[(.mv 41 (.t 10)),(.mv 42 (.t 6)),(.bin 43 .geq (.t 41) (.t 42))]⟩] [0,1,6,7,8,9,10,43]) (.cond (.t 43) (.rgn [⟨none,[(.mv 44 (.t 10)),(.mv 45 (.t 6)),(.bin 46 .sub (.t 44) (.t 45)),(.mv 10 (.t 46))]⟩] [0,1,6,7,8,9,10]) .skip)) (.drw [⟨none,[(.mv 47 (.t 0)),(.mv 48 (.t 9)),(.mv 49 (.t 0)),(.mv 50 (.t 1)),(.mv 51 (.t 10)),(.bin 52 .add (.t 50) (.t 51)),(.mv 53 (.t 0)),(.mv 54 (.t 1)),(.mv 55 (.t 10)),(.bin 56 .add (.t 54) (.t 55)),(.ia 57 1 (.t 53) (.t 56)),(.ld 58 false 1 (.t 57)),(.mv 59 (.t 0)),(.mv 60 (.t 9)),(.ia 61 1 (.t 59) (.t 60)),(.ld 62 false 1 (.t 61)),(.ia 63 1 (.t 47) (.t 48)),(.st 1 (.t 63) (.t 58)),(.ia 64 1 (.t 49) (.t 52)),(.st 1 (.t 64) (.t 62))]⟩] [(11,15)] [0,1,6,7,8,9])))) (.rgn [⟨none,[(.mv 34 (.t 9)),(.bin 35 .add (.t 34) (.k (I 1))),(.mv 9 (.t 35))]⟩] [0,1,6,7,8,9])))))))) .skip)))
theorem func_s_breakPatternsOrderedT : Tryz.prog.funcs[n_s_breakPatternsOrderedT]? = some Tryz.f137 := Tryz.func137
theorem form_s_breakPatternsOrderedT : formOf Tryz.prog Tryz.f137 [] = some G_s_breakPatternsOrderedT := by kernel_rfl
theorem res_s_breakPatternsOrderedT : resTmps Tryz.f137.results.toList = some [] := by kernel_rfl
abbrev n_s_choosePivotOrderedT : Nat := 138
def G_s_choosePivotOrderedT : AC := (.seq (.rgn [⟨none,[(.mv 6 (.k (I 0))),(.mv 7 (.k (I 0)))]⟩] [0,1,2]) (.seq (.rgn [⟨none,[(.mv 13 (.t 2)),(.mv 14 (.t 1)),(.bin 15 .sub (.t 13) (.t 14)),(.mv 8 (.t 15))]⟩] [0,1,8]) (.seq (.rgn [⟨none,[(.al 9 [(I 0)])]⟩] [0,1,8,9]) (.seq (.rgn [⟨none,[(.mv 16 (.t 1)),(.mv 17 (.t 8)),(.bin 18 .quo (.t 17) (.k (I 4))),(.bin 19 .mul (.t 18) (.k (I 1))),(.bin 20 .add (.t 16) (.t 19)),(.mv 10 (.t 20))]⟩] [0,1,8,9,10]) (.seq (.rgn [⟨none,[(.mv 21 (.t 1)),(.mv 22 (.t 8)),(.bin 23 .quo (.t 22) (.k (I 4))),(.bin 24 .mul (.t 23) (.k (I 2))),(.bin 25 .add (.t 21) (.t 24)),(.mv 11 (.t 25))]⟩] [0,1,8,9,10,11]) (.seq (.rgn [⟨none,[(.mv 26 (.t 1)),(.mv 27 (.t 8)),(.bin 28 .quo (.t 27) (.k (I 4))),(.bin 29 .mul (.t 28) (.k (I 3))),(.bin 30 .add (.t 26) (.t 29)),(.mv 12 (.t 30))]⟩] [0,8,9,10,11,12]) (.seq (.seq (.rgn [⟨none,[(.mv 31 (.t 8)),(.bin 32 .geq (.t 31) (.k (I 8)))]⟩] [0,8,9,10,11,12,32]) (.cond (.t 32) (.seq (.seq (.rgn [⟨none,[(.mv 33 (.t 8)),(.bin 34 .geq (.t 33) (.k (I 50)))]⟩] [0,9,10,11,12,34]) (.cond (.t 34) (.seq (.rgn [⟨none,[(.mv 35 (.t 0)),(.mv 36 (.t 10)),(.call 37 145 [(.t 35),(.t 36),(.t 9)]),(.mv 10 (.t 37))]⟩] [0,9,10,11,12]) (.seq (.rgn [⟨none,[(.mv 38 (.t 0)),(.mv 39 (.t 11)),(.call 40 145 [(.t 38),(.t 39),(.t 9)]),(.mv 11 (.t 40))]⟩] [0,9,10,11,12]) (.rgn [⟨none,[(.mv 41 (.t 0)),(.mv 42 (.t 12)),(.call 43 145 [(.t 41),(.t 42),(.t 9)]),(.mv 12 (.t 43))]⟩] [0,9,10,11,12]))) .skip)) (.rgn [⟨none,[(.mv 44 (.t 0)),(.mv 45 (.t 10)),(.mv 46 (.t 11)),(.mv 47 (.t 12)),(.call 48 146 [(.t 44),(.t 45),(.t 46),(.t 47),(.t 9)]),(.mv 11 (.t 48))]⟩] [9,11])) .skip)) (.seq (.rgn [⟨none,[(.ld 49 false 1 (.t 9))]⟩] [11,49]) (.block 0 (.seq (.rgn [⟨none,[(.bin 52 .eql (.t 49) (.k (I 0))),(.mv 51 (.t 52))]⟩] [11,49,51]) (.cond (.t 51) (.seq (.rgn [⟨none,[(.mv 53 (.t 11)),(.mv 6 (.t 53)),(.mv 7 (.k (I 1)))]⟩] [6,7]) .ret) (.seq (.rgn [⟨none,[(.bin 55 .eql (.t 49) (.k (I 12))),(.mv 54 (.t 55))]⟩] [11,54]) (.cond (.t 54) (.seq (.rgn [⟨none,[(.mv 56 (.t 11)),(.mv 6 (.t 56)),(.mv 7 (.k (I 2)))]⟩] [6,7]) .ret) (.seq (.rgn [⟨none,[(.mv 50 (.t 11)),(.mv 6 (.t 50)),(.mv 7 (.k (I 0)))]⟩] [6,7]) .ret))))))))))))))
theorem func_s_choosePivotOrderedT : Tryz.prog.funcs[n_s_choosePivotOrderedT]? = some Tryz.f138 := Tryz.func138
theorem form_s_choosePivotOrderedT : formOf Tryz.prog Tryz.f138 [6,7] = some G_s_choosePivotOrderedT := by kernel_rfl
theorem res_s_choosePivotOrderedT : resTmps Tryz.f138.results.toList = some [6,7] := by kernel_rfl
abbrev n_s_reverseRangeOrderedT : Nat := 139
def G_s_reverseRangeOrderedT : AC := (.seq (.rgn [⟨none,[(.mv 8 (.t 1)),(.mv 6 (.t 8))]⟩] [0,2,6]) (.seq (.rgn [⟨none,[(.mv 9 (.t 2)),(.bin 10 .sub (.t 9) (.k (I 1))),(.mv 7 (.t 10))]⟩] [0,6,7]) (.block 0 (.loop (.seq (.seq (.rgn [⟨none,[(.mv 11 (.t 6)),(.mv 12 (.t 7)),(.bin 13 .lss (.t 11) (.t 12))]⟩] [0,6,7,13]) (.cond (.t 13) .skip (.exit 0))) (.block 1 (.seq (.drw [⟨none,[(.mv 14 (.t 0)),(.mv 15 (.t 6)),(.mv 16 (.t 0)),(.mv 17 (.t 7)),(.mv 18 (.t 0)),(.mv 19 (.t 7)),(.ia 20 1 (.t 18) (.t 19)),(.ld 21 false 1 (.t 20)),(.mv 22 (.t 0)),(.mv 23 (.t 6)),(.ia 24 1 (.t 22) (.t 23)),(.ld 25 false 1 (.t 24)),(.ia 26 1 (.t 14) (.t 15)),(.st 1 (.t 26) (.t 21)),(.ia 27 1 (.t 16) (.t 17)),(.st 1 (.t 27) (.t 25))]⟩] [(7,11)] [0,6,7]) (.seq (.rgn [⟨none,[(.mv 28 (.t 6)),(.bin 29 .add (.t 28) (.k (I 1))),(.mv 6 (.t 29))]⟩] [0,6,7]) (.rgn [⟨none,[(.mv 30 (.t 7)),(.bin 31 .sub (.t 30) (.k (I 1))),(.mv 7 (.t 31))]⟩] [0,6,7])))))))))
theorem func_s_reverseRangeOrderedT : Tryz.prog.funcs[n_s_reverseRangeOrderedT]? = some Tryz.f139 := Tryz.func139
theorem form_s_reverseRangeOrderedT : formOf Tryz.prog Tryz.f139 [] = some G_s_reverseRangeOrderedT := by kernel_rfl
theorem res_s_reverseRangeOrderedT : resTmps Tryz.f139.results.toList = some [] := by kernel_rfl
abbrev n_s_partialInsertionSortOrderedT : Nat := 140
def G_s_partialInsertionSortOrderedT : AC := (.seq (.rgn [⟨none,[(.mv 6 (.k (B false)))]⟩] [0,1,2]) (.seq (.rgn [⟨none,[(.mv 11 (.t 1)),(.bin 12 .add (.t 11) (.k (I 1))),(.mv 7 (.t 12))]⟩] [0,1,2,7]) (.seq (.seq (.rgn [⟨none,[(.mv 8 (.k (I 0)))]⟩] [0,1,2,7,8]) (.block 0 (.loop (.seq (.seq (.rgn [⟨none,[(.mv 13 (.t 8)),(.bin 14 .lss (.t 13) (.k (I 5)))]⟩] [0,1,2,7,8,14]) (.cond (.t 14) .skip (.exit 0))) (.seq (.block 1 (.seq (.block 2 (.loop (.seq (.seq (.drw [⟨none,[(.mv 17 (.t 7)),(.mv 18 (.t 2)),(.bin 19 .lss (.t 17) (.t 18)),(.mv 20 (.t 19))]⟩,⟨(some (20,true)),[(.mv 21 (.t 0)),(.mv 22 (.t 7)),(.ia 23 1 (.t 21) (.t 22)),(.ld 24 false 1 (.t 23)),(.mv 25 (.t 0)),(.mv 26 (.t 7)),(.bin 27 .sub (.t 26) (.k (I 1))),(.ia 28 1 (.t 25) (.t 27)),(.ld 29 false 1 (.t 28)),(.call 30 141 [(.t 24),(.t 29)]),(.un 31 .not (.t 30))]⟩,⟨none,[(.pick 32 (.t 20) (.t 31) (.k (B false)))]⟩] [(7,12)] [0,1,2,7,8,32]) (.cond (.t 32) .skip (.exit 2))) (.block 3 (.rgn [⟨none,[(.mv 33 (.t 7)),(.bin 34 .add (.t 33) (.k (I 1))),(.mv 7 (.t 34))]⟩] [0,1,2,7,8]))))) (.seq (.seq (.rgn [⟨none,[(.mv 35 (.t 7)),(.mv 36 (.t 2)),(.bin 37 .eql (.t 35) (.t 36))]⟩] [0,1,2,7,8,37]) (.cond (.t 37) (.seq (.rgn [⟨none,[(.mv 6 (.k (B true)))]⟩] [6]) .ret) .skip)) (.seq (.seq (.rgn [⟨none,[(.mv 38 (.t 2)),(.mv 39 (.t 1)),(.bin 40 .sub (.t 38) (.t 39)),(.bin 41 .lss (.t 40) (.k (I 50)))]⟩] [0,1,2,7,8,41]) (.cond (.t 41) (.seq (.rgn [⟨none,[(.mv 6 (.k (B false)))]⟩] [6]) .ret) .skip)) (.seq (.drw [⟨none,[(.mv 42 (.t 0)),(.mv 43 (.t 7)),(.mv 44 (.t 0)),(.mv 45 (.t 7)),(.bin 46 .sub (.t 45) (.k (I 1))),(.mv 47 (.t 0)),(.mv 48 (.t 7)),(.bin 49 .sub (.t 48) (.k (I 1))),(.ia 50 1 (.t 47) (.t 49)),(.ld 51 false 1 (.t 50)),(.mv 52 (.t 0)),(.mv 53 (.t 7)),(.ia 54 1 (.t 52) (.t 53)),(.ld 55 false 1 (.t 54)),(.ia 56 1 (.t 42) (.t 43)),(.st 1 (.t 56) (.t 51)),(.ia 57 1 (.t 44) (.t 46)),(.st 1 (.t 57) (.t 55))]⟩] [(9,13)] [0,1,2,7,8]) (.seq (.seq (.rgn [⟨none,[(.mv 58 (.t 7)),(.mv 59 (.t 1)),(.bin 60 .sub (.t 58) (.t 59)),(.bin 61 .geq (.t 60) (.k (I 2)))]⟩] [0,1,2,7,8,61]) (.cond (.t 61) (.seq (.rgn [⟨none,[(.mv 62 (.t 7)),(.bin 63 .sub (.t 62) (.k (I 1))),(.mv 9 (.t 63))]⟩] [0,1,2,7,8,9]) (.block 4 (.loop (.seq (.seq (.rgn [⟨none,[(.mv 64 (.t 9)),(.bin 65 .geq (.t 64) (.k (I 1)))]⟩] [0,1,2,7,8,9,65]) (.cond (.t 65) .skip (.exit 4))) (.seq (.block 5 (.seq (.seq (.drw [⟨none,[(.mv 68 (.t 0)),(.mv 69 (.t 9)),(.ia 70 1 (.t 68) (.t 69)),(.ld 71 false 1 (.t 70)),(.mv 72 (.t 0)),(.mv 73 (.t 9)),(.bin 74 .sub (.t 73) (.k (I 1))),(.ia 75 1 (.t 72) (.t 74)),(.ld 76 false 1 (.t 75)),(.call 77 141 [(.t 71),(.t 76)]),(.un 78 .not (.t 77))]⟩] [(3,8)] [0,1,2,7,8,9,78]) (.cond (.t 78) (.exit 4) .skip)) (.drw [⟨none,[(.mv 79 (.t 0)),(.mv 80 (.t 9)),(.mv 81 (.t 0)),(.mv 82 (.t 9)),(.bin 83 .sub (.t 82) (.k (I 1))),(.mv 84 (.t 0)),(.mv 85 (.t 9)),(.bin 86 .sub (.t 85) (.k (I 1))),(.ia 87 1 (.t 84) (.t 86)),(.ld 88 false 1 (.t 87)),(.mv 89 (.t 0)),(.mv 90 (.t 9)),(.ia 91 1 (.t 89) (.t 90)),(.ld 92 false 1 (.t 91)),(.ia 93 1 (.t 79) (.t 80)),(.st 1 (.t 93) (.t 88)),(.ia 94 1 (.t 81) (.t 83)),(.st 1 (.t 94) (.t 92))]⟩] [(9,13)] [0,1,2,7,8,9]))) (.rgn [⟨none,[(.mv 66 (.t 9)),(.bin 67 .sub (.t 66) (.k (I 1))),(.mv 9 (.t 67))]⟩] [0,1,2,7,8,9])))))) .skip)) (.seq (.rgn [⟨none,[(.mv 95 (.t 2)),(.mv 96 (.t 7)),(.bin 97 .sub (.t 95) (.t 96)),(.bin 98 .geq (.t 97) (.k (I 2)))]⟩] [0,1,2,7,8,98]) (.cond (.t 98) (.seq (.rgn [⟨none,[(.mv 99 (.t 7)),(.bin 100 .add (.t 99) (.k (I 1))),(.mv 10 (.t 100))]⟩] [0,1,2,7,8,10]) (.block 6 (.loop (.seq (.seq (.rgn [⟨none,[(.mv 101 (.t 10)),(.mv 102 (.t 2)),(.bin 103 .lss (.t 101) (.t 102))]⟩] [0,1,2,7,8,10,103]) (.cond (.t 103) .skip (.exit 6))) (.seq (.block 7 (.seq (.seq (.drw [⟨none,[(.mv 106 (.t 0)),(.mv 107 (.t 10)),(.ia 108 1 (.t 106) (.t 107)),(.ld 109 false 1 (.t 108)),(.mv 110 (.t 0)),(.mv 111 (.t 10)),(.bin 112 .sub (.t 111) (.k (I 1))),(.ia 113 1 (.t 110) (.t 112)),(.ld 114 false 1 (.t 113)),(.call 115 141 [(.t 109),(.t 114)]),(.un 116 .not (.t 115))]⟩] [(3,8)] [0,1,2,7,8,10,116]) (.cond (.t 116) (.exit 6) .skip)) (.drw [⟨none,[(.mv 117 (.t 0)),(.mv 118 (.t 10)),(.mv 119 (.t 0)),(.mv 120 (.t 10)),(.bin 121 .sub (.t 120) (.k (I 1))),(.mv 122 (.t 0)),(.mv 123 (.t 10)),(.bin 124 .sub (.t 123) (.k (I 1))),(.ia 125 1 (.t 122) (.t 124)),(.ld 126 false 1 (.t 125)),(.mv 127 (.t 0)),(.mv 128 (.t 10)),(.ia 129 1 (.t 127) (.t 128)),(.ld 130 false 1 (.t 129)),(.ia 131 1 (.t 117) (.t 118)),(.st 1 (.t 131) (.t 126)),(.ia 132 1 (.t 119) (.t 121)),(.st 1 (.t 132) (.t 130))]⟩] [(9,13)] [0,1,2,7,8,10]))) (.rgn [⟨none,[(.mv 104 (.t 10)),(.bin 105 .add (.t 104) (.k (I 1))),(.mv 10 (.t 105))]⟩] [0,1,2,7,8,10])))))) .skip)))))))) (.rgn [⟨none,[(.mv 15 (.t 8)),(.bin 16 .add (.t 15) (.k (I 1))),(.mv 8 (.t 16))]⟩] [0,1,2,7,8])))))) (.seq (.rgn [⟨none,[(.mv 6 (.k (B false)))]⟩] [6]) .ret))))
theorem func_s_partialInsertionSortOrderedT : Tryz.prog.funcs[n_s_partialInsertionSortOrderedT]? = some Tryz.f140 := Tryz.func140
theorem form_s_partialInsertionSortOrderedT : formOf Tryz.prog Tryz.f140 [6] = some G_s_partialInsertionSortOrderedT := by kernel_rfl
theorem res_s_partialInsertionSortOrderedT : resTmps Tryz.f140.results.toList = some [6] := by kernel_rfl
abbrev n_c_LessT : Nat := 141
def G_c_LessT : AC := (.seq (.rgn [⟨none,[(.mv 4 (.k (B false)))]⟩] [0,1]) (.seq (.rgn [⟨none,[(.mv 5 (.t 0)),(.call 6 147 [(.t 5)]),(.mv 7 (.t 6))]⟩,⟨(some (7,true)),[(.mv 8 (.t 1)),(.call 9 147 [(.t 8)]),(.un 10 .not (.t 9))]⟩,⟨none,[(.pick 11 (.t 7) (.t 10) (.k (B false))),(.mv 12 (.t 11))]⟩,⟨(some (12,false)),[(.mv 13 (.t 0)),(.mv 14 (.t 1)),(.bin 15 .lss (.t 13) (.t 14))]⟩,⟨none,[(.pick 16 (.t 12) (.k (B true)) (.t 15)),(.mv 4 (.t 16))]⟩] [4]) .ret))
theorem func_c_LessT : Tryz.prog.funcs[n_c_LessT]? = some Tryz.f141 := Tryz.func141
theorem form_c_LessT : formOf Tryz.prog Tryz.f141 [4] = some G_c_LessT := by kernel_rfl
theorem res_c_LessT : resTmps Tryz.f141.results.toList = some [4] := by kernel_rfl
abbrev n_s_partitionEqualOrderedT : Nat := 142
def G_s_partitionEqualOrderedT : AC := (.seq (.rgn [⟨none,[(.mv 8 (.k (I 0)))]⟩] [0,1,2,3]) (.seq (.drw [⟨none,[(.mv 11 (.t 0)),(.mv 12 (.t 1)),(.mv 13 (.t 0)),(.mv 14 (.t 3)),(.mv 15 (.t 0)),(.mv 16 (.t 3)),(.ia 17 1 (.t 15) (.t 16)),(.ld 18 false 1 (.t 17)),(.mv 19 (.t 0)),(.mv 20 (.t 1)),(.ia 21 1 (.t 19) (.t 20)),(.ld 22 false 1 (.t 21)),(.ia 23 1 (.t 11) (.t 12)),(.st 1 (.t 23) (.t 18)),(.ia 24 1 (.t 13) (.t 14)),(.st 1 (.t 24) (.t 22))]⟩] [(7,11)] [0,1,2]) (.seq (.rgn [⟨none,[(.mv 25 (.t 1)),(.bin 26 .add (.t 25) (.k (I 1))),(.mv 27 (.t 2)),(.bin 28 .sub (.t 27) (.k (I 1))),(.mv 9 (.t 26)),(.mv 10 (.t 28))]⟩] [0,1,9,10]) (.seq (.block 0 (.loop (.block 1 (.seq (.block 2 (.loop (.seq (.seq (.drw [⟨none,[(.mv 29 (.t 9)),(.mv 30 (.t 10)),(.bin 31 .leq (.t 29) (.t 30)),(.mv 32 (.t 31))]⟩,⟨(some (32,true)),[(.mv 33 (.t 0)),(.mv 34 (.t 1)),(.ia 35 1 (.t 33) (.t 34)),(.ld 36 false 1 (.t 35)),(.mv 37 (.t 0)),(.mv 38 (.t 9)),(.ia 39 1 (.t 37) (.t 38)),(.ld 40 false 1 (.t 39)),(.call 41 141 [(.t 36),(.t 40)]),(.un 42 .not (.t 41))]⟩,⟨none,[(.pick 43 (.t 32) (.t 42) (.k (B false)))]⟩] [(7,11)] [0,1,9,10,43]) (.cond (.t 43) .skip (.exit 2))) (.block 3 (.rgn [⟨none,[(.mv 44 (.t 9)),(.bin 45 .add (.t 44) (.k (I 1))),(.mv 9 (.t 45))]⟩] [0,1,9,10]))))) (.seq (.block 4 (.loop (.seq (.seq (.drw [⟨none,[(.mv 46 (.t 9)),(.mv 47 (.t 10)),(.bin 48 .leq (.t 46) (.t 47)),(.mv 49 (.t 48))]⟩,⟨(some (49,true)),[(.mv 50 (.t 0)),(.mv 51 (.t 1)),(.ia 52 1 (.t 50) (.t 51)),(.ld 53 false 1 (.t 52)),(.mv 54 (.t 0)),(.mv 55 (.t 10)),(.ia 56 1 (.t 54) (.t 55)),(.ld 57 false 1 (.t 56)),(.call 58 141 [(.t 53),(.t 57)])]⟩,⟨none,[(.pick 59 (.t 49) (.t 58) (.k (B false)))]⟩] [(7,11)] [0,1,9,10,59]) (.cond (.t 59) .skip (.exit 4))) (.block 5 (.rgn [⟨none,[(.mv 60 (.t 10)),(.bin 61 .sub (.t 60) (.k (I 1))),(.mv 10 (.t 61))]⟩] [0,1,9,10]))))) (.seq (.seq (.rgn [⟨none,[(.mv 62 (.t 9)),(.mv 63 (.t 10)),(.bin 64 .gtr (.t 62) (.t 63))]⟩] [0,1,9,10,64]) (.cond (.t 64) (.exit 0) .skip)) (.seq (.drw [⟨none,[(.mv 65 (.t 0)),(.mv 66 (.t 9)),(.mv 67 (.t 0)),(.mv 68 (.t 10)),(.mv 69 (.t 0)),(.mv 70 (.t 10)),(.ia 71 1 (.t 69) (.t 70)),(.ld 72 false 1 (.t 71)),(.mv 73 (.t 0)),(.mv 74 (.t 9)),(.ia 75 1 (.t 73) (.t 74)),(.ld 76 false 1 (.t 75)),(.ia 77 1 (.t 65) (.t 66)),(.st 1 (.t 77) (.t 72)),(.ia 78 1 (.t 67) (.t 68)),(.st 1 (.t 78) (.t 76))]⟩] [(7,11)] [0,1,9,10]) (.seq (.rgn [⟨none,[(.mv 79 (.t 9)),(.bin 80 .add (.t 79) (.k (I 1))),(.mv 9 (.t 80))]⟩] [0,1,9,10]) (.rgn [⟨none,[(.mv 81 (.t 10)),(.bin 82 .sub (.t 81) (.k (I 1))),(.mv 10 (.t 82))]⟩] [0,1,9,10]))))))))) (.seq (.rgn [⟨none,[(.mv 83 (.t 9)),(.mv 8 (.t 83))]⟩] [8]) .ret)))))
theorem func_s_partitionEqualOrderedT : Tryz.prog.funcs[n_s_partitionEqualOrderedT]? = some Tryz.f142 := Tryz.func142
theorem form_s_partitionEqualOrderedT : formOf Tryz.prog Tryz.f142 [8] = some G_s_partitionEqualOrderedT := by kernel_rfl
theorem res_s_partitionEqualOrderedT : resTmps Tryz.f142.results.toList = some [8] := by kernel_rfl
abbrev n_s_partitionOrderedT : Nat := 143
def G_s_partitionOrderedT : AC := (.seq (.rgn [⟨none,[(.mv 8 (.k (I 0))),(.mv 9 (.k (B false)))]⟩] [0,1,2,3]) (.seq (.drw [⟨none,[(.mv 12 (.t 0)),(.mv 13 (.t 1)),(.mv 14 (.t 0)),(.mv 15 (.t 3)),(.mv 16 (.t 0)),(.mv 17 (.t 3)),(.ia 18 1 (.t 16) (.t 17)),(.ld 19 false 1 (.t 18)),(.mv 20 (.t 0)),(.mv 21 (.t 1)),(.ia 22 1 (.t 20) (.t 21)),(.ld 23 false 1 (.t 22)),(.ia 24 1 (.t 12) (.t 13)),(.st 1 (.t 24) (.t 19)),(.ia 25 1 (.t 14) (.t 15)),(.st 1 (.t 25) (.t 23))]⟩] [(7,11)] [0,1,2]) (.seq (.rgn [⟨none,[(.mv 26 (.t 1)),(.bin 27 .add (.t 26) (.k (I 1))),(.mv 28 (.t 2)),(.bin 29 .sub (.t 28) (.k (I 1))),(.mv 10 (.t 27)),(.mv 11 (.t 29))]⟩] [0,1,10,11]) (.seq (.block 0 (.loop (.seq (.seq (.drw [⟨none,[(.mv 30 (.t 10)),(.mv 31 (.t 11)),(.bin 32 .leq (.t 30) (.t 31)),(.mv 33 (.t 32))]⟩,⟨(some (33,true)),[(.mv 34 (.t 0)),(.mv 35 (.t 10)),(.ia 36 1 (.t 34) (.t 35)),(.ld 37 false 1 (.t 36)),(.mv 38 (.t 0)),(.mv 39 (.t 1)),(.ia 40 1 (.t 38) (.t 39)),(.ld 41 false 1 (.t 40)),(.call 42 141 [(.t 37),(.t 41)])]⟩,⟨none,[(.pick 43 (.t 33) (.t 42) (.k (B false)))]⟩] [(7,11)] [0,1,10,11,43]) (.cond (.t 43) .skip (.exit 0))) (.block 1 (.rgn [⟨none,[(.mv 44 (.t 10)),(.bin 45 .add (.t 44) (.k (I 1))),(.mv 10 (.t 45))]⟩] [0,1,10,11]))))) (.seq (.block 2 (.loop (.seq (.seq (.drw [⟨none,[(.mv 46 (.t 10)),(.mv 47 (.t 11)),(.bin 48 .leq (.t 46) (.t 47)),(.mv 49 (.t 48))]⟩,⟨(some (49,true)),[(.mv 50 (.t 0)),(.mv 51 (.t 11)),(.ia 52 1 (.t 50) (.t 51)),(.ld 53 false 1 (.t 52)),(.mv 54 (.t 0)),(.mv 55 (.t 1)),(.ia 56 1 (.t 54) (.t 55)),(.ld 57 false 1 (.t 56)),(.call 58 141 [(.t 53),(.t 57)]),(.un 59 .not (.t 58))]⟩,⟨none,[(.pick 60 (.t 49) (.t 59) (.k (B false)))]⟩] [(7,11)] [0,1,10,11,60]) (.cond (.t 60) .skip (.exit 2))) (.block 3 (.rgn [⟨none,[(.mv 61 (.t 11)),(.bin 62 .sub (.t 61) (.k (I 1))),(.mv 11 (.t 62))]⟩] [0,1,10,11]))))) (.seq (.seq (.rgn [⟨none,[(.mv 63 (.t 10)),(.mv 64 (.t 11)),(.bin 65 .gtr (.t 63) (.t 64))]⟩] [0,1,10,11,65]) (.cond (.t 65) (.seq (.drw [⟨none,[(.mv 66 (.t 0)),(.mv 67 (.t 11)),(.mv 68 (.t 0)),(.mv 69 (.t 1)),(.mv 70 (.t 0)),(.mv 71 (.t 1)),(.ia 72 1 (.t 70) (.t 71)),(.ld 73 false 1 (.t 72)),(.mv 74 (.t 0)),(.mv 75 (.t 11)),(.ia 76 1 (.t 74) (.t 75)),(.ld 77 false 1 (.t 76)),(.ia 78 1 (.t 66) (.t 67)),(.st 1 (.t 78) (.t 73)),(.ia 79 1 (.t 68) (.t 69)),(.st 1 (.t 79) (.t 77))]⟩] [(7,11)] [11]) (.seq (.rgn [⟨none,[(.mv 80 (.t 11)),(.mv 8 (.t 80)),(.mv 9 (.k (B true)))]⟩] [8,9]) .ret)) .skip)) (.seq (.drw [⟨none,[(.mv 81 (.t 0)),(.mv 82 (.t 10)),(.mv 83 (.t 0)),(.mv 84 (.t 11)),(.mv 85 (.t 0)),(.mv 86 (.t 11)),(.ia 87 1 (.t 85) (.t 86)),(.ld 88 false 1 (.t 87)),(.mv 89 (.t 0)),(.mv 90 (.t 10)),(.ia 91 1 (.t 89) (.t 90)),(.ld 92 false 1 (.t 91)),(.ia 93 1 (.t 81) (.t 82)),(.st 1 (.t 93) (.t 88)),(.ia 94 1 (.t 83) (.t 84)),(.st 1 (.t 94) (.t 92))]⟩] [(7,11)] [0,1,10,11]) (.seq (.rgn [⟨none,[(.mv 95 (.t 10)),(.bin 96 .add (.t 95) (.k (I 1))),(.mv 10 (.t 96))]⟩] [0,1,10,11]) (.seq (.rgn [⟨none,[(.mv 97 (.t 11)),(.bin 98 .sub (.t 97) (.k (I 1))),(.mv 11 (.t 98))]⟩] [0,1,10,11]) (.seq (.block 4 (.loop (.block 5 (.seq (.block 6 (.loop (.seq (.seq (.drw [⟨none,[(.mv 99 (.t 10)),(.mv 100 (.t 11)),(.bin 101 .leq (.t 99) (.t 100)),(.mv 102 (.t 101))]⟩,⟨(some (102,true)),[(.mv 103 (.t 0)),(.mv 104 (.t 10)),(.ia 105 1 (.t 103) (.t 104)),(.ld 106 false 1 (.t 105)),(.mv 107 (.t 0)),(.mv 108 (.t 1)),(.ia 109 1 (.t 107) (.t 108)),(.ld 110 false 1 (.t 109)),(.call 111 141 [(.t 106),(.t 110)])]⟩,⟨none,[(.pick 112 (.t 102) (.t 111) (.k (B false)))]⟩] [(7,11)] [0,1,10,11,112]) (.cond (.t 112) .skip (.exit 6))) (.block 7 (.rgn [⟨none,[(.mv 113 (.t 10)),(.bin 114 .add (.t 113) (.k (I 1))),(.mv 10 (.t 114))]⟩] [0,1,10,11]))))) (.seq (.block 8 (.loop (.seq (.seq (.drw [⟨none,[(.mv 115 (.t 10)),(.mv 116 (.t 11)),(.bin 117 .leq (.t 115) (.t 116)),(.mv 118 (.t 117))]⟩,⟨(some (118,true)),[(.mv 119 (.t 0)),(.mv 120 (.t 11)),(.ia 121 1 (.t 119) (.t 120)),(.ld 122 false 1 (.t 121)),(.mv 123 (.t 0)),(.mv 124 (.t 1)),(.ia 125 1 (.t 123) (.t 124)),(.ld 126 false 1 (.t 125)),(.call 127 141 [(.t 122),(.t 126)]),(.un 128 .not (.t 127))]⟩,⟨none,[(.pick 129 (.t 118) (.t 128) (.k (B false)))]⟩] [(7,11)] [0,1,10,11,129]) (.cond (.t 129) .skip (.exit 8))) (.block 9 (.rgn [⟨none,[(.mv 130 (.t 11)),(.bin 131 .sub (.t 130) (.k (I 1))),(.mv 11 (.t 131))]⟩] [0,1,10,11]))))) (.seq (.seq (.rgn [⟨none,[(.mv 132 (.t 10)),(.mv 133 (.t 11)),(.bin 134 .gtr (.t 132) (.t 133))]⟩] [0,1,10,11,134]) (.cond (.t 134) (.exit 4) .skip)) (.seq (.drw [⟨none,[(.mv 135 (.t 0)),(.mv 136 (.t 10)),(.mv 137 (.t 0)),(.mv 138 (.t 11)),(.mv 139 (.t 0)),(.mv 140 (.t 11)),(.ia 141 1 (.t 139) (.t 140)),(.ld 142 false 1 (.t 141)),(.mv 143 (.t 0)),(.mv 144 (.t 10)),(.ia 145 1 (.t 143) (.t 144)),(.ld 146 false 1 (.t 145)),(.ia 147 1 (.t 135) (.t 136)),(.st 1 (.t 147) (.t 142)),(.ia 148 1 (.t 137) (.t 138)),(.st 1 (.t 148) (.t 146))]⟩] [(7,11)] [0,1,10,11]) (.seq (.rgn [⟨none,[(.mv 149 (.t 10)),(.bin 150 .add (.t 149) (.k (I 1))),(.mv 10 (.t 150))]⟩] [0,1,10,11]) (.rgn [⟨none,[(.mv 151 (.t 11)),(.bin 152 .sub (.t 151) (.k (I 1))),(.mv 11 (.t 152))]⟩] [0,1,10,11]))))))))) (.seq (.drw [⟨none,[(.mv 153 (.t 0)),(.mv 154 (.t 11)),(.mv 155 (.t 0)),(.mv 156 (.t 1)),(.mv 157 (.t 0)),(.mv 158 (.t 1)),(.ia 159 1 (.t 157) (.t 158)),(.ld 160 false 1 (.t 159)),(.mv 161 (.t 0)),(.mv 162 (.t 11)),(.ia 163 1 (.t 161) (.t 162)),(.ld 164 false 1 (.t 163)),(.ia 165 1 (.t 153) (.t 154)),(.st 1 (.t 165) (.t 160)),(.ia 166 1 (.t 155) (.t 156)),(.st 1 (.t 166) (.t 164))]⟩] [(7,11)] [11]) (.seq (.rgn [⟨none,[(.mv 167 (.t 11)),(.mv 8 (.t 167)),(.mv 9 (.k (B false)))]⟩] [8,9]) .ret))))))))))))
theorem func_s_partitionOrderedT : Tryz.prog.funcs[n_s_partitionOrderedT]? = some Tryz.f143 := Tryz.func143
theorem form_s_partitionOrderedT : formOf Tryz.prog Tryz.f143 [8,9] = some G_s_partitionOrderedT := by kernel_rfl
theorem res_s_partitionOrderedT : resTmps Tryz.f143.results.toList = some [8,9] := by kernel_rfl
abbrev n_s_siftDownOrderedT : Nat := 144
def G_s_siftDownOrderedT : AC := (.seq (.rgn [⟨none,[(.mv 10 (.t 1)),(.mv 8 (.t 10))]⟩] [0,2,3,8]) (.block 0 (.loop (.block 1 (.seq (.rgn [⟨none,[(.mv 11 (.t 8)),(.bin 12 .mul (.k (I 2)) (.t 11)),(.bin 13 .add (.t 12) (.k (I 1))),(.mv 9 (.t 13))]⟩] [0,2,3,8,9]) (.seq (.seq (.rgn [⟨none,[(.mv 14 (.t 9)),(.mv 15 (.t 2)),(.bin 16 .geq (.t 14) (.t 15))]⟩] [0,2,3,8,9,16]) (.cond (.t 16) (.exit 0) .skip)) (.seq (.seq (.drw [⟨none,[(.mv 17 (.t 9)),(.bin 18 .add (.t 17) (.k (I 1))),(.mv 19 (.t 2)),(.bin 20 .lss (.t 18) (.t 19)),(.mv 21 (.t 20))]⟩,⟨(some (21,true)),[(.mv 22 (.t 0)),(.mv 23 (.t 3)),(.mv 24 (.t 9)),(.bin 25 .add (.t 23) (.t 24)),(.ia 26 1 (.t 22) (.t 25)),(.ld 27 false 1 (.t 26)),(.mv 28 (.t 0)),(.mv 29 (.t 3)),(.mv 30 (.t 9)),(.bin 31 .add (.t 29) (.t 30)),(.bin 32 .add (.t 31) (.k (I 1))),(.ia 33 1 (.t 28) (.t 32)),(.ld 34 false 1 (.t 33)),(.call 35 141 [(.t 27),(.t 34)])]⟩,⟨none,[(.pick 36 (.t 21) (.t 35) (.k (B false)))]⟩] [(10,17)] [0,2,3,8,9,36]) (.cond (.t 36) (.rgn [⟨none,[(.mv 37 (.t 9)),(.bin 38 .add (.t 37) (.k (I 1))),(.mv 9 (.t 38))]⟩] [0,2,3,8,9]) .skip)) (.seq (.seq (.drw [⟨none,[(.mv 39 (.t 0)),(.mv 40 (.t 3)),(.mv 41 (.t 8)),(.bin 42 .add (.t 40) (.t 41)),(.ia 43 1 (.t 39) (.t 42)),(.ld 44 false 1 (.t 43)),(.mv 45 (.t 0)),(.mv 46 (.t 3)),(.mv 47 (.t 9)),(.bin 48 .add (.t 46) (.t 47)),(.ia 49 1 (.t 45) (.t 48)),(.ld 50 false 1 (.t 49)),(.call 51 141 [(.t 44),(.t 50)]),(.un 52 .not (.t 51))]⟩] [(5,11)] [0,2,3,8,9,52]) (.cond (.t 52) .ret .skip)) (.seq (.drw [⟨none,[(.mv 53 (.t 0)),(.mv 54 (.t 3)),(.mv 55 (.t 8)),(.bin 56 .add (.t 54) (.t 55)),(.mv 57 (.t 0)),(.mv 58 (.t 3)),(.mv 59 (.t 9)),(.bin 60 .add (.t 58) (.t 59)),(.mv 61 (.t 0)),(.mv 62 (.t 3)),(.mv 63 (.t 9)),(.bin 64 .add (.t 62) (.t 63)),(.ia 65 1 (.t 61) (.t 64)),(.ld 66 false 1 (.t 65)),(.mv 67 (.t 0)),(.mv 68 (.t 3)),(.mv 69 (.t 8)),(.bin 70 .add (.t 68) (.t 69)),(.ia 71 1 (.t 67) (.t 70)),(.ld 72 false 1 (.t 71)),(.ia 73 1 (.t 53) (.t 56)),(.st 1 (.t 73) (.t 66)),(.ia 74 1 (.t 57) (.t 60)),(.st 1 (.t 74) (.t 72))]⟩] [(13,19)] [0,2,3,9]) (.rgn [⟨none,[(.mv 75 (.t 9)),(.mv 8 (.t 75))]⟩] [0,2,3,8]))))))))))
theorem func_s_siftDownOrderedT : Tryz.prog.funcs[n_s_siftDownOrderedT]? = some Tryz.f144 := Tryz.func144
theorem form_s_siftDownOrderedT : formOf Tryz.prog Tryz.f144 [] = some G_s_siftDownOrderedT := by kernel_rfl
theorem res_s_siftDownOrderedT : resTmps Tryz.f144.results.toList = some [] := by kernel_rfl
abbrev n_s_medianAdjacentOrderedT : Nat := 145
def G_s_medianAdjacentOrderedT : AC := (.seq (.rgn [⟨none,[(.mv 6 (.k (I 0)))]⟩] [0,1,2]) (.seq (.rgn [⟨none,[(.mv 7 (.t 0)),(.mv 8 (.t 1)),(.bin 9 .sub (.t 8) (.k (I 1))),(.mv 10 (.t 1)),(.mv 11 (.t 1)),(.bin 12 .add (.t 11) (.k (I 1))),(.mv 13 (.t 2)),(.call 14 146 [(.t 7),(.t 9),(.t 10),(.t 12),(.t 13)]),(.mv 6 (.t 14))]⟩] [6]) .ret))
theorem func_s_medianAdjacentOrderedT : Tryz.prog.funcs[n_s_medianAdjacentOrderedT]? = some Tryz.f145 := Tryz.func145
theorem form_s_medianAdjacentOrderedT : formOf Tryz.prog Tryz.f145 [6] = some G_s_medianAdjacentOrderedT := by kernel_rfl
theorem res_s_medianAdjacentOrderedT : resTmps Tryz.f145.results.toList = some [6] := by kernel_rfl
abbrev n_s_medianOrderedT : Nat := 146
def G_s_medianOrderedT : AC := (.seq (.rgn [⟨none,[(.mv 10 (.k (I 0)))]⟩] [0,1,2,3,4]) (.seq (.rgn [⟨none,[(.mv 12 (.t 0)),(.mv 13 (.t 1)),(.mv 14 (.t 2)),(.mv 15 (.t 4)),(.call 16 148 [(.t 12),(.t 13),(.t 14),(.t 15)]),(.mv 11 (.t 16)),(.ext 17 (.t 11) 0),(.ext 18 (.t 11) 1),(.mv 1 (.t 17)),(.mv 2 (.t 18))]⟩] [0,1,2,3,4]) (.seq (.rgn [⟨none,[(.mv 20 (.t 0)),(.mv 21 (.t 2)),(.mv 22 (.t 3)),(.mv 23 (.t 4)),(.call 24 148 [(.t 20),(.t 21),(.t 22),(.t 23)]),(.mv 19 (.t 24)),(.ext 25 (.t 19) 0),(.ext 26 (.t 19) 1),(.mv 2 (.t 25)),(.mv 3 (.t 26))]⟩] [0,1,2,4]) (.seq (.rgn [⟨none,[(.mv 28 (.t 0)),(.mv 29 (.t 1)),(.mv 30 (.t 2)),(.mv 31 (.t 4)),(.call 32 148 [(.t 28),(.t 29),(.t 30),(.t 31)]),(.mv 27 (.t 32)),(.ext 33 (.t 27) 0),(.ext 34 (.t 27) 1),(.mv 1 (.t 33)),(.mv 2 (.t 34))]⟩] [2]) (.seq (.rgn [⟨none,[(.mv 35 (.t 2)),(.mv 10 (.t 35))]⟩] [10]) .ret)))))
theorem func_s_medianOrderedT : Tryz.prog.funcs[n_s_medianOrderedT]? = some Tryz.f146 := Tryz.func146
theorem form_s_medianOrderedT : formOf Tryz.prog Tryz.f146 [10] = some G_s_medianOrderedT := by kernel_rfl
theorem res_s_medianOrderedT : resTmps Tryz.f146.results.toList = some [10] := by kernel_rfl
abbrev n_c_isNaNT : Nat := 147
def G_c_isNaNT : AC := (.seq (.rgn [⟨none,[(.mv 2 (.k (B false)))]⟩] [0]) (.seq (.rgn [⟨none,[(.mv 3 (.t 0)),(.mv 4 (.t 0)),(.bin 5 .neq (.t 3) (.t 4)),(.mv 2 (.t 5))]⟩] [2]) .ret))
theorem func_c_isNaNT : Tryz.prog.funcs[n_c_isNaNT]? = some Tryz.f147 := Tryz.func147
theorem form_c_isNaNT : formOf Tryz.prog Tryz.f147 [2] = some G_c_isNaNT := by kernel_rfl
theorem res_c_isNaNT : resTmps Tryz.f147.results.toList = some [2] := by kernel_rfl
abbrev n_s_order2OrderedT : Nat := 148
def G_s_order2OrderedT : AC := (.seq (.rgn [⟨none,[(.mv 8 (.k (I 0))),(.mv 9 (.k (I 0)))]⟩] [0,1,2,3]) (.seq (.seq (.drw [⟨none,[(.mv 10 (.t 0)),(.mv 11 (.t 2)),(.ia 12 1 (.t 10) (.t 11)),(.ld 13 false 1 (.t 12)),(.mv 14 (.t 0)),(.mv 15 (.t 1)),(.ia 16 1 (.t 14) (.t 15)),(.ld 17 false 1 (.t 16)),(.call 18 141 [(.t 13),(.t 17)])]⟩] [(3,7)] [1,2,3,18]) (.cond (.t 18) (.seq (.rgn [⟨none,[(.mv 19 (.t 3)),(.nilc 20 (.t 19)),(.ld 21 false 1 (.t 20)),(.bin 22 .add (.t 21) (.k (I 1))),(.nilc 23 (.t 19)),(.st 1 (.t 23) (.t 22))]⟩] [1,2]) (.seq (.rgn [⟨none,[(.mv 24 (.t 2)),(.mv 25 (.t 1)),(.mv 8 (.t 24)),(.mv 9 (.t 25))]⟩] [8,9]) .ret)) .skip)) (.seq (.rgn [⟨none,[(.mv 26 (.t 1)),(.mv 27 (.t 2)),(.mv 8 (.t 26)),(.mv 9 (.t 27))]⟩] [8,9]) .ret)))
theorem func_s_order2OrderedT : Tryz.prog.funcs[n_s_order2OrderedT]? = some Tryz.f148 := Tryz.func148
theorem form_s_order2OrderedT : formOf Tryz.prog Tryz.f148 [8,9] = some G_s_order2OrderedT := by kernel_rfl
theorem res_s_order2OrderedT : resTmps Tryz.f148.results.toList = some [8,9] := by kernel_rfl
end Go.AM

namespace Go.AM
open Go.RowKit Go.Proofs
set_option maxHeartbeats 1000000 in
theorem k_indexW_w (f : Bool) (l : List Int) (hl : l.length ≤ 1000000) {fid : Nat} {caps : List AV} {p : Int → Bool} {hp : List HObj} {K : AV → List HObj → Prop} (hf : funOK Tryz.prog fid = true)
 (hc : ∀ i (hi : i < l.length) (KK : AV → List HObj → Prop),KK (B (p l[i])) hp → CallW Tryz.prog fid ([I l[i]] ++ caps) hp KK) (hK : K (I (idxI p l)) hp) : CallW Tryz.prog n_s_IndexFuncW [Ls f l,.fn (.func fid) [] caps] hp K := by
 refine walk func_s_IndexFuncW form_s_IndexFuncW res_s_IndexFuncW (by show 2 ≤ _; decide) ?_
 simp -implicitDefEqProofs (disch := omega) [G_s_IndexFuncW,wrap_id]
 refine loop_eq (fun i : Nat => ⟨[(0,Ls f l),(1,.fn (.func fid) [] caps),(7,I l.length),(8,I (i : Int))],hp⟩) (fun i => i ≤ l.length ∧ ∀ k (hk : k < l.length),k < i → p l[k] = false) (fun i => l.length - i) 0 ⟨Nat.zero_le _,fun k _ h => by omega⟩ rfl ?_
 rintro i ⟨c1,c2⟩
 refine hideK' fun K0 hK0 => ?_
 simp -implicitDefEqProofs (disch := omega) [wrap_id]
 refine c_split (fun h => ?_) (fun h => ?_)
 · have hi : i < l.length := by simpa using h
   have ix : ((i : Int) + 1) = ((i + 1 : Nat) : Int) := by omega
   simp -implicitDefEqProofs (disch := omega) [wrap_id,hi,cells_ls]
   refine ⟨hf,hc i hi _ ?_⟩
   cases hp : p l[i] with
   | true =>
     have e := idxI_some hi hp (fun k hk h => c2 k hk h)
     subst hK0
     simp -implicitDefEqProofs (disch := omega) [wrap_id]
     rw [e] at hK
     exact hK
   | false =>
     simp -implicitDefEqProofs (disch := omega) [wrap_id]
     rw [hK0]
     refine next_eq (i + 1) ⟨by omega,fun k hk h => ?_⟩ (by omega) (by simp only [ix])
     by_cases e : k = i
     · subst e; exact hp
     · exact c2 k hk (by omega)
 · have hi : i = l.length := by simp at h; omega
   subst hi
   subst hK0
   simp -implicitDefEqProofs (disch := omega) [wrap_id]
   rw [idxI_none (fun k hk => c2 k hk hk)] at hK
   exact hK
theorem k_containsW_w (f : Bool) (l : List Int) (hl : l.length ≤ 1000000) {fid : Nat} {caps : List AV} {p : Int → Bool} {hp : List HObj} {K : AV → List HObj → Prop} (hf : funOK Tryz.prog fid = true)
 (hc : ∀ i (hi : i < l.length) (KK : AV → List HObj → Prop),KK (B (p l[i])) hp → CallW Tryz.prog fid ([I l[i]] ++ caps) hp KK) (hK : K (B (l.any p)) hp) : CallW Tryz.prog n_s_ContainsFuncW [Ls f l,.fn (.func fid) [] caps] hp K := by
 refine walk func_s_ContainsFuncW form_s_ContainsFuncW res_s_ContainsFuncW (by show 2 ≤ _; decide) ?_
 simp -implicitDefEqProofs (disch := omega) [G_s_ContainsFuncW,wrap_id]
 refine k_indexW_w f l hl hf hc ?_
 simp -implicitDefEqProofs (disch := omega) [wrap_id]
 rw [← idxI_any] at hK
 exact hK
set_option maxHeartbeats 1000000 in
theorem k_indexL_w (f : Bool) (l : List Int) (hl : l.length ≤ 1000000) {fid : Nat} {caps : List AV} {p : Int → Bool} {hp : List HObj} {K : AV → List HObj → Prop} (hf : funOK Tryz.prog fid = true)
 (hc : ∀ i (hi : i < l.length) (KK : AV → List HObj → Prop),KK (B (p l[i])) hp → CallW Tryz.prog fid ([I l[i]] ++ caps) hp KK) (hK : K (I (idxI p l)) hp) : CallW Tryz.prog n_s_IndexFuncL [Ls f l,.fn (.func fid) [] caps] hp K := by
 refine walk func_s_IndexFuncL form_s_IndexFuncL res_s_IndexFuncL (by show 2 ≤ _; decide) ?_
 simp -implicitDefEqProofs (disch := omega) [G_s_IndexFuncL,wrap_id]
 refine loop_eq (fun i : Nat => ⟨[(0,Ls f l),(1,.fn (.func fid) [] caps),(7,I l.length),(8,I (i : Int))],hp⟩) (fun i => i ≤ l.length ∧ ∀ k (hk : k < l.length),k < i → p l[k] = false) (fun i => l.length - i) 0 ⟨Nat.zero_le _,fun k _ h => by omega⟩ rfl ?_
 rintro i ⟨c1,c2⟩
 refine hideK' fun K0 hK0 => ?_
 simp -implicitDefEqProofs (disch := omega) [wrap_id]
 refine c_split (fun h => ?_) (fun h => ?_)
 · have hi : i < l.length := by simpa using h
   have ix : ((i : Int) + 1) = ((i + 1 : Nat) : Int) := by omega
   simp -implicitDefEqProofs (disch := omega) [wrap_id,hi,cells_ls]
   refine ⟨hf,hc i hi _ ?_⟩
   cases hp : p l[i] with
   | true =>
     have e := idxI_some hi hp (fun k hk h => c2 k hk h)
     subst hK0
     simp -implicitDefEqProofs (disch := omega) [wrap_id]
     rw [e] at hK
     exact hK
   | false =>
     simp -implicitDefEqProofs (disch := omega) [wrap_id]
     rw [hK0]
     refine next_eq (i + 1) ⟨by omega,fun k hk h => ?_⟩ (by omega) (by simp only [ix])
     by_cases e : k = i
     · subst e; exact hp
     · exact c2 k hk (by omega)
 · have hi : i = l.length := by simp at h; omega
   subst hi
   subst hK0
   simp -implicitDefEqProofs (disch := omega) [wrap_id]
   rw [idxI_none (fun k hk => c2 k hk hk)] at hK
   exact hK
theorem k_containsL_w (f : Bool) (l : List Int) (hl : l.length ≤ 1000000) {fid : Nat} {caps : List AV} {p : Int → Bool} {hp : List HObj} {K : AV → List HObj → Prop} (hf : funOK Tryz.prog fid = true)
 (hc : ∀ i (hi : i < l.length) (KK : AV → List HObj → Prop),KK (B (p l[i])) hp → CallW Tryz.prog fid ([I l[i]] ++ caps) hp KK) (hK : K (B (l.any p)) hp) : CallW Tryz.prog n_s_ContainsFuncL [Ls f l,.fn (.func fid) [] caps] hp K := by
 refine walk func_s_ContainsFuncL form_s_ContainsFuncL res_s_ContainsFuncL (by show 2 ≤ _; decide) ?_
 simp -implicitDefEqProofs (disch := omega) [G_s_ContainsFuncL,wrap_id]
 refine k_indexL_w f l hl hf hc ?_
 simp -implicitDefEqProofs (disch := omega) [wrap_id]
 rw [← idxI_any] at hK
 exact hK
set_option maxHeartbeats 1000000 in
theorem k_indexK_w (f : Bool) (l : List (Int × Int)) (hl : l.length ≤ 1000000) {fid : Nat} {caps : List AV} {p : (Int × Int) → Bool} {hp : List HObj} {K : AV → List HObj → Prop} (hf : funOK Tryz.prog fid = true)
 (hc : ∀ i (hi : i < l.length) (KK : AV → List HObj → Prop),KK (B (p l[i])) hp → CallW Tryz.prog fid ([Pr l[i]] ++ caps) hp KK) (hK : K (I (idxI p l)) hp) : CallW Tryz.prog n_s_IndexFuncK [Ps f l,.fn (.func fid) [] caps] hp K := by
 refine walk func_s_IndexFuncK form_s_IndexFuncK res_s_IndexFuncK (by show 2 ≤ _; decide) ?_
 simp -implicitDefEqProofs (disch := omega) [G_s_IndexFuncK,wrap_id]
 refine loop_eq (fun i : Nat => ⟨[(0,Ps f l),(1,.fn (.func fid) [] caps),(7,I l.length),(8,I (i : Int))],hp⟩) (fun i => i ≤ l.length ∧ ∀ k (hk : k < l.length),k < i → p l[k] = false) (fun i => l.length - i) 0 ⟨Nat.zero_le _,fun k _ h => by omega⟩ rfl ?_
 rintro i ⟨c1,c2⟩
 refine hideK' fun K0 hK0 => ?_
 simp -implicitDefEqProofs (disch := omega) [wrap_id]
 refine c_split (fun h => ?_) (fun h => ?_)
 · have hi : i < l.length := by simpa using h
   have ix : ((i : Int) + 1) = ((i + 1 : Nat) : Int) := by omega
   simp -implicitDefEqProofs (disch := omega) [wrap_id,hi,cells_pair]
   refine ⟨flat2_len _,hf,hc i hi _ ?_⟩
   cases hp : p l[i] with
   | true =>
     have e := idxI_some hi hp (fun k hk h => c2 k hk h)
     subst hK0
     simp -implicitDefEqProofs (disch := omega) [wrap_id]
     rw [e] at hK
     exact hK
   | false =>
     simp -implicitDefEqProofs (disch := omega) [wrap_id]
     rw [hK0]
     refine next_eq (i + 1) ⟨by omega,fun k hk h => ?_⟩ (by omega) (by simp only [ix])
     by_cases e : k = i
     · subst e; exact hp
     · exact c2 k hk (by omega)
 · have hi : i = l.length := by simp at h; omega
   subst hi
   subst hK0
   simp -implicitDefEqProofs (disch := omega) [wrap_id]
   rw [idxI_none (fun k hk => c2 k hk hk)] at hK
   exact hK
theorem k_containsK_w (f : Bool) (l : List (Int × Int)) (hl : l.length ≤ 1000000) {fid : Nat} {caps : List AV} {p : (Int × Int) → Bool} {hp : List HObj} {K : AV → List HObj → Prop} (hf : funOK Tryz.prog fid = true)
 (hc : ∀ i (hi : i < l.length) (KK : AV → List HObj → Prop),KK (B (p l[i])) hp → CallW Tryz.prog fid ([Pr l[i]] ++ caps) hp KK) (hK : K (B (l.any p)) hp) : CallW Tryz.prog n_s_ContainsFuncK [Ps f l,.fn (.func fid) [] caps] hp K := by
 refine walk func_s_ContainsFuncK form_s_ContainsFuncK res_s_ContainsFuncK (by show 2 ≤ _; decide) ?_
 simp -implicitDefEqProofs (disch := omega) [G_s_ContainsFuncK,wrap_id]
 refine k_indexK_w f l hl hf hc ?_
 simp -implicitDefEqProofs (disch := omega) [wrap_id]
 rw [← idxI_any] at hK
 exact hK
set_option maxHeartbeats 1000000 in
theorem k_indexR_w (f : Bool) (l : List (Int × Int)) (hl : l.length ≤ 1000000) {fid : Nat} {caps : List AV} {p : (Int × Int) → Bool} {hp : List HObj} {K : AV → List HObj → Prop} (hf : funOK Tryz.prog fid = true)
 (hc : ∀ i (hi : i < l.length) (KK : AV → List HObj → Prop),KK (B (p l[i])) hp → CallW Tryz.prog fid ([Pr l[i]] ++ caps) hp KK) (hK : K (I (idxI p l)) hp) : CallW Tryz.prog n_s_IndexFuncR [Ps f l,.fn (.func fid) [] caps] hp K := by
 refine walk func_s_IndexFuncR form_s_IndexFuncR res_s_IndexFuncR (by show 2 ≤ _; decide) ?_
 simp -implicitDefEqProofs (disch := omega) [G_s_IndexFuncR,wrap_id]
 refine loop_eq (fun i : Nat => ⟨[(0,Ps f l),(1,.fn (.func fid) [] caps),(7,I l.length),(8,I (i : Int))],hp⟩) (fun i => i ≤ l.length ∧ ∀ k (hk : k < l.length),k < i → p l[k] = false) (fun i => l.length - i) 0 ⟨Nat.zero_le _,fun k _ h => by omega⟩ rfl ?_
 rintro i ⟨c1,c2⟩
 refine hideK' fun K0 hK0 => ?_
 simp -implicitDefEqProofs (disch := omega) [wrap_id]
 refine c_split (fun h => ?_) (fun h => ?_)
 · have hi : i < l.length := by simpa using h
   have ix : ((i : Int) + 1) = ((i + 1 : Nat) : Int) := by omega
   simp -implicitDefEqProofs (disch := omega) [wrap_id,hi,cells_pair]
   refine ⟨flat2_len _,hf,hc i hi _ ?_⟩
   cases hp : p l[i] with
   | true =>
     have e := idxI_some hi hp (fun k hk h => c2 k hk h)
     subst hK0
     simp -implicitDefEqProofs (disch := omega) [wrap_id]
     rw [e] at hK
     exact hK
   | false =>
     simp -implicitDefEqProofs (disch := omega) [wrap_id]
     rw [hK0]
     refine next_eq (i + 1) ⟨by omega,fun k hk h => ?_⟩ (by omega) (by simp only [ix])
     by_cases e : k = i
     · subst e; exact hp
     · exact c2 k hk (by omega)
 · have hi : i = l.length := by simp at h; omega
   subst hi
   subst hK0
   simp -implicitDefEqProofs (disch := omega) [wrap_id]
   rw [idxI_none (fun k hk => c2 k hk hk)] at hK
   exact hK
theorem k_containsR_w (f : Bool) (l : List (Int × Int)) (hl : l.length ≤ 1000000) {fid : Nat} {caps : List AV} {p : (Int × Int) → Bool} {hp : List HObj} {K : AV → List HObj → Prop} (hf : funOK Tryz.prog fid = true)
 (hc : ∀ i (hi : i < l.length) (KK : AV → List HObj → Prop),KK (B (p l[i])) hp → CallW Tryz.prog fid ([Pr l[i]] ++ caps) hp KK) (hK : K (B (l.any p)) hp) : CallW Tryz.prog n_s_ContainsFuncR [Ps f l,.fn (.func fid) [] caps] hp K := by
 refine walk func_s_ContainsFuncR form_s_ContainsFuncR res_s_ContainsFuncR (by show 2 ≤ _; decide) ?_
 simp -implicitDefEqProofs (disch := omega) [G_s_ContainsFuncR,wrap_id]
 refine k_indexR_w f l hl hf hc ?_
 simp -implicitDefEqProofs (disch := omega) [wrap_id]
 rw [← idxI_any] at hK
 exact hK
theorem k_within1_w {a c : Nat} {lo hi n : Int} {hp : List HObj} (ha : nthH hp a = some (.cells [I lo])) (hc : nthH hp c = some (.cells [I hi])) {K : AV → List HObj → Prop} (hK : K (B (decide (n < lo) || decide (hi < n))) hp) : CallW Tryz.prog n_k_within_1 [I n,.ref a 0,.ref c 0] hp K := by
 refine walk func_k_within_1 form_k_within_1 res_k_within_1 (by show 3 ≤ _; decide) ?_
 simp -implicitDefEqProofs (disch := omega) [G_k_within_1,wrap_id,ha,hc]
 by_cases h1 : n < lo
 · simp -implicitDefEqProofs (disch := omega) [wrap_id,h1]
   simpa [h1] using hK
 · simp -implicitDefEqProofs (disch := omega) [wrap_id,h1,hc]
   simpa [h1] using hK
theorem k_within_ok (lo hi : Int) (f : Bool) (l : List Int) (hl : l.length ≤ 1000000) : PureOK Tryz.prog n_k_within [I lo,I hi,Ls f l] (B (allIn lo hi l)) := by
 refine pure_of (walk func_k_within form_k_within res_k_within (by show 3 ≤ _; decide) ?_)
 simp -implicitDefEqProofs (disch := omega) [G_k_within,wrap_id]
 refine k_containsW_w f l hl (p := fun x => decide (x < lo) || decide (hi < x)) (by kernel_rfl) (fun i hi KK h => k_within1_w rfl rfl h) ?_
 simp -implicitDefEqProofs (disch := omega) [wrap_id]
 exact allIn_any lo hi l
set_option maxHeartbeats 1000000 in
theorem k_divisor_ok (a b : Nat) (ha : a ≤ 1000000) (hb : b ≤ 1000000) : PureOK Tryz.prog n_k_divisor [I (a : Int),I (b : Int)] (I (Nat.gcd a b : Nat)) := by
 refine pure_of (walk func_k_divisor form_k_divisor res_k_divisor (by show 2 ≤ _; decide) ?_)
 simp -implicitDefEqProofs (disch := omega) [G_k_divisor,wrap_id]
 refine loop_eq (fun q : Nat × Nat => ⟨[(0,I (q.1 : Int)),(1,I (q.2 : Int))],[]⟩) (fun q => q.1 ≤ 1000000 ∧ q.2 ≤ 1000000 ∧ Nat.gcd q.1 q.2 = Nat.gcd a b) (fun q => q.2) (a,b) ⟨ha,hb,rfl⟩ rfl ?_
 rintro ⟨x,y⟩ ⟨d1,d2,d3⟩
 simp only at d1 d2 d3 ⊢
 refine hideK' fun K0 hK0 => ?_
 simp -implicitDefEqProofs (disch := omega) [wrap_id]
 refine c_split (fun hc => ?_) (fun hc => ?_)
 · have hy : y ≠ 0 := by
    intro e; subst e; simp at hc
   have hy2 : ((y : Int) == 0) = false := by rw [beq_eq_false_iff_ne]; omega
   have hy3 : (y : Int) ≠ 0 := by omega
   have er : (x : Int).tmod (y : Int) = ((x % y : Nat) : Int) := by rw [Int.tmod_eq_emod_of_nonneg (by omega)]; rfl
   have hl := Nat.mod_lt x (Nat.pos_of_ne_zero hy)
   simp -implicitDefEqProofs (disch := omega) [wrap_id,cmp2,nthT,hy,hy2,hy3,er]
   rw [hK0]
   refine next_eq (y,x % y) ⟨d2,by simp only; omega,by simp only; rw [gcd_step x y hy]; exact d3⟩ (by simp only; omega) rfl
 · have hy : y = 0 := by simpa using hc
   subst hy
   subst hK0
   rw [← d3,Nat.gcd_zero_right]
   simp -implicitDefEqProofs (disch := omega) [wrap_id]
end Go.AM

namespace Go.AM
open Go.RowKit Go.Proofs
def nxM (l : List (Int × Int)) (i : Nat) : Int := if i = 0 then 0 else (l.getD (i - 1) (0,0)).2 + 1
theorem allIn2 {lo hi a b : Int} : allIn lo hi [a,b] = ((decide (lo ≤ a) && decide (a ≤ hi)) && (decide (lo ≤ b) && decide (b ≤ hi))) := by simp [allIn]
theorem allIn1 {lo hi a : Int} : allIn lo hi [a] = (decide (lo ≤ a) && decide (a ≤ hi)) := by simp [allIn]
set_option maxHeartbeats 4000000 in
theorem k_checkMarks_ok (f : Bool) (l : List (Int × Int)) (hl : l.length ≤ 1000000) : PureOK Tryz.prog n_k_checkMarks [Ps f l] (I (mrkE l)) := by
 refine pure_of (walk func_k_checkMarks form_k_checkMarks res_k_checkMarks (by show 1 ≤ _; decide) ?_)
 simp -implicitDefEqProofs (disch := omega) [G_k_checkMarks,wrap_id]
 refine loop_eq (fun q : Nat × List HObj => ⟨[(3,I (nxM l q.1)),(6,Ps f l),(7,I l.length),(8,I (q.1 : Int))],q.2⟩) (fun q => q.1 ≤ l.length ∧ ∀ k,k < q.1 → mkB l k = false) (fun q => l.length - q.1) (0,[]) ⟨Nat.zero_le _,fun k hk => by omega⟩ rfl ?_
 rintro ⟨i,H⟩ ⟨d1,d2⟩
 simp only at d1 d2 ⊢
 refine hideK' fun K0 hK0 => ?_
 simp -implicitDefEqProofs (disch := omega) [wrap_id]
 refine c_split (fun hc => ?_) (fun hc => ?_)
 · have hi : i < l.length := by simpa using hc
   have ix : ((i : Int) + 1) = ((i + 1 : Nat) : Int) := by omega
   have mb : mkB l i = (decide (l[i].1 < 0) || decide (l[i].2 < l[i].1) || decide (500 < l[i].2) || decide (3 < l[i].2 - l[i].1) || (decide (0 < i) && decide (l[i].1 ≤ (l.getD (i - 1) (0,0)).2))) := by
    unfold mkB; rw [getD_at hi]
   have n0 : 0 ≤ nxM l i := by
    unfold nxM
    split
    · omega
    · have := d2 (i - 1) (by omega)
      unfold mkB at this
      simp only [Bool.or_eq_false_iff,decide_eq_false_iff_not] at this
      omega
   have nx : nxM l (i + 1) = l[i].2 + 1 := by unfold nxM; rw [if_neg (by omega),show i + 1 - 1 = i from rfl,getD_at hi]
   have key : mkB l i = !(((decide (nxM l i ≤ l[i].1) && decide (l[i].1 ≤ 500)) && (decide (nxM l i ≤ l[i].2) && decide (l[i].2 ≤ 500))) && (decide (0 ≤ l[i].2 - l[i].1) && decide (l[i].2 - l[i].1 ≤ 3))) := by
    rw [mb,Bool.eq_iff_iff]
    unfold nxM at n0 ⊢
    by_cases e : i = 0
    · rw [if_pos e]
      simp only [Bool.or_eq_true,Bool.and_eq_true,decide_eq_true_eq,Bool.not_eq_true',Bool.and_eq_false_iff,decide_eq_false_iff_not]
      omega
    · rw [if_neg e] at n0 ⊢
      simp only [Bool.or_eq_true,Bool.and_eq_true,decide_eq_true_eq,Bool.not_eq_true',Bool.and_eq_false_iff,decide_eq_false_iff_not]
      omega
   generalize nxM l i = N at *
   simp -implicitDefEqProofs (disch := omega) [wrap_id,cells_pair,hi]
   refine ⟨flat2_len _,?_⟩
   refine bsl_of (ys := [I l[i].1,I l[i].2]) rfl rfl ?_
   simp -implicitDefEqProofs (disch := omega) [wrap_id,zrep]
   refine callW_pure (ys := [I N,I 500,Ls true [l[i].1,l[i].2]]) (ids := []) rfl (k_within_ok N 500 true [l[i].1,l[i].2] (by simp)) ?_
   rw [allIn2]
   generalize hB : ((decide (N ≤ l[i].1) && decide (l[i].1 ≤ 500)) && (decide (N ≤ l[i].2) && decide (l[i].2 ≤ 500))) = Bq at *
   cases Bq with
   | false =>
     rw [mrkE_bad hi (by rw [key]; simp)] at hK0
     subst hK0
     simp -implicitDefEqProofs (disch := omega) [wrap_id]
   | true =>
     have b1 : 0 ≤ l[i].1 ∧ l[i].1 ≤ 500 ∧ 0 ≤ l[i].2 ∧ l[i].2 ≤ 500 := by
      simp only [Bool.and_eq_true,decide_eq_true_eq] at hB
      omega
     simp -implicitDefEqProofs (disch := omega) [wrap_id]
     refine bsl_of (ys := [I (l[i].2 - l[i].1)]) rfl rfl ?_
     simp -implicitDefEqProofs (disch := omega) [wrap_id,zrep]
     refine callW_pure (ys := [I 0,I 3,Ls true [l[i].2 - l[i].1]]) (ids := []) rfl (k_within_ok 0 3 true [l[i].2 - l[i].1] (by simp)) ?_
     rw [allIn1]
     generalize (decide (0 ≤ l[i].2 - l[i].1) && decide (l[i].2 - l[i].1 ≤ 3)) = Bq at *
     cases Bq with
     | false =>
       rw [mrkE_bad hi (by rw [key]; simp)] at hK0
       subst hK0
       simp -implicitDefEqProofs (disch := omega) [wrap_id]
     | true =>
       simp -implicitDefEqProofs (disch := omega) [wrap_id]
       rw [hK0]
       refine next_eq (i + 1,H ++ [HObj.cells [I l[i].1,I l[i].2]]) ⟨by simp only; omega,fun k hk => ?_⟩ (by simp only; omega) (by simp only [ix,nx])
       by_cases e : k = i
       · subst e; rw [key]; rfl
       · exact d2 k (by simp only at hk; omega)
 · have hi : i = l.length := by simp at hc; omega
   subst hi
   subst hK0
   rw [mrkE_good d2]
   simp -implicitDefEqProofs (disch := omega) [wrap_id]
theorem k_CheckSheet1_ok (p : Int × Int) : PureOK Tryz.prog n_k_CheckSheet_1 [Pr p] (B (!cmbO p)) := by
 refine pure_of (walk func_k_CheckSheet_1 form_k_CheckSheet_1 res_k_CheckSheet_1 (by show 1 ≤ _; decide) ?_)
 simp -implicitDefEqProofs (disch := omega) [G_k_CheckSheet_1,wrap_id]
 refine bsl_of (ys := [I p.1]) rfl rfl ?_
 simp -implicitDefEqProofs (disch := omega) [wrap_id,zrep]
 refine callW_pure (ys := [I 1,I 50,Ls true [p.1]]) (ids := []) rfl (k_within_ok 1 50 true [p.1] (by simp)) ?_
 rw [allIn1]
 have e : cmbO p = ((decide (1 ≤ p.1) && decide (p.1 ≤ 50)) && (decide (2 ≤ p.2) && decide (p.2 ≤ 20))) := by unfold cmbO; rw [Bool.and_assoc]
 rw [e]
 generalize (decide (1 ≤ p.1) && decide (p.1 ≤ 50)) = b1
 cases b1 with
 | false => simp -implicitDefEqProofs (disch := omega) [wrap_id]
 | true =>
   simp -implicitDefEqProofs (disch := omega) [wrap_id]
   refine bsl_of (ys := [I p.2]) rfl rfl ?_
   simp -implicitDefEqProofs (disch := omega) [wrap_id,zrep]
   refine callW_pure (ys := [I 2,I 20,Ls true [p.2]]) (ids := []) rfl (k_within_ok 2 20 true [p.2] (by simp)) ?_
   rw [allIn1]
   simp -implicitDefEqProofs (disch := omega) [wrap_id]
set_option maxHeartbeats 2000000 in
theorem k_CheckSheet_ok (f g : Bool) (s : SH) (hz : SzS s) : PureOK Tryz.prog n_k_CheckSheet [Sn f g s] (I (shtE s)) := by
 obtain ⟨z1,z2⟩ := hz
 refine pure_of (walk func_k_CheckSheet form_k_CheckSheet res_k_CheckSheet (by show 1 ≤ _; decide) ?_)
 simp -implicitDefEqProofs (disch := omega) [G_k_CheckSheet,wrap_id]
 refine bsl_of (ys := [I s.k.length]) rfl rfl ?_
 simp -implicitDefEqProofs (disch := omega) [wrap_id,zrep]
 refine callW_pure (ys := [I 1,I 8,Ls true [(s.k.length : Int)]]) (ids := []) rfl (k_within_ok 1 8 true [(s.k.length : Int)] (by simp)) ?_
 rw [allIn1]
 cases h1 : (decide ((1 : Int) ≤ s.k.length) && decide ((s.k.length : Int) ≤ 8)) with
 | false =>
   have e : shtE s = 6 := by
    unfold shtE; rw [if_pos]
    simp only [Bool.and_eq_false_iff,decide_eq_false_iff_not] at h1
    omega
   simp -implicitDefEqProofs (disch := omega) [wrap_id,e]
 | true =>
   have h1 : (1 : Int) ≤ s.k.length ∧ (s.k.length : Int) ≤ 8 := by simpa using h1
   simp -implicitDefEqProofs (disch := omega) [wrap_id]
   refine bsl_of (ys := [I s.m.length]) rfl rfl ?_
   simp -implicitDefEqProofs (disch := omega) [wrap_id,zrep]
   refine callW_pure (ys := [I 1,I 12,Ls true [(s.m.length : Int)]]) (ids := []) rfl (k_within_ok 1 12 true [(s.m.length : Int)] (by simp)) ?_
   rw [allIn1]
   cases h2 : (decide ((1 : Int) ≤ s.m.length) && decide ((s.m.length : Int) ≤ 12)) with
   | false =>
     have e : shtE s = 6 := by
      unfold shtE; rw [if_pos]
      simp only [Bool.and_eq_false_iff,decide_eq_false_iff_not] at h2
      omega
     simp -implicitDefEqProofs (disch := omega) [wrap_id,e]
   | true =>
     have h2 : (1 : Int) ≤ s.m.length ∧ (s.m.length : Int) ≤ 12 := by simpa using h2
     simp -implicitDefEqProofs (disch := omega) [wrap_id]
     refine k_containsK_w f s.k z1 (p := fun p => !cmbO p) (by kernel_rfl) (fun i hi KK h => callW_pure rfl (k_CheckSheet1_ok _) h) ?_
     have e0 : shtE s = if s.k.all cmbO = false then 2 else mrkE s.m := by unfold shtE; rw [if_neg (by omega)]
     have ea : s.k.any (fun p => !cmbO p) = !s.k.all cmbO := by rw [List.not_all_eq_any_not]
     rw [ea,e0]
     cases h3 : s.k.all cmbO with
     | false => simp -implicitDefEqProofs (disch := omega) [wrap_id]
     | true =>
       simp -implicitDefEqProofs (disch := omega) [wrap_id]
       refine callW_pure rfl (k_checkMarks_ok g s.m z2) ?_
       simp -implicitDefEqProofs (disch := omega) [wrap_id]
end Go.AM

namespace Go.AM
open Go.RowKit Go.Proofs
theorem bez_tab : ((List.range 51).all fun p => (List.range 51).all fun q => (List.range 51).any fun k => (k * p) % q == Nat.gcd p q % q) = true := by decide +kernel
theorem bez {p q : Nat} (hp : p ≤ 50) (hq : q ≤ 50) : ∃ k : Nat,(k * p) % q = Nat.gcd p q % q := by
 have h := List.all_eq_true.1 (List.all_eq_true.1 bez_tab p (List.mem_range.2 (by omega))) q (List.mem_range.2 (by omega))
 obtain ⟨k,_,hk⟩ := List.any_eq_true.1 h
 exact ⟨k,by simpa using hk⟩
theorem both_gcd {one two a o x : Int} {G : Int} (h1 : G ∣ one) (h2 : G ∣ two) (h : Both one two a o x) : G ∣ a - o := by
 obtain ⟨b1,b2⟩ := h
 have : a - o = (x - o) - (x - a) := by omega
 rw [this]
 exact Int.dvd_sub (Int.dvd_trans h2 b2) (Int.dvd_trans h1 b1)
theorem both_ex {p q : Nat} {a o m : Int} (hp : 1 ≤ p ∧ p ≤ 50) (hq : 1 ≤ q ∧ q ≤ 50) (hm : m ≤ 500) (ha : 0 ≤ a) (h : ((Nat.gcd p q : Nat) : Int) ∣ a - o) : ∃ x,m ≤ x ∧ Both p q a o x := by
 obtain ⟨c,hc⟩ := h
 obtain ⟨k,hk⟩ := bez (p := p) (q := q) (by omega) (by omega)
 have d1 : (q : Int) ∣ ((Nat.gcd p q : Nat) : Int) - (k : Int) * p := by
  rw [Int.dvd_iff_emod_eq_zero,← Int.natCast_mul,← Int.emod_eq_emod_iff_emod_sub_eq_zero,← Int.natCast_emod,← Int.natCast_emod,hk]
 generalize ((Nat.gcd p q : Nat) : Int) = G at *
 generalize hck : c * (k : Int) = ck
 let t : Int := (ck.natAbs : Int) + 500
 have ht : ck + 500 ≤ t := by show _ ≤ (ck.natAbs : Int) + 500; omega
 have ht0 : 0 ≤ t := by show 0 ≤ (ck.natAbs : Int) + 500; omega
 have u1 : t ≤ (q : Int) * t := by
  have := Int.mul_le_mul_of_nonneg_right (show (1 : Int) ≤ q by omega) ht0
  omega
 have u2 : 500 ≤ (q : Int) * t - ck := by omega
 have u3 : (q : Int) * t - ck ≤ (p : Int) * ((q : Int) * t - ck) := by
  have := Int.mul_le_mul_of_nonneg_right (show (1 : Int) ≤ p by omega) (show 0 ≤ (q : Int) * t - ck by omega)
  omega
 refine ⟨a + (p : Int) * ((q : Int) * t - ck),by omega,⟨(q : Int) * t - ck,by omega⟩,?_⟩
 have e : a + (p : Int) * ((q : Int) * t - ck) - o = c * (G - (k : Int) * p) + (q : Int) * ((p : Int) * t) := by
  have e1 : a + (p : Int) * ((q : Int) * t - ck) - o = (a - o) + (p : Int) * ((q : Int) * t - ck) := by omega
  rw [e1,hc,← hck,Int.mul_sub,Int.mul_sub,Int.mul_left_comm (p : Int) q t,Int.mul_comm G c]
  have e2 : (p : Int) * (c * (k : Int)) = c * ((k : Int) * p) := by rw [Int.mul_left_comm,Int.mul_comm (p : Int) k]
  rw [e2]
  omega
 rw [e]
 exact Int.dvd_add (Int.dvd_mul_of_dvd_right d1) (Int.dvd_mul_right _ _)
theorem dvd_gap {one x y : Int} (h0 : 0 < one) (hx : one ∣ x) (hy : one ∣ y) (h : x < y) : x + one ≤ y := by
 have := Int.le_of_dvd (by omega) (Int.dvd_sub hy hx)
 omega
set_option maxHeartbeats 4000000 in
theorem k_Meet_ok (one two a o : Int) {n far e : Int} (hA : AnsM one two a o n far e) : PureOK Tryz.prog n_k_Meet [I one, I two, I a, I o] (.tup [I n, I far, I e]) := by
 refine pure_of (walk func_k_Meet form_k_Meet res_k_Meet (by show 4 ≤ _; decide) ?_)
 simp -implicitDefEqProofs (disch := omega) [G_k_Meet,wrap_id]
 refine bsl_of (ys := [I one,I two]) rfl rfl ?_
 simp -implicitDefEqProofs (disch := omega) [wrap_id,zrep]
 refine callW_pure (ys := [I 1,I 50,Ls true [one,two]]) (ids := []) rfl (k_within_ok 1 50 true [one,two] (by simp)) ?_
 rw [allIn2]
 have hne : okM one two a o ↔ ((decide (1 ≤ one) && decide (one ≤ 50)) && (decide (1 ≤ two) && decide (two ≤ 50))) = true ∧ ((decide (0 ≤ a) && decide (a ≤ 500)) && (decide (0 ≤ o) && decide (o ≤ 500))) = true := by
  unfold okM
  simp only [Bool.and_eq_true,decide_eq_true_eq]
  constructor
  · rintro ⟨h1,h2,h3,h4⟩; exact ⟨⟨h1,h2⟩,h3,h4⟩
  · rintro ⟨⟨h1,h2⟩,h3,h4⟩; exact ⟨h1,h2,h3,h4⟩
 cases h1 : ((decide (1 ≤ one) && decide (one ≤ 50)) && (decide (1 ≤ two) && decide (two ≤ 50))) with
 | false =>
   obtain ⟨_,rfl,rfl,rfl⟩ := hA.resolve_right (fun h => by have := (hne.1 h.1).1; rw [h1] at this; cases this)
   simp -implicitDefEqProofs (disch := omega) [wrap_id]
   exact tup3
 | true =>
   simp -implicitDefEqProofs (disch := omega) [wrap_id]
   refine bsl_of (ys := [I a,I o]) rfl rfl ?_
   simp -implicitDefEqProofs (disch := omega) [wrap_id,zrep]
   refine callW_pure (ys := [I 0,I 500,Ls true [a,o]]) (ids := []) rfl (k_within_ok 0 500 true [a,o] (by simp)) ?_
   rw [allIn2]
   cases h2 : ((decide (0 ≤ a) && decide (a ≤ 500)) && (decide (0 ≤ o) && decide (o ≤ 500))) with
   | false =>
     obtain ⟨_,rfl,rfl,rfl⟩ := hA.resolve_right (fun h => by have := (hne.1 h.1).2; rw [h2] at this; cases this)
     simp -implicitDefEqProofs (disch := omega) [wrap_id]
     exact tup3
   | true =>
     have hk := hne.2 ⟨h1,h2⟩
     obtain ⟨_,hA⟩ := hA.resolve_left (fun h => h.1 hk)
     obtain ⟨⟨o1,o2⟩,⟨t1,t2⟩,⟨a1,a2⟩,c1,c2⟩ := id hk
     obtain ⟨f1,f2,f3,f4,f5,f6⟩ := farM_ok ⟨o1,o2⟩ ⟨t1,t2⟩
     obtain ⟨p,rfl⟩ : ∃ p : Nat,one = p := ⟨one.toNat,by omega⟩
     obtain ⟨q,rfl⟩ : ∃ q : Nat,two = q := ⟨two.toNat,by omega⟩
     have GR := k_divisor_ok p q (by omega) (by omega)
     have ex := fun h => both_ex (p := p) (q := q) (a := a) (o := o) (m := max a o) (by omega) (by omega) (by omega) a1 h
     have nx : ¬ ((Nat.gcd p q : Nat) : Int) ∣ a - o → ∀ x,¬ Both p q a o x := fun h x hb => h (both_gcd (Int.natCast_dvd_natCast.2 (Nat.gcd_dvd_left p q)) (Int.natCast_dvd_natCast.2 (Nat.gcd_dvd_right p q)) hb)
     have eF : farM (p : Int) q = (p : Int) / (Nat.gcd p q : Nat) * q := rfl
     have gp : 0 < Nat.gcd p q := Nat.gcd_pos_of_pos_left _ (by omega)
     simp only [Int.toNat_natCast] at f5 f6
     generalize Nat.gcd p q = G at *
     have g0 : (G : Int) ≠ 0 := by omega
     simp -implicitDefEqProofs (disch := omega) [wrap_id]
     refine callW_pure rfl GR ?_
     simp -implicitDefEqProofs (disch := omega) [wrap_id,g0]
     have dv : (a - o).tmod G = 0 ↔ (G : Int) ∣ a - o := by rw [Int.dvd_iff_tmod_eq_zero]
     by_cases hd : (G : Int) ∣ a - o
     · have hd2 : ((a - o).tmod G != 0) = false := by rw [bne_eq_false_iff_eq]; exact dv.2 hd
       obtain ⟨x0,x1,x2⟩ := ex hd
       obtain ⟨n1,n2,n3,rfl,rfl⟩ := hA.resolve_left (fun h => h.1 x0 x1 x2)
       obtain ⟨m,hm⟩ : ∃ m,max a o = m := ⟨_,rfl⟩
       have ma : a ≤ m := by omega
       have mo : o ≤ m := by omega
       have mm : m ≤ 500 := by omega
       rw [hm] at n1 n3
       have nlt : n < m + farM p q := by
        apply Classical.byContradiction
        intro h
        exact n3 (n - farM p q) (by omega) (by omega) (both_mod f1 f2 n2 1 (by omega))
       have p0 : (p : Int) ≠ 0 := by omega
       have q0 : (q : Int) ≠ 0 := by omega
       have eqd : (m - a + p - 1).tdiv p = (m - a + p - 1) / p := Int.tdiv_eq_ediv_of_nonneg (by omega)
       have em := Int.emod_add_mul_ediv (m - a + p - 1) p
       have e0 := Int.emod_nonneg (m - a + p - 1) p0
       have e1 := Int.emod_lt_of_pos (m - a + p - 1) (by omega : (0 : Int) < p)
       have ec := Int.mul_comm (p : Int) ((m - a + p - 1) / p)
       have r0 : 0 ≤ (m - a + p - 1) / p := Int.ediv_nonneg (by omega) (by omega)
       have r1 : (m - a + p - 1) / p ≤ m - a + p - 1 := Int.ediv_le_self _ (by omega)
       simp -implicitDefEqProofs (disch := omega) [wrap_id,hd2,hm,p0,eqd]
       generalize (m - a + p - 1) / (p : Int) = R at *
       generalize hRp : R * (p : Int) = Rp at *
       rw [ec] at em
       have dR : (p : Int) ∣ (a + Rp) - a := ⟨R,by omega⟩
       have i3 : ∀ y,m ≤ y → y < a + Rp → ¬ Both p q a o y := fun y h1 h2 hb => by
        have := dvd_gap (by omega : (0 : Int) < p) hb.1 dR (by omega)
        omega
       have i2 : a + Rp ≤ n := by
        apply Classical.byContradiction
        intro h
        exact i3 n n1 (by omega) n2
       refine loop_eq (fun x : Int => ⟨[(0,I (p : Int)),(1,I (q : Int)),(3,I o),(11,I (G : Int)),(13,I x)],[]⟩) (fun x => m ≤ x ∧ x ≤ n ∧ (p : Int) ∣ x - a ∧ ∀ y,m ≤ y → y < x → ¬ Both p q a o y) (fun x => (n - x).toNat) (a + Rp) ⟨by omega,i2,dR,i3⟩ rfl ?_
       rintro x ⟨d1,d2,d3,d4⟩
       refine hideK' fun K0 hK0 => ?_
       have eT : (x - o).tmod q = 0 ↔ (q : Int) ∣ x - o := by rw [Int.dvd_iff_tmod_eq_zero]
       simp -implicitDefEqProofs (disch := omega) [wrap_id,q0]
       by_cases hx : (q : Int) ∣ x - o
       · have hx2 : ((x - o).tmod q != 0) = false := by rw [bne_eq_false_iff_eq]; exact eT.2 hx
         have e : x = n := by
          rcases Int.lt_trichotomy x n with h | h | h
          · exact absurd ⟨d3,hx⟩ (n3 x d1 h)
          · exact h
          · omega
         subst e
         subst hK0
         have m3 : 1 ≤ (p : Int) / G * q := by omega
         have m4 : (p : Int) / G * q ≤ 2500 := by omega
         have eqG : (p : Int).tdiv G = (p : Int) / G := Int.tdiv_eq_ediv_of_nonneg (by omega)
         rw [eF]
         simp -implicitDefEqProofs (disch := omega) [wrap_id,hx2,cmp2,nthT,g0,eqG]
         generalize (p : Int) / G * q = FF at *
         exact tup3
       · have hx2 : ((x - o).tmod q != 0) = true := by rw [bne_iff_ne]; exact fun h => hx (eT.1 h)
         have hlt : x < n := by
          rcases Int.lt_trichotomy x n with h | h | h
          · exact h
          · subst h; exact absurd n2.2 hx
          · omega
         have hge := dvd_gap (by omega : (0 : Int) < p) d3 n2.1 (by omega)
         simp -implicitDefEqProofs (disch := omega) [wrap_id,hx2]
         rw [hK0]
         refine next_eq (x + p) ⟨by omega,by omega,?_,fun y h1 h2 hb => ?_⟩ (by omega) rfl
         · have : x + (p : Int) - a = (x - a) + p := by omega
           rw [this]
           exact Int.dvd_add d3 (Int.dvd_refl _)
         · by_cases h : y < x
           · exact d4 y h1 h hb
           · by_cases e : y = x
             · subst e; exact hx hb.2
             · have := dvd_gap (by omega : (0 : Int) < p) d3 hb.1 (by omega)
               omega
     · have hd2 : ((a - o).tmod G != 0) = true := by rw [bne_iff_ne]; exact fun h => hd (dv.1 h)
       obtain ⟨_,rfl,rfl,rfl⟩ := hA.resolve_right (fun h => nx hd n h.2.1)
       simp -implicitDefEqProofs (disch := omega) [wrap_id,hd2]
       exact tup3
end Go.AM

namespace Go.AM
open Go.RowKit Go.Proofs
def flat3 (c : List (Int × Int × Int)) : List AV := c.flatMap fun p => [I p.1,I p.2.1,I p.2.2]
abbrev Ts (f : Bool) (c : List (Int × Int × Int)) : AV := .sl f c.length (flat3 c)
theorem flat3_app (c d : List (Int × Int × Int)) : flat3 (c ++ d) = flat3 c ++ flat3 d := by simp [flat3]
theorem AccG.tupG {H : List HObj} {x : AV} {sz n : Nat} {cs : List AV} {e : Int} (h : AccG H x sz n cs) : Out (.tup [.sl (decide (n = 0)) n cs,I e]) (.tup [x,I e]) H := by
 rcases h with ⟨rfl,rfl,rfl⟩ | ⟨id,rfl,h0,h2,h3,h4⟩
 · exact out_of (is := []) rfl
 · refine out_of (is := [id]) ?_
   simp only [purify,purifyL,purify1,purify0,hpf_nthH,h2]
   rw [if_pos ⟨by omega,pcL_pure h4⟩,decide_eq_false (by omega)]
   simp only [view,List.drop_zero]
   rw [List.take_of_length_le (by omega)]
   rfl
def spR (m : List (Int × Int)) (sp : Nat) : Nat → Int × Int
 | 0 => m.getD 0 (0,0)
 | i + 1 => (max (spR m sp i).1 ((m.getD i (0,0)).1 - (i : Int) * sp),min (spR m sp i).2 ((m.getD i (0,0)).2 - (i : Int) * sp))
def spcT (m : List (Int × Int)) : Nat → List (Int × Int × Int)
 | 0 => []
 | n + 1 => spcT m n ++ if (spR m (n + 1) m.length).1 ≤ (spR m (n + 1) m.length).2 then [(((n + 1 : Nat) : Int),spR m (n + 1) m.length)] else []
theorem spcT_len {m : List (Int × Int)} : ∀ {n : Nat},(spcT m n).length ≤ n
 | 0 => by simp [spcT]
 | n + 1 => by
   unfold spcT
   rw [List.length_append]
   have := spcT_len (m := m) (n := n)
   split <;> simp <;> omega
def spcE (m : List (Int × Int)) : Int := if m.length < 2 ∨ 12 < m.length then 6 else mrkE m
def spcL (m : List (Int × Int)) : List (Int × Int × Int) := if spcE m = 0 then spcT m 50 else []
theorem mrk_ok {l : List (Int × Int)} (h : mrkE l = 0) : ∀ i (hi : i < l.length),0 ≤ l[i].1 ∧ l[i].1 ≤ l[i].2 ∧ l[i].2 ≤ 500 := fun i hi => by
 unfold mrkE at h
 split at h
 · cases h
 rename_i h3
 rw [Bool.not_eq_true,List.any_eq_false] at h3
 have := h3 i (List.mem_range.2 hi)
 unfold mkB at this
 rw [getD_at hi] at this
 simp only [Bool.or_eq_true,Bool.and_eq_true,decide_eq_true_eq,not_or,not_and] at this
 omega
theorem sp_mul {i sp : Nat} (hi : i ≤ 12) (hs : sp ≤ 50) : 0 ≤ (i : Int) * sp ∧ (i : Int) * sp ≤ 600 := by
 have := Nat.mul_le_mul hi hs
 rw [← Int.natCast_mul]
 omega
theorem spR_rng {m : List (Int × Int)} (h : ∀ i (hi : i < m.length),0 ≤ m[i].1 ∧ m[i].1 ≤ m[i].2 ∧ m[i].2 ≤ 500) (h2 : 2 ≤ m.length) (h12 : m.length ≤ 12) {sp : Nat} (hs : sp ≤ 50) : ∀ {i : Nat},i ≤ m.length → -600 ≤ (spR m sp i).1 ∧ (spR m sp i).1 ≤ 500 ∧ -600 ≤ (spR m sp i).2 ∧ (spR m sp i).2 ≤ 500
 | 0,_ => by
   unfold spR
   rw [getD_at (by omega)]
   have := h 0 (by omega)
   omega
 | i + 1,hi => by
   have ih := spR_rng h h2 h12 hs (i := i) (by omega)
   unfold spR
   rw [getD_at (by omega)]
   have := h i (by omega)
   have := sp_mul (i := i) (sp := sp) (by omega) hs
   simp only
   omega
end Go.AM

namespace Go.AM
open Go.RowKit Go.Proofs
theorem app_newK {H : List HObj} {o : HObj} : (∀ j,j < H.length → nthH (H ++ [o]) j = nthH H j) ∧ nthH (H ++ [o]) H.length = some o ∧ (H ++ [o]).length = H.length + 1 := by
 refine ⟨fun j hj => nthH_front hj,?_,by simp⟩
 rw [nthH_eq,List.getElem?_append_right (by omega)]; simp
set_option maxHeartbeats 8000000 in
theorem k_Spaces_ok (f : Bool) (m : List (Int × Int)) (hm : m.length ≤ 1000000) : PureOK Tryz.prog n_k_Spaces [Ps f m] (.tup [Ts (spcL m).isEmpty (spcL m),I (spcE m)]) := by
 refine pure_of (walk func_k_Spaces form_k_Spaces res_k_Spaces (by show 1 ≤ _; decide) ?_)
 simp -implicitDefEqProofs (disch := omega) [G_k_Spaces,wrap_id]
 have en : spcE m ≠ 0 → spcL m = [] := fun h => by unfold spcL; rw [if_neg h]
 refine bsl_of (ys := [I m.length]) rfl rfl ?_
 simp -implicitDefEqProofs (disch := omega) [wrap_id,zrep]
 refine callW_pure (ys := [I 2,I 12,Ls true [(m.length : Int)]]) (ids := []) rfl (k_within_ok 2 12 true [(m.length : Int)] (by simp)) ?_
 rw [allIn1]
 cases h1 : (decide ((2 : Int) ≤ m.length) && decide ((m.length : Int) ≤ 12)) with
 | false =>
   have e : spcE m = 6 := by
    unfold spcE; rw [if_pos]
    simp only [Bool.and_eq_false_iff,decide_eq_false_iff_not] at h1
    omega
   rw [en (by omega),e]
   simp -implicitDefEqProofs (disch := omega) [wrap_id]
   exact out_of (is := []) rfl
 | true =>
 have h1 : (2 : Int) ≤ m.length ∧ (m.length : Int) ≤ 12 := by simpa using h1
 have a1 : ¬ m.length < 2 := by omega
 have a2 : ¬ 12 < m.length := by omega
 have e : spcE m = mrkE m := by unfold spcE; rw [if_neg (by omega)]
 simp -implicitDefEqProofs (disch := omega) [wrap_id]
 refine callW_pure rfl (k_checkMarks_ok f m hm) ?_
 by_cases h0 : mrkE m ≠ 0
 · have e3 : mrkE m = 3 := by unfold mrkE at h0 ⊢; split <;> simp_all
   rw [en (by omega),e,e3]
   simp -implicitDefEqProofs (disch := omega) [wrap_id]
   exact out_of (is := []) rfl
 have h0 : mrkE m = 0 := by omega
 have mk := mrk_ok h0
 have eL : spcL m = spcT m 50 := by unfold spcL; rw [if_pos (by omega)]
 rw [eL,e,h0]
 have l0 : 0 < m.length := by omega
 have l0' : (0 : Int) < m.length := by omega
 simp -implicitDefEqProofs (disch := omega) [wrap_id]
 refine loop_eq (fun q : Nat × AV × List HObj => ⟨[(0,Ps f m),(5,q.2.1),(6,I (q.1 : Int))],q.2.2⟩) (fun q => 1 ≤ q.1 ∧ q.1 ≤ 51 ∧ AccG q.2.2 q.2.1 3 (spcT m (q.1 - 1)).length (flat3 (spcT m (q.1 - 1)))) (fun q => 51 - q.1) (1,.sl true 0 [],[]) ⟨Nat.le_refl _,by omega,AccG.nil⟩ rfl ?_
 rintro ⟨sp,x,H⟩ ⟨d1,d2,d3⟩
 simp only at d1 d2 d3 ⊢
 refine hideK' fun K0 hK0 => ?_
 simp -implicitDefEqProofs (disch := omega) [wrap_id]
 refine c_split (fun hc => ?_) (fun hc => ?_)
 · have hs : sp ≤ 50 := by simp at hc; omega
   have sx : ((sp : Int) + 1) = ((sp + 1 : Nat) : Int) := by omega
   have hv0 : List.take 2 (flat2 m) = [I m[0].1,I m[0].2] := by simpa using flat2_view l0
   have hmin : min 2 (flat2 m).length = 2 := by rw [flat2_len]; omega
   have rg := fun i (hi : i ≤ m.length) => spR_rng mk (by omega) (by omega) hs (i := i) hi
   simp -implicitDefEqProofs (disch := omega) [wrap_id,cells_pair,l0,l0']
   refine ⟨flat2_len _,by rw [flat2_len]; omega,?_,?_⟩
   · rw [hv0]
     intro y hy
     simp only [List.mem_cons,List.not_mem_nil,or_false] at hy
     rcases hy with rfl | rfl <;> rfl
   simp only [hv0,hmin]
   obtain ⟨b1,b2,b3⟩ := app_newK (H := H) (o := .cells [I m[0].1,I m[0].2])
   refine loop_eq (fun q : Nat × List HObj => ⟨[(0,Ps f m),(5,x),(6,I (sp : Int)),(7,.ref H.length 0),(28,Ps f m),(29,I m.length),(30,I (q.1 : Int))],q.2⟩) (fun q => q.1 ≤ m.length ∧ nthH q.2 H.length = some (.cells [I (spR m sp q.1).1,I (spR m sp q.1).2]) ∧ ∀ j,j < H.length → nthH q.2 j = nthH H j) (fun q => m.length - q.1) (0,H ++ [.cells [I m[0].1,I m[0].2]]) ⟨Nat.zero_le _,by simp only [spR,getD_at l0]; exact b2,b1⟩ rfl ?_
   rintro ⟨i,H2⟩ ⟨i1,i2,i3⟩
   simp only at i1 i2 i3 ⊢
   refine hideK' fun K1 hK1 => ?_
   simp -implicitDefEqProofs (disch := omega) [wrap_id]
   refine c_split (fun hc => ?_) (fun hc => ?_)
   · have hi : i < m.length := by simpa using hc
     have ix : ((i : Int) + 1) = ((i + 1 : Nat) : Int) := by omega
     have eR : spR m sp (i + 1) = (max (spR m sp i).1 (m[i].1 - (i : Int) * sp),min (spR m sp i).2 (m[i].2 - (i : Int) * sp)) := by
      show (max (spR m sp i).1 ((m.getD i (0,0)).1 - (i : Int) * sp),min (spR m sp i).2 ((m.getD i (0,0)).2 - (i : Int) * sp)) = _
      rw [getD_at hi]
     obtain ⟨g1,g2,g3,g4⟩ := rg i (by omega)
     obtain ⟨u1,u2⟩ := sp_mul (i := i) (sp := sp) (by omega) hs
     obtain ⟨v1,v2,v3⟩ := mk i hi
     generalize spR m sp i = r at *
     simp -implicitDefEqProofs (disch := omega) [wrap_id,cells_pair,hi]
     refine ⟨flat2_len _,?_⟩
     have lq := nthH_lt i2
     obtain ⟨f1,f2,f3⟩ := app_newK (H := H2) (o := .cells [I m[i].1,I m[i].2])
     have i4 := (f1 H.length lq).trans i2
     have i5 : ∀ j,j < H.length → nthH (H2 ++ [.cells [I m[i].1,I m[i].2]]) j = nthH H j := fun j hj => (f1 j (by omega)).trans (i3 j hj)
     generalize H2 ++ [.cells [I m[i].1,I m[i].2]] = H3 at *
     generalize H2.length = Q2 at *
     have lq3 := nthH_lt i4
     simp -implicitDefEqProofs (disch := omega) [wrap_id,i4,f2,ldr_some,lq3]
     rw [hK1]
     refine next_eq (i + 1,H3.set H.length (.cells [I (max r.1 (m[i].1 - (i : Int) * sp)),I (min r.2 (m[i].2 - (i : Int) * sp))])) ⟨by simp only; omega,?_,fun j hj => ?_⟩ (by simp only; omega) (by simp only [ix])
     · simp only [eR]; exact nthH_set_same lq3
     · exact (nthH_set_ne (by omega)).trans (i5 j hj)
   · have hi : i = m.length := by simp at hc; omega
     subst hi
     subst hK1
     simp -implicitDefEqProofs (disch := omega) [wrap_id,i2,ldr_some]
     obtain ⟨k,rfl⟩ : ∃ k,sp = k + 1 := ⟨sp - 1,by omega⟩
     rw [show k + 1 - 1 = k from rfl] at d3
     have sl := spcT_len (m := m) (n := k)
     have eS : spcT m (k + 1) = spcT m k ++ if (spR m (k + 1) m.length).1 ≤ (spR m (k + 1) m.length).2 then [(((k + 1 : Nat) : Int),spR m (k + 1) m.length)] else [] := rfl
     generalize spR m (k + 1) m.length = r at *
     have d4 : AccG H2 x 3 (spcT m k).length (flat3 (spcT m k)) := d3.mono fun j hj => i3 j (d3.lt hj)
     refine c_split (fun hc => ?_) (fun hc => ?_)
     · have hr : r.1 ≤ r.2 := by simpa using hc
       rw [if_pos hr] at eS
       generalize hsp : k + 1 = sp at *
       simp -implicitDefEqProofs (disch := omega) [wrap_id,i2,ldr_some]
       refine bsl_of (ys := [.agg [I (sp : Int),I r.1,I r.2]]) rfl rfl ?_
       simp -implicitDefEqProofs (disch := omega) [wrap_id,zrep]
       refine app_accG (ys := [I (sp : Int),I r.1,I r.2]) d4 (by omega) (by decide) rfl rfl fun ws w1 w2 w3 => ?_
       simp -implicitDefEqProofs (disch := omega) [wrap_id]
       rw [hK0]
       refine next_eq (sp + 1,.ms H2.length 0 ((spcT m k).length + 1) 3,writeL H2 ws) ⟨by simp only; omega,by simp only; omega,?_⟩ (by simp only; omega) (by simp only [sx])
       simp only [Nat.add_sub_cancel,eS]
       rw [flat3_app,List.length_append]
       exact w3
     · have hr : ¬ r.1 ≤ r.2 := by simpa using hc
       rw [if_neg hr,List.append_nil] at eS
       simp -implicitDefEqProofs (disch := omega) [wrap_id]
       rw [hK0]
       refine next_eq (k + 1 + 1,x,H2) ⟨by simp only; omega,by simp only; omega,?_⟩ (by simp only; omega) (by simp only [Int.natCast_add]; rfl)
       simp only [Nat.add_sub_cancel,eS]
       exact d4
 · have hs : sp = 51 := by simp at hc; omega
   subst hs
   subst hK0
   simp -implicitDefEqProofs (disch := omega) [wrap_id]
   have := d3.tupG (e := 0)
   rw [← emp_lenK] at this
   exact this
end Go.AM

namespace Go.AM
open Go.RowKit Go.Proofs
abbrev Bd (f g : Bool) (s : SH) : AV := .ptr [Ps f s.k,Ps g s.m,.any] 0
abbrev W64 (n : Nat) : AV := .v (.int .u64 (n : Int))
theorem q_isComb_ok (f g : Bool) (s : SH) (n : Int) : PureOK Tryz.prog n_q_isComb [Bd f g s,I n] (B (isK s n)) := by
 refine pure_of (walk func_q_isComb form_q_isComb res_q_isComb (by show 2 ≤ _; decide) ?_)
 simp -implicitDefEqProofs (disch := omega) [G_q_isComb,wrap_id]
 unfold isK
 by_cases q1 : 0 ≤ n
 · simp -implicitDefEqProofs (disch := omega) [wrap_id,q1]
 · simp -implicitDefEqProofs (disch := omega) [wrap_id,q1]
theorem q_all_ok (f g : Bool) (s : SH) (hm : s.m.length ≤ 12) : PureOK Tryz.prog n_q_all [Bd f g s] (W64 (pwN s.m.length - 1)) := by
 refine pure_of (walk func_q_all form_q_all res_q_all (by show 1 ≤ _; decide) ?_)
 have w1 : pwN s.m.length ≤ 4096 := by unfold pwN; exact Nat.le_trans (Nat.pow_le_pow_right (by decide) hm) (by decide)
 have w2 : 1 ≤ pwN s.m.length := Nat.two_pow_pos _
 have e : (1 : Int) * 2 ^ (min (s.m.length : Int).toNat 64) = (pwN s.m.length : Int) := by
  rw [Int.one_mul,Int.toNat_natCast,Nat.min_eq_left (by omega)]
  unfold pwN
  norm_cast
 simp -implicitDefEqProofs (disch := omega) [G_q_all,wrap_id]
 have e2 : (2 : Int) ^ (min s.m.length IntKind.u64.bits) = (pwN s.m.length : Int) := by
  rw [show min s.m.length IntKind.u64.bits = s.m.length from by show min s.m.length 64 = _; omega]
  unfold pwN
  norm_cast
 rw [e2]
 generalize pwN s.m.length = p at *
 have wu : ∀ x : Int,0 ≤ x → x ≤ 4096 → IntKind.u64.wrap x = x := fun x h1 h2 => by
  have : x % 18446744073709551616 = x := by omega
  simp [IntKind.wrap,IntKind.bits,IntKind.signed,this]
 rw [wu (p : Int) (by omega) (by omega),wu ((p : Int) - 1) (by omega) (by omega)]
 omega
end Go.AM

namespace Go.AM
open Go.RowKit Go.Proofs
set_option maxHeartbeats 1000000 in
theorem k_first_w (f : Bool) (l : List (Int × Int)) (hl : l.length ≤ 1000000) {fid : Nat} {caps : List AV} {p : Int × Int → Bool} {hp : List HObj} {K : AV → List HObj → Prop} (hf : funOK Tryz.prog fid = true)
 (hc : ∀ i (hi : i < l.length) (H : List HObj) (KK : AV → List HObj → Prop),Agr hp H → (∀ H',Agr hp H' → KK (B (p l[i])) H') → CallW Tryz.prog fid ([Pr l[i]] ++ caps) H KK) (hK : ∀ H,Agr hp H → K (I (idxI p l)) H) : CallW Tryz.prog n_k_first [Ps f l,.fn (.func fid) [] caps] hp K := by
 refine walk func_k_first form_k_first res_k_first (by show 2 ≤ _; decide) ?_
 simp -implicitDefEqProofs (disch := omega) [G_k_first,wrap_id]
 refine loop_eq (fun q : Nat × List HObj => ⟨[(1,.fn (.func fid) [] caps),(7,Ps f l),(8,I l.length),(9,I (q.1 : Int))],q.2⟩) (fun q => q.1 ≤ l.length ∧ Agr hp q.2 ∧ ∀ k (hk : k < l.length),k < q.1 → p l[k] = false) (fun q => l.length - q.1) (0,hp) ⟨Nat.zero_le _,Agr.refl _,fun k _ h => by omega⟩ rfl ?_
 rintro ⟨i,H⟩ ⟨c1,c3,c2⟩
 simp only at c1 c2 c3 ⊢
 refine hideK' fun K0 hK0 => ?_
 simp -implicitDefEqProofs (disch := omega) [wrap_id]
 refine c_split (fun h => ?_) (fun h => ?_)
 · have hi : i < l.length := by simpa using h
   have ix : ((i : Int) + 1) = ((i + 1 : Nat) : Int) := by omega
   simp -implicitDefEqProofs (disch := omega) [wrap_id,hi,cells_pair]
   refine ⟨flat2_len _,hf,hc i hi _ _ c3.app fun H' hH' => ?_⟩
   cases hq : p l[i] with
   | true =>
     have e := idxI_some hi hq (fun k hk h => c2 k hk h)
     subst hK0
     simp -implicitDefEqProofs (disch := omega) [wrap_id]
     rw [e] at hK
     exact hK _ hH'
   | false =>
     simp -implicitDefEqProofs (disch := omega) [wrap_id]
     rw [hK0]
     refine next_eq (i + 1,H') ⟨by simp only; omega,hH',fun k hk h => ?_⟩ (by simp only; omega) (by simp only [ix])
     by_cases e : k = i
     · subst e; exact hq
     · exact c2 k hk (by simp only at h; omega)
 · have hi : i = l.length := by simp at h; omega
   subst hi
   subst hK0
   simp -implicitDefEqProofs (disch := omega) [wrap_id]
   rw [idxI_none (fun k hk => c2 k hk hk)] at hK
   exact hK _ c3
theorem q_in1_w {a : Nat} {at_ : Int} {p : Int × Int} {H : List HObj} (ha : nthH H a = some (.cells [I at_])) {K : AV → List HObj → Prop} (hK : ∀ o,K (B (inP at_ p)) (H ++ [o])) : CallW Tryz.prog n_q_in_1 [Pr p,.ref a 0] H K := by
 refine walk func_q_in_1 form_q_in_1 res_q_in_1 (by show 2 ≤ _; decide) ?_
 have hl := nthH_lt ha
 have h2 : nthH (H ++ [.cells [I p.1,I p.2]]) a = some (.cells [I at_]) := (nthH_front hl).trans ha
 have hK := hK (.cells [I p.1,I p.2])
 unfold inP at hK
 have h3 : nthH (H ++ [.cells [I p.1,I p.2]]) H.length = some (.cells [I p.1,I p.2]) := (app_newK (H := H)).2.1
 simp -implicitDefEqProofs (disch := omega) [G_q_in_1,wrap_id]
 generalize hH : H ++ [HObj.cells [I p.1,I p.2]] = H1 at *
 simp -implicitDefEqProofs (disch := omega) [wrap_id,h2,ldr_some]
 by_cases q : p.1 ≤ at_
 · simp -implicitDefEqProofs (disch := omega) [wrap_id,h2,h3,ldr_some,q]
   rw [decide_eq_true q,Bool.true_and] at hK
   exact hK
 · simp -implicitDefEqProofs (disch := omega) [wrap_id,h2,ldr_some,q]
   rw [decide_eq_false q,Bool.false_and] at hK
   exact hK
theorem q_in_ok (f g : Bool) (s : SH) (hm : s.m.length ≤ 1000000) (at_ : Int) : PureOK Tryz.prog n_q_in [Bd f g s,I at_] (I (inK s.m at_)) := by
 refine pure_of (walk func_q_in form_q_in res_q_in (by show 2 ≤ _; decide) ?_)
 simp -implicitDefEqProofs (disch := omega) [G_q_in,wrap_id]
 refine k_first_w g s.m hm (p := inP at_) (by kernel_rfl) (fun i hi H KK hH hKK => q_in1_w ((hH.2 0 (by simp)).trans rfl) fun o => hKK _ hH.app) fun H hH => ?_
 simp -implicitDefEqProofs (disch := omega) [wrap_id]
 rfl
end Go.AM

namespace Go.AM
open Go.Shelf Go.Proofs
def tzL_ren : Go.Shelf.Ren := ⟨fun | 29 => 107 | n => n,fun | 22 => 145 | 25 => 91 | 54 => 161 | n => n,fun | 1 => 1 | n => n⟩
theorem tzL : Go.Proofs.Lays7.n29 Tryz.prog tzL_ren := {
 mixed := by kernel_rfl,
 f29 := Tryz.func107.trans (congrArg some (by kernel_rfl)),
 t0 := Tryz.underlying0,
 a0 := Tryz.isAgg0,
 z0 := Tryz.sizeOf0,
 v0 := Tryz.zeroValue0,
 i0 := by kernel_rfl,
 t3 := Tryz.underlying3,
 a3 := Tryz.isAgg3,
 z3 := Tryz.sizeOf3,
 v3 := Tryz.zeroValue3,
 i3 := by kernel_rfl,
 t4 := Tryz.underlying4,
 a4 := Tryz.isAgg4,
 z4 := Tryz.sizeOf4,
 v4 := Tryz.zeroValue4,
 i4 := by kernel_rfl,
 t5 := Tryz.underlying5,
 a5 := Tryz.isAgg5,
 z5 := Tryz.sizeOf5,
 v5 := Tryz.zeroValue5,
 i5 := by kernel_rfl,
 t22 := Tryz.underlying145,
 a22 := Tryz.isAgg145,
 z22 := Tryz.sizeOf145,
 v22 := Tryz.zeroValue145,
 i22 := by kernel_rfl,
 t25 := Tryz.underlying91,
 a25 := Tryz.isAgg91,
 z25 := Tryz.sizeOf91,
 v25 := Tryz.zeroValue91,
 i25 := by kernel_rfl,
 t54 := Tryz.underlying161,
 a54 := Tryz.isAgg161,
 z54 := Tryz.sizeOf161,
 g1 := by kernel_rfl }
end Go.AM

namespace Go.AM
open Go.RowKit Go.Proofs
def andN (a c : Nat) : Nat := a &&& c
def apB (n : Nat) (l : List Int) (i : Nat) : Bool := decide (l.getD i 0 < 0) || decide ((n : Int) ≤ l.getD i 0) || (decide (0 < i) && decide (l.getD i 0 ≤ l.getD (i - 1) 0))
def apT (l : List Int) : Nat → Nat
 | 0 => 0
 | i + 1 => orN (apT l i) (pwN (l.getD i 0).toNat)
def apA (n : Nat) (l : List Int) : Bool := (List.range l.length).any (apB n l)
def apR (s : SH) (R : List (Int × Int)) (o : Nat) : Bool := R.any (fun r => decide (1 < (bitL (andN (bitO s r) o)).length))
def aprE (s : SH) (l : List Int) : Int := if shtE s ≠ 0 then shtE s else if apA s.m.length l = true then 3 else if apR s (allR s) (apT l l.length) = true then 14 else 0
theorem getD_atI {l : List Int} {i : Nat} (h : i < l.length) : l.getD i 0 = l[i] := by
 rw [List.getD_eq_getElem?_getD,List.getElem?_eq_getElem h]; rfl
theorem apT_small {l : List Int} {n : Nat} (hn : n ≤ 12) : ∀ {i : Nat},(∀ k,k < i → apB n l k = false) → apT l i < 2 ^ n
 | 0,_ => Nat.two_pow_pos _
 | i + 1,h => by
   have ih := apT_small hn (i := i) fun k hk => h k (by omega)
   have hi := h i (by omega)
   unfold apB at hi
   simp only [Bool.or_eq_false_iff,decide_eq_false_iff_not] at hi
   exact Nat.or_lt_two_pow ih (Nat.pow_lt_pow_right (by decide) (by omega))
end Go.AM

namespace Go.AM
open Go.RowKit Go.Proofs
theorem wrap_u {n : Nat} (h : n < 2 ^ 60) : IntKind.u64.wrap (n : Int) = n := by
 have : (n : Int) % 18446744073709551616 = n := by omega
 simp [IntKind.wrap,IntKind.bits,IntKind.signed,this]
def difN (a c : Nat) : Nat := a ^^^ (a &&& c)
theorem uor_nat {a c : Nat} (ha : a < 2 ^ 60) (hc : c < 2 ^ 60) : IntKind.u64.wrap ((BitVec.ofInt IntKind.u64.bits (a : Int) ||| BitVec.ofInt IntKind.u64.bits (c : Int)).toNat : Int) = ((a ||| c : Nat) : Int) := by
 have e : (BitVec.ofInt IntKind.u64.bits (a : Int) ||| BitVec.ofInt IntKind.u64.bits (c : Int)).toNat = a ||| c := by
  show (BitVec.ofInt 64 (a : Int) ||| BitVec.ofInt 64 (c : Int)).toNat = a ||| c
  rw [BitVec.toNat_or,BitVec.ofInt_natCast,BitVec.ofInt_natCast,BitVec.toNat_ofNat,BitVec.toNat_ofNat,Nat.mod_eq_of_lt (by omega),Nat.mod_eq_of_lt (by omega)]
 have h : a ||| c < 2 ^ 60 := Nat.or_lt_two_pow ha hc
 rw [e,wrap_u h]
theorem uand_nat {a c : Nat} (ha : a < 2 ^ 60) (hc : c < 2 ^ 60) : IntKind.u64.wrap ((BitVec.ofInt IntKind.u64.bits (a : Int) &&& BitVec.ofInt IntKind.u64.bits (c : Int)).toNat : Int) = ((a &&& c : Nat) : Int) := by
 have e : (BitVec.ofInt IntKind.u64.bits (a : Int) &&& BitVec.ofInt IntKind.u64.bits (c : Int)).toNat = a &&& c := by
  show (BitVec.ofInt 64 (a : Int) &&& BitVec.ofInt 64 (c : Int)).toNat = a &&& c
  rw [BitVec.toNat_and,BitVec.ofInt_natCast,BitVec.ofInt_natCast,BitVec.toNat_ofNat,BitVec.toNat_ofNat,Nat.mod_eq_of_lt (by omega),Nat.mod_eq_of_lt (by omega)]
 have h : a &&& c < 2 ^ 60 := Nat.and_lt_two_pow _ hc
 rw [e,wrap_u h]
theorem difN_le {a c : Nat} : difN a c ≤ a := by
 unfold difN
 have h : a ^^^ (a &&& c) = a &&& (a ^^^ (a &&& c)) := by
  refine Nat.eq_of_testBit_eq fun i => ?_
  simp only [Nat.testBit_xor,Nat.testBit_and]
  cases a.testBit i <;> cases c.testBit i <;> rfl
 rw [h]; exact Nat.and_le_left
theorem udif_nat {a c : Nat} (ha : a < 2 ^ 60) (hc : c < 2 ^ 60) : IntKind.u64.wrap ((BitVec.ofInt IntKind.u64.bits (a : Int) &&& ~~~ BitVec.ofInt IntKind.u64.bits (c : Int)).toNat : Int) = ((difN a c : Nat) : Int) := by
 have e : (BitVec.ofInt IntKind.u64.bits (a : Int) &&& ~~~ BitVec.ofInt IntKind.u64.bits (c : Int)).toNat = difN a c := by
  show (BitVec.ofInt 64 (a : Int) &&& ~~~ BitVec.ofInt 64 (c : Int)).toNat = difN a c
  rw [BitVec.ofInt_natCast,BitVec.ofInt_natCast]
  refine Nat.eq_of_testBit_eq fun i => ?_
  unfold difN
  rw [BitVec.testBit_toNat,BitVec.getLsbD_and,BitVec.getLsbD_not,BitVec.getLsbD_ofNat,BitVec.getLsbD_ofNat,Nat.testBit_xor,Nat.testBit_and]
  by_cases h : i < 64
  · simp only [h,decide_true,Bool.true_and]
    cases a.testBit i <;> cases c.testBit i <;> rfl
  · have h2 : a.testBit i = false := Nat.testBit_lt_two_pow (Nat.lt_of_lt_of_le ha (Nat.pow_le_pow_right (by decide) (by omega)))
    simp [h,h2]
 have h : difN a c < 2 ^ 60 := Nat.lt_of_le_of_lt difN_le ha
 rw [e,wrap_u h]
theorem ushl_nat {i : Nat} (hi : i ≤ 59) : IntKind.u64.wrap ((1 : Int) * 2 ^ (min (i : Int).toNat IntKind.u64.bits)) = ((2 ^ i : Nat) : Int) := by
 have e : min (i : Int).toNat IntKind.u64.bits = i := by show min i 64 = i; omega
 have h : (2 : Nat) ^ i < 2 ^ 60 := Nat.pow_lt_pow_right (by decide) (by omega)
 rw [e,Int.one_mul]
 have : ((2 : Int) ^ i) = ((2 ^ i : Nat) : Int) := by norm_cast
 rw [this,wrap_u h]
section
variable {K : AV → List (Nat × HObj) → Prop}
theorem uw_or {a c : Nat} (ha : a < 2 ^ 60) (hc : c < 2 ^ 60) : BinW .or (W64 a) (W64 c) K = K (W64 (orN a c)) [] := by rw [b_or,uor_nat ha hc]; rfl
theorem uw_and {a c : Nat} (ha : a < 2 ^ 60) (hc : c < 2 ^ 60) : BinW .and (W64 a) (W64 c) K = K (W64 (andN a c)) [] := by rw [b_and,uand_nat ha hc]; rfl
theorem uw_dif {a c : Nat} (ha : a < 2 ^ 60) (hc : c < 2 ^ 60) : BinW .andNot (W64 a) (W64 c) K = K (W64 (difN a c)) [] := by rw [b_andNot,udif_nat ha hc]
theorem uw_shl {i : Nat} (hi : i ≤ 59) : BinW .shl (.v (.int .u64 1)) (I (i : Int)) K = K (W64 (pwN i)) [] := by rw [b_shl (by omega),ushl_nat hi]; rfl
theorem uw_sub {a : Nat} (ha : a < 2 ^ 60) (h0 : 0 < a) : BinW .sub (W64 a) (.v (.int .u64 1)) K = K (W64 (a - 1)) [] := by
 rw [b_sub,show ((a : Int) - 1) = ((a - 1 : Nat) : Int) by omega,wrap_u (by omega)]
theorem uw_inc {a : Nat} (ha : a < 2 ^ 59) : BinW .add (W64 a) (.v (.int .u64 1)) K = K (W64 (a + 1)) [] := by
 rw [b_add,show ((a : Int) + 1) = ((a + 1 : Nat) : Int) by omega,wrap_u (by omega)]
theorem uw_eq0 {a : Nat} : BinW .eql (W64 a) (.v (.int .u64 0)) K = K (B (decide (a = 0))) [] := by
 rw [b_eql]
 have : ((a : Int) == 0) = decide (a = 0) := by rw [Bool.eq_iff_iff,beq_iff_eq,decide_eq_true_eq]; omega
 rw [this]
theorem uw_ne0 {a : Nat} : BinW .neq (W64 a) (.v (.int .u64 0)) K = K (B (decide (a ≠ 0))) [] := by
 rw [b_neq]
 have : ((a : Int) != 0) = decide (a ≠ 0) := by rw [Bool.eq_iff_iff,bne_iff_ne,decide_eq_true_eq]; omega
 rw [this]
theorem uw_eql {a c : Nat} : BinW .eql (W64 a) (W64 c) K = K (B (decide (a = c))) [] := by
 rw [b_eql]
 have : ((a : Int) == (c : Int)) = decide (a = c) := by rw [Bool.eq_iff_iff,beq_iff_eq,decide_eq_true_eq]; omega
 rw [this]
theorem uw_neq {a c : Nat} : BinW .neq (W64 a) (W64 c) K = K (B (decide (a ≠ c))) [] := by
 rw [b_neq]
 have : ((a : Int) != (c : Int)) = decide (a ≠ c) := by rw [Bool.eq_iff_iff,bne_iff_ne,decide_eq_true_eq]; omega
 rw [this]
theorem uw_leq {a c : Nat} : BinW .leq (W64 a) (W64 c) K = K (B (decide (a ≤ c))) [] := by
 rw [b_leq]
 have : decide ((a : Int) ≤ (c : Int)) = decide (a ≤ c) := by simp
 rw [this]
theorem uw_lss {a c : Nat} : BinW .lss (W64 a) (W64 c) K = K (B (decide (a < c))) [] := by
 rw [b_lss]
 have : decide ((a : Int) < (c : Int)) = decide (a < c) := by simp
 rw [this]
end
def ctz (x : Nat) : Nat := Lib.ctz 64 x
theorem b_tz64_ok (x : Nat) (hx : x < 2 ^ 60) : PureOK Tryz.prog n_b_TrailingZeros64 [W64 x] (I (ctz x : Nat)) := by
 intro ro n w g vs hok hvs hrep
 have r0 := hrep 0 (by simp)
 have hv : vs = #[.int .u64 x] := by
  have hs : vs.size = 1 := hvs
  apply Array.ext
  · simp [hs]
  · intro i h1 h2
    have : i = 0 := by simp at h2; omega
    subst this
    have := rep_v r0
    rw [Array.getD_eq_getD_getElem?,Array.getElem?_eq_getElem h1] at this
    exact this
 subst hv
 have hT : TabAt (tzL_ren.g 1) Lib.deBruijn64tab w := fun j hj => by
  have := (hok.tab _ (List.mem_singleton.2 rfl) j (by simpa using hj)).2
  have e : Lib.deBruijn64tab.getD j 0 = Lib.deBruijn64tab[j] := by rw [List.getD_eq_getElem?_getD,List.getElem?_eq_getElem hj]; rfl
  rw [e]
  rw [List.getElem_map] at this
  exact this
 have main := Any7.bits_TrailingZeros64 tzL x (by omega) w (fun _ => hT)
 have main2 : CallsIn Fence.wide n Tryz.prog n_b_TrailingZeros64 #[.int .u64 x] w _ := callsIn_wide.2 main
 refine CallsIn.mono (F := W ro) main2 ?_
 rintro e w' ⟨rfl,rfl⟩
 exact ⟨_,g,rfl,.v _ _,hok,.refl _ _ _⟩
theorem b_tz_ok (x : Nat) (hx : x < 2 ^ 60) : PureOK Tryz.prog n_b_TrailingZeros [W64 x] (I (ctz x : Nat)) := by
 refine pure_of (walk func_b_TrailingZeros form_b_TrailingZeros res_b_TrailingZeros (by show 1 ≤ _; decide) ?_)
 simp -implicitDefEqProofs (disch := omega) [G_b_TrailingZeros,wrap_id]
 refine callW_pure (by rfl) (b_tz64_ok x hx) ?_
 simp -implicitDefEqProofs (disch := omega) [wrap_id]
def cntN (x : Nat) : Nat := (bitL x).length
def oc1 (x : Int) : Int := IntKind.u64.wrap (IntKind.u64.wrap ((BitVec.ofInt IntKind.u64.bits (x.fdiv (2 ^ (min (1 : Int).toNat IntKind.u64.bits))) &&& BitVec.ofInt IntKind.u64.bits 6148914691236517205).toNat : Int) + IntKind.u64.wrap ((BitVec.ofInt IntKind.u64.bits x &&& BitVec.ofInt IntKind.u64.bits 6148914691236517205).toNat : Int))
def oc2 (x : Int) : Int := IntKind.u64.wrap (IntKind.u64.wrap ((BitVec.ofInt IntKind.u64.bits (x.fdiv (2 ^ (min (2 : Int).toNat IntKind.u64.bits))) &&& BitVec.ofInt IntKind.u64.bits 3689348814741910323).toNat : Int) + IntKind.u64.wrap ((BitVec.ofInt IntKind.u64.bits x &&& BitVec.ofInt IntKind.u64.bits 3689348814741910323).toNat : Int))
def oc3 (x : Int) : Int := IntKind.u64.wrap ((BitVec.ofInt IntKind.u64.bits (IntKind.u64.wrap (x.fdiv (2 ^ (min (4 : Int).toNat IntKind.u64.bits)) + x)) &&& BitVec.ofInt IntKind.u64.bits 1085102592571150095).toNat : Int)
def oc4 (k : Int) (x : Int) : Int := IntKind.u64.wrap (x + x.fdiv (2 ^ (min k.toNat IntKind.u64.bits)))
def oc5 (x : Int) : Int := IntKind.i64.wrap ((BitVec.ofInt IntKind.i64.bits (IntKind.i64.wrap x) &&& BitVec.ofInt IntKind.i64.bits 127).toNat : Int)
def ocI (x : Int) : Int := oc5 (oc4 32 (oc4 16 (oc4 8 (oc3 (oc2 (oc1 x))))))
theorem by64 {p : Nat → Prop} (h : ∀ a : Fin 64,∀ b : Fin 64,p (64 * a.1 + b.1)) (x : Nat) (hx : x < 4096) : p x := by
 have := h ⟨x / 64,by omega⟩ ⟨x % 64,by omega⟩
 simp only at this
 rw [show 64 * (x / 64) + x % 64 = x by omega] at this
 exact this
theorem ocI_tab : ∀ a : Fin 64,∀ b : Fin 64,ocI ((64 * a.1 + b.1 : Nat) : Int) = (cntN (64 * a.1 + b.1) : Int) := by decide +kernel
theorem ocI_eq (x : Nat) (hx : x < 4096) : ocI (x : Int) = (cntN x : Int) := by64 (p := fun x => ocI (x : Int) = (cntN x : Int)) ocI_tab x hx
section
variable {K : AV → List (Nat × HObj) → Prop}
end
theorem b_ones64_z (z : Int) : PureOK Tryz.prog n_b_OnesCount64 [.v (.int .u64 z)] (I (ocI z)) := by
 refine pure_of (walk func_b_OnesCount64 form_b_OnesCount64 res_b_OnesCount64 (by show 1 ≤ _; decide) ?_)
 have e : ocI z = oc5 (oc4 32 (oc4 16 (oc4 8 (oc3 (oc2 (oc1 z)))))) := rfl
 rw [e]
 simp -implicitDefEqProofs (disch := omega) [G_b_OnesCount64]
 rfl
theorem b_ones_ok (x : Nat) (hx : x < 4096) : PureOK Tryz.prog n_b_OnesCount [W64 x] (I (cntN x : Nat)) := by
 refine pure_of (walk func_b_OnesCount form_b_OnesCount res_b_OnesCount (by show 1 ≤ _; decide) ?_)
 have e := ocI_eq x hx
 rw [← e]
 simp -implicitDefEqProofs (disch := omega) [G_b_OnesCount,wrap_id]
 refine callW_pure (by rfl) (b_ones64_z (x : Int)) ?_
 simp -implicitDefEqProofs (disch := omega) [wrap_id]
end Go.AM

namespace Go.AM
open Go.RowKit Go.Proofs
def apK (s : SH) (R : List (Int × Int)) (b : Nat) (i : Nat) : Bool := (List.range i).all fun k => decide ((bitL (andN (bitO s (R.getD k (0,0))) b)).length < 2)
def bstT (s : SH) : Nat → List Int
 | 0 => []
 | i + 1 => if (apK s (allR s) i (allR s).length && (decide ((bstT s i).length < (bitL i).length) || (decide ((bitL i).length = (bstT s i).length) && frsK (bitL i) (bstT s i)))) = true then bitL i else bstT s i
def apaL (s : SH) : List Int := if shtE s = 0 then bstT s (pwN s.m.length) else []
theorem bitL_len {n : Nat} : (bitL n).length ≤ 60 := bitT_len
end Go.AM

namespace Go.AM
open Go.RowKit Go.Proofs
theorem leastN {P : Nat → Prop} : ∀ {k : Nat},P k → ∃ j,j ≤ k ∧ P j ∧ ∀ i,i < j → ¬ P i := by
 intro k
 induction k using Nat.strongRecOn with
 | _ k ih =>
   intro h
   by_cases e : ∃ i,i < k ∧ P i
   · obtain ⟨i,hi,hp⟩ := e
     obtain ⟨j,h1,h2,h3⟩ := ih i hi hp
     exact ⟨j,by omega,h2,h3⟩
   · exact ⟨k,Nat.le_refl _,h,fun i hi hp => e ⟨i,hi,hp⟩⟩
def sK (f : Nat → Nat) : Nat → Nat
 | 0 => 0
 | k + 1 => sK f k + f k
def cw (s : SH) (R : List (Int × Int)) (had : Nat) : Nat → Nat → Nat → Nat
 | 0,n,b => if n = 0 ∧ b = had then 1 else 0
 | i + 1,0,b => cw s R had i 0 b
 | i + 1,n + 1,b => cw s R had i (n + 1) b + sK (fun c => if orN c (bitO s (R.getD i (0,0))) = b then cw s R had i n c else 0) (pwN s.m.length)
def capM (x : Nat) : Nat := min 1099511627777 x
theorem capM_le {x : Nat} : capM x ≤ 1099511627777 := by unfold capM; omega
end Go.AM

namespace Go.AM
open Go.RowKit Go.Proofs
def cwA (s : SH) (R : List (Int × Int)) (had n : Nat) : Nat := cw s R had R.length n (pwN s.m.length - 1)
def AnsW (s : SH) (R : List (Int × Int)) (n c : Nat) : Prop :=
 ((∀ k,1 ≤ k → k ≤ s.m.length → cwA s R 0 k = 0) ∧ n = 0 ∧ c = 0) ∨ (1 ≤ n ∧ n ≤ s.m.length ∧ 0 < cwA s R 0 n ∧ (∀ k,1 ≤ k → k < n → cwA s R 0 k = 0) ∧ c = capM (cwA s R 0 n))
end Go.AM

namespace Go.AM
open Go.RowKit Go.Proofs
def AnsCt (s : SH) (v e : Int) : Prop :=
 (shtE s ≠ 0 ∧ v = 0 ∧ e = shtE s) ∨ (shtE s = 0 ∧ ((lostL s ≠ [] ∧ v = 0 ∧ e = 19) ∨ (lostL s = [] ∧ ∃ n c,AnsW s (allR s) n c ∧ ((c = 1099511627777 ∧ v = 0 ∧ e = 4) ∨ (c ≠ 1099511627777 ∧ v = (c : Int) ∧ e = 0)))))
end Go.AM

namespace Go.AM
open Go.RowKit Go.Proofs
theorem sK_pos {f : Nat → Nat} : ∀ {k : Nat},0 < sK f k ↔ ∃ c,c < k ∧ 0 < f c
 | 0 => by simp [sK]
 | k + 1 => by
   simp only [sK]
   constructor
   · intro h
     by_cases e : 0 < f k
     · exact ⟨k,by omega,e⟩
     · obtain ⟨c,h1,h2⟩ := (sK_pos (f := f) (k := k)).1 (by omega)
       exact ⟨c,by omega,h2⟩
   · rintro ⟨c,h1,h2⟩
     by_cases e : c = k
     · subst e; omega
     · have := (sK_pos (f := f) (k := k)).2 ⟨c,by omega,h2⟩
       omega
def orJ (s : SH) (R : List (Int × Int)) (had : Nat) (J : List Nat) : Nat := J.foldl (fun o j => orN o (bitO s (R.getD j (0,0)))) had
theorem orJ_snoc {s : SH} {R : List (Int × Int)} {had j : Nat} {J : List Nat} : orJ s R had (J ++ [j]) = orN (orJ s R had J) (bitO s (R.getD j (0,0))) := by simp [orJ]
theorem orJ_lt {s : SH} (hv : ValS s) {R : List (Int × Int)} : ∀ {J : List Nat} {had : Nat},had < pwN s.m.length → orJ s R had J < pwN s.m.length
 | [],had,hh => hh
 | j :: J,had,hh => orJ_lt hv (J := J) (had := orN had (bitO s (R.getD j (0,0)))) (Nat.or_lt_two_pow hh (bitO_small hv _))
def Chs (i : Nat) (J : List Nat) : Prop := J.Pairwise (· < ·) ∧ ∀ j ∈ J,j < i
theorem cw_pos {s : SH} (hv : ValS s) {R : List (Int × Int)} {had : Nat} (hh : had < pwN s.m.length) : ∀ {i n b : Nat}, 0 < cw s R had i n b ↔ ∃ J, Chs i J ∧ J.length = n ∧ orJ s R had J = b
 | 0, n, b => by
   simp only [cw]
   constructor
   · intro h
     split at h
     · rename_i h1
       exact ⟨[],⟨.nil,fun j hj => (by cases hj)⟩,h1.1.symm,h1.2.symm⟩
     · omega
   · rintro ⟨J,⟨_,h1⟩,h2,h3⟩
     have : J = [] := by
      cases J with
      | nil => rfl
      | cons j J => have := h1 j (by simp); omega
     subst this
     rw [if_pos ⟨h2.symm,h3.symm⟩]; omega
 | i + 1, 0, b => by
   simp only [cw]
   rw [cw_pos hv hh (i := i)]
   constructor
   · rintro ⟨J,⟨h0,h1⟩,h2,h3⟩
     exact ⟨J,⟨h0,fun j hj => by have := h1 j hj; omega⟩,h2,h3⟩
   · rintro ⟨J,⟨h0,h1⟩,h2,h3⟩
     have : J = [] := List.length_eq_zero_iff.1 h2
     subst this
     exact ⟨[],⟨.nil,fun j hj => (by cases hj)⟩,rfl,h3⟩
 | i + 1, n + 1, b => by
   simp only [cw]
   constructor
   · intro h
     by_cases e : 0 < cw s R had i (n + 1) b
     · obtain ⟨J,⟨h0,h1⟩,h2,h3⟩ := (cw_pos hv hh).1 e
       exact ⟨J,⟨h0,fun j hj => by have := h1 j hj; omega⟩,h2,h3⟩
     · have hs : 0 < sK (fun c => if orN c (bitO s (R.getD i (0,0))) = b then cw s R had i n c else 0) (pwN s.m.length) := by omega
       obtain ⟨c,hc,h4⟩ := sK_pos.1 hs
       split at h4
       · rename_i h5
         obtain ⟨J,⟨h0,h1⟩,h2,h3⟩ := (cw_pos hv hh).1 h4
         refine ⟨J ++ [i],⟨?_,fun j hj => ?_⟩,by simp [h2],by rw [orJ_snoc,h3]; exact h5⟩
         · rw [List.pairwise_append]
           exact ⟨h0,by simp,fun a ha c hc => by rw [List.mem_singleton] at hc; subst hc; exact h1 a ha⟩
         · rcases List.mem_append.1 hj with hj | hj
           · have := h1 j hj; omega
           · rw [List.mem_singleton] at hj; omega
       · omega
   · rintro ⟨J,⟨h0,h1⟩,h2,h3⟩
     by_cases e : i ∈ J
     · obtain ⟨J',rfl⟩ : ∃ J',J = J' ++ [i] := by
        obtain ⟨a,c,rfl⟩ := List.append_of_mem e
        cases c with
        | nil => exact ⟨a,rfl⟩
        | cons d c =>
          rw [List.pairwise_append,List.pairwise_cons] at h0
          have := h0.2.1.1 d (by simp)
          have := h1 d (by simp)
          omega
       rw [List.pairwise_append] at h0
       rw [orJ_snoc] at h3
       have hp : 0 < cw s R had i n (orJ s R had J') := (cw_pos hv hh).2 ⟨J',⟨h0.1,fun j hj => h0.2.2 j hj i (by simp)⟩,by simpa using h2,rfl⟩
       have := (sK_pos (f := fun c => if orN c (bitO s (R.getD i (0,0))) = b then cw s R had i n c else 0) (k := pwN s.m.length)).2 ⟨orJ s R had J',orJ_lt hv hh,by show 0 < (if orN (orJ s R had J') (bitO s (R.getD i (0,0))) = b then cw s R had i n (orJ s R had J') else 0); rw [if_pos h3]; exact hp⟩
       omega
     · have hp : 0 < cw s R had i (n + 1) b := (cw_pos hv hh).2 ⟨J,⟨h0,fun j hj => by
        have := h1 j hj
        have : j ≠ i := fun h => e (by rw [← h]; exact hj)
        omega⟩,h2,h3⟩
       omega
end Go.AM

namespace Go.AM
open Go.RowKit Go.Proofs
theorem orJ_bit {s : SH} {R : List (Int × Int)} {k : Nat} : ∀ {J : List Nat} {had : Nat},(orJ s R had J).testBit k = (had.testBit k || J.any fun j => (bitO s (R.getD j (0,0))).testBit k)
 | [],had => by simp [orJ]
 | j :: J,had => by
   show (orJ s R (orN had (bitO s (R.getD j (0,0)))) J).testBit k = _
   rw [orJ_bit (J := J)]
   unfold orN
   rw [Nat.testBit_or,List.any_cons,Bool.or_assoc]
theorem orT_orJ {s : SH} {R : List (Int × Int)} : ∀ {i : Nat},orT s R i = orJ s R 0 (List.range i)
 | 0 => rfl
 | i + 1 => by rw [List.range_succ,orJ_snoc,← orT_orJ]; rfl
theorem full_of {s : SH} {x : Nat} (hx : x < pwN s.m.length) (h : ∀ k,k < s.m.length → x.testBit k = true) : x = pwN s.m.length - 1 := by
 apply Nat.eq_of_testBit_eq
 intro k
 unfold pwN at hx ⊢
 rw [Nat.testBit_two_pow_sub_one]
 by_cases hk : k < s.m.length
 · rw [h k hk,decide_eq_true hk]
 · rw [decide_eq_false hk]
   exact Nat.testBit_lt_two_pow (Nat.lt_of_lt_of_le hx (Nat.pow_le_pow_right (by decide) (by omega)))
theorem bitL_nil {x : Nat} (hx : x < 2 ^ 60) (h : bitL x = []) : x = 0 := by
 apply Nat.eq_of_testBit_eq
 intro k
 rw [Nat.zero_testBit]
 by_cases hk : k < 60
 · cases e : x.testBit k with
   | false => rfl
   | true =>
     have : (k : Int) ∈ bitL x := List.mem_map.2 ⟨k,List.mem_filter.2 ⟨List.mem_range.2 hk,e⟩,rfl⟩
     rw [h] at this; cases this
 · exact Nat.testBit_lt_two_pow (Nat.lt_of_lt_of_le hx (Nat.pow_le_pow_right (by decide) (by omega)))
theorem cover {s : SH} (h0 : shtE s = 0) (hl : lostL s = []) : ∃ J,Chs (allR s).length J ∧ 1 ≤ J.length ∧ J.length ≤ s.m.length ∧ orJ s (allR s) 0 J = pwN s.m.length - 1 := by
 have hv := val_of h0
 have hm1 := hv.m1
 obtain ⟨w1,w2⟩ := pwN_12 hv
 have hp : 2 ≤ pwN s.m.length := by
  unfold pwN
  exact Nat.le_trans (show 2 ≤ 2 ^ 1 by decide) (Nat.pow_le_pow_right (by decide) hm1)
 have ob : allB s (allR s) < pwN s.m.length := orT_small hv
 have e1 := bitL_nil (x := pwN s.m.length - 1 - allB s (allR s)) (by omega) hl
 have e2 : orJ s (allR s) 0 (List.range (allR s).length) = pwN s.m.length - 1 := by rw [← orT_orJ]; show allB s (allR s) = _; omega
 generalize allR s = R at *
 have sel : ∀ k,k < s.m.length → ∃ j,j < R.length ∧ (bitO s (R.getD j (0,0))).testBit k = true := fun k hk => by
  have := congrArg (fun x : Nat => x.testBit k) e2
  simp only [orJ_bit] at this
  unfold pwN at this
  rw [Nat.testBit_two_pow_sub_one,decide_eq_true hk,Nat.zero_testBit,Bool.false_or,List.any_eq_true] at this
  obtain ⟨j,hj,h⟩ := this
  exact ⟨j,List.mem_range.1 hj,h⟩
 let f : Nat → Nat := fun k => if h : k < s.m.length then Classical.choose (sel k h) else 0
 have hf : ∀ k,k < s.m.length → f k < R.length ∧ (bitO s (R.getD (f k) (0,0))).testBit k = true := fun k hk => by
  show (if h : k < s.m.length then Classical.choose (sel k h) else 0) < R.length ∧ (bitO s (R.getD (if h : k < s.m.length then Classical.choose (sel k h) else 0) (0,0))).testBit k = true
  rw [dif_pos hk]
  exact Classical.choose_spec (sel k hk)
 generalize f = f at hf
 let J := (List.range R.length).filter fun j => ((List.range s.m.length).map f).contains j
 have hJ : ∀ j,j ∈ J ↔ j < R.length ∧ j ∈ (List.range s.m.length).map f := fun j => by
  show j ∈ (List.range R.length).filter _ ↔ _
  rw [List.mem_filter,List.mem_range,List.contains_iff_mem]
 have pw : J.Pairwise (· < ·) := List.pairwise_lt_range.filter _
 have full : orJ s R 0 J = pwN s.m.length - 1 := full_of (orJ_lt hv (by omega)) fun k hk => by
  rw [orJ_bit,Nat.zero_testBit,Bool.false_or,List.any_eq_true]
  obtain ⟨h1,h2⟩ := hf k hk
  exact ⟨f k,(hJ _).2 ⟨h1,List.mem_map.2 ⟨k,List.mem_range.2 hk,rfl⟩⟩,h2⟩
 refine ⟨J,⟨pw,fun j hj => ((hJ j).1 hj).1⟩,?_,?_,full⟩
 · apply Classical.byContradiction
   intro h
   have : J = [] := List.length_eq_zero_iff.1 (by omega)
   rw [this] at full
   have : orJ s R 0 [] = 0 := rfl
   omega
 · have nd : J.Nodup := pw.imp fun h => by omega
   have := nd.length_le_of_subset (l₂ := (List.range s.m.length).map f) fun j hj => ((hJ j).1 hj).2
   rw [List.length_map,List.length_range] at this
   exact this
theorem ansW_pos {s : SH} (h0 : shtE s = 0) (hl : lostL s = []) {n c : Nat} (h : AnsW s (allR s) n c) : 1 ≤ n ∧ n ≤ s.m.length ∧ 0 < cwA s (allR s) 0 n := by
 rcases h with ⟨h1,_⟩ | ⟨h1,h2,h3,_⟩
 · obtain ⟨J,j1,j2,j3,j4⟩ := cover h0 hl
   have hv := val_of h0
   have := (pwN_12 hv).2
   have hp := (cw_pos hv (R := allR s) (had := 0) (by omega) (i := (allR s).length) (n := J.length) (b := pwN s.m.length - 1)).2 ⟨J,j1,rfl,j4⟩
   have := h1 J.length j2 j3
   unfold cwA at this
   omega
 · exact ⟨h1,h2,h3⟩
end Go.AM

namespace Go.AM
open Go.RowKit Go.Proofs
def stepB (x : Nat) : Bool := x == 0 || (andN x (x - 1) ||| 2 ^ ctz x) == x && (andN x (x - 1) &&& 2 ^ ctz x) == 0 && x % 2 ^ ctz x == 0 && Nat.blt (ctz x) 12 && Nat.blt (andN x (x - 1)) x
theorem bitL_tab : ∀ a : Fin 64,∀ b : Fin 64,stepB (64 * a.1 + b.1) = true := by decide +kernel
theorem bitT_low {x c : Nat} (h : x % 2 ^ c = 0) : ∀ n,n ≤ c → bitT x n = []
 | 0,_ => by simp [bitT]
 | n + 1,hn => by
   rw [bitT_succ,bitT_low h n (by omega)]
   have : x.testBit n = false := by
    have h1 := Nat.testBit_mod_two_pow x c n
    rw [h] at h1
    simpa [show n < c by omega] using h1.symm
   rw [this]; simp
theorem bitT_cut {x y c : Nat} (h1 : y ||| 2 ^ c = x) (h2 : y &&& 2 ^ c = 0) (h3 : x % 2 ^ c = 0) : ∀ d,bitT x (c + 1 + d) = (c : Int) :: bitT y (c + 1 + d) := by
 have b : ∀ i,x.testBit i = (y.testBit i || decide (c = i)) := fun i => by rw [← h1,Nat.testBit_or,Nat.testBit_two_pow]
 have bc : y.testBit c = false := by
  have := congrArg (fun n => n.testBit c) h2
  simpa [Nat.testBit_and,Nat.testBit_two_pow] using this
 have y3 : ∀ n,n ≤ c → bitT y n = [] := by
  intro n
  induction n with
  | zero => intro _; simp [bitT]
  | succ n ih =>
    intro hn
    rw [bitT_succ,ih (by omega)]
    have hb := b n
    have hx : x.testBit n = false := by
     have h1 := Nat.testBit_mod_two_pow x c n
     rw [h3] at h1
     simpa [show n < c by omega] using h1.symm
    rw [hx] at hb
    have : y.testBit n = false := by
     cases e : y.testBit n with
     | false => rfl
     | true => rw [e] at hb; simp at hb
    rw [this]; simp
 intro d
 induction d with
 | zero =>
   rw [Nat.add_zero,bitT_succ,bitT_succ,bitT_low h3 c (Nat.le_refl _),y3 c (Nat.le_refl _),bc,b c]
   simp
 | succ d ih =>
   rw [show c + 1 + (d + 1) = c + 1 + d + 1 from rfl,bitT_succ,bitT_succ (n := y),ih,b (c + 1 + d)]
   have : decide (c = c + 1 + d) = false := by simp; omega
   rw [this,Bool.or_false]; rfl
theorem bitL_step (x : Nat) (hx : x < 4096) (h0 : x ≠ 0) : bitL x = (ctz x : Int) :: bitL (andN x (x - 1)) ∧ andN x (x - 1) < x := by
 have h := by64 (p := fun x => stepB x = true) bitL_tab x hx
 unfold stepB at h
 simp only [Bool.or_eq_true,Bool.and_eq_true,beq_iff_eq,Nat.blt_eq] at h
 rcases h with h | ⟨⟨⟨⟨h1,h2⟩,h3⟩,h4⟩,h5⟩
 · exact absurd h h0
 · refine ⟨?_,h5⟩
   have := bitT_cut h1 h2 h3 (60 - (ctz x + 1))
   rw [show ctz x + 1 + (60 - (ctz x + 1)) = 60 by omega] at this
   exact this
theorem bitL_zero : bitL 0 = [] := by decide +kernel
theorem t_list_ok (n : Nat) (hn : n < 4096) : PureOK Tryz.prog n_t_list [W64 n] (Ls (bitL n).isEmpty (bitL n)) := by
 refine pure_of (walk func_t_list form_t_list res_t_list (by show 1 ≤ _; decide) ?_)
 simp -implicitDefEqProofs (disch := omega) [G_t_list,wrap_id]
 refine loop_eq (fun q : Nat × List Int × AV × List HObj => ⟨[(0,W64 q.1),(3,q.2.2.1)],q.2.2.2⟩) (fun q => q.1 < 4096 ∧ AccR q.2.2.2 q.2.2.1 q.2.1 ∧ q.2.1 ++ bitL q.1 = bitL n) (fun q => q.1) (n,[],.sl true 0 [],[]) ⟨hn,.inl ⟨rfl,rfl⟩,by simp⟩ rfl ?_
 rintro ⟨y,l,x,H⟩ ⟨d1,d2,d3⟩
 simp only at d1 d2 d3 ⊢
 refine hideK' fun K0 hK0 => ?_
 simp -implicitDefEqProofs (disch := omega) [wrap_id,-b_neq,uw_ne0]
 refine c_split (fun hc => ?_) (fun hc => ?_)
 · have hy : y ≠ 0 := by simpa using hc
   obtain ⟨e1,e2⟩ := bitL_step y d1 hy
   have bl : l.length ≤ 60 := by
    have := congrArg List.length d3
    rw [List.length_append] at this
    have := bitL_len (n := n)
    omega
   simp -implicitDefEqProofs (disch := omega) [wrap_id]
   refine callW_pure (ys := [W64 y]) (ids := []) rfl (b_tz_ok y (by omega)) ?_
   simp -implicitDefEqProofs (disch := omega) [wrap_id]
   refine bsl_of (ys := [I (ctz y : Nat)]) rfl rfl ?_
   simp -implicitDefEqProofs (disch := omega) [wrap_id,zrep]
   refine app_row d2.row (by omega) fun ws w1 w2 w3 => ?_
   simp -implicitDefEqProofs (disch := omega) [wrap_id,-b_sub,uw_sub,-b_and,uw_and]
   rw [hK0]
   refine next_eq (andN y (y - 1),l ++ [(ctz y : Int)],.ms H.length 0 (l.length + 1) 1,writeL H ws) ⟨by simp only; omega,.inr ⟨H.length,?_,?_,?_⟩,?_⟩ e2 rfl
   · simp only [List.length_append,List.length_singleton]
   · simp
   · exact w3
   · simp only [List.append_assoc,List.singleton_append]; rw [← e1]; exact d3
 · have hy : y = 0 := by simpa using hc
   subst hy
   subst hK0
   rw [bitL_zero,List.append_nil] at d3
   rw [← d3]
   simp -implicitDefEqProofs (disch := omega) [wrap_id]
   exact d2.out
theorem bitO_first {s : SH} (hv : ValS s) {c : Nat} (hc : c < s.k.length) {a : Int} (h : inK s.m a < 0) : bitO s ((c : Int),a) = 0 := by
 unfold bitO
 simp only [Int.toNat_natCast]
 rw [getD_at hc]
 split
 · rfl
 · obtain ⟨p1,p2,p3,p4⟩ := hv.kc _ (List.getElem_mem hc)
   have e1 : rowB s.m s.k[c].1 a 1 = none := by
    unfold rowB
    simp only [rowB]
    rw [if_pos (by simpa using h)]
   rw [rowB_none e1 (by omega)]
   rfl
theorem inK_rng {s : SH} (hv : ValS s) {a : Int} (h : ¬ inK s.m a < 0) : 0 ≤ a ∧ a ≤ 500 := by
 by_cases hn : ∀ k (hk : k < s.m.length),inP a s.m[k] = false
 · exact absurd (by unfold inK; rw [idxI_none hn]; omega) h
 · simp only [Classical.not_forall] at hn
   obtain ⟨k,hk,h1⟩ := hn
   have h1 : inP a s.m[k] = true := by simpa using h1
   have := hv.at hk
   unfold inP at h1
   simp only [Bool.and_eq_true,decide_eq_true_eq] at h1
   omega
set_option maxHeartbeats 4000000 in
theorem q_marks_ok (f g : Bool) (s : SH) (hv : ValS s) (r : Int × Int) (hr : isK s r.1 = true) : PureOK Tryz.prog n_q_marks [Bd f g s,Pr r] (W64 (bitO s r)) := by
 have hk8 := hv.k8
 have hm12 := hv.m12
 obtain ⟨c,a⟩ := r
 unfold isK at hr
 simp only [Bool.and_eq_true,decide_eq_true_eq] at hr
 obtain ⟨c,rfl⟩ : ∃ n : Nat,c = n := ⟨c.toNat,by omega⟩
 have hc : c < s.k.length := by omega
 obtain ⟨p1,p2,p3,p4⟩ := hv.kc _ (List.getElem_mem hc)
 refine pure_of (walk func_q_marks form_q_marks res_q_marks (by show 2 ≤ _; decide) ?_)
 simp -implicitDefEqProofs (disch := omega) [G_q_marks,wrap_id]
 refine callW_pure (ys := [Bd f g s,I a]) (ids := []) rfl (q_in_ok f g s (by omega) a) ?_
 by_cases q1 : inK s.m a < 0
 · rw [bitO_first hv hc q1]
   simp -implicitDefEqProofs (disch := omega) [wrap_id,q1]
 obtain ⟨r1,r2⟩ := inK_rng hv q1
 have eB : bitO s ((c : Int),a) = (rowB s.m s.k[c].1 a s.k[c].2.toNat).getD 0 := by
  unfold bitO; simp only [Int.toNat_natCast]; rw [getD_at hc,if_neg (by omega)]
 rw [eB]
 simp -implicitDefEqProofs (disch := omega) [wrap_id,q1,cells_pair,hc]
 refine ⟨flat2_len _,?_⟩
 obtain ⟨te,hte⟩ : ∃ n : Nat,s.k[c].2 = n := ⟨s.k[c].2.toNat,by omega⟩
 rw [hte]
 generalize hsp : s.k[c].1 = sp at *
 rw [Int.toNat_natCast]
 have h20 : te ≤ 20 := by omega
 refine loop_eq (fun q : Nat × Nat => ⟨[(3,.ref 0 0),(5,W64 q.2),(6,.fn (.func n_q_in) [Bd f g s] []),(7,.ref 1 0),(27,I te),(28,I (q.1 : Int))],[.cells [I c,I a],.cells [I sp,I te]]⟩) (fun q => q.1 ≤ te ∧ rowB s.m sp a q.1 = some q.2) (fun q => te - q.1) (0,0) ⟨Nat.zero_le _,rfl⟩ rfl ?_
 rintro ⟨t,o⟩ ⟨d1,d2⟩
 simp only at d1 d2 ⊢
 refine hideK' fun K0 hK0 => ?_
 simp -implicitDefEqProofs (disch := omega) [wrap_id]
 refine c_split (fun hc2 => ?_) (fun hc2 => ?_)
 · have ht : t < te := by simpa using hc2
   have ix : ((t : Int) + 1) = ((t + 1 : Nat) : Int) := by omega
   have m0 : 0 ≤ (t : Int) * sp := Int.mul_nonneg (by omega) (by omega)
   have m1 : (t : Int) * sp ≤ 20 * 50 := Int.le_trans (Int.mul_le_mul_of_nonneg_right (by omega) (by omega)) (Int.mul_le_mul_of_nonneg_left p2 (by omega))
   have eR : ∀ u,u = rowB s.m sp a (t + 1) → u = if inK s.m (a + (t : Int) * sp) < 0 then none else some (orN o (pwN (inK s.m (a + (t : Int) * sp)).toNat)) := fun u hu => by
    rw [hu]; unfold rowB; rw [d2]
   have eR := eR _ rfl
   simp -implicitDefEqProofs (disch := omega) [wrap_id]
   generalize (t : Int) * sp = ts at *
   refine ⟨by kernel_rfl,?_⟩
   refine callW_pure (ys := [Bd f g s,I (a + ts)]) (ids := []) rfl (q_in_ok f g s (by omega) (a + ts)) ?_
   have lt := inK_lt (m := s.m) (a := a + ts)
   by_cases r1 : inK s.m (a + ts) < 0
   · rw [if_pos r1] at eR
     rw [rowB_none eR (by omega)] at hK0
     subst hK0
     simp -implicitDefEqProofs (disch := omega) [wrap_id,r1]
   · rw [if_neg r1] at eR
     obtain ⟨j,hj⟩ : ∃ j : Nat,inK s.m (a + ts) = j := ⟨(inK s.m (a + ts)).toNat,by omega⟩
     rw [hj] at eR lt ⊢
     rw [Int.toNat_natCast] at eR
     have o1 := rowB_small hm12 d2
     have o2 : o < 2 ^ 60 := Nat.lt_of_lt_of_le o1 (Nat.pow_le_pow_right (by decide) (by omega))
     have o3 := pwN_small (i := j) (by omega)
     have hj0 : ¬ (j : Int) < 0 := by omega
     simp -implicitDefEqProofs (disch := omega) [wrap_id,-b_shl,uw_shl,-b_or,uw_or,o2,o3,hj0]
     rw [hK0]
     refine next_eq (t + 1,orN o (pwN j)) ⟨by simp only; omega,eR⟩ (by simp only; omega) (by simp only [ix])
 · have ht : t = te := by simp at hc2; omega
   subst ht
   rw [d2] at hK0
   subst hK0
   simp -implicitDefEqProofs (disch := omega) [wrap_id]
end Go.AM

namespace Go.AM
open Go.RowKit Go.Proofs
theorem plcT_gap {s : SH} {c : Int} {x : Nat} : ∀ {d : Nat},(∀ k : Nat,x ≤ k → k < x + d → bitO s (c,(k : Int)) = 0) → plcT s c (x + d) = plcT s c x
 | 0,_ => rfl
 | d + 1,h => by
   rw [show x + (d + 1) = x + d + 1 from rfl,plcT_succ,if_neg (by rw [h (x + d) (by omega) (by omega)]; simp),List.append_nil]
   exact plcT_gap fun k h1 h2 => h k h1 (by omega)
def endM (s : SH) : Nat → Nat
 | 0 => 0
 | i + 1 => ((s.m.getD i (0,0)).2 + 1).toNat
theorem inK_out {s : SH} (hv : ValS s) {i : Nat} (hi : i ≤ s.m.length) {k : Nat} (h1 : endM s i ≤ k) (h2 : ∀ (h : i < s.m.length),(k : Int) < s.m[i].1) : inK s.m (k : Int) < 0 := by
 have : ∀ j (hj : j < s.m.length),inP (k : Int) s.m[j] = false := fun j hj => by
  unfold inP
  by_cases hji : j < i
  · have e : s.m[j].2 < k := by
     cases i with
     | zero => omega
     | succ i =>
       simp only [endM] at h1
       rw [getD_at (by omega)] at h1
       have b := hv.at (i := i) (by omega)
       by_cases e : j = i
       · subst e; omega
       · have := hv.nx j i hj (by omega) (by omega)
         omega
    rw [decide_eq_false (by omega : ¬ (k : Int) ≤ s.m[j].2),Bool.and_false]
  · have h3 := h2 (by omega)
    have : s.m[i].1 ≤ s.m[j].1 := by
     by_cases e : i = j
     · subst e; exact Int.le_refl _
     · have := hv.nx i j (by omega) hj (by omega)
       have b := hv.at (i := i) (by omega)
       omega
    rw [decide_eq_false (by omega : ¬ s.m[j].1 ≤ (k : Int)),Bool.false_and]
 unfold inK; rw [idxI_none this]; omega
def RB (rc cb : Nat) (f g : Bool) (s : SH) (X : AV) (hp : List HObj) : Prop := nthH hp cb = some (.cells [.ref rc 0]) ∧ nthH hp rc = some (.cells [Ps f s.k,Ps g s.m,X])
theorem RB.app {rc cb f g s X hp} {o : HObj} (h : RB rc cb f g s X hp) : RB rc cb f g s X (hp ++ [o]) := ⟨(nthH_front (nthH_lt h.1)).trans h.1,(nthH_front (nthH_lt h.2)).trans h.2⟩
theorem see_bd {hp : List HObj} {rc : Nat} {f g : Bool} {s : SH} {X : AV} (h : nthH hp rc = some (.cells [Ps f s.k,Ps g s.m,X])) : See hp (.ref rc 0) (Bd f g s) :=
 .refL h (.cons (.pure rfl) (.cons (.pure rfl) (.cons (.any _) .nil)))
abbrev rowsV (cb : Nat) : AV := .fn (.func n_q_rows_1) [] [.ref cb 0]
theorem q_rows_w {rc : Nat} {hp : List HObj} {K : AV → List HObj → Prop} (hK : K (rowsV hp.length) (hp ++ [.cells [.ref rc 0]])) : CallW Tryz.prog n_q_rows [.ref rc 0] hp K := by
 refine walk func_q_rows form_q_rows res_q_rows (by show 1 ≤ _; decide) ?_
 simp -implicitDefEqProofs (disch := omega) [G_q_rows,wrap_id]
 exact hK
theorem see_pr {hp : List HObj} {r : Int × Int} : See hp (Pr r) (Pr r) := .agg rfl fun i h1 h2 => by
 have : i = 0 ∨ i = 1 := by simp at h1; omega
 rcases this with rfl | rfl <;> exact .pure rfl
theorem q_marks_w {s : SH} (hv : ValS s) {f g : Bool} {X : AV} {rc : Nat} {hp : List HObj} (h : nthH hp rc = some (.cells [Ps f s.k,Ps g s.m,X])) {r : Int × Int} (hr : isK s r.1 = true) {K : AV → List HObj → Prop} (hK : K (W64 (bitO s r)) hp) :
 CallW Tryz.prog n_q_marks [.ref rc 0,Pr r] hp K := callW_see (.cons (see_bd h) (.cons see_pr .nil)) (q_marks_ok f g s hv r hr) rfl hK
def rowP (s : SH) (c x : Nat) : List (Int × Int) := (plcT s (c : Int) x).map fun a => ((c : Int),a)
theorem rowP_succ {s : SH} {c x : Nat} : rowP s c (x + 1) = rowP s c x ++ (if bitO s ((c : Int),(x : Int)) ≠ 0 then [((c : Int),(x : Int))] else []) := by
 unfold rowP
 rw [plcT_succ,List.map_append]
 congr 1
 split <;> rfl
theorem rowP_pre {s : SH} {c x : Nat} : ∀ {y : Nat},x ≤ y → ∃ t,rowP s c x ++ t = rowP s c y
 | 0,h => ⟨[],by rw [show x = 0 by omega]; simp⟩
 | y + 1, h => by
   by_cases e : x = y + 1
   · subst e; exact ⟨[],by simp⟩
   · obtain ⟨t,ht⟩ := rowP_pre (s := s) (c := c) (x := x) (y := y) (by omega)
     exact ⟨_,by rw [rowP_succ,← ht,List.append_assoc]⟩
theorem rwsK_pre {s : SH} {c : Nat} : ∀ {n : Nat},c ≤ n → ∃ t,rwsK s c ++ t = rwsK s n
 | 0,h => ⟨[],by rw [show c = 0 by omega]; simp⟩
 | n + 1, h => by
   by_cases e : c = n + 1
   · subst e; exact ⟨[],by simp⟩
   · obtain ⟨t,ht⟩ := rwsK_pre (s := s) (c := c) (n := n) (by omega)
     exact ⟨_,by rw [rwsK_succ,← ht,List.append_assoc]⟩
theorem rowP_all {s : SH} {c : Nat} : rowP s c 501 = rowOf s c := rfl
set_option maxHeartbeats 8000000 in
theorem q_rows_R {s : SH} (hv : ValS s) {f g : Bool} {X : AV} {rc cb : Nat} {hp : List HObj}
 {H : List AV → List HObj → (AV → List HObj → Prop) → Prop} {J : List (Int × Int) → List (Nat × HObj) → List HObj → Prop} {D : List HObj → Prop}
 (h0 : J [] [] (hp ++ [.lp .ready (hp.length + 1),.gone])) (hJ : ∀ L p G,J L p G → RB rc cb f g s X G ∧ ∀ q ∈ p,nthH G q.1 = some q.2)
 (hP : ∀ L p G cs,J L p G → J L ((G.length,.cells cs) :: p) (G ++ [.cells cs])) (hD : ∀ L q p G,J L (q :: p) G → J L p G)
 (hH : ∀ L r t p G,L ++ r :: t = allR s → J L p G → H [Pr r] G fun rr G' => (rr = B true ∧ J (L ++ [r]) p G') ∨ (rr = B false ∧ D G')) :
 (E1 Tryz.prog).R (rowsV cb) hp H (fun G => J (allR s) [] G ∨ D G) := by
 have hk8 := hv.k8
 have hm12 := hv.m12
 have hA : ∀ L p G cs,J L p G → J L p (G ++ [.cells cs]) := fun L p G cs h => hD _ _ _ _ (hP L p G cs h)
 obtain ⟨a1,a2⟩ := (hJ _ _ _ h0).1
 refine ⟨n_q_rows_1,[.ref cb 0],_,G_q_rows_1,[],_,rfl,by kernel_rfl,func_q_rows_1,form_q_rows_1,resTmps_C res_q_rows_1,by show 2 ≤ _; decide,?_⟩
 simp -implicitDefEqProofs (disch := omega) [G_q_rows_1,wrap_id,a1,a2]
 refine loop_eq (fun q : Nat × List HObj => ⟨[(0,.yl hp.length),(1,.ref cb 0),(13,I s.k.length),(14,I (q.1 : Int))],q.2⟩) (fun q => q.1 ≤ s.k.length ∧ J (rwsK s q.1) [] q.2) (fun q => s.k.length - q.1) (0,_) ⟨Nat.zero_le _,by simpa [rwsK] using h0⟩ rfl ?_
 rintro ⟨c,G⟩ ⟨c1,c2⟩
 simp only at c1 c2 ⊢
 obtain ⟨⟨g1,g2⟩,_⟩ := hJ _ _ _ c2
 refine hideK' fun K0 hK0 => ?_
 simp -implicitDefEqProofs (disch := omega) [wrap_id]
 refine c_split (fun h => ?_) (fun h => ?_)
 · have hc : c < s.k.length := by simpa using h
   have cx : ((c : Int) + 1) = ((c + 1 : Nat) : Int) := by omega
   have hr : isK s (c : Int) = true := by unfold isK; simp; omega
   obtain ⟨tC,htC⟩ := rwsK_pre (s := s) (show c + 1 ≤ s.k.length from hc)
   rw [rwsK_succ,List.append_assoc] at htC
   simp -implicitDefEqProofs (disch := omega) [wrap_id,g1,g2]
   refine loop_eq (fun q : Nat × List HObj => ⟨[(0,.yl hp.length),(1,.ref cb 0),(3,I (c : Int)),(13,I s.k.length),(14,I (c : Int)),(21,Ps g s.m),(22,I s.m.length),(23,I (q.1 : Int))],q.2⟩) (fun q => q.1 ≤ s.m.length ∧ J (rwsK s c ++ rowP s c (endM s q.1)) [] q.2) (fun q => s.m.length - q.1) (0,G) ⟨Nat.zero_le _,by simpa [rowP,plcT,endM] using c2⟩ rfl ?_
   rintro ⟨i,G⟩ ⟨i1,i2⟩
   simp only at i1 i2 ⊢
   refine hideK' fun K1 hK1 => ?_
   simp -implicitDefEqProofs (disch := omega) [wrap_id]
   refine c_split (fun h => ?_) (fun h => ?_)
   · have hi : i < s.m.length := by simpa using h
     have ix : ((i : Int) + 1) = ((i + 1 : Nat) : Int) := by omega
     obtain ⟨b1,b2,b3,b4⟩ := hv.at hi
     obtain ⟨lo,elo⟩ : ∃ n : Nat,s.m[i].1 = n := ⟨s.m[i].1.toNat,by omega⟩
     obtain ⟨hh,ehh⟩ : ∃ n : Nat,s.m[i].2 = n := ⟨s.m[i].2.toNat,by omega⟩
     have el : endM s i ≤ lo := by
      cases i with
      | zero => exact Nat.zero_le _
      | succ i =>
        simp only [endM]
        rw [getD_at (by omega)]
        have := hv.nx i (i + 1) (by omega) hi (by omega)
        omega
     have en : endM s (i + 1) = hh + 1 := by simp only [endM]; rw [getD_at hi,ehh]; omega
     have gap : plcT s (c : Int) lo = plcT s (c : Int) (endM s i) := by
      have := plcT_gap (s := s) (c := (c : Int)) (x := endM s i) (d := lo - endM s i) (fun k h1 h2 => bitO_first hv hc (inK_out hv (i := i) (by omega) h1 fun _ => by omega))
      rw [show endM s i + (lo - endM s i) = lo by omega] at this
      exact this
     have i3 : J (rwsK s c ++ rowP s c lo) [] G := by unfold rowP at i2 ⊢; rw [gap]; exact i2
     obtain ⟨n1,n2,n3⟩ := app_newK (H := G) (o := .cells [I (lo : Int),I (hh : Int)])
     simp -implicitDefEqProofs (disch := omega) [wrap_id,hi,cells_pair,elo,ehh]
     refine ⟨flat2_len _,?_⟩
     refine loop_eq (fun q : Nat × List HObj => ⟨[(0,.yl hp.length),(1,.ref cb 0),(3,I (c : Int)),(5,.ref G.length 0),(6,I (q.1 : Int)),(13,I s.k.length),(14,I (c : Int)),(21,Ps g s.m),(22,I s.m.length),(23,I (i : Int))],q.2⟩) (fun q => lo ≤ q.1 ∧ q.1 ≤ hh + 1 ∧ J (rwsK s c ++ rowP s c q.1) [(G.length,.cells [I (lo : Int),I (hh : Int)])] q.2) (fun q => hh + 1 - q.1) (lo,G ++ [.cells [I (lo : Int),I (hh : Int)]]) ⟨Nat.le_refl _,by omega,hP _ _ _ _ i3⟩ rfl ?_
     rintro ⟨a,G2⟩ ⟨f1,f2,f3⟩
     simp only at f1 f2 f3 ⊢
     obtain ⟨⟨e1,e2⟩,e3⟩ := hJ _ _ _ f3
     have e4 := e3 _ (List.mem_singleton.2 rfl)
     simp only at e4
     have hA2 := hA _ _ _ [I (c : Int),I (a : Int)] f3
     obtain ⟨o1,o2,o3⟩ := app_newK (H := G2) (o := .cells [I (c : Int),I (a : Int)])
     obtain ⟨⟨p1,p2⟩,p3⟩ := hJ _ _ _ hA2
     refine hideK' fun K2 hK2 => ?_
     simp -implicitDefEqProofs (disch := omega) [wrap_id,e4]
     refine c_split (fun h => ?_) (fun h => ?_)
     · have ha : a ≤ hh := by simp at h; omega
       have ax : ((a : Int) + 1) = ((a + 1 : Nat) : Int) := by omega
       simp -implicitDefEqProofs (disch := omega) [wrap_id]
       generalize G2 ++ [HObj.cells [I (c : Int),I (a : Int)]] = G3 at *
       simp -implicitDefEqProofs (disch := omega) [wrap_id,p1,p2,o2,ldr_some]
       refine q_marks_w hv p2 (r := ((c : Int),(a : Int))) hr ?_
       by_cases hb : bitO s ((c : Int),(a : Int)) = 0
       · have eR : rowP s c (a + 1) = rowP s c a := by rw [rowP_succ,if_neg (by omega),List.append_nil]
         rw [hb]
         simp -implicitDefEqProofs (disch := omega) [wrap_id]
         rw [hK2]
         exact next_eq (a + 1,G3) ⟨by simp only; omega,by simp only; omega,by simp only [eR]; exact hA2⟩ (by simp only; omega) (by simp only [ax])
       · have eR : rowP s c (a + 1) = rowP s c a ++ [((c : Int),(a : Int))] := by rw [rowP_succ,if_pos (by omega)]
         obtain ⟨t,ht⟩ := rowP_pre (s := s) (c := c) (x := a + 1) (y := 501) (by omega)
         have hL : (rwsK s c ++ rowP s c a) ++ ((c : Int),(a : Int)) :: (t ++ tC) = allR s := by
          unfold allR
          rw [← htC,← rowP_all,← ht,eR]
          simp
         simp -implicitDefEqProofs (disch := omega) [wrap_id,-b_neq,uw_ne0,hb,o2,ldr_some]
         refine ⟨_,⟨rfl,hH _ _ _ _ G3 hL hA2⟩,?_⟩
         rintro r G' (⟨rfl,hg⟩ | ⟨rfl,hg⟩)
         · simp -implicitDefEqProofs (disch := omega) [wrap_id]
           rw [hK2]
           exact next_eq (a + 1,G') ⟨by simp only; omega,by simp only; omega,by simp only [eR]; rw [← List.append_assoc]; exact hg⟩ (by simp only; omega) (by simp only [ax])
         · subst hK2 hK1 hK0
           simp -implicitDefEqProofs (disch := omega) [wrap_id]
           exact ⟨[],trivial,.inr hg⟩
     · have ha : a = hh + 1 := by simp at h; omega
       subst ha
       subst hK2
       simp -implicitDefEqProofs (disch := omega) [wrap_id]
       rw [hK1]
       exact next_eq (i + 1,G2) ⟨by simp only; omega,by simp only [en]; exact hD _ _ _ _ f3⟩ (by simp only; omega) (by simp only [ix])
   · have hi : i = s.m.length := by simp at h; omega
     subst hi
     subst hK1
     have el : endM s s.m.length ≤ 501 := by
      have h1 := hv.m1
      obtain ⟨n,hn⟩ : ∃ n,s.m.length = n + 1 := ⟨s.m.length - 1,by omega⟩
      rw [hn]
      simp only [endM]
      rw [getD_at (by omega)]
      have := hv.at (i := n) (by omega)
      omega
     have gap : plcT s (c : Int) 501 = plcT s (c : Int) (endM s s.m.length) := by
      have := plcT_gap (s := s) (c := (c : Int)) (x := endM s s.m.length) (d := 501 - endM s s.m.length) (fun k h1 h2 => bitO_first hv hc (inK_out hv (i := s.m.length) (Nat.le_refl _) h1 fun h => by omega))
      rw [show endM s s.m.length + (501 - endM s s.m.length) = 501 by omega] at this
      exact this
     have eo : rowP s c (endM s s.m.length) = rowOf s c := by rw [← rowP_all]; unfold rowP; rw [gap]
     rw [eo] at i2
     simp -implicitDefEqProofs (disch := omega) [wrap_id]
     rw [hK0]
     exact next_eq (c + 1,G) ⟨by simp only; omega,by simp only; rw [rwsK_succ]; exact i2⟩ (by simp only; omega) (by simp only [cx])
 · have hc : c = s.k.length := by simp at h; omega
   subst hc
   subst hK0
   simp -implicitDefEqProofs (disch := omega) [wrap_id]
   exact ⟨[],trivial,.inl c2⟩
end Go.AM
