/-
  KxAp2: texts joined: FmCF Cb4 Cb5 Cb6 Cb7 Cb10 Cb13 Cb14 FmCL Lc1 Ld1. Own work.
-/
import Derived.Test.YtfpfnlnmilndmaaGreatDoorKxAp1
import Derived.Test.YtfpfnlnmilndmaaGreatDoorProg
set_option linter.unusedSimpArgs false
set_option linter.unusedVariables false

set_option maxRecDepth 100000
namespace Go.AM
open Go.RowKit Go.Proofs
abbrev n_r_Places : Nat := 21
def G_r_Places : AC := (.seq (.rgn [⟨none,[(.box 2 2 (.t 0)),(.mv 4 (.k (.sl true 0 []))),(.mv 5 (.k (I 0)))]⟩] [1,2]) (.seq (.seq (.rgn [⟨none,[(.ld 8 true 2 (.t 2)),(.call 9 25 [(.t 8)]),(.bin 10 .neq (.t 9) (.k (I 0)))]⟩] [1,2,10]) (.cond (.t 10) (.seq (.rgn [⟨none,[(.ld 11 true 2 (.t 2)),(.call 12 25 [(.t 11)]),(.mv 4 (.k (.sl true 0 []))),(.mv 5 (.t 12))]⟩] [4,5]) .ret) .skip)) (.seq (.seq (.rgn [⟨none,[(.ld 13 true 2 (.t 2)),(.mv 14 (.t 1)),(.call 15 61 [(.t 13),(.t 14)]),(.un 16 .not (.t 15))]⟩] [1,2,16]) (.cond (.t 16) (.seq (.rgn [⟨none,[(.mv 4 (.k (.sl true 0 []))),(.mv 5 (.k (I 2)))]⟩] [4,5]) .ret) .skip)) (.seq (.rgn [⟨none,[(.mv 6 (.k (.sl true 0 [])))]⟩] [1,2,6]) (.seq (.seq (.rgn [⟨none,[(.mv 7 (.k (I 0)))]⟩] [1,2,6,7]) (.block 0 (.loop (.seq (.seq (.rgn [⟨none,[(.mv 17 (.t 7)),(.bin 18 .leq (.t 17) (.k (I 500)))]⟩] [1,2,6,7,18]) (.cond (.t 18) .skip (.exit 0))) (.seq (.block 1 (.seq (.rgn [⟨none,[(.ld 21 true 2 (.t 2)),(.mv 22 (.t 1)),(.mv 23 (.t 7)),(.bld 24 [(I 0),(I 0)] [(0,1,(.t 22)),(1,1,(.t 23))]),(.call 25 62 [(.t 21),(.t 24)]),(.bin 26 .neq (.t 25) (.k (I 0)))]⟩] [1,2,6,7,26]) (.cond (.t 26) (.rgn [⟨none,[(.mv 27 (.t 6)),(.mv 28 (.t 7)),(.bsl 29 1 1 [(I 0)] [(0,(.t 28))]),(.app 30 1 8 (.t 27) (.t 29)),(.mv 6 (.t 30))]⟩] [1,2,6,7]) .skip))) (.rgn [⟨none,[(.mv 19 (.t 7)),(.bin 20 .add (.t 19) (.k (I 1))),(.mv 7 (.t 20))]⟩] [1,2,6,7])))))) (.seq (.rgn [⟨none,[(.mv 31 (.t 6)),(.mv 4 (.t 31)),(.mv 5 (.k (I 0)))]⟩] [4,5]) .ret))))))
theorem func_r_Places : Tryz.prog.funcs[n_r_Places]? = some Tryz.f21 := Tryz.func21
theorem form_r_Places : formOf Tryz.prog Tryz.f21 [4,5] = some G_r_Places := by kernel_rfl
theorem res_r_Places : resTmps Tryz.f21.results.toList = some [4,5] := by kernel_rfl
abbrev n_r_Rows : Nat := 35
def G_r_Rows : AC := (.seq (.rgn [⟨none,[(.box 1 2 (.t 0)),(.mv 2 (.k (.sl true 0 [])))]⟩] [1]) (.seq (.rgn [⟨none,[(.mv 3 (.k (.sl true 0 [])))]⟩] [1,3]) (.seq (.seq (.rgn [⟨none,[(.mv 4 (.k (I 0)))]⟩] [1,3,4]) (.block 0 (.loop (.seq (.seq (.rgn [⟨none,[(.mv 8 (.t 4)),(.fa 9 (.t 1) 0),(.ld 10 false 1 (.t 9)),(.len 11 (.t 10)),(.bin 12 .lss (.t 8) (.t 11))]⟩] [1,3,4,12]) (.cond (.t 12) .skip (.exit 0))) (.seq (.block 1 (.seq (.rgn [⟨none,[(.ld 16 true 2 (.t 1)),(.mv 17 (.t 4)),(.call 18 21 [(.t 16),(.t 17)]),(.mv 15 (.t 18)),(.ext 19 (.t 15) 0),(.ext 20 (.t 15) 1),(.mv 5 (.t 19)),(.mv 6 (.t 20))]⟩] [1,3,4,5]) (.seq (.rgn [⟨none,[(.mv 7 (.k (I 0)))]⟩] [1,3,4,5,7]) (.block 2 (.loop (.seq (.seq (.rgn [⟨none,[(.mv 21 (.t 7)),(.mv 22 (.t 5)),(.len 23 (.t 22)),(.bin 24 .lss (.t 21) (.t 23))]⟩] [1,3,4,5,7,24]) (.cond (.t 24) .skip (.exit 2))) (.seq (.block 3 (.rgn [⟨none,[(.mv 27 (.t 3)),(.mv 28 (.t 4)),(.mv 29 (.t 5)),(.mv 30 (.t 7)),(.ia 31 1 (.t 29) (.t 30)),(.ld 32 false 1 (.t 31)),(.bld 33 [(I 0),(I 0)] [(0,1,(.t 28)),(1,1,(.t 32))]),(.bsl 34 1 2 [(I 0),(I 0)] [(0,(.t 33))]),(.app 35 2 16 (.t 27) (.t 34)),(.mv 3 (.t 35))]⟩] [1,3,4,5,7])) (.rgn [⟨none,[(.mv 25 (.t 7)),(.bin 26 .add (.t 25) (.k (I 1))),(.mv 7 (.t 26))]⟩] [1,3,4,5,7])))))))) (.rgn [⟨none,[(.mv 13 (.t 4)),(.bin 14 .add (.t 13) (.k (I 1))),(.mv 4 (.t 14))]⟩] [1,3,4])))))) (.seq (.rgn [⟨none,[(.mv 36 (.t 3)),(.mv 2 (.t 36))]⟩] [2]) .ret))))
theorem func_r_Rows : Tryz.prog.funcs[n_r_Rows]? = some Tryz.f35 := Tryz.func35
theorem form_r_Rows : formOf Tryz.prog Tryz.f35 [2] = some G_r_Rows := by kernel_rfl
theorem res_r_Rows : resTmps Tryz.f35.results.toList = some [2] := by kernel_rfl
abbrev n_r_Apart : Nat := 38
def G_r_Apart : AC := (.seq (.rgn [⟨none,[(.box 1 2 (.t 0)),(.mv 2 (.k (.sl true 0 []))),(.mv 3 (.k (I 0)))]⟩] [1]) (.seq (.seq (.rgn [⟨none,[(.ld 10 true 2 (.t 1)),(.call 11 25 [(.t 10)]),(.bin 12 .neq (.t 11) (.k (I 0)))]⟩] [1,12]) (.cond (.t 12) (.seq (.rgn [⟨none,[(.ld 13 true 2 (.t 1)),(.call 14 25 [(.t 13)]),(.mv 2 (.k (.sl true 0 []))),(.mv 3 (.t 14))]⟩] [2,3]) .ret) .skip)) (.seq (.rgn [⟨none,[(.ld 15 true 2 (.t 1)),(.call 16 35 [(.t 15)]),(.mv 4 (.t 16))]⟩] [1,4]) (.seq (.rgn [⟨none,[(.mv 5 (.k (.sl true 0 [])))]⟩] [1,4,5]) (.seq (.seq (.rgn [⟨none,[(.mv 6 (.k (I 0)))]⟩] [1,4,5,6]) (.block 0 (.loop (.seq (.seq (.rgn [⟨none,[(.mv 17 (.t 6)),(.fa 18 (.t 1) 1),(.ld 19 false 1 (.t 18)),(.len 20 (.t 19)),(.bin 21 .shl (.k (I 1)) (.t 20)),(.bin 22 .lss (.t 17) (.t 21))]⟩] [1,4,5,6,22]) (.cond (.t 22) .skip (.exit 0))) (.seq (.block 1 (.seq (.rgn [⟨none,[(.mv 25 (.t 6)),(.call 26 52 [(.t 25)]),(.mv 7 (.t 26))]⟩] [1,4,5,6,7]) (.seq (.rgn [⟨none,[(.mv 8 (.k (B true)))]⟩] [1,4,5,6,7,8]) (.seq (.seq (.rgn [⟨none,[(.mv 9 (.k (I 0)))]⟩] [1,4,5,6,7,8,9]) (.block 2 (.loop (.seq (.seq (.rgn [⟨none,[(.mv 27 (.t 9)),(.mv 28 (.t 4)),(.len 29 (.t 28)),(.bin 30 .lss (.t 27) (.t 29))]⟩] [1,4,5,6,7,8,9,30]) (.cond (.t 30) .skip (.exit 2))) (.seq (.block 3 (.drw [⟨none,[(.mv 33 (.t 8)),(.mv 34 (.t 33))]⟩,⟨(some (34,true)),[(.ld 35 true 2 (.t 1)),(.mv 36 (.t 4)),(.mv 37 (.t 9)),(.ia 38 2 (.t 36) (.t 37)),(.ld 39 true 2 (.t 38)),(.call 40 62 [(.t 35),(.t 39)]),(.mv 41 (.t 6)),(.bin 42 .and (.t 40) (.t 41)),(.call 43 52 [(.t 42)]),(.len 44 (.t 43)),(.bin 45 .lss (.t 44) (.k (I 2)))]⟩,⟨none,[(.pick 46 (.t 34) (.t 45) (.k (B false))),(.mv 8 (.t 46))]⟩] [(2,6)] [1,4,5,6,7,8,9])) (.rgn [⟨none,[(.mv 31 (.t 9)),(.bin 32 .add (.t 31) (.k (I 1))),(.mv 9 (.t 32))]⟩] [1,4,5,6,7,8,9])))))) (.seq (.rgn [⟨none,[(.mv 47 (.t 8)),(.mv 48 (.t 47))]⟩,⟨(some (48,true)),[(.mv 49 (.t 7)),(.len 50 (.t 49)),(.mv 51 (.t 5)),(.len 52 (.t 51)),(.bin 53 .gtr (.t 50) (.t 52)),(.mv 54 (.t 53))]⟩,⟨(some (54,false)),[(.mv 55 (.t 7)),(.len 56 (.t 55)),(.mv 57 (.t 5)),(.len 58 (.t 57)),(.bin 59 .eql (.t 56) (.t 58)),(.mv 60 (.t 59))]⟩,⟨(some (60,true)),[(.mv 61 (.t 7)),(.mv 62 (.t 5)),(.call 63 85 [(.t 61),(.t 62)])]⟩,⟨(some (54,false)),[(.pick 64 (.t 60) (.t 63) (.k (B false)))]⟩,⟨(some (48,true)),[(.pick 65 (.t 54) (.k (B true)) (.t 64))]⟩,⟨none,[(.pick 66 (.t 48) (.t 65) (.k (B false)))]⟩] [1,4,5,6,7,66]) (.cond (.t 66) (.rgn [⟨none,[(.mv 67 (.t 7)),(.mv 5 (.t 67))]⟩] [1,4,5,6]) .skip)))))) (.rgn [⟨none,[(.mv 23 (.t 6)),(.bin 24 .add (.t 23) (.k (I 1))),(.mv 6 (.t 24))]⟩] [1,4,5,6])))))) (.seq (.rgn [⟨none,[(.mv 68 (.t 5)),(.mv 2 (.t 68)),(.mv 3 (.k (I 0)))]⟩] [2,3]) .ret))))))
theorem func_r_Apart : Tryz.prog.funcs[n_r_Apart]? = some Tryz.f38 := Tryz.func38
theorem form_r_Apart : formOf Tryz.prog Tryz.f38 [2,3] = some G_r_Apart := by kernel_rfl
theorem res_r_Apart : resTmps Tryz.f38.results.toList = some [2,3] := by kernel_rfl
abbrev n_r_CheckApart : Nat := 40
def G_r_CheckApart : AC := (.seq (.rgn [⟨none,[(.box 2 2 (.t 0)),(.mv 4 (.k (I 0)))]⟩] [1,2]) (.seq (.seq (.rgn [⟨none,[(.ld 9 true 2 (.t 2)),(.call 10 25 [(.t 9)]),(.bin 11 .neq (.t 10) (.k (I 0)))]⟩] [1,2,11]) (.cond (.t 11) (.seq (.rgn [⟨none,[(.ld 12 true 2 (.t 2)),(.call 13 25 [(.t 12)]),(.mv 4 (.t 13))]⟩] [4]) .ret) .skip)) (.seq (.rgn [⟨none,[(.mv 5 (.k (I 0)))]⟩] [1,2,5]) (.seq (.seq (.rgn [⟨none,[(.mv 6 (.k (I 0)))]⟩] [1,2,5,6]) (.block 0 (.loop (.seq (.seq (.rgn [⟨none,[(.mv 14 (.t 6)),(.mv 15 (.t 1)),(.len 16 (.t 15)),(.bin 17 .lss (.t 14) (.t 16))]⟩] [1,2,5,6,17]) (.cond (.t 17) .skip (.exit 0))) (.seq (.block 1 (.seq (.seq (.drw [⟨none,[(.mv 20 (.t 1)),(.mv 21 (.t 6)),(.ia 22 1 (.t 20) (.t 21)),(.ld 23 false 1 (.t 22)),(.bin 24 .lss (.t 23) (.k (I 0))),(.mv 25 (.t 24))]⟩,⟨(some (25,false)),[(.mv 26 (.t 1)),(.mv 27 (.t 6)),(.ia 28 1 (.t 26) (.t 27)),(.ld 29 false 1 (.t 28)),(.fa 30 (.t 2) 1),(.ld 31 false 1 (.t 30)),(.len 32 (.t 31)),(.bin 33 .geq (.t 29) (.t 32))]⟩,⟨none,[(.pick 34 (.t 25) (.k (B true)) (.t 33)),(.mv 35 (.t 34))]⟩,⟨(some (35,false)),[(.mv 36 (.t 6)),(.bin 37 .gtr (.t 36) (.k (I 0))),(.mv 38 (.t 37))]⟩,⟨(some (38,true)),[(.mv 39 (.t 1)),(.mv 40 (.t 6)),(.ia 41 1 (.t 39) (.t 40)),(.ld 42 false 1 (.t 41)),(.mv 43 (.t 1)),(.mv 44 (.t 6)),(.bin 45 .sub (.t 44) (.k (I 1))),(.ia 46 1 (.t 43) (.t 45)),(.ld 47 false 1 (.t 46)),(.bin 48 .leq (.t 42) (.t 47))]⟩,⟨(some (35,false)),[(.pick 49 (.t 38) (.t 48) (.k (B false)))]⟩,⟨none,[(.pick 50 (.t 35) (.k (B true)) (.t 49))]⟩] [(9,11),(22,27)] [1,2,5,6,50]) (.cond (.t 50) (.seq (.rgn [⟨none,[(.mv 4 (.k (I 3)))]⟩] [4]) .ret) .skip)) (.rgn [⟨none,[(.mv 51 (.t 5)),(.mv 52 (.t 1)),(.mv 53 (.t 6)),(.ia 54 1 (.t 52) (.t 53)),(.ld 55 false 1 (.t 54)),(.bin 56 .shl (.k (I 1)) (.t 55)),(.bin 57 .or (.t 51) (.t 56)),(.mv 5 (.t 57))]⟩] [1,2,5,6]))) (.rgn [⟨none,[(.mv 18 (.t 6)),(.bin 19 .add (.t 18) (.k (I 1))),(.mv 6 (.t 19))]⟩] [1,2,5,6])))))) (.seq (.rgn [⟨none,[(.ld 58 true 2 (.t 2)),(.call 59 35 [(.t 58)]),(.mv 7 (.t 59))]⟩] [2,5,7]) (.seq (.seq (.rgn [⟨none,[(.mv 8 (.k (I 0)))]⟩] [2,5,7,8]) (.block 2 (.loop (.seq (.seq (.rgn [⟨none,[(.mv 60 (.t 8)),(.mv 61 (.t 7)),(.len 62 (.t 61)),(.bin 63 .lss (.t 60) (.t 62))]⟩] [2,5,7,8,63]) (.cond (.t 63) .skip (.exit 2))) (.seq (.block 3 (.seq (.drw [⟨none,[(.ld 66 true 2 (.t 2)),(.mv 67 (.t 7)),(.mv 68 (.t 8)),(.ia 69 2 (.t 67) (.t 68)),(.ld 70 true 2 (.t 69)),(.call 71 62 [(.t 66),(.t 70)]),(.mv 72 (.t 5)),(.bin 73 .and (.t 71) (.t 72)),(.call 74 52 [(.t 73)]),(.len 75 (.t 74)),(.bin 76 .gtr (.t 75) (.k (I 1)))]⟩] [(0,4)] [2,5,7,8,76]) (.cond (.t 76) (.seq (.rgn [⟨none,[(.mv 4 (.k (I 14)))]⟩] [4]) .ret) .skip))) (.rgn [⟨none,[(.mv 64 (.t 8)),(.bin 65 .add (.t 64) (.k (I 1))),(.mv 8 (.t 65))]⟩] [2,5,7,8])))))) (.seq (.rgn [⟨none,[(.mv 4 (.k (I 0)))]⟩] [4]) .ret)))))))
theorem func_r_CheckApart : Tryz.prog.funcs[n_r_CheckApart]? = some Tryz.f40 := Tryz.func40
theorem form_r_CheckApart : formOf Tryz.prog Tryz.f40 [4] = some G_r_CheckApart := by kernel_rfl
theorem res_r_CheckApart : resTmps Tryz.f40.results.toList = some [4] := by kernel_rfl
abbrev n_r_List : Nat := 52
def G_r_List : AC := (.seq (.rgn [⟨none,[(.mv 2 (.k (.sl true 0 [])))]⟩] [0]) (.seq (.rgn [⟨none,[(.mv 3 (.k (.sl true 0 [])))]⟩] [0,3]) (.seq (.seq (.rgn [⟨none,[(.mv 4 (.k (I 0)))]⟩] [0,3,4]) (.block 0 (.loop (.seq (.seq (.rgn [⟨none,[(.mv 5 (.t 0)),(.mv 6 (.t 4)),(.bin 7 .shr (.t 5) (.t 6)),(.bin 8 .gtr (.t 7) (.k (I 0)))]⟩] [0,3,4,8]) (.cond (.t 8) .skip (.exit 0))) (.seq (.block 1 (.seq (.rgn [⟨none,[(.mv 11 (.t 0)),(.mv 12 (.t 4)),(.bin 13 .shr (.t 11) (.t 12)),(.bin 14 .and (.t 13) (.k (I 1))),(.bin 15 .eql (.t 14) (.k (I 1)))]⟩] [0,3,4,15]) (.cond (.t 15) (.rgn [⟨none,[(.mv 16 (.t 3)),(.mv 17 (.t 4)),(.bsl 18 1 1 [(I 0)] [(0,(.t 17))]),(.app 19 1 8 (.t 16) (.t 18)),(.mv 3 (.t 19))]⟩] [0,3,4]) .skip))) (.rgn [⟨none,[(.mv 9 (.t 4)),(.bin 10 .add (.t 9) (.k (I 1))),(.mv 4 (.t 10))]⟩] [0,3,4])))))) (.seq (.rgn [⟨none,[(.mv 20 (.t 3)),(.mv 2 (.t 20))]⟩] [2]) .ret))))
theorem func_r_List : Tryz.prog.funcs[n_r_List]? = some Tryz.f52 := Tryz.func52
theorem form_r_List : formOf Tryz.prog Tryz.f52 [2] = some G_r_List := by kernel_rfl
theorem res_r_List : resTmps Tryz.f52.results.toList = some [2] := by kernel_rfl
abbrev n_r_First : Nat := 85
def G_r_First : AC := (.seq (.rgn [⟨none,[(.mv 4 (.k (B false)))]⟩] [0,1]) (.seq (.seq (.rgn [⟨none,[(.mv 5 (.k (I 0)))]⟩] [0,1,5]) (.block 0 (.loop (.seq (.seq (.rgn [⟨none,[(.mv 6 (.t 5)),(.mv 7 (.t 0)),(.len 8 (.t 7)),(.bin 9 .lss (.t 6) (.t 8))]⟩] [0,1,5,9]) (.cond (.t 9) .skip (.exit 0))) (.seq (.block 1 (.seq (.drw [⟨none,[(.mv 12 (.t 0)),(.mv 13 (.t 5)),(.ia 14 1 (.t 12) (.t 13)),(.ld 15 false 1 (.t 14)),(.mv 16 (.t 1)),(.mv 17 (.t 5)),(.ia 18 1 (.t 16) (.t 17)),(.ld 19 false 1 (.t 18)),(.bin 20 .neq (.t 15) (.t 19))]⟩] [(3,7)] [0,1,5,20]) (.cond (.t 20) (.seq (.drw [⟨none,[(.mv 21 (.t 0)),(.mv 22 (.t 5)),(.ia 23 1 (.t 21) (.t 22)),(.ld 24 false 1 (.t 23)),(.mv 25 (.t 1)),(.mv 26 (.t 5)),(.ia 27 1 (.t 25) (.t 26)),(.ld 28 false 1 (.t 27)),(.bin 29 .lss (.t 24) (.t 28)),(.mv 4 (.t 29))]⟩] [(3,7)] [4]) .ret) .skip))) (.rgn [⟨none,[(.mv 10 (.t 5)),(.bin 11 .add (.t 10) (.k (I 1))),(.mv 5 (.t 11))]⟩] [0,1,5])))))) (.seq (.rgn [⟨none,[(.mv 4 (.k (B false)))]⟩] [4]) .ret)))
theorem func_r_First : Tryz.prog.funcs[n_r_First]? = some Tryz.f85 := Tryz.func85
theorem form_r_First : formOf Tryz.prog Tryz.f85 [4] = some G_r_First := by kernel_rfl
theorem res_r_First : resTmps Tryz.f85.results.toList = some [4] := by kernel_rfl
end Go.AM

namespace Go.AM
open Go.RowKit Go.Proofs
theorem bitT_end {n i : Nat} (h : shrN n i = 0) : ∀ {d : Nat},bitT n (i + d) = bitT n i
 | 0 => rfl
 | d + 1 => by
   rw [show i + (d + 1) = i + d + 1 from rfl,bitT_succ,bitT_end h]
   have : n.testBit (i + d) = false := by
    rw [Nat.testBit_eq_decide_div_mod_eq]
    have h0 : n < 2 ^ i := by
     unfold shrN at h
     rcases Nat.div_eq_zero_iff.1 h with h | h
     · have := Nat.two_pow_pos i; omega
     · exact h
    have h1 : n < 2 ^ (i + d) := Nat.lt_of_lt_of_le h0 (Nat.pow_le_pow_right (by decide) (by omega))
    rw [Nat.div_eq_of_lt h1]; rfl
   rw [this]; simp
set_option maxHeartbeats 2000000 in
theorem r_List_ok (n : Nat) (hn : n < 2 ^ 60) : PureOK Tryz.prog n_r_List [I (n : Int)] (Ls (bitL n).isEmpty (bitL n)) := by
 refine pure_of (walk func_r_List form_r_List res_r_List (by show 1 ≤ _; decide) ?_)
 simp -implicitDefEqProofs (disch := omega) [G_r_List,wrap_id]
 refine loop_eq (fun q : Nat × AV × List HObj => ⟨[(0,I (n : Int)),(3,q.2.1),(4,I (q.1 : Int))],q.2.2⟩) (fun q => q.1 ≤ 60 ∧ AccR q.2.2 q.2.1 (bitT n q.1)) (fun q => 60 - q.1) (0,.sl true 0 [],[]) ⟨Nat.zero_le _,.inl ⟨rfl,by simp [bitT]⟩⟩ rfl ?_
 rintro ⟨i,x,H⟩ ⟨d1,d2⟩
 simp only at d1 d2 ⊢
 refine hideK' fun K0 hK0 => ?_
 have hs := shrN_small (i := i) hn
 simp -implicitDefEqProofs (disch := omega) [wrap_id,-b_shr,bw_shr]
 refine c_split (fun hc => ?_) (fun hc => ?_)
 · have hc : 0 < shrN n i := by simpa using hc
   have hi : i < 60 := by
    apply Classical.byContradiction
    intro h
    have : i = 60 := by omega
    subst this
    unfold shrN at hc
    rw [Nat.div_eq_of_lt hn] at hc
    omega
   have ix : ((i : Int) + 1) = ((i + 1 : Nat) : Int) := by omega
   have bl := bitT_len (n := n) (i := i)
   simp -implicitDefEqProofs (disch := omega) [wrap_id,-b_shr,bw_shr,-b_and,bw_and,hs,bitN_one]
   cases hb : n.testBit i with
   | false =>
     have e : bitT n (i + 1) = bitT n i := by rw [bitT_succ,hb]; simp
     simp -implicitDefEqProofs (disch := omega) [wrap_id]
     rw [hK0]
     refine next_eq (i + 1,x,H) ⟨by simp only; omega,by simp only [e]; exact d2⟩ (by simp only; omega) (by simp only [ix])
   | true =>
     have e : bitT n (i + 1) = bitT n i ++ [(i : Int)] := by rw [bitT_succ,hb]; simp
     simp -implicitDefEqProofs (disch := omega) [wrap_id]
     refine bsl_of (ys := [I (i : Int)]) rfl rfl ?_
     simp -implicitDefEqProofs (disch := omega) [wrap_id,zrep]
     refine app_row d2.row (by omega) fun ws w1 w2 w3 => ?_
     simp -implicitDefEqProofs (disch := omega) [wrap_id]
     rw [hK0]
     refine next_eq (i + 1,.ms H.length 0 ((bitT n i).length + 1) 1,writeL H ws) ⟨by simp only; omega,.inr ⟨H.length,?_,?_,?_⟩⟩ (by simp only; omega) (by simp only [ix])
     · simp only [e]; simp
     · simp only [e]; simp
     · simp only [e]; exact w3
 · have hc : shrN n i = 0 := by simp at hc; omega
   subst hK0
   have e : bitL n = bitT n i := by
    have := bitT_end hc (d := 60 - i)
    rw [show i + (60 - i) = 60 from by omega] at this
    exact this
   rw [e]
   simp -implicitDefEqProofs (disch := omega) [wrap_id]
   exact d2.out
end Go.AM

namespace Go.AM
open Go.RowKit Go.Proofs
set_option maxHeartbeats 4000000 in
theorem r_Places_ok (f g : Bool) (s : SH) (hz : SzS s) (c : Int) : PureOK Tryz.prog n_r_Places [Sn f g s,I c] (.tup [Ls (plsL s c).isEmpty (plsL s c),I (plsE s c)]) := by
 refine pure_of (walk func_r_Places form_r_Places res_r_Places (by show 2 ≤ _; decide) ?_)
 simp -implicitDefEqProofs (disch := omega) [G_r_Places,wrap_id]
 refine callW_pure rfl (r_CheckSheet_ok f g s hz) ?_
 by_cases h0 : shtE s = 0
 · have hv := val_of h0
   rw [h0]
   simp -implicitDefEqProofs (disch := omega) [wrap_id]
   refine callW_pure rfl (r_IsComb_ok f g s c) ?_
   cases hk : isK s c with
   | false =>
     have e : plsE s c = 2 := by unfold plsE; rw [if_neg (by omega),if_pos hk]
     have e2 : plsL s c = [] := by unfold plsL; rw [if_neg (by omega)]
     rw [e,e2]
     simp -implicitDefEqProofs (disch := omega) [wrap_id]
     exact out_of (is := []) rfl
   | true =>
     have e : plsE s c = 0 := by unfold plsE; rw [if_neg (by omega),if_neg (by rw [hk]; decide)]
     have e2 : plsL s c = plcT s c 501 := by unfold plsL; rw [if_pos e]
     rw [e,e2]
     simp -implicitDefEqProofs (disch := omega) [wrap_id]
     refine loop_eq (fun q : Nat × AV × List HObj => ⟨[(1,I c),(2,.ref 0 0),(6,q.2.1),(7,I (q.1 : Int))],q.2.2⟩) (fun q => q.1 ≤ 501 ∧ AccR q.2.2 q.2.1 (plcT s c q.1) ∧ nthH q.2.2 0 = some (.cells [Ps f s.k,Ps g s.m]) ∧ rid q.2.1 ≠ some 0) (fun q => 501 - q.1) (0,.sl true 0 [],[.cells [Ps f s.k,Ps g s.m]]) ⟨Nat.zero_le _,.inl ⟨rfl,by simp [plcT]⟩,rfl,by simp [rid]⟩ rfl ?_
     rintro ⟨i,x,H⟩ ⟨d1,d2,d3,d4⟩
     simp only at d1 d2 d3 d4 ⊢
     have l0 := nthH_lt d3
     refine hideK' fun K0 hK0 => ?_
     simp -implicitDefEqProofs (disch := omega) [wrap_id]
     refine c_split (fun hc => ?_) (fun hc => ?_)
     · have hi : i < 501 := by simp at hc; omega
       have ix : ((i : Int) + 1) = ((i + 1 : Nat) : Int) := by omega
       have pl := plcT_len (s := s) (c := c) (i := i)
       simp -implicitDefEqProofs (disch := omega) [wrap_id,d3,ldr_some]
       refine callW_pure rfl (r_Bits_ok f g s hv (c,(i : Int)) hk) ?_
       by_cases hb : bitO s (c,(i : Int)) = 0
       · have e : plcT s c (i + 1) = plcT s c i := by rw [plcT_succ,if_neg (by omega)]; simp
         rw [hb]
         simp -implicitDefEqProofs (disch := omega) [wrap_id]
         rw [hK0]
         refine next_eq (i + 1,x,H) ⟨by simp only; omega,by simp only [e]; exact d2,d3,d4⟩ (by simp only; omega) (by simp only [ix])
       · have e : plcT s c (i + 1) = plcT s c i ++ [(i : Int)] := by rw [plcT_succ,if_pos hb]
         have hb2 : ((bitO s (c,(i : Int)) : Int) != 0) = true := by simp; omega
         simp -implicitDefEqProofs (disch := omega) [wrap_id,hb2]
         refine bsl_of (ys := [I (i : Int)]) rfl rfl ?_
         simp -implicitDefEqProofs (disch := omega) [wrap_id,zrep]
         refine app_row d2.row (by omega) fun ws w1 w2 w3 => ?_
         simp -implicitDefEqProofs (disch := omega) [wrap_id]
         rw [hK0]
         refine next_eq (i + 1,.ms H.length 0 ((plcT s c i).length + 1) 1,writeL H ws) ⟨by simp only; omega,.inr ⟨H.length,?_,?_,?_⟩,(w1 0 l0 (fun h => d4 h)).trans d3,?_⟩ (by simp only; omega) (by simp only [ix])
         · simp only [e]; simp
         · simp only [e]; simp
         · simp only [e]; exact w3
         · simp only [rid]; intro h; injection h with h; omega
     · have hi : i = 501 := by simp at hc; omega
       subst hi
       subst hK0
       simp -implicitDefEqProofs (disch := omega) [wrap_id]
       exact d2.tupE
 · have e : plsE s c = shtE s := by unfold plsE; rw [if_pos h0]
   have e2 : plsL s c = [] := by unfold plsL; rw [if_neg (by omega)]
   have h0' : (shtE s != 0) = true := by simp [h0]
   rw [e,e2]
   simp -implicitDefEqProofs (disch := omega) [wrap_id,h0']
   refine callW_pure rfl (r_CheckSheet_ok f g s hz) ?_
   simp -implicitDefEqProofs (disch := omega) [wrap_id]
   exact out_of (is := []) rfl
end Go.AM

namespace Go.AM
open Go.RowKit Go.Proofs
set_option maxHeartbeats 4000000 in
theorem r_Rows_ok (f g : Bool) (s : SH) (h0 : shtE s = 0) : PureOK Tryz.prog n_r_Rows [Sn f g s] (Ps (allR s).isEmpty (allR s)) := by
 have hv := val_of h0
 have hz : SzS s := ⟨by have := hv.k8; omega,by have := hv.m12; omega⟩
 have hk8 := hv.k8
 refine pure_of (walk func_r_Rows form_r_Rows res_r_Rows (by show 1 ≤ _; decide) ?_)
 simp -implicitDefEqProofs (disch := omega) [G_r_Rows,wrap_id]
 refine loop_eq (fun q : Nat × AV × List HObj => ⟨[(1,.ref 0 0),(3,q.2.1),(4,I (q.1 : Int))],q.2.2⟩) (fun q => q.1 ≤ s.k.length ∧ AccK q.2.2 q.2.1 (rwsK s q.1) ∧ nthH q.2.2 0 = some (.cells [Ps f s.k,Ps g s.m]) ∧ rid q.2.1 ≠ some 0) (fun q => s.k.length - q.1) (0,.sl true 0 [],[.cells [Ps f s.k,Ps g s.m]]) ⟨Nat.zero_le _,AccG.nil,rfl,by simp [rid]⟩ rfl ?_
 rintro ⟨i,x,H⟩ ⟨d1,d2,d3,d4⟩
 simp only at d1 d2 d3 d4 ⊢
 refine hideK' fun K0 hK0 => ?_
 simp -implicitDefEqProofs (disch := omega) [wrap_id,d3]
 refine c_split (fun hc => ?_) (fun hc => ?_)
 · have hi : i < s.k.length := by simpa using hc
   have ix : ((i : Int) + 1) = ((i + 1 : Nat) : Int) := by omega
   have hk : isK s (i : Int) = true := by unfold isK; simp; omega
   have e : plsE s (i : Int) = 0 := by unfold plsE; rw [if_neg (by omega),if_neg (by rw [hk]; decide)]
   have e2 : plsL s (i : Int) = plcT s i 501 := by unfold plsL; rw [if_pos e]
   have pl := plcT_len (s := s) (c := (i : Int)) (i := 501)
   have rl := rwsK_len (s := s) (n := i)
   simp -implicitDefEqProofs (disch := omega) [wrap_id,d3,ldr_some]
   refine callW_pure rfl (r_Places_ok f g s hz (i : Int)) ?_
   rw [e,e2]
   have hro : rowOf s i = (plcT s (i : Int) 501).map fun a => ((i : Int),a) := rfl
   generalize plcT s (i : Int) 501 = P at *
   simp -implicitDefEqProofs (disch := omega) [wrap_id]
   refine loop_eq (fun q : Nat × AV × List HObj => ⟨[(1,.ref 0 0),(3,q.2.1),(4,I (i : Int)),(5,Ls P.isEmpty P),(7,I (q.1 : Int))],q.2.2⟩) (fun q => q.1 ≤ P.length ∧ AccK q.2.2 q.2.1 (rwsK s i ++ (P.take q.1).map fun a => ((i : Int),a)) ∧ nthH q.2.2 0 = some (.cells [Ps f s.k,Ps g s.m]) ∧ rid q.2.1 ≠ some 0) (fun q => P.length - q.1) (0,x,H) ⟨Nat.zero_le _,by simpa using d2,d3,d4⟩ rfl ?_
   rintro ⟨j,y,H2⟩ ⟨f1,f2,f3,f4⟩
   simp only at f1 f2 f3 f4 ⊢
   refine hideK' fun K1 hK1 => ?_
   simp -implicitDefEqProofs (disch := omega) [wrap_id]
   refine c_split (fun hc => ?_) (fun hc => ?_)
   · have hj : j < P.length := by simpa using hc
     have jx : ((j : Int) + 1) = ((j + 1 : Nat) : Int) := by omega
     have tk : P.take (j + 1) = P.take j ++ [P[j]] := by rw [List.take_succ_eq_append_getElem hj]
     have ll : (rwsK s i ++ (P.take j).map fun a => ((i : Int),a)).length ≤ 1000000 := by
      rw [List.length_append,List.length_map,List.length_take]
      have : i * 501 ≤ 8 * 501 := Nat.mul_le_mul_right _ (by omega)
      omega
     have eQ : rwsK s i ++ (P.take (j + 1)).map (fun a => ((i : Int),a)) = (rwsK s i ++ (P.take j).map fun a => ((i : Int),a)) ++ [((i : Int),P[j])] := by
      rw [tk,List.map_append,List.append_assoc]; rfl
     generalize (rwsK s i ++ (P.take j).map fun a => ((i : Int),a)) = Q at f2 ll eQ
     simp -implicitDefEqProofs (disch := omega) [wrap_id,cells_ls,hj]
     refine bsl_of (ys := [.agg [I (i : Int),I P[j]]]) rfl rfl ?_
     simp -implicitDefEqProofs (disch := omega) [wrap_id,zrep]
     refine app_accG (ys := [I (i : Int),I P[j]]) f2 (by omega) (by decide) rfl rfl fun ws w1 w2 w3 => ?_
     simp -implicitDefEqProofs (disch := omega) [wrap_id]
     rw [hK1]
     have l0 := nthH_lt f3
     refine next_eq (j + 1,.ms H2.length 0 (Q.length + 1) 2,writeL H2 ws) ⟨by simp only; omega,?_,(w1 0 l0 f4).trans f3,?_⟩ (by simp only; omega) (by simp only [jx])
     · simp only [eQ]
       unfold AccK
       rw [flat2_appK,List.length_append]
       exact w3
     · simp only [rid]; intro e; injection e; omega
   · have hj : j = P.length := by simp at hc; omega
     subst hj
     subst hK1
     simp -implicitDefEqProofs (disch := omega) [wrap_id]
     rw [hK0]
     refine next_eq (i + 1,y,H2) ⟨by simp only; omega,?_,f3,f4⟩ (by simp only; omega) (by simp only [ix])
     simp only [rwsK_succ,hro]
     rw [List.take_length] at f2
     exact f2
 · have hi : i = s.k.length := by simp at hc; omega
   subst hi
   subst hK0
   simp -implicitDefEqProofs (disch := omega) [wrap_id]
   exact AccK.out d2
end Go.AM

namespace Go.AM
open Go.RowKit Go.Proofs
theorem allR_len {s : SH} (hv : ValS s) : (allR s).length ≤ 4008 := by
 have := rwsK_len (s := s) (n := s.k.length)
 have h : s.k.length * 501 ≤ 8 * 501 := Nat.mul_le_mul_right _ hv.k8
 unfold allR; omega
end Go.AM

namespace Go.AM
open Go.RowKit Go.Proofs
theorem frsK_drop {a b : List Int} {i : Nat} (hi : i < a.length) (hj : i < b.length) : frsK (a.drop i) (b.drop i) = if a[i] = b[i] then frsK (a.drop (i + 1)) (b.drop (i + 1)) else decide (a[i] < b[i]) := by
 rw [List.drop_eq_getElem_cons hi,List.drop_eq_getElem_cons hj]; rfl
set_option maxHeartbeats 2000000 in
theorem r_First_ok (f g : Bool) (a b : List Int) (ha : a.length ≤ b.length) (hb : b.length ≤ 1000000) : PureOK Tryz.prog n_r_First [Ls f a,Ls g b] (B (frsK a b)) := by
 refine pure_of (walk func_r_First form_r_First res_r_First (by show 2 ≤ _; decide) ?_)
 simp -implicitDefEqProofs (disch := omega) [G_r_First,wrap_id]
 refine loop_eq (fun i : Nat => ⟨[(0,Ls f a),(1,Ls g b),(5,I (i : Int))],[]⟩) (fun i => i ≤ a.length ∧ frsK (a.drop i) (b.drop i) = frsK a b) (fun i => a.length - i) 0 ⟨Nat.zero_le _,rfl⟩ rfl ?_
 rintro i ⟨d1,d2⟩
 refine hideK' fun K0 hK0 => ?_
 simp -implicitDefEqProofs (disch := omega) [wrap_id]
 refine c_split (fun hc => ?_) (fun hc => ?_)
 · have hi : i < a.length := by simpa using hc
   have hj : i < b.length := by omega
   have ix : ((i : Int) + 1) = ((i + 1 : Nat) : Int) := by omega
   rw [frsK_drop hi hj] at d2
   by_cases e : a[i] = b[i]
   · rw [if_pos e] at d2
     have e1 : (a[i] != b[i]) = false := by rw [bne_eq_false_iff_eq]; exact e
     simp -implicitDefEqProofs (disch := omega) [wrap_id,cmp2,nthT,cells_ls,hi,hj,e1]
     rw [hK0]
     exact next_eq (i + 1) ⟨by omega,d2⟩ (by omega) (by simp only [ix])
   · rw [if_neg e] at d2
     have e1 : (a[i] != b[i]) = true := by rw [bne_iff_ne]; exact e
     rw [← d2] at hK0
     subst hK0
     simp -implicitDefEqProofs (disch := omega) [wrap_id,cmp2,nthT,cells_ls,hi,hj,e1]
 · have hi : i = a.length := by simp at hc; omega
   subst hi
   subst hK0
   rw [← d2,List.drop_length]
   simp -implicitDefEqProofs (disch := omega) [wrap_id]
   simp [frsK]
end Go.AM

namespace Go.AM
open Go.RowKit Go.Proofs
theorem and_nat {a c : Nat} (ha : a < 2 ^ 60) (hc : c < 2 ^ 60) : IntKind.i64.wrap ((BitVec.ofInt IntKind.i64.bits (a : Int) &&& BitVec.ofInt IntKind.i64.bits (c : Int)).toNat : Int) = ((a &&& c : Nat) : Int) := by
 have e : (BitVec.ofInt IntKind.i64.bits (a : Int) &&& BitVec.ofInt IntKind.i64.bits (c : Int)).toNat = a &&& c := by
  show (BitVec.ofInt 64 (a : Int) &&& BitVec.ofInt 64 (c : Int)).toNat = a &&& c
  rw [BitVec.toNat_and,BitVec.ofInt_natCast,BitVec.ofInt_natCast,BitVec.toNat_ofNat,BitVec.toNat_ofNat,Nat.mod_eq_of_lt (by omega),Nat.mod_eq_of_lt (by omega)]
 have h : a &&& c < 2 ^ 60 := Nat.and_lt_two_pow _ hc
 rw [e,wrap_id (by omega)]
theorem bw_andN {a c : Nat} {K : AV → List (Nat × HObj) → Prop} (ha : a < 2 ^ 60) (hc : c < 2 ^ 60) : BinW .and (I (a : Int)) (I (c : Int)) K = K (I (andN a c : Int)) [] := by
 rw [b_and,and_nat ha hc]; rfl
set_option maxHeartbeats 8000000 in
theorem r_CheckApart_ok (f g h : Bool) (s : SH) (hz : SzS s) (l : List Int) (hl : l.length ≤ 1000000) : PureOK Tryz.prog n_r_CheckApart [Sn f g s,Ls h l] (I (aprE s l)) := by
 refine pure_of (walk func_r_CheckApart form_r_CheckApart res_r_CheckApart (by show 2 ≤ _; decide) ?_)
 simp -implicitDefEqProofs (disch := omega) [G_r_CheckApart,wrap_id]
 refine callW_pure rfl (r_CheckSheet_ok f g s hz) ?_
 by_cases h0 : shtE s ≠ 0
 · have h0' : (shtE s != 0) = true := by simp [h0]
   rw [show aprE s l = shtE s from by unfold aprE; rw [if_pos h0]]
   simp -implicitDefEqProofs (disch := omega) [wrap_id,h0']
   refine callW_pure rfl (r_CheckSheet_ok f g s hz) ?_
   simp -implicitDefEqProofs (disch := omega) [wrap_id]
 have h0 : shtE s = 0 := by omega
 have hv := val_of h0
 have hm12 := hv.m12
 rw [h0]
 have e0 : aprE s l = if apA s.m.length l = true then 3 else if apR s (allR s) (apT l l.length) = true then 14 else 0 := by unfold aprE; rw [if_neg (by omega)]
 rw [e0]
 simp -implicitDefEqProofs (disch := omega) [wrap_id]
 refine loop_eq (fun i : Nat => ⟨[(1,Ls h l),(2,.ref 0 0),(5,I (apT l i : Nat)),(6,I (i : Int))],[.cells [Ps f s.k,Ps g s.m]]⟩) (fun i => i ≤ l.length ∧ ∀ k,k < i → apB s.m.length l k = false) (fun i => l.length - i) 0 ⟨Nat.zero_le _,fun k hk => by omega⟩ rfl ?_
 rintro i ⟨d1,d2⟩
 refine hideK' fun K0 hK0 => ?_
 simp -implicitDefEqProofs (disch := omega) [wrap_id]
 refine c_split (fun hc => ?_) (fun hc => ?_)
 · have hi : i < l.length := by simpa using hc
   have ix : ((i : Int) + 1) = ((i + 1 : Nat) : Int) := by omega
   have eb : apB s.m.length l i = (decide (l[i] < 0) || decide ((s.m.length : Int) ≤ l[i]) || (decide (0 < i) && decide (l[i] ≤ l.getD (i - 1) 0))) := by unfold apB; rw [getD_atI hi]
   have bad : apB s.m.length l i = true → apA s.m.length l = true := fun hb => List.any_eq_true.2 ⟨i,List.mem_range.2 hi,hb⟩
   by_cases q1 : l[i] < 0
   · rw [if_pos (bad (by rw [eb,decide_eq_true q1]; simp))] at hK0
     subst hK0
     simp -implicitDefEqProofs (disch := omega) [wrap_id,cmp2,nthT,cells_ls,hi,q1]
   by_cases q2 : (s.m.length : Int) ≤ l[i]
   · rw [if_pos (bad (by rw [eb,decide_eq_true q2]; simp))] at hK0
     subst hK0
     simp -implicitDefEqProofs (disch := omega) [wrap_id,cmp2,nthT,cells_ls,hi,q1,q2]
   have fin : apB s.m.length l i = false → ∀ k,k < i + 1 → apB s.m.length l k = false := fun hb k hk => by
    by_cases e : k = i
    · subst e; exact hb
    · exact d2 k (by omega)
   have eT : apT l (i + 1) = orN (apT l i) (pwN l[i].toNat) := by show orN _ (pwN (l.getD i 0).toNat) = _; rw [getD_atI hi]
   have o1 : apT l i < 2 ^ 60 := Nat.lt_of_lt_of_le (apT_small hm12 d2) (Nat.pow_le_pow_right (by decide) (by omega))
   obtain ⟨v,hv2⟩ : ∃ v : Nat,l[i] = v := ⟨l[i].toNat,by omega⟩
   have o2 := pwN_small (i := v) (by omega)
   by_cases q3 : 0 < i
   · have q3' : (0 : Int) < (i : Int) := by omega
     have hj : i - 1 < l.length := by omega
     have iy : ((i : Int) - 1) = ((i - 1 : Nat) : Int) := by omega
     by_cases q4 : l[i] ≤ l[i - 1]
     · rw [if_pos (bad (by rw [eb,getD_atI hj,decide_eq_true q3,decide_eq_true q4]; simp))] at hK0
       subst hK0
       simp -implicitDefEqProofs (disch := omega) [wrap_id,cmp2,nthT,cells_ls,hi,hj,q1,q2,q3,q3',q4,iy]
     · have fin := fin (by rw [eb,getD_atI hj]; simp [q1,q2,q4])
       simp -implicitDefEqProofs (disch := omega) [wrap_id,cmp2,nthT,cells_ls,hi,hj,q1,q2,q3,q3',q4,iy,-b_shl,-b_or]
       rw [hv2] at eT ⊢
       rw [Int.toNat_natCast] at eT
       rw [bw_shl (by omega)]
       simp -implicitDefEqProofs (disch := omega) [wrap_id,-b_or,bw_or,o1,o2]
       rw [hK0]
       exact next_eq (i + 1) ⟨by omega,fin⟩ (by omega) (by simp only [ix,eT])
   · have q3' : ¬ (0 : Int) < (i : Int) := by omega
     have fin := fin (by rw [eb]; simp [q1,q2,q3])
     simp -implicitDefEqProofs (disch := omega) [wrap_id,cmp2,nthT,cells_ls,hi,q1,q2,q3,q3',-b_shl,-b_or]
     rw [hv2] at eT ⊢
     rw [Int.toNat_natCast] at eT
     rw [bw_shl (by omega)]
     simp -implicitDefEqProofs (disch := omega) [wrap_id,-b_or,bw_or,o1,o2]
     rw [hK0]
     exact next_eq (i + 1) ⟨by omega,fin⟩ (by omega) (by simp only [ix,eT])
 have hi : i = l.length := by simp at hc; omega
 subst hi
 subst hK0
 have ea : apA s.m.length l = false := by
  unfold apA
  rw [List.any_eq_false]
  exact fun k hk => by rw [d2 k (List.mem_range.1 hk)]; decide
 rw [if_neg (by rw [ea]; decide)]
 have o1 : apT l l.length < 2 ^ 60 := Nat.lt_of_lt_of_le (apT_small hm12 d2) (Nat.pow_le_pow_right (by decide) (by omega))
 generalize apT l l.length = o at *
 simp -implicitDefEqProofs (disch := omega) [wrap_id]
 refine callW_pure rfl (r_Rows_ok f g s h0) ?_
 have km := fun r (h : r ∈ allR s) => (isK_allR h).1
 have al := allR_len hv
 generalize allR s = R at *
 simp -implicitDefEqProofs (disch := omega) [wrap_id]
 refine loop_eq (fun i : Nat => ⟨[(2,.ref 0 0),(5,I (o : Int)),(7,Ps R.isEmpty R),(8,I (i : Int))],[.cells [Ps f s.k,Ps g s.m]]⟩) (fun i => i ≤ R.length ∧ ∀ k (hk : k < R.length),k < i → ¬ 1 < (bitL (andN (bitO s R[k]) o)).length) (fun i => R.length - i) 0 ⟨Nat.zero_le _,fun k _ hk => by omega⟩ rfl ?_
 rintro i ⟨c1,c2⟩
 refine hideK' fun K0 hK0 => ?_
 simp -implicitDefEqProofs (disch := omega) [wrap_id]
 refine c_split (fun hc => ?_) (fun hc => ?_)
 · have hi : i < R.length := by simpa using hc
   have ix : ((i : Int) + 1) = ((i + 1 : Nat) : Int) := by omega
   have o2 := bitO_60 hv R[i]
   simp -implicitDefEqProofs (disch := omega) [wrap_id,cells_pair,hi]
   refine ⟨flat2_len _,?_⟩
   refine pureW_of rfl (r_Bits_ok f g s hv R[i] (km _ (List.getElem_mem hi))) ?_
   simp -implicitDefEqProofs (disch := omega) [wrap_id,cmp2,nthT,-b_and,bw_andN,o1,o2]
   refine pureW_of rfl (r_List_ok (andN (bitO s R[i]) o) (Nat.and_lt_two_pow _ o1)) ?_
   by_cases e : 1 < (bitL (andN (bitO s R[i]) o)).length
   · have eb : apR s R o = true := List.any_eq_true.2 ⟨_,List.getElem_mem hi,decide_eq_true e⟩
     rw [if_pos eb] at hK0
     subst hK0
     have e' : (1 : Int) < (bitL (andN (bitO s R[i]) o)).length := by omega
     simp -implicitDefEqProofs (disch := omega) [wrap_id,cmp2,nthT,e,e']
   · have e' : ¬ (1 : Int) < (bitL (andN (bitO s R[i]) o)).length := by omega
     simp -implicitDefEqProofs (disch := omega) [wrap_id,cmp2,nthT,e,e']
     rw [hK0]
     refine next_eq (i + 1) ⟨by omega,fun k h1 h2 => ?_⟩ (by omega) (by simp only [ix])
     by_cases e2 : k = i
     · subst e2; exact e
     · exact c2 k h1 (by omega)
 have hi : i = R.length := by simp at hc; omega
 subst hi
 subst hK0
 have eb : apR s R o = false := by
  unfold apR
  rw [List.any_eq_false]
  intro r hr
  obtain ⟨k,hk,rfl⟩ := List.getElem_of_mem hr
  rw [decide_eq_false (c2 k hk hk)]; decide
 rw [if_neg (by rw [eb]; decide)]
 simp -implicitDefEqProofs (disch := omega) [wrap_id]
end Go.AM

namespace Go.AM
open Go.RowKit Go.Proofs
theorem apK_succ {s : SH} {R : List (Int × Int)} {b i : Nat} : apK s R b (i + 1) = (apK s R b i && decide ((bitL (andN (bitO s (R.getD i (0,0))) b)).length < 2)) := by simp [apK,List.range_succ]
theorem bstT_len {s : SH} : ∀ {i : Nat},(bstT s i).length ≤ 60
 | 0 => by simp [bstT]
 | i + 1 => by
   unfold bstT
   split
   · exact bitL_len
   · exact bstT_len
set_option maxHeartbeats 8000000 in
theorem r_Apart_ok (f g : Bool) (s : SH) (hz : SzS s) : PureOK Tryz.prog n_r_Apart [Sn f g s] (.tup [Ls (apaL s).isEmpty (apaL s),I (shtE s)]) := by
 refine pure_of (walk func_r_Apart form_r_Apart res_r_Apart (by show 1 ≤ _; decide) ?_)
 simp -implicitDefEqProofs (disch := omega) [G_r_Apart,wrap_id]
 refine callW_pure rfl (r_CheckSheet_ok f g s hz) ?_
 unfold apaL
 by_cases h0 : shtE s ≠ 0
 · have h0' : (shtE s != 0) = true := by simp [h0]
   rw [if_neg h0]
   simp -implicitDefEqProofs (disch := omega) [wrap_id,h0']
   refine callW_pure rfl (r_CheckSheet_ok f g s hz) ?_
   simp -implicitDefEqProofs (disch := omega) [wrap_id]
   exact out_of (is := []) rfl
 have h0 : shtE s = 0 := by omega
 have hv := val_of h0
 have hm12 := hv.m12
 rw [if_pos h0,h0]
 simp -implicitDefEqProofs (disch := omega) [wrap_id]
 refine callW_pure rfl (r_Rows_ok f g s h0) ?_
 have km := fun r (h : r ∈ allR s) => (isK_allR h).1
 have al := allR_len hv
 have eB : ∀ i,bstT s (i + 1) = if (apK s (allR s) i (allR s).length && (decide ((bstT s i).length < (bitL i).length) || (decide ((bitL i).length = (bstT s i).length) && frsK (bitL i) (bstT s i)))) = true then bitL i else bstT s i := fun i => rfl
 obtain ⟨w1,w2⟩ := pwN_12 hv
 generalize allR s = R at *
 generalize hp : pwN s.m.length = p at *
 simp -implicitDefEqProofs (disch := omega) [wrap_id]
 refine loop_eq (fun i : Nat => ⟨[(1,.ref 0 0),(4,Ps R.isEmpty R),(5,Ls (bstT s i).isEmpty (bstT s i)),(6,I (i : Int))],[.cells [Ps f s.k,Ps g s.m]]⟩) (fun i => i ≤ p) (fun i => p - i) 0 (Nat.zero_le _) rfl ?_
 rintro i i1
 refine hideK' fun K0 hK0 => ?_
 simp -implicitDefEqProofs (disch := omega) [wrap_id,-b_shl,bw_shl,hp]
 refine c_split (fun hc => ?_) (fun hc => ?_)
 · have hi : i < p := by simpa using hc
   have ix : ((i : Int) + 1) = ((i + 1 : Nat) : Int) := by omega
   have bl := bitL_len (n := i)
   have tl := bstT_len (s := s) (i := i)
   have i60 : i < 2 ^ 60 := by omega
   simp -implicitDefEqProofs (disch := omega) [wrap_id]
   refine callW_pure rfl (r_List_ok i i60) ?_
   have eB := eB i
   generalize bstT s i = T at *
   generalize bitL i = X at *
   simp -implicitDefEqProofs (disch := omega) [wrap_id]
   refine loop_eq (fun j : Nat => ⟨[(1,.ref 0 0),(4,Ps R.isEmpty R),(5,Ls T.isEmpty T),(6,I (i : Int)),(7,Ls X.isEmpty X),(8,B (apK s R i j)),(9,I (j : Int))],[.cells [Ps f s.k,Ps g s.m]]⟩) (fun j => j ≤ R.length) (fun j => R.length - j) 0 (Nat.zero_le _) rfl ?_
   rintro j j1
   refine hideK' fun K1 hK1 => ?_
   simp -implicitDefEqProofs (disch := omega) [wrap_id]
   refine c_split (fun hc => ?_) (fun hc => ?_)
   · have hj : j < R.length := by simpa using hc
     have jx : ((j : Int) + 1) = ((j + 1 : Nat) : Int) := by omega
     have eA := apK_succ (s := s) (R := R) (b := i) (i := j)
     rw [getD_at hj] at eA
     have o2 := bitO_60 hv R[j]
     cases ha : apK s R i j with
     | false =>
       rw [ha] at eA
       simp -implicitDefEqProofs (disch := omega) [wrap_id,cmp2,nthT]
       rw [hK1]
       exact next_eq (j + 1) (by omega) (by omega) (by simp only [jx,eA,Bool.false_and])
     | true =>
       rw [ha] at eA
       simp -implicitDefEqProofs (disch := omega) [wrap_id,cmp2,nthT,cells_pair,hj]
       refine ⟨flat2_len _,?_⟩
       refine pureW_of rfl (r_Bits_ok f g s hv R[j] (km _ (List.getElem_mem hj))) ?_
       simp -implicitDefEqProofs (disch := omega) [wrap_id,cmp2,nthT,-b_and,bw_andN,o2,i60]
       refine pureW_of rfl (r_List_ok (andN (bitO s R[j]) i) (Nat.and_lt_two_pow _ i60)) ?_
       have e2 : decide (((bitL (andN (bitO s R[j]) i)).length : Int) < 2) = decide ((bitL (andN (bitO s R[j]) i)).length < 2) := by rw [decide_eq_decide]; omega
       generalize decide ((bitL (andN (bitO s R[j]) i)).length < 2) = q at *
       simp -implicitDefEqProofs (disch := omega) [wrap_id,cmp2,nthT,e2]
       rw [hK1]
       exact next_eq (j + 1) (by omega) (by omega) (by simp only [jx,eA,Bool.true_and])
   · have hj : j = R.length := by simp at hc; omega
     subst hj
     subst hK1
     generalize apK s R i R.length = a at *
     cases a with
     | false =>
       rw [if_neg (by simp)] at eB
       simp -implicitDefEqProofs (disch := omega) [wrap_id]
       rw [hK0]
       exact next_eq (i + 1) (by omega) (by omega) (by simp only [ix,eB])
     | true =>
       by_cases q1 : T.length < X.length
       · have q1' : (T.length : Int) < X.length := by omega
         rw [if_pos (by simp [q1])] at eB
         simp -implicitDefEqProofs (disch := omega) [wrap_id,q1,q1']
         rw [hK0]
         exact next_eq (i + 1) (by omega) (by omega) (by simp only [ix,eB])
       · have q1' : ¬ (T.length : Int) < X.length := by omega
         by_cases q2 : X.length = T.length
         · have q2' : ((X.length : Int) == (T.length : Int)) = true := by rw [beq_iff_eq]; omega
           simp -implicitDefEqProofs (disch := omega) [wrap_id,q1,q1',q2,q2']
           refine callW_pure rfl (r_First_ok _ _ X T (by omega) (by omega)) ?_
           cases q3 : frsK X T with
           | true =>
             rw [if_pos (by simp [q2,q3])] at eB
             simp -implicitDefEqProofs (disch := omega) [wrap_id]
             rw [hK0]
             exact next_eq (i + 1) (by omega) (by omega) (by simp only [ix,eB])
           | false =>
             rw [if_neg (by simp [q1,q3])] at eB
             simp -implicitDefEqProofs (disch := omega) [wrap_id]
             rw [hK0]
             exact next_eq (i + 1) (by omega) (by omega) (by simp only [ix,eB])
         · have q2' : ((X.length : Int) == (T.length : Int)) = false := by rw [beq_eq_false_iff_ne]; omega
           rw [if_neg (by simp [q1,q2])] at eB
           simp -implicitDefEqProofs (disch := omega) [wrap_id,q1,q1',q2,q2']
           rw [hK0]
           exact next_eq (i + 1) (by omega) (by omega) (by simp only [ix,eB])
 · have hi : i = p := by simp at hc; omega
   subst hi
   subst hK0
   simp -implicitDefEqProofs (disch := omega) [wrap_id]
   exact out_of (is := []) rfl
end Go.AM

set_option maxRecDepth 100000
namespace Go.AM
open Go.RowKit Go.Proofs
abbrev n_l_CombAparts : Nat := 5
def G_l_CombAparts : AC := (.seq (.rgn [⟨none,[(.box 2 2 (.t 0)),(.mv 4 (.k (B false)))]⟩] [1,2]) (.seq (.seq (.rgn [⟨none,[(.ld 9 true 2 (.t 2)),(.call 10 16 [(.t 9)]),(.mv 11 (.t 10))]⟩,⟨(some (11,false)),[(.ld 12 true 2 (.t 2)),(.call 13 28 [(.t 12)])]⟩,⟨none,[(.pick 14 (.t 11) (.k (B true)) (.t 13)),(.mv 15 (.t 14))]⟩,⟨(some (15,false)),[(.mv 16 (.t 1)),(.len 17 (.t 16)),(.bin 18 .gtr (.t 17) (.k (I 20)))]⟩,⟨none,[(.pick 19 (.t 15) (.k (B true)) (.t 18))]⟩] [1,2,19]) (.cond (.t 19) (.seq (.rgn [⟨none,[(.call 20 17 []),(.mv 4 (.t 20))]⟩] [4]) .ret) .skip)) (.seq (.rgn [⟨none,[(.ld 22 true 2 (.t 2)),(.call 23 37 [(.t 22)]),(.mv 21 (.t 23)),(.ext 24 (.t 21) 0),(.ext 25 (.t 21) 1),(.mv 5 (.t 24)),(.mv 6 (.t 25))]⟩] [1,2,5,6]) (.seq (.rgn [⟨none,[(.ld 27 true 2 (.t 2)),(.call 28 38 [(.t 27)]),(.mv 26 (.t 28)),(.ext 29 (.t 26) 0),(.ext 30 (.t 26) 1),(.mv 7 (.t 29)),(.mv 8 (.t 30))]⟩] [1,2,5,6,7,8]) (.seq (.drw [⟨none,[(.mv 31 (.t 5)),(.mv 32 (.t 7)),(.call 33 26 [(.t 31),(.t 32)]),(.mv 34 (.t 33))]⟩,⟨(some (34,true)),[(.mv 35 (.t 6)),(.mv 36 (.t 8)),(.bin 37 .eql (.t 35) (.t 36))]⟩,⟨none,[(.pick 38 (.t 34) (.t 37) (.k (B false))),(.mv 39 (.t 38))]⟩,⟨(some (39,true)),[(.ld 40 true 2 (.t 2)),(.mv 41 (.t 1)),(.call 42 39 [(.t 40),(.t 41)]),(.ld 43 true 2 (.t 2)),(.mv 44 (.t 1)),(.call 45 40 [(.t 43),(.t 44)]),(.bin 46 .eql (.t 42) (.t 45))]⟩,⟨none,[(.pick 47 (.t 39) (.t 46) (.k (B false))),(.mv 48 (.t 47))]⟩,⟨(some (48,true)),[(.call 49 17 [])]⟩,⟨none,[(.pick 50 (.t 48) (.t 49) (.k (B false))),(.mv 4 (.t 50))]⟩] [(9,12),(11,12)] [4]) .ret)))))
theorem func_l_CombAparts : Tryz.prog.funcs[n_l_CombAparts]? = some Tryz.f5 := Tryz.func5
theorem form_l_CombAparts : formOf Tryz.prog Tryz.f5 [4] = some G_l_CombAparts := by kernel_rfl
theorem res_l_CombAparts : resTmps Tryz.f5.results.toList = some [4] := by kernel_rfl
abbrev n_l_great : Nat := 16
def G_l_great : AC := (.seq (.rgn [⟨none,[(.box 1 2 (.t 0)),(.mv 2 (.k (B false)))]⟩] [1]) (.seq (.rgn [⟨none,[(.fa 3 (.t 1) 0),(.ld 4 false 1 (.t 3)),(.len 5 (.t 4)),(.bin 6 .gtr (.t 5) (.k (I 12))),(.mv 7 (.t 6))]⟩,⟨(some (7,false)),[(.fa 8 (.t 1) 1),(.ld 9 false 1 (.t 8)),(.len 10 (.t 9)),(.bin 11 .gtr (.t 10) (.k (I 18)))]⟩,⟨none,[(.pick 12 (.t 7) (.k (B true)) (.t 11)),(.mv 2 (.t 12))]⟩] [2]) .ret))
theorem func_l_great : Tryz.prog.funcs[n_l_great]? = some Tryz.f16 := Tryz.func16
theorem form_l_great : formOf Tryz.prog Tryz.f16 [2] = some G_l_great := by kernel_rfl
theorem res_l_great : resTmps Tryz.f16.results.toList = some [2] := by kernel_rfl
abbrev n_l_wide : Nat := 28
def G_l_wide : AC := (.seq (.rgn [⟨none,[(.box 1 2 (.t 0)),(.mv 2 (.k (B false)))]⟩] [1]) (.seq (.rgn [⟨none,[(.ld 3 true 2 (.t 1)),(.call 4 25 [(.t 3)]),(.bin 5 .eql (.t 4) (.k (I 0))),(.mv 6 (.t 5))]⟩,⟨(some (6,true)),[(.fa 7 (.t 1) 1),(.ld 8 false 1 (.t 7)),(.len 9 (.t 8)),(.bin 10 .gtr (.t 9) (.k (I 7)))]⟩,⟨none,[(.pick 11 (.t 6) (.t 10) (.k (B false))),(.mv 2 (.t 11))]⟩] [2]) .ret))
theorem func_l_wide : Tryz.prog.funcs[n_l_wide]? = some Tryz.f28 := Tryz.func28
theorem form_l_wide : formOf Tryz.prog Tryz.f28 [2] = some G_l_wide := by kernel_rfl
theorem res_l_wide : resTmps Tryz.f28.results.toList = some [2] := by kernel_rfl
end Go.AM

namespace Go.AM
open Go.RowKit Go.Proofs
def grtK (s : SH) : Bool := decide (12 < s.k.length) || decide (18 < s.m.length)
theorem grtK_sz {s : SH} (h : grtK s = false) : SzS s ∧ s.k.length ≤ 12 ∧ s.m.length ≤ 18 := by
 unfold grtK at h
 simp only [Bool.or_eq_false_iff,decide_eq_false_iff_not] at h
 exact ⟨⟨by omega,by omega⟩,by omega,by omega⟩
theorem lk_great_ok (f g : Bool) (s : SH) : PureOK Tryz.prog n_l_great [Sn f g s] (B (grtK s)) := by
 refine pure_of (walk func_l_great form_l_great res_l_great (by show 1 ≤ _; decide) ?_)
 simp -implicitDefEqProofs (disch := omega) [G_l_great,wrap_id]
 unfold grtK
 have e1 : decide ((12 : Int) < (s.k.length : Int)) = decide (12 < s.k.length) := by rw [decide_eq_decide]; omega
 have e2 : decide ((18 : Int) < (s.m.length : Int)) = decide (18 < s.m.length) := by rw [decide_eq_decide]; omega
 cases h : decide (12 < s.k.length) with
 | true =>
   rw [h] at e1
   simp -implicitDefEqProofs (disch := omega) [wrap_id,e1]
 | false =>
   rw [h] at e1
   simp -implicitDefEqProofs (disch := omega) [wrap_id,e1,e2]
def widK (s : SH) : Bool := decide (shtE s = 0) && decide (7 < s.m.length)
theorem lk_wide_ok (f g : Bool) (s : SH) (hz : SzS s) : PureOK Tryz.prog n_l_wide [Sn f g s] (B (widK s)) := by
 refine pure_of (walk func_l_wide form_l_wide res_l_wide (by show 1 ≤ _; decide) ?_)
 simp -implicitDefEqProofs (disch := omega) [G_l_wide,wrap_id]
 refine callW_pure rfl (r_CheckSheet_ok f g s hz) ?_
 unfold widK
 have e2 : decide ((7 : Int) < (s.m.length : Int)) = decide (7 < s.m.length) := by rw [decide_eq_decide]; omega
 by_cases h : shtE s = 0
 · rw [h]
   simp -implicitDefEqProofs (disch := omega) [wrap_id,e2]
 · have h' : (shtE s == 0) = false := by rw [beq_eq_false_iff_ne]; exact h
   simp -implicitDefEqProofs (disch := omega) [wrap_id,h',h]
end Go.AM

namespace Go.AM
open Go.RowKit Go.Proofs
theorem bitL_60 {n : Nat} : (bitL n).length ≤ 60 := bitT_len
theorem apaL_len {s : SH} : (apaL s).length ≤ 60 := by
 unfold apaL
 split
 · obtain ⟨⟨b,_,_,e⟩,_⟩ := bst_max (s := s) (i := pwN s.m.length)
   rw [← e]; exact bitL_60
 · exact Nat.zero_le _
set_option maxHeartbeats 8000000 in
theorem lawAparts (f g h : Bool) (s : SH) (l : List Int) : PureOK Tryz.prog n_l_CombAparts [Sn f g s,Ls h l] (B true) := by
 refine pure_of (walk func_l_CombAparts form_l_CombAparts res_l_CombAparts (by show 2 ≤ _; decide) ?_)
 simp -implicitDefEqProofs (disch := omega) [G_l_CombAparts,wrap_id]
 refine callW_pure (ys := [Sn f g s]) (ids := []) rfl (lk_great_ok f g s) ?_
 cases hg : grtK s with
 | true =>
   simp -implicitDefEqProofs (disch := omega) [wrap_id]
   refine callW_pure rfl lk_Works_ok ?_
   simp -implicitDefEqProofs (disch := omega) [wrap_id]
 | false =>
   obtain ⟨hz,_,_⟩ := grtK_sz hg
   simp -implicitDefEqProofs (disch := omega) [wrap_id]
   refine callW_pure (ys := [Sn f g s]) (ids := []) rfl (lk_wide_ok f g s hz) ?_
   cases hw : widK s with
   | true =>
     simp -implicitDefEqProofs (disch := omega) [wrap_id]
     refine callW_pure rfl lk_Works_ok ?_
     simp -implicitDefEqProofs (disch := omega) [wrap_id]
   | false =>
     simp -implicitDefEqProofs (disch := omega) [wrap_id]
     refine c_split (fun hc => ?_) (fun hc => ?_)
     · simp -implicitDefEqProofs (disch := omega) [wrap_id]
       refine callW_pure rfl lk_Works_ok ?_
       simp -implicitDefEqProofs (disch := omega) [wrap_id]
     · have al : (apaL s).length ≤ 1000000 := by have := apaL_len (s := s); omega
       have hl : l.length ≤ 1000000 := by simp at hc; omega
       simp -implicitDefEqProofs (disch := omega) [wrap_id]
       refine callW_pure (ys := [Sn f g s]) (ids := []) rfl (k_Apart_ok f g s hz) ?_
       simp -implicitDefEqProofs (disch := omega) [wrap_id]
       refine callW_pure (ys := [Sn f g s]) (ids := []) rfl (r_Apart_ok f g s hz) ?_
       simp -implicitDefEqProofs (disch := omega) [wrap_id]
       refine pureW_of rfl (lk_ints_ok _ _ (apaL s) (apaL s) al al) ?_
       simp -implicitDefEqProofs (disch := omega) [wrap_id]
       refine pureW_of (ys := [Sn f g s,Ls h l]) (ids := []) rfl (k_CheckApart_ok f g h s hz l hl) ?_
       simp -implicitDefEqProofs (disch := omega) [wrap_id]
       refine pureW_of (ys := [Sn f g s,Ls h l]) (ids := []) rfl (r_CheckApart_ok f g h s hz l hl) ?_
       simp -implicitDefEqProofs (disch := omega) [wrap_id]
       refine pureW_of rfl lk_Works_ok ?_
       simp -implicitDefEqProofs (disch := omega) [wrap_id,cmp2,nthT,disj]
end Go.AM
