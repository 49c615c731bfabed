/-
  KxEi2: texts joined: FmCF Cb4 FmCL Lc1 Ld1 Ld2 Tk8 Tk10 Ld6. Own work.
-/
import Derived.Test.YtfpfnlnmilndmaaGreatDoorKxEi1
import Derived.Test.YtfpfnlnmilndmaaGreatDoorProg
set_option linter.unusedSimpArgs false
set_option linter.unusedVariables false

set_option maxRecDepth 100000
namespace Go.AM
open Go.RowKit Go.Proofs
abbrev n_r_List : Nat := 52
def G_r_List : AC := (.seq (.rgn [⟨none,[(.mv 2 (.k (.sl true 0 [])))]⟩] [0]) (.seq (.rgn [⟨none,[(.mv 3 (.k (.sl true 0 [])))]⟩] [0,3]) (.seq (.seq (.rgn [⟨none,[(.mv 4 (.k (I 0)))]⟩] [0,3,4]) (.block 0 (.loop (.seq (.seq (.rgn [⟨none,[(.mv 5 (.t 0)),(.mv 6 (.t 4)),(.bin 7 .shr (.t 5) (.t 6)),(.bin 8 .gtr (.t 7) (.k (I 0)))]⟩] [0,3,4,8]) (.cond (.t 8) .skip (.exit 0))) (.seq (.block 1 (.seq (.rgn [⟨none,[(.mv 11 (.t 0)),(.mv 12 (.t 4)),(.bin 13 .shr (.t 11) (.t 12)),(.bin 14 .and (.t 13) (.k (I 1))),(.bin 15 .eql (.t 14) (.k (I 1)))]⟩] [0,3,4,15]) (.cond (.t 15) (.rgn [⟨none,[(.mv 16 (.t 3)),(.mv 17 (.t 4)),(.bsl 18 1 1 [(I 0)] [(0,(.t 17))]),(.app 19 1 8 (.t 16) (.t 18)),(.mv 3 (.t 19))]⟩] [0,3,4]) .skip))) (.rgn [⟨none,[(.mv 9 (.t 4)),(.bin 10 .add (.t 9) (.k (I 1))),(.mv 4 (.t 10))]⟩] [0,3,4])))))) (.seq (.rgn [⟨none,[(.mv 20 (.t 3)),(.mv 2 (.t 20))]⟩] [2]) .ret))))
theorem func_r_List : Tryz.prog.funcs[n_r_List]? = some Tryz.f52 := Tryz.func52
theorem form_r_List : formOf Tryz.prog Tryz.f52 [2] = some G_r_List := by kernel_rfl
theorem res_r_List : resTmps Tryz.f52.results.toList = some [2] := by kernel_rfl
end Go.AM

namespace Go.AM
open Go.RowKit Go.Proofs
theorem bitT_end {n i : Nat} (h : shrN n i = 0) : ∀ {d : Nat},bitT n (i + d) = bitT n i
 | 0 => rfl
 | d + 1 => by
   rw [show i + (d + 1) = i + d + 1 from rfl,bitT_succ,bitT_end h]
   have : n.testBit (i + d) = false := by
    rw [Nat.testBit_eq_decide_div_mod_eq]
    have h0 : n < 2 ^ i := by
     unfold shrN at h
     rcases Nat.div_eq_zero_iff.1 h with h | h
     · have := Nat.two_pow_pos i; omega
     · exact h
    have h1 : n < 2 ^ (i + d) := Nat.lt_of_lt_of_le h0 (Nat.pow_le_pow_right (by decide) (by omega))
    rw [Nat.div_eq_of_lt h1]; rfl
   rw [this]; simp
set_option maxHeartbeats 2000000 in
theorem r_List_ok (n : Nat) (hn : n < 2 ^ 60) : PureOK Tryz.prog n_r_List [I (n : Int)] (Ls (bitL n).isEmpty (bitL n)) := by
 refine pure_of (walk func_r_List form_r_List res_r_List (by show 1 ≤ _; decide) ?_)
 simp -implicitDefEqProofs (disch := omega) [G_r_List,wrap_id]
 refine loop_eq (fun q : Nat × AV × List HObj => ⟨[(0,I (n : Int)),(3,q.2.1),(4,I (q.1 : Int))],q.2.2⟩) (fun q => q.1 ≤ 60 ∧ AccR q.2.2 q.2.1 (bitT n q.1)) (fun q => 60 - q.1) (0,.sl true 0 [],[]) ⟨Nat.zero_le _,.inl ⟨rfl,by simp [bitT]⟩⟩ rfl ?_
 rintro ⟨i,x,H⟩ ⟨d1,d2⟩
 simp only at d1 d2 ⊢
 refine hideK' fun K0 hK0 => ?_
 have hs := shrN_small (i := i) hn
 simp -implicitDefEqProofs (disch := omega) [wrap_id,-b_shr,bw_shr]
 refine c_split (fun hc => ?_) (fun hc => ?_)
 · have hc : 0 < shrN n i := by simpa using hc
   have hi : i < 60 := by
    apply Classical.byContradiction
    intro h
    have : i = 60 := by omega
    subst this
    unfold shrN at hc
    rw [Nat.div_eq_of_lt hn] at hc
    omega
   have ix : ((i : Int) + 1) = ((i + 1 : Nat) : Int) := by omega
   have bl := bitT_len (n := n) (i := i)
   simp -implicitDefEqProofs (disch := omega) [wrap_id,-b_shr,bw_shr,-b_and,bw_and,hs,bitN_one]
   cases hb : n.testBit i with
   | false =>
     have e : bitT n (i + 1) = bitT n i := by rw [bitT_succ,hb]; simp
     simp -implicitDefEqProofs (disch := omega) [wrap_id]
     rw [hK0]
     refine next_eq (i + 1,x,H) ⟨by simp only; omega,by simp only [e]; exact d2⟩ (by simp only; omega) (by simp only [ix])
   | true =>
     have e : bitT n (i + 1) = bitT n i ++ [(i : Int)] := by rw [bitT_succ,hb]; simp
     simp -implicitDefEqProofs (disch := omega) [wrap_id]
     refine bsl_of (ys := [I (i : Int)]) rfl rfl ?_
     simp -implicitDefEqProofs (disch := omega) [wrap_id,zrep]
     refine app_row d2.row (by omega) fun ws w1 w2 w3 => ?_
     simp -implicitDefEqProofs (disch := omega) [wrap_id]
     rw [hK0]
     refine next_eq (i + 1,.ms H.length 0 ((bitT n i).length + 1) 1,writeL H ws) ⟨by simp only; omega,.inr ⟨H.length,?_,?_,?_⟩⟩ (by simp only; omega) (by simp only [ix])
     · simp only [e]; simp
     · simp only [e]; simp
     · simp only [e]; exact w3
 · have hc : shrN n i = 0 := by simp at hc; omega
   subst hK0
   have e : bitL n = bitT n i := by
    have := bitT_end hc (d := 60 - i)
    rw [show i + (60 - i) = 60 from by omega] at this
    exact this
   rw [e]
   simp -implicitDefEqProofs (disch := omega) [wrap_id]
   exact d2.out
end Go.AM

set_option maxRecDepth 100000
namespace Go.AM
open Go.RowKit Go.Proofs
abbrev n_l_CombEither : Nat := 9
def G_l_CombEither : AC := (.seq (.rgn [⟨none,[(.box 3 2 (.t 0)),(.mv 6 (.k (B false)))]⟩] [1,2,3]) (.seq (.seq (.rgn [⟨none,[(.ld 21 true 2 (.t 3)),(.call 22 48 [(.t 21)]),(.un 23 .not (.t 22)),(.mv 24 (.t 23))]⟩,⟨(some (24,false)),[(.mv 25 (.t 1)),(.len 26 (.t 25)),(.bin 27 .gtr (.t 26) (.k (I 30)))]⟩,⟨none,[(.pick 28 (.t 24) (.k (B true)) (.t 27))]⟩] [1,2,3,28]) (.cond (.t 28) (.seq (.rgn [⟨none,[(.call 29 17 []),(.mv 6 (.t 29))]⟩] [6]) .ret) .skip)) (.seq (.rgn [⟨none,[(.ld 31 true 2 (.t 3)),(.call 32 22 [(.t 31)]),(.mv 30 (.t 32)),(.ext 33 (.t 30) 0),(.ext 34 (.t 30) 1),(.mv 7 (.t 33)),(.mv 8 (.t 34))]⟩] [1,2,3,7,8]) (.seq (.rgn [⟨none,[(.ld 36 true 2 (.t 3)),(.call 37 29 [(.t 36)]),(.mv 35 (.t 37)),(.ext 38 (.t 35) 0),(.ext 39 (.t 35) 1),(.mv 9 (.t 38)),(.mv 10 (.t 39))]⟩] [1,2,3,7,8,10]) (.seq (.seq (.rgn [⟨none,[(.mv 40 (.t 8)),(.bin 41 .neq (.t 40) (.k (I 0))),(.mv 42 (.t 41))]⟩,⟨(some (42,false)),[(.mv 43 (.t 7)),(.len 44 (.t 43)),(.bin 45 .eql (.t 44) (.k (I 0))),(.mv 46 (.t 10)),(.bin 47 .eql (.t 46) (.k (I 0))),(.eqk 48 true (false,[.bool]) (.t 45) (.t 47))]⟩,⟨none,[(.pick 49 (.t 42) (.k (B true)) (.t 48)),(.mv 50 (.t 49))]⟩,⟨(some (50,false)),[(.mv 51 (.t 10)),(.bin 52 .neq (.t 51) (.k (I 0))),(.mv 53 (.t 52))]⟩,⟨(some (53,true)),[(.mv 54 (.t 10)),(.bin 55 .neq (.t 54) (.k (I 19)))]⟩,⟨(some (50,false)),[(.pick 56 (.t 53) (.t 55) (.k (B false)))]⟩,⟨none,[(.pick 57 (.t 50) (.k (B true)) (.t 56)),(.mv 58 (.t 57))]⟩,⟨(some (58,false)),[(.mv 59 (.t 7)),(.len 60 (.t 59)),(.bin 61 .gtr (.t 60) (.k (I 0))),(.mv 62 (.t 61))]⟩,⟨(some (62,true)),[(.ld 63 true 2 (.t 3)),(.mv 64 (.t 1)),(.call 65 32 [(.t 63),(.t 64)]),(.bin 66 .eql (.t 65) (.k (I 0)))]⟩,⟨(some (58,false)),[(.pick 67 (.t 62) (.t 66) (.k (B false)))]⟩,⟨none,[(.pick 68 (.t 58) (.k (B true)) (.t 67))]⟩] [2,3,7,68]) (.cond (.t 68) (.seq (.rgn [⟨none,[(.mv 6 (.k (B false)))]⟩] [6]) .ret) .skip)) (.seq (.rgn [⟨none,[(.mv 11 (.k (I 0)))]⟩] [2,3,7,11]) (.seq (.seq (.rgn [⟨none,[(.mv 12 (.k (I 0)))]⟩] [2,3,7,11,12]) (.block 0 (.loop (.seq (.seq (.rgn [⟨none,[(.mv 69 (.t 12)),(.fa 70 (.t 3) 0),(.ld 71 false 1 (.t 70)),(.len 72 (.t 71)),(.bin 73 .lss (.t 69) (.t 72))]⟩] [2,3,7,11,12,73]) (.cond (.t 73) .skip (.exit 0))) (.seq (.block 1 (.seq (.rgn [⟨none,[(.ld 77 true 2 (.t 3)),(.mv 78 (.t 12)),(.call 79 20 [(.t 77),(.t 78)]),(.mv 76 (.t 79)),(.ext 80 (.t 76) 0),(.ext 81 (.t 76) 1),(.mv 13 (.t 80)),(.mv 14 (.t 81))]⟩] [2,3,7,11,12,13,14]) (.seq (.drw [⟨none,[(.ld 83 true 2 (.t 3)),(.mv 84 (.t 12)),(.mv 85 (.t 2)),(.call 86 49 [(.t 84),(.t 85)]),(.call 87 18 [(.t 83),(.t 86)]),(.mv 82 (.t 87)),(.ext 88 (.t 82) 0),(.ext 89 (.t 82) 1),(.mv 15 (.t 88)),(.mv 16 (.t 89))]⟩] [(0,3)] [2,3,7,11,12,13,14,16]) (.seq (.seq (.rgn [⟨none,[(.mv 90 (.t 14)),(.bin 91 .neq (.t 90) (.k (I 0))),(.mv 92 (.t 91))]⟩,⟨(some (92,false)),[(.mv 93 (.t 16)),(.bin 94 .eql (.t 93) (.k (I 0))),(.mv 95 (.t 13)),(.mv 96 (.t 2)),(.call 97 50 [(.t 95),(.t 96)]),(.eqk 98 true (false,[.bool]) (.t 94) (.t 97))]⟩,⟨none,[(.pick 99 (.t 92) (.k (B true)) (.t 98)),(.mv 100 (.t 99))]⟩,⟨(some (100,false)),[(.mv 101 (.t 16)),(.bin 102 .neq (.t 101) (.k (I 0))),(.mv 103 (.t 102))]⟩,⟨(some (103,true)),[(.mv 104 (.t 16)),(.bin 105 .neq (.t 104) (.k (I 19)))]⟩,⟨(some (100,false)),[(.pick 106 (.t 103) (.t 105) (.k (B false)))]⟩,⟨none,[(.pick 107 (.t 100) (.k (B true)) (.t 106))]⟩] [2,3,7,11,12,13,107]) (.cond (.t 107) (.seq (.rgn [⟨none,[(.mv 6 (.k (B false)))]⟩] [6]) .ret) .skip)) (.seq (.rgn [⟨none,[(.mv 17 (.k (I 0)))]⟩] [2,3,7,11,12,13,17]) (.block 2 (.loop (.seq (.seq (.rgn [⟨none,[(.mv 108 (.t 17)),(.mv 109 (.t 13)),(.len 110 (.t 109)),(.bin 111 .lss (.t 108) (.t 110))]⟩] [2,3,7,11,12,13,17,111]) (.cond (.t 111) .skip (.exit 2))) (.seq (.block 3 (.seq (.drw [⟨none,[(.ld 115 true 2 (.t 3)),(.mv 116 (.t 12)),(.mv 117 (.t 13)),(.mv 118 (.t 17)),(.ia 119 1 (.t 117) (.t 118)),(.ld 120 false 1 (.t 119)),(.call 121 49 [(.t 116),(.t 120)]),(.call 122 18 [(.t 115),(.t 121)]),(.mv 114 (.t 122)),(.ext 123 (.t 114) 0),(.ext 124 (.t 114) 1),(.mv 18 (.t 123)),(.mv 19 (.t 124))]⟩] [(0,5),(0,6)] [2,3,7,11,12,13,17,18,19]) (.seq (.seq (.drw [⟨none,[(.mv 125 (.t 19)),(.bin 126 .neq (.t 125) (.k (I 0))),(.mv 127 (.t 126))]⟩,⟨(some (127,false)),[(.mv 128 (.t 18)),(.len 129 (.t 128)),(.bin 130 .eql (.t 129) (.k (I 0)))]⟩,⟨none,[(.pick 131 (.t 127) (.k (B true)) (.t 130)),(.mv 132 (.t 131))]⟩,⟨(some (132,false)),[(.mv 133 (.t 17)),(.bin 134 .gtr (.t 133) (.k (I 0))),(.mv 135 (.t 134))]⟩,⟨(some (135,true)),[(.mv 136 (.t 13)),(.mv 137 (.t 17)),(.ia 138 1 (.t 136) (.t 137)),(.ld 139 false 1 (.t 138)),(.mv 140 (.t 13)),(.mv 141 (.t 17)),(.bin 142 .sub (.t 141) (.k (I 1))),(.ia 143 1 (.t 140) (.t 142)),(.ld 144 false 1 (.t 143)),(.bin 145 .leq (.t 139) (.t 144))]⟩,⟨(some (132,false)),[(.pick 146 (.t 135) (.t 145) (.k (B false)))]⟩,⟨none,[(.pick 147 (.t 132) (.k (B true)) (.t 146))]⟩] [(14,19)] [2,3,7,11,12,13,17,18,147]) (.cond (.t 147) (.seq (.rgn [⟨none,[(.mv 6 (.k (B false)))]⟩] [6]) .ret) .skip)) (.seq (.rgn [⟨none,[(.mv 20 (.k (I 0)))]⟩] [2,3,7,11,12,13,17,18,20]) (.block 4 (.loop (.seq (.seq (.rgn [⟨none,[(.mv 148 (.t 20)),(.mv 149 (.t 18)),(.len 150 (.t 149)),(.bin 151 .lss (.t 148) (.t 150))]⟩] [2,3,7,11,12,13,17,18,20,151]) (.cond (.t 151) .skip (.exit 4))) (.seq (.block 5 (.seq (.seq (.drw [⟨none,[(.mv 154 (.t 18)),(.mv 155 (.t 20)),(.ia 156 1 (.t 154) (.t 155)),(.ld 157 false 1 (.t 156)),(.bin 158 .lss (.t 157) (.k (I 0))),(.mv 159 (.t 158))]⟩,⟨(some (159,false)),[(.mv 160 (.t 18)),(.mv 161 (.t 20)),(.ia 162 1 (.t 160) (.t 161)),(.ld 163 false 1 (.t 162)),(.fa 164 (.t 3) 1),(.ld 165 false 1 (.t 164)),(.len 166 (.t 165)),(.bin 167 .geq (.t 163) (.t 166))]⟩,⟨none,[(.pick 168 (.t 159) (.k (B true)) (.t 167)),(.mv 169 (.t 168))]⟩,⟨(some (169,false)),[(.mv 170 (.t 7)),(.mv 171 (.t 18)),(.mv 172 (.t 20)),(.ia 173 1 (.t 171) (.t 172)),(.ld 174 false 1 (.t 173)),(.call 175 51 [(.t 170),(.t 174)])]⟩,⟨none,[(.pick 176 (.t 169) (.k (B true)) (.t 175))]⟩] [(9,11)] [2,3,7,11,12,13,17,18,20,176]) (.cond (.t 176) (.seq (.rgn [⟨none,[(.mv 6 (.k (B false)))]⟩] [6]) .ret) .skip)) (.rgn [⟨none,[(.mv 177 (.t 11)),(.mv 178 (.t 18)),(.mv 179 (.t 20)),(.ia 180 1 (.t 178) (.t 179)),(.ld 181 false 1 (.t 180)),(.bin 182 .shl (.k (I 1)) (.t 181)),(.bin 183 .or (.t 177) (.t 182)),(.mv 11 (.t 183))]⟩] [2,3,7,11,12,13,17,18,20]))) (.rgn [⟨none,[(.mv 152 (.t 20)),(.bin 153 .add (.t 152) (.k (I 1))),(.mv 20 (.t 153))]⟩] [2,3,7,11,12,13,17,18,20]))))))))) (.rgn [⟨none,[(.mv 112 (.t 17)),(.bin 113 .add (.t 112) (.k (I 1))),(.mv 17 (.t 113))]⟩] [2,3,7,11,12,13,17])))))))))) (.rgn [⟨none,[(.mv 74 (.t 12)),(.bin 75 .add (.t 74) (.k (I 1))),(.mv 12 (.t 75))]⟩] [2,3,7,11,12])))))) (.seq (.drw [⟨none,[(.mv 184 (.t 11)),(.call 185 52 [(.t 184)]),(.len 186 (.t 185)),(.mv 187 (.t 7)),(.len 188 (.t 187)),(.bin 189 .add (.t 186) (.t 188)),(.fa 190 (.t 3) 1),(.ld 191 false 1 (.t 190)),(.len 192 (.t 191)),(.bin 193 .eql (.t 189) (.t 192)),(.mv 194 (.t 193))]⟩,⟨(some (194,true)),[(.call 195 17 [])]⟩,⟨none,[(.pick 196 (.t 194) (.t 195) (.k (B false))),(.mv 6 (.t 196))]⟩] [(1,7)] [6]) .ret))))))))
theorem func_l_CombEither : Tryz.prog.funcs[n_l_CombEither]? = some Tryz.f9 := Tryz.func9
theorem form_l_CombEither : formOf Tryz.prog Tryz.f9 [6] = some G_l_CombEither := by kernel_rfl
theorem res_l_CombEither : resTmps Tryz.f9.results.toList = some [6] := by kernel_rfl
abbrev n_l_great : Nat := 16
def G_l_great : AC := (.seq (.rgn [⟨none,[(.box 1 2 (.t 0)),(.mv 2 (.k (B false)))]⟩] [1]) (.seq (.rgn [⟨none,[(.fa 3 (.t 1) 0),(.ld 4 false 1 (.t 3)),(.len 5 (.t 4)),(.bin 6 .gtr (.t 5) (.k (I 12))),(.mv 7 (.t 6))]⟩,⟨(some (7,false)),[(.fa 8 (.t 1) 1),(.ld 9 false 1 (.t 8)),(.len 10 (.t 9)),(.bin 11 .gtr (.t 10) (.k (I 18)))]⟩,⟨none,[(.pick 12 (.t 7) (.k (B true)) (.t 11)),(.mv 2 (.t 12))]⟩] [2]) .ret))
theorem func_l_great : Tryz.prog.funcs[n_l_great]? = some Tryz.f16 := Tryz.func16
theorem form_l_great : formOf Tryz.prog Tryz.f16 [2] = some G_l_great := by kernel_rfl
theorem res_l_great : resTmps Tryz.f16.results.toList = some [2] := by kernel_rfl
abbrev n_l_fine : Nat := 48
def G_l_fine : AC := (.seq (.rgn [⟨none,[(.box 1 2 (.t 0)),(.mv 2 (.k (B false)))]⟩] [1]) (.seq (.rgn [⟨none,[(.ld 3 true 2 (.t 1)),(.call 4 16 [(.t 3)]),(.un 5 .not (.t 4)),(.mv 6 (.t 5))]⟩,⟨(some (6,true)),[(.ld 7 true 2 (.t 1)),(.call 8 25 [(.t 7)]),(.bin 9 .eql (.t 8) (.k (I 0)))]⟩,⟨none,[(.pick 10 (.t 6) (.t 9) (.k (B false))),(.mv 2 (.t 10))]⟩] [2]) .ret))
theorem func_l_fine : Tryz.prog.funcs[n_l_fine]? = some Tryz.f48 := Tryz.func48
theorem form_l_fine : formOf Tryz.prog Tryz.f48 [2] = some G_l_fine := by kernel_rfl
theorem res_l_fine : resTmps Tryz.f48.results.toList = some [2] := by kernel_rfl
abbrev n_l_inLongs : Nat := 50
def G_l_inLongs : AC := (.seq (.rgn [⟨none,[(.mv 4 (.k (B false)))]⟩] [0,1]) (.seq (.seq (.rgn [⟨none,[(.mv 5 (.k (I 0)))]⟩] [0,1,5]) (.block 0 (.loop (.seq (.seq (.rgn [⟨none,[(.mv 6 (.t 5)),(.mv 7 (.t 0)),(.len 8 (.t 7)),(.bin 9 .lss (.t 6) (.t 8))]⟩] [0,1,5,9]) (.cond (.t 9) .skip (.exit 0))) (.seq (.block 1 (.seq (.rgn [⟨none,[(.mv 12 (.t 0)),(.mv 13 (.t 5)),(.ia 14 1 (.t 12) (.t 13)),(.ld 15 false 1 (.t 14)),(.mv 16 (.t 1)),(.bin 17 .eql (.t 15) (.t 16))]⟩] [0,1,5,17]) (.cond (.t 17) (.seq (.rgn [⟨none,[(.mv 4 (.k (B true)))]⟩] [4]) .ret) .skip))) (.rgn [⟨none,[(.mv 10 (.t 5)),(.bin 11 .add (.t 10) (.k (I 1))),(.mv 5 (.t 11))]⟩] [0,1,5])))))) (.seq (.rgn [⟨none,[(.mv 4 (.k (B false)))]⟩] [4]) .ret)))
theorem func_l_inLongs : Tryz.prog.funcs[n_l_inLongs]? = some Tryz.f50 := Tryz.func50
theorem form_l_inLongs : formOf Tryz.prog Tryz.f50 [4] = some G_l_inLongs := by kernel_rfl
theorem res_l_inLongs : resTmps Tryz.f50.results.toList = some [4] := by kernel_rfl
abbrev n_l_in : Nat := 51
def G_l_in : AC := (.seq (.rgn [⟨none,[(.mv 4 (.k (B false)))]⟩] [0,1]) (.seq (.seq (.rgn [⟨none,[(.mv 5 (.k (I 0)))]⟩] [0,1,5]) (.block 0 (.loop (.seq (.seq (.rgn [⟨none,[(.mv 6 (.t 5)),(.mv 7 (.t 0)),(.len 8 (.t 7)),(.bin 9 .lss (.t 6) (.t 8))]⟩] [0,1,5,9]) (.cond (.t 9) .skip (.exit 0))) (.seq (.block 1 (.seq (.rgn [⟨none,[(.mv 12 (.t 0)),(.mv 13 (.t 5)),(.ia 14 1 (.t 12) (.t 13)),(.ld 15 false 1 (.t 14)),(.mv 16 (.t 1)),(.bin 17 .eql (.t 15) (.t 16))]⟩] [0,1,5,17]) (.cond (.t 17) (.seq (.rgn [⟨none,[(.mv 4 (.k (B true)))]⟩] [4]) .ret) .skip))) (.rgn [⟨none,[(.mv 10 (.t 5)),(.bin 11 .add (.t 10) (.k (I 1))),(.mv 5 (.t 11))]⟩] [0,1,5])))))) (.seq (.rgn [⟨none,[(.mv 4 (.k (B false)))]⟩] [4]) .ret)))
theorem func_l_in : Tryz.prog.funcs[n_l_in]? = some Tryz.f51 := Tryz.func51
theorem form_l_in : formOf Tryz.prog Tryz.f51 [4] = some G_l_in := by kernel_rfl
theorem res_l_in : resTmps Tryz.f51.results.toList = some [4] := by kernel_rfl
end Go.AM

namespace Go.AM
open Go.RowKit Go.Proofs
set_option maxHeartbeats 1000000 in
theorem lk_in_ok (f : Bool) (l : List Int) (n : Int) (hl : l.length ≤ 1000000) : PureOK Tryz.prog n_l_in [Ls f l,I n] (B (l.contains n)) := by
 refine pure_of (walk func_l_in form_l_in res_l_in (by show 2 ≤ _; decide) ?_)
 generalize hE : l.contains n = E
 simp -implicitDefEqProofs (disch := omega) [G_l_in,wrap_id]
 refine loop_eq (fun i : Nat => ⟨[(0,Ls f l),(1,I n),(5,I (i : Int))],[]⟩) (fun i => i ≤ l.length ∧ ∀ k (hk : k < l.length),k < i → l[k] ≠ n) (fun i => l.length - i) 0 ⟨Nat.zero_le _,fun k hk h => by omega⟩ rfl ?_
 rintro i ⟨c1,c2⟩
 refine hideK' fun K0 hK0 => ?_
 simp -implicitDefEqProofs (disch := omega) [wrap_id]
 refine c_split (fun h => ?_) (fun h => ?_)
 · have hi : i < l.length := by simp at h; omega
   have ix : ((i : Int) + 1) = ((i + 1 : Nat) : Int) := by omega
   by_cases e : l[i] = n
   · have : l.contains n = true := by
      rw [List.contains_iff_mem,← e]; exact List.getElem_mem hi
     rw [this] at hE
     subst hE
     subst hK0
     simp -implicitDefEqProofs (disch := omega) [wrap_id,cells_ls,hi,e]
   · have e' : (l[i] == n) = false := by simpa using e
     simp -implicitDefEqProofs (disch := omega) [wrap_id,cells_ls,hi,e']
     rw [hK0]
     refine next_eq (i + 1) ⟨by omega,fun k hk h2 => ?_⟩ (by omega) (by simp only [ix])
     by_cases ek : k = i
     · subst ek; exact e
     · exact c2 k hk (by omega)
 · have hi : i = l.length := by simp at h; omega
   have : l.contains n = false := by
    rw [Bool.eq_false_iff]
    intro hc
    rw [List.contains_iff_mem] at hc
    obtain ⟨k,hk,e⟩ := List.getElem_of_mem hc
    exact c2 k hk (by omega) e
   rw [this] at hE
   subst hE
   subst hK0
   simp -implicitDefEqProofs (disch := omega) [wrap_id]
set_option maxHeartbeats 1000000 in
theorem lk_inLongs_ok (f : Bool) (l : List Int) (n : Int) (hl : l.length ≤ 1000000) : PureOK Tryz.prog n_l_inLongs [Ls f l,I n] (B (l.contains n)) := by
 refine pure_of (walk func_l_inLongs form_l_inLongs res_l_inLongs (by show 2 ≤ _; decide) ?_)
 generalize hE : l.contains n = E
 simp -implicitDefEqProofs (disch := omega) [G_l_inLongs,wrap_id]
 refine loop_eq (fun i : Nat => ⟨[(0,Ls f l),(1,I n),(5,I (i : Int))],[]⟩) (fun i => i ≤ l.length ∧ ∀ k (hk : k < l.length),k < i → l[k] ≠ n) (fun i => l.length - i) 0 ⟨Nat.zero_le _,fun k hk h => by omega⟩ rfl ?_
 rintro i ⟨c1,c2⟩
 refine hideK' fun K0 hK0 => ?_
 simp -implicitDefEqProofs (disch := omega) [wrap_id]
 refine c_split (fun h => ?_) (fun h => ?_)
 · have hi : i < l.length := by simp at h; omega
   have ix : ((i : Int) + 1) = ((i + 1 : Nat) : Int) := by omega
   by_cases e : l[i] = n
   · have : l.contains n = true := by
      rw [List.contains_iff_mem,← e]; exact List.getElem_mem hi
     rw [this] at hE
     subst hE
     subst hK0
     simp -implicitDefEqProofs (disch := omega) [wrap_id,cells_ls,hi,e]
   · have e' : (l[i] == n) = false := by simpa using e
     simp -implicitDefEqProofs (disch := omega) [wrap_id,cells_ls,hi,e']
     rw [hK0]
     refine next_eq (i + 1) ⟨by omega,fun k hk h2 => ?_⟩ (by omega) (by simp only [ix])
     by_cases ek : k = i
     · subst ek; exact e
     · exact c2 k hk (by omega)
 · have hi : i = l.length := by simp at h; omega
   have : l.contains n = false := by
    rw [Bool.eq_false_iff]
    intro hc
    rw [List.contains_iff_mem] at hc
    obtain ⟨k,hk,e⟩ := List.getElem_of_mem hc
    exact c2 k hk (by omega) e
   rw [this] at hE
   subst hE
   subst hK0
   simp -implicitDefEqProofs (disch := omega) [wrap_id]
def grtK (s : SH) : Bool := decide (12 < s.k.length) || decide (18 < s.m.length)
theorem grtK_sz {s : SH} (h : grtK s = false) : SzS s ∧ s.k.length ≤ 12 ∧ s.m.length ≤ 18 := by
 unfold grtK at h
 simp only [Bool.or_eq_false_iff,decide_eq_false_iff_not] at h
 exact ⟨⟨by omega,by omega⟩,by omega,by omega⟩
theorem lk_great_ok (f g : Bool) (s : SH) : PureOK Tryz.prog n_l_great [Sn f g s] (B (grtK s)) := by
 refine pure_of (walk func_l_great form_l_great res_l_great (by show 1 ≤ _; decide) ?_)
 simp -implicitDefEqProofs (disch := omega) [G_l_great,wrap_id]
 unfold grtK
 have e1 : decide ((12 : Int) < (s.k.length : Int)) = decide (12 < s.k.length) := by rw [decide_eq_decide]; omega
 have e2 : decide ((18 : Int) < (s.m.length : Int)) = decide (18 < s.m.length) := by rw [decide_eq_decide]; omega
 cases h : decide (12 < s.k.length) with
 | true =>
   rw [h] at e1
   simp -implicitDefEqProofs (disch := omega) [wrap_id,e1]
 | false =>
   rw [h] at e1
   simp -implicitDefEqProofs (disch := omega) [wrap_id,e1,e2]
def finK (s : SH) : Bool := !grtK s && decide (shtE s = 0)
theorem lk_fine_ok (f g : Bool) (s : SH) : PureOK Tryz.prog n_l_fine [Sn f g s] (B (finK s)) := by
 refine pure_of (walk func_l_fine form_l_fine res_l_fine (by show 1 ≤ _; decide) ?_)
 simp -implicitDefEqProofs (disch := omega) [G_l_fine,wrap_id]
 refine callW_pure rfl (lk_great_ok f g s) ?_
 unfold finK
 cases hg : grtK s with
 | true => simp -implicitDefEqProofs (disch := omega) [wrap_id]
 | false =>
   obtain ⟨hz,_⟩ := grtK_sz hg
   simp -implicitDefEqProofs (disch := omega) [wrap_id]
   refine callW_pure rfl (r_CheckSheet_ok f g s hz) ?_
   by_cases h : shtE s = 0
   · rw [h]
     simp -implicitDefEqProofs (disch := omega) [wrap_id]
   · have h' : (shtE s == 0) = false := by rw [beq_eq_false_iff_ne]; exact h
     simp -implicitDefEqProofs (disch := omega) [wrap_id,h',h]
end Go.AM

namespace Go.AM
open Go.RowKit Go.Proofs
theorem bitL_60 {n : Nat} : (bitL n).length ≤ 60 := bitT_len
theorem lstL_len {s : SH} : (lstL s).length ≤ 60 := by
 unfold lstL
 split
 · unfold lostL; exact bitL_60
 · exact Nat.zero_le _
end Go.AM

namespace Go.AM
open Go.RowKit Go.Proofs
theorem mpp2 {c : List AV} : NoMpp [HObj.cells c] := mpp_list rfl
end Go.AM

namespace Go.AM
open Go.RowKit Go.Proofs
theorem rws_of {s : SH} {R : List (Int × Int)} (h : rwsE2 s R = 0) : shtE s = 0 ∧ (∀ r ∈ R,r ∈ allR s) ∧ (R.map fun r => bitO s r).foldl orN 0 = allN s := by
 unfold rwsE2 at h
 split at h
 · omega
 rename_i h0
 split at h
 · cases h
 split at h
 · cases h
 rename_i h2
 split at h
 · cases h
 rename_i h3
 split at h
 · cases h
 split at h
 · cases h
 rename_i h5
 have h0 : shtE s = 0 := by omega
 refine ⟨h0,fun r hr => ?_,?_⟩
 · have h2 : R.all (fun r => isK s r.1) = true := by simpa using h2
   have h3 : R.any (fun r => decide (bitO s r = 0)) = false := by simpa using h3
   refine mem_allR (List.all_eq_true.1 h2 r hr) ?_
   have := (List.any_eq_false.1 h3) r hr
   simpa using this
 · rw [foldl_or_le]
   unfold allN
   exact Classical.byContradiction fun h => h5 (by simpa using h)
theorem rws_lost {s : SH} {R : List (Int × Int)} (h : rwsE2 s R = 0) : lostL s = [] := by
 obtain ⟨h0,h1,h2⟩ := rws_of h
 have hv := val_of h0
 have w := pw_12 hv
 rw [lost_nil hv]
 have lt : allB s (allR s) < pwN s.m.length := orT_small hv
 refine Nat.eq_of_testBit_eq fun k => ?_
 rw [Bool.eq_iff_iff]
 constructor
 · intro h
   unfold allN
   rw [show pwN s.m.length = 2 ^ s.m.length from rfl,Nat.testBit_two_pow_sub_one,decide_eq_true_eq]
   refine Classical.byContradiction fun hh => ?_
   rw [Nat.testBit_lt_two_pow (Nat.lt_of_lt_of_le (show allB s (allR s) < 2 ^ s.m.length from lt) (Nat.pow_le_pow_right (by decide) (by omega)))] at h
   cases h
 · intro h
   rw [← h2,foldl_bit,Nat.zero_testBit,Bool.false_or,List.any_map,List.any_eq_true] at h
   obtain ⟨r,hr,h⟩ := h
   rw [orT_bit,List.any_eq_true]
   exact ⟨r,h1 r hr,h⟩
end Go.AM

namespace Go.AM
open Go.RowKit Go.Proofs
theorem plc_mem {s : SH} {c a : Int} (hk : isK s c = true) : a ∈ plcT s c 501 ↔ bitO s (c,a) ≠ 0 := by
 unfold plcT
 rw [List.mem_map]
 constructor
 · rintro ⟨k,hk,rfl⟩
   have := (List.mem_filter.1 hk).2
   simpa using this
 · intro hb
   have ha : 0 ≤ a ∧ a ≤ 500 := by
    refine Classical.byContradiction fun h => hb ?_
    unfold bitO
    rw [if_pos (by simp only; omega)]
   obtain ⟨a',rfl⟩ : ∃ a' : Nat,a = (a' : Int) := ⟨a.toNat,by omega⟩
   exact ⟨a',List.mem_filter.2 ⟨List.mem_range.2 (by omega),by simpa using hb⟩,rfl⟩
theorem plc_sorted {s : SH} {c : Int} {n : Nat} : (plcT s c n).Pairwise (· < ·) := by
 unfold plcT
 rw [List.pairwise_map]
 exact (List.pairwise_lt_range.filter _).imp fun h => by omega
theorem has_val {s : SH} (h0 : shtE s = 0) {r : Int × Int} (hk : isK s r.1 = true) : (hasE s r = 0 ∧ bitO s r ≠ 0 ∧ hasL s r = bitL (bitO s r)) ∨ (hasE s r = 19 ∧ bitO s r = 0) := by
 have e : hasE s r = if bitO s r = 0 then 19 else 0 := by
  unfold hasE
  rw [if_neg (by omega),if_neg (by rw [hk]; decide)]
 by_cases hb : bitO s r = 0
 · rw [if_pos hb] at e
   exact .inr ⟨e,hb⟩
 · rw [if_neg hb] at e
   exact .inl ⟨e,hb,by unfold hasL; rw [if_pos e]⟩
theorem allB_bit {s : SH} {R : List (Int × Int)} {k : Nat} : (allB s R).testBit k = true ↔ ∃ r ∈ R,(bitO s r).testBit k = true := by
 rw [← foldl_or_le,foldl_bit,Nat.zero_testBit,Bool.false_or,List.any_eq_true]
 constructor
 · rintro ⟨x,hx,h⟩
   obtain ⟨r,hr,rfl⟩ := List.mem_map.1 hx
   exact ⟨r,hr,h⟩
 · rintro ⟨r,hr,h⟩
   exact ⟨_,List.mem_map.2 ⟨r,hr,rfl⟩,h⟩
theorem bit_4096 {s : SH} (hv : ValS s) {r : Int × Int} : bitO s r < 4096 := Nat.lt_of_lt_of_le (bitO_small hv r) (Nat.le_trans (Nat.pow_le_pow_right (by decide) hv.m12) (by decide))
theorem allB_lt {s : SH} (hv : ValS s) {R : List (Int × Int)} : allB s R < 2 ^ s.m.length := orT_small hv
theorem rest_bit {n x k : Nat} (hx : x < 2 ^ n) : (pwN n - 1 - x).testBit k = (decide (k < n) && !x.testBit k) := by
 unfold pwN
 rw [show 2 ^ n - 1 - x = 2 ^ n - (x + 1) from by omega,Nat.testBit_two_pow_sub_succ hx]
theorem lost_mem {s : SH} (hv : ValS s) {k : Nat} : (k : Int) ∈ lostL s ↔ k < s.m.length ∧ ¬ ∃ r ∈ allR s,(bitO s r).testBit k = true := by
 have w := pw_12 hv
 have hx := allB_lt hv (R := allR s)
 unfold lostL
 rw [bitL_mem (by have := w; omega),rest_bit hx,Bool.and_eq_true,decide_eq_true_eq,Bool.not_eq_true',← allB_bit]
 rw [Bool.not_eq_true]
theorem bit_marks {s : SH} (hv : ValS s) {r : Int × Int} {x : Int} (h : x ∈ bitL (bitO s r)) : ∃ k : Nat,x = k ∧ k < s.m.length ∧ (bitO s r).testBit k = true := by
 unfold bitL at h
 obtain ⟨k,rfl,_,hb⟩ := bitT_mem.1 h
 refine ⟨k,rfl,Classical.byContradiction fun hk => ?_,hb⟩
 have := Nat.testBit_lt_two_pow (Nat.lt_of_lt_of_le (bitO_small hv r) (Nat.pow_le_pow_right (by decide) (show s.m.length ≤ k by omega)))
 rw [this] at hb
 cases hb
theorem bitL_ne {x : Nat} (hx : x < 2 ^ 60) (h : x ≠ 0) : bitL x ≠ [] := fun e => h (bitL_nil hx e)
theorem len_rest {n x : Nat} (hx : x < 2 ^ n) (hn : n ≤ 60) : (bitL x).length + (bitL (pwN n - 1 - x)).length = n := by
 have key : ∀ i, (bitT x i).length + (bitT (pwN n - 1 - x) i).length = min i n := by
  intro i
  induction i with
  | zero => simp [bitT]
  | succ i ih =>
    rw [bitT_succ,bitT_succ,List.length_append,List.length_append,rest_bit hx]
    by_cases hi : i < n
    · cases hb : x.testBit i <;> simp [hi] <;> omega
    · have : x.testBit i = false := Nat.testBit_lt_two_pow (Nat.lt_of_lt_of_le hx (Nat.pow_le_pow_right (by decide) (by omega)))
      simp [hi,this]
      omega
 have := key 60
 unfold bitL
 omega
theorem lost_len {s : SH} (hv : ValS s) : (bitL (allB s (allR s))).length + (lostL s).length = s.m.length := len_rest (allB_lt hv) (by have := hv.m12; omega)
structure HadK (s : SH) (c i : Nat) (l : List Int) (o : Nat) : Prop where
 bit : ∀ t,o.testBit t = true ↔ (∃ r ∈ rwsK s c,(bitO s r).testBit t = true) ∨ (∃ r ∈ (rowOf s c).take i,(bitO s r).testBit t = true) ∨ (t : Int) ∈ l
theorem HadK.zero {s : SH} : HadK s 0 0 [] 0 := ⟨fun t => by
 rw [Nat.zero_testBit]
 constructor
 · intro h; cases h
 · rintro (⟨r,h,_⟩ | ⟨r,h,_⟩ | h)
   · cases h
   · cases h
   · cases h⟩
theorem HadK.comb {s : SH} {c o : Nat} (h : HadK s c (rowOf s c).length [] o) : HadK s (c + 1) 0 [] o := ⟨fun t => by
 rw [h.bit,rwsK_succ]
 constructor
 · rintro (⟨r,hr,hb⟩ | ⟨r,hr,hb⟩ | h)
   · exact .inl ⟨r,List.mem_append.2 (.inl hr),hb⟩
   · exact .inl ⟨r,List.mem_append.2 (.inr (List.mem_of_mem_take hr)),hb⟩
   · cases h
 · rintro (⟨r,hr,hb⟩ | ⟨r,hr,hb⟩ | h)
   · rcases List.mem_append.1 hr with hr | hr
     · exact .inl ⟨r,hr,hb⟩
     · exact .inr (.inl ⟨r,by rw [List.take_length]; exact hr,hb⟩)
   · cases hr
   · cases h⟩
theorem HadK.row {s : SH} (hv : ValS s) {c i o : Nat} (hi : i < (rowOf s c).length) (h : HadK s c i (bitL (bitO s (rowOf s c)[i])) o) : HadK s c (i + 1) [] o := ⟨fun t => by
 rw [h.bit,List.take_succ_eq_append_getElem hi,bitL_mem (bit_4096 hv)]
 constructor
 · rintro (h | ⟨r,hr,hb⟩ | h)
   · exact .inl h
   · exact .inr (.inl ⟨r,List.mem_append.2 (.inl hr),hb⟩)
   · exact .inr (.inl ⟨_,List.mem_append.2 (.inr (.head _)),h⟩)
 · rintro (h | ⟨r,hr,hb⟩ | h)
   · exact .inl h
   · rcases List.mem_append.1 hr with hr | hr
     · exact .inr (.inl ⟨r,hr,hb⟩)
     · rw [List.mem_singleton] at hr; rw [hr] at hb; exact .inr (.inr hb)
   · cases h⟩
theorem HadK.mark {s : SH} {c i o k : Nat} {l : List Int} (h : HadK s c i l o) : HadK s c i (l ++ [(k : Int)]) (orN o (pwN k)) := ⟨fun t => by
 rw [orN_bit,pwN_bit,Bool.or_eq_true,h.bit,List.mem_append,List.mem_singleton,decide_eq_true_eq]
 constructor
 · rintro ((h | h | h) | h)
   · exact .inl h
   · exact .inr (.inl h)
   · exact .inr (.inr (.inl h))
   · exact .inr (.inr (.inr (by omega)))
 · rintro (h | h | h | h)
   · exact .inl (.inl h)
   · exact .inl (.inr (.inl h))
   · exact .inl (.inr (.inr h))
   · exact .inr (by omega)⟩
theorem HadK.end {s : SH} {o : Nat} (h : HadK s s.k.length 0 [] o) : o = allB s (allR s) := Nat.eq_of_testBit_eq fun t => by
 rw [Bool.eq_iff_iff,h.bit,allB_bit]
 constructor
 · rintro (h | ⟨r,hr,_⟩ | h)
   · exact h
   · cases hr
   · cases h
 · exact fun h => .inl h
theorem HadK.lt {s : SH} (hv : ValS s) {c i o : Nat} {l : List Int} (hl : ∀ x ∈ l,∀ k : Nat,x = k → k < s.m.length) (h : HadK s c i l o) : o < 4096 := by
 have hm := hv.m12
 refine Nat.lt_of_lt_of_le (m := 2 ^ s.m.length) (Nat.lt_pow_two_of_testBit _ fun t ht => ?_) (Nat.le_trans (Nat.pow_le_pow_right (by decide) hm) (by decide))
 have nb : ∀ r,(bitO s r).testBit t = false := fun r => Nat.testBit_lt_two_pow (Nat.lt_of_lt_of_le (bitO_small hv r) (Nat.pow_le_pow_right (by decide) ht))
 rw [← Bool.not_eq_true,h.bit]
 rintro (⟨r,_,h⟩ | ⟨r,_,h⟩ | h)
 · rw [nb] at h; cases h
 · rw [nb] at h; cases h
 · have := hl _ h t rfl; omega
end Go.AM

namespace Go.AM
open Go.RowKit Go.Proofs
theorem wh_19 {s : SH} (h0 : shtE s = 0) (hb : whE s [] ≠ 0) : whE s [] = 19 ∧ lostL s ≠ [] := by
 unfold whE at hb ⊢
 rw [if_neg (by omega),if_neg (by simp)] at hb ⊢
 by_cases hL : lostL s = []
 · rw [if_neg (by simp [hL])] at hb; exact absurd rfl hb
 · rw [if_pos hL]; exact ⟨rfl,hL⟩
theorem getElem_eqL {L : List (Int × Int)} {P : List Int} {c : Int} {i : Nat} (h : L = P.map fun a => (c,a)) (h1 : i < L.length) (h2 : i < P.length) : L[i] = (c,P[i]) := by
 subst h
 exact List.getElem_map ..
theorem HadK.rowP {s : SH} (hv : ValS s) {c i o : Nat} {P : List Int} (hP : rowOf s c = P.map fun a => ((c : Int),a)) (hi : i < P.length) (h : HadK s c i (bitL (bitO s ((c : Int),P[i]'hi))) o) : HadK s c (i + 1) [] o := by
 have hi' : i < (rowOf s c).length := by rw [hP,List.length_map]; exact hi
 refine HadK.row hv hi' ?_
 rw [getElem_eqL hP hi' hi]
 exact h
theorem fin_val {s : SH} (hg : finK s = true) : shtE s = 0 ∧ SzS s ∧ ValS s := by
 have hf : grtK s = false ∧ shtE s = 0 := by
  unfold finK at hg
  simpa using hg
 exact ⟨hf.2,(grtK_sz hf.1).1,val_of hf.2⟩
theorem lst_eq {s : SH} (h0 : shtE s = 0) : lstL s = lostL s := by unfold lstL; rw [if_pos h0]
theorem pls_eq {s : SH} (h0 : shtE s = 0) {n : Int} (hk : isK s n = true) : plsL s n = plcT s n 501 ∧ plsE s n = 0 := by
 have : plsE s n = 0 := by unfold plsE; rw [if_neg (by omega),if_neg (by rw [hk]; decide)]
 exact ⟨by unfold plsL; rw [if_pos this],this⟩
set_option maxHeartbeats 16000000 in
theorem lawEither (f g h : Bool) (s : SH) (R : List (Int × Int)) (at0 : Int) : PureOK Tryz.prog n_l_CombEither [Sn f g s, Ps h R, I at0] (B true) := by
 refine pure_of (walk func_l_CombEither form_l_CombEither res_l_CombEither (by show 3 ≤ _; decide) ?_)
 simp -implicitDefEqProofs (disch := omega) [G_l_CombEither,wrap_id]
 refine callW_pure (ys := [Sn f g s]) (ids := []) rfl (lk_fine_ok f g s) ?_
 cases hg : finK s with
 | false =>
   simp -implicitDefEqProofs (disch := omega) [wrap_id]
   refine callW_pure rfl lk_Works_ok ?_
   simp -implicitDefEqProofs (disch := omega) [wrap_id]
 | true =>
   obtain ⟨h0,hz,hv⟩ := fin_val hg
   have hm12 := hv.m12
   have w := pw_12 hv
   have hk8 := hv.k8
   by_cases hR : 30 < R.length
   · have hR' : (30 : Int) < (R.length : Int) := by omega
     simp -implicitDefEqProofs (disch := omega) [wrap_id,hR,hR']
     refine callW_pure rfl lk_Works_ok ?_
     simp -implicitDefEqProofs (disch := omega) [wrap_id]
   have hR' : ¬ (30 : Int) < (R.length : Int) := by omega
   have cL := k_Lost_ok f g s hz
   rw [lst_eq h0,h0] at cL
   have cR := k_CheckRows_ok f g h s hz R (by omega)
   have lL := lstL_len (s := s)
   rw [lst_eq h0] at lL
   simp -implicitDefEqProofs (disch := omega) [wrap_id,hR,hR']
   refine callW_pure (ys := [Sn f g s]) (ids := []) rfl cL ?_
   simp -implicitDefEqProofs (disch := omega) [wrap_id]
   have lc := lost_len hv
   obtain ⟨o12,lz,lgt⟩ : ∃ x : Bool,((((lostL s).length : Int) == 0) = x) ∧ ((0 < ((lostL s).length : Int)) = (x = false)) := ⟨_,rfl,by rw [beq_eq_false_iff_ne,eq_iff_iff]; omega⟩
   have bk : isK s 0 = true := by have := hv.k1; unfold isK; simp; omega
   refine k_Best_v hz mpp2 ?lostc ?finec
   case' lostc =>
    intro hb
    obtain ⟨h19,hL⟩ := wh_19 h0 hb
    have hr : (rwsE2 s R == 0) = false := by rw [beq_eq_false_iff_ne]; exact fun h => hL (rws_lost h)
    have l0 : 0 < (lostL s).length := List.length_pos_iff.2 hL
    obtain rfl : o12 = false := by rw [← lz,beq_eq_false_iff_ne]; omega
    have lgt' : (0 < ((lostL s).length : Int)) = True := by rw [lgt]; simp
    have lgt2 : (0 < (lostL s).length) = True := by simp only [eq_iff_iff,iff_true]; exact l0
    rw [h19]
    simp -implicitDefEqProofs (disch := omega) [wrap_id,lz]
    rw [eqk_of (neg := true) (a := .bool false) (b := .bool false) (z := true) rfl rfl rfl]
    simp -implicitDefEqProofs (disch := omega) [wrap_id,lgt',lgt2]
    refine callW_pure (ys := [Sn f g s,Ps h R]) (ids := []) rfl cR ?_
    simp -implicitDefEqProofs (disch := omega) [wrap_id,hr]
   case' finec =>
    intro hb _ hL B hB0 hB hO
    have l0 : (lostL s).length = 0 := by rw [hL]; rfl
    obtain rfl : o12 = true := by rw [← lz,beq_iff_eq]; omega
    have lgt' : (0 < ((lostL s).length : Int)) = False := by rw [lgt]; simp
    have lgt2 : (0 < (lostL s).length) = False := by simp only [eq_iff_iff,iff_false]; omega
    simp -implicitDefEqProofs (disch := omega) [wrap_id,lz]
    rw [eqk_of (neg := true) (a := .bool true) (b := .bool true) (z := true) rfl rfl rfl]
    simp -implicitDefEqProofs (disch := omega) [wrap_id,lgt',lgt2]
   all_goals
    refine loop_eq (fun p : Nat × Nat => ⟨[(2,I at0),(3,.ref 0 0),(7,Ls (lostL s).isEmpty (lostL s)),(11,I (p.2 : Int)),(12,I (p.1 : Int))],[.cells [Ps f s.k,Ps g s.m]]⟩) (fun p => p.1 ≤ s.k.length ∧ HadK s p.1 0 [] p.2) (fun p => s.k.length - p.1) (0,0) ⟨Nat.zero_le _,.zero⟩ rfl ?_
    rintro ⟨c,o⟩ ⟨c1,c2⟩
    simp only at c1 c2
    refine hideK' fun K0 hK0 => ?_
    simp -implicitDefEqProofs (disch := omega) [wrap_id]
    refine c_split (fun hc => ?_) (fun hc => ?_)
    · have hi : c < s.k.length := by simpa using hc
      have ix : ((c : Int) + 1) = ((c + 1 : Nat) : Int) := by omega
      have hk : isK s (c : Int) = true := by unfold isK; simp; omega
      obtain ⟨e1,e2⟩ := pls_eq h0 hk
      have cP := k_Places_ok f g s hz (c : Int)
      rw [e1,e2] at cP
      have cH := k_Has_ok f g s hz ((c : Int),at0)
      have pm : ∀ a,a ∈ plcT s (c : Int) 501 ↔ bitO s ((c : Int),a) ≠ 0 := fun a => plc_mem hk
      have ps : (plcT s (c : Int) 501).Pairwise (· < ·) := plc_sorted
      have pl : (plcT s (c : Int) 501).length ≤ 501 := plcT_len
      have hP : rowOf s c = (plcT s (c : Int) 501).map fun a => ((c : Int),a) := rfl
      generalize plcT s (c : Int) 501 = P at *
      have cI := lk_inLongs_ok P.isEmpty P at0 (by omega)
      have hh : (hasE s ((c : Int),at0) = 0 ∧ P.contains at0 = true) ∨ (hasE s ((c : Int),at0) = 19 ∧ P.contains at0 = false) := by
       rcases has_val h0 (r := ((c : Int),at0)) hk with ⟨a1,a2,_⟩ | ⟨a1,a2⟩
       · exact .inl ⟨a1,by rw [List.contains_iff_mem,pm]; exact a2⟩
       · exact .inr ⟨a1,by rw [← Bool.not_eq_true,List.contains_iff_mem,pm]; exact fun h => h a2⟩
      generalize P.contains at0 = y at *
      simp -implicitDefEqProofs (disch := omega) [wrap_id]
      refine callW_pure (ys := [Sn f g s,I (c : Int)]) (ids := []) rfl cP ?_
      simp -implicitDefEqProofs (disch := omega) [wrap_id]
      refine pureW_of rfl (lk_Row_ok (c : Int) at0) ?_
      simp -implicitDefEqProofs (disch := omega) [wrap_id,cmp2,nthT]
      refine pureW_of (ys := [Sn f g s,Pr ((c : Int),at0)]) (ids := []) rfl cH ?_
      rcases hh with ⟨a1,rfl⟩ | ⟨a1,rfl⟩
      all_goals
       rw [a1]
       simp -implicitDefEqProofs (disch := omega) [wrap_id,cmp2,nthT]
       refine callW_pure rfl cI ?_
       simp -implicitDefEqProofs (disch := omega) [wrap_id,cmp2,nthT]
       first
        | rw [eqk_of (neg := true) (a := .bool true) (b := .bool true) (z := true) rfl rfl rfl]
        | rw [eqk_of (neg := true) (a := .bool false) (b := .bool false) (z := true) rfl rfl rfl]
       simp -implicitDefEqProofs (disch := omega) [wrap_id,cmp2,nthT]
      all_goals
       refine loop_eq (fun p : Nat × Nat => ⟨[(2,I at0),(3,.ref 0 0),(7,Ls (lostL s).isEmpty (lostL s)),(11,I (p.2 : Int)),(12,I (c : Int)),(13,Ls P.isEmpty P),(17,I (p.1 : Int))],[.cells [Ps f s.k,Ps g s.m]]⟩) (fun p => p.1 ≤ P.length ∧ HadK s c p.1 [] p.2) (fun p => P.length - p.1) (0,o) ⟨Nat.zero_le _,c2⟩ rfl ?_
       rintro ⟨i,q⟩ ⟨d1,d2⟩
       simp only at d1 d2
       refine hideK' fun K1 hK1 => ?_
       simp -implicitDefEqProofs (disch := omega) [wrap_id]
       refine c_split (fun hc => ?_) (fun hc => ?_)
       · have hj : i < P.length := by simpa using hc
         have jx : ((i : Int) + 1) = ((i + 1 : Nat) : Int) := by omega
         have hb := (pm P[i]).1 (List.getElem_mem hj)
         have cH2 := k_Has_ok f g s hz ((c : Int),P[i])
         have hh2 : hasE s ((c : Int),P[i]) = 0 ∧ hasL s ((c : Int),P[i]) = bitL (bitO s ((c : Int),P[i])) := by
          rcases has_val h0 (r := ((c : Int),P[i])) hk with ⟨a1,a2,a3⟩ | ⟨a1,a2⟩
          · exact ⟨a1,a3⟩
          · exact absurd a2 hb
         rw [hh2.1,hh2.2] at cH2
         have mm : ∀ x ∈ bitL (bitO s ((c : Int),P[i])),∃ k : Nat,x = k ∧ k < s.m.length ∧ (lostL s).contains x = false := fun x hx => by
          obtain ⟨k,rfl,h1,h2⟩ := bit_marks hv hx
          refine ⟨k,rfl,h1,?_⟩
          rw [← Bool.not_eq_true,List.contains_iff_mem,lost_mem hv]
          exact fun h => h.2 ⟨_,mem_allR (r := ((c : Int),P[i])) hk hb,h2⟩
         have mne := bitL_ne (bitO_60 hv _) hb
         have ml := bitL_len (n := bitO s ((c : Int),P[i]))
         have hrow := fun o (h : HadK s c i (bitL (bitO s ((c : Int),P[i]))) o) => HadK.rowP hv hP hj h
         have had := fun k o (h : HadK s c i ((bitL (bitO s ((c : Int),P[i]))).take k) o) => HadK.lt hv (fun x hx k' e => by
          obtain ⟨k'',e2,h2,_⟩ := mm x (List.mem_of_mem_take hx)
          omega) h
         generalize bitL (bitO s ((c : Int),P[i])) = M at *
         have ml0 : ((M.length : Int) == 0) = false := by rw [beq_eq_false_iff_ne]; have := List.length_pos_iff.2 mne; omega
         have cond : ∀ h : 0 < i,(P[i] ≤ P[i - 1]'(by omega)) = False := fun h => by
          have := (List.pairwise_iff_getElem.1 ps) (i - 1) i (by omega) hj (by omega)
          simp only [eq_iff_iff,iff_false]
          omega
         simp -implicitDefEqProofs (disch := omega) [wrap_id,cmp2,nthT,cells_ls,hj]
         refine pureW_of rfl (lk_Row_ok (c : Int) P[i]) ?_
         simp -implicitDefEqProofs (disch := omega) [wrap_id,cmp2,nthT,disj]
         refine pureW_of (ys := [Sn f g s,Pr ((c : Int),P[i])]) (ids := []) rfl cH2 ?_
         by_cases hi0 : 0 < i
         case' pos =>
          have hi0' : (0 : Int) < (i : Int) := by omega
          have iy : ((i : Int) - 1) = ((i - 1 : Nat) : Int) := by omega
          have hj1 : i - 1 < P.length := by omega
          have cond := cond hi0
          simp -implicitDefEqProofs (disch := omega) [wrap_id,cmp2,nthT,disj,cells_ls,hj,ml0,hi0,hi0',iy,hj1,cond]
         case' neg =>
          have hi0' : ¬ (0 : Int) < (i : Int) := by omega
          simp -implicitDefEqProofs (disch := omega) [wrap_id,cmp2,nthT,disj,cells_ls,hj,ml0,hi0,hi0']
         all_goals
          refine loop_eq (fun p : Nat × Nat => ⟨[(2,I at0),(3,.ref 0 0),(7,Ls (lostL s).isEmpty (lostL s)),(11,I (p.2 : Int)),(12,I (c : Int)),(13,Ls P.isEmpty P),(17,I (i : Int)),(18,Ls M.isEmpty M),(20,I (p.1 : Int))],[.cells [Ps f s.k,Ps g s.m]]⟩) (fun p => p.1 ≤ M.length ∧ HadK s c i (M.take p.1) p.2) (fun p => M.length - p.1) (0,q) ⟨Nat.zero_le _,d2⟩ rfl ?_
          rintro ⟨k,t⟩ ⟨k1,k2⟩
          simp only at k1 k2
          refine hideK' fun K2 hK2 => ?_
          simp -implicitDefEqProofs (disch := omega) [wrap_id]
          refine c_split (fun hc => ?_) (fun hc => ?_)
          · have hl : k < M.length := by simpa using hc
            have lx : ((k : Int) + 1) = ((k + 1 : Nat) : Int) := by omega
            obtain ⟨v,hv2,hvm,hvl⟩ := mm M[k] (List.getElem_mem hl)
            have k3 := k2.mark (k := v)
            rw [← hv2,← List.take_succ_eq_append_getElem hl] at k3
            have o1 : t < 2 ^ 60 := Nat.lt_trans (had k t k2) (by decide)
            have o2 := pwN_small (i := v) (by omega)
            have cI2 := lk_in_ok (lostL s).isEmpty (lostL s) (v : Int) (by omega)
            rw [hv2] at hvl
            rw [hvl] at cI2
            have q1 : ((v : Int) < 0) = False := by simp only [eq_iff_iff,iff_false]; omega
            have q2 : ((s.m.length : Int) ≤ (v : Int)) = False := by simp only [eq_iff_iff,iff_false]; omega
            have q3 : (s.m.length ≤ v) = False := by simp only [eq_iff_iff,iff_false]; omega
            simp -implicitDefEqProofs (disch := omega) [wrap_id,cmp2,nthT,disj,cells_ls,hl,hv2,q1,q2,q3]
            refine pureW_of rfl cI2 ?_
            simp -implicitDefEqProofs (disch := omega) [wrap_id,cmp2,nthT,disj,cells_ls,hl,hv2,-b_shl,-b_or]
            rw [bw_shl (by omega)]
            simp -implicitDefEqProofs (disch := omega) [wrap_id,-b_or,bw_or,o1,o2]
            rw [hK2]
            exact next_eq (k + 1,orN t (pwN v)) ⟨by simp only; omega,k3⟩ (by simp only; omega) (by simp only [lx])
          · have hl : k = M.length := by simp at hc; omega
            subst hl
            subst hK2
            rw [List.take_length] at k2
            simp -implicitDefEqProofs (disch := omega) [wrap_id,cmp2,nthT]
            rw [hK1]
            exact next_eq (i + 1,t) ⟨by simp only; omega,hrow t k2⟩ (by simp only; omega) (by simp only [jx])
       · have hj : i = P.length := by simp at hc; omega
         subst hj
         subst hK1
         simp -implicitDefEqProofs (disch := omega) [wrap_id,cmp2,nthT]
         rw [hK0]
         have c3 : HadK s c (rowOf s c).length [] q := by rw [hP,List.length_map]; exact d2
         exact next_eq (c + 1,q) ⟨by simp only; omega,c3.comb⟩ (by simp only; omega) (by simp only [ix])
    · have hi : c = s.k.length := by simp at hc; omega
      subst hi
      subst hK0
      obtain rfl := c2.end
      have lt : allB s (allR s) < 2 ^ 60 := orT_60 hv
      generalize allB s (allR s) = o at *
      have lc' : (((bitL o).length : Int) + ((lostL s).length : Int) == (s.m.length : Int)) = true := by rw [beq_iff_eq]; omega
      have bl := bitL_len (n := o)
      simp -implicitDefEqProofs (disch := omega) [wrap_id,cmp2,nthT,disj]
      refine pureW_of rfl (r_List_ok o lt) ?_
      simp -implicitDefEqProofs (disch := omega) [wrap_id,cmp2,nthT,disj,lc']
      refine pureW_of rfl lk_Works_ok ?_
      simp -implicitDefEqProofs (disch := omega) [wrap_id,cmp2,nthT,disj]
end Go.AM
