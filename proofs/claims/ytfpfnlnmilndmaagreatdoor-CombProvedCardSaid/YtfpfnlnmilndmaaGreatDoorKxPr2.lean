/-
  KxPr2: texts joined: FmCF Cb4 Cb5 Cb6 Cb7 Cb13 FmCL Lc1 Ld1 Ld2 Tk8 Ld3. Own work.
-/
import Derived.Test.YtfpfnlnmilndmaaGreatDoorKxPr1
import Derived.Test.YtfpfnlnmilndmaaGreatDoorProg
set_option linter.unusedSimpArgs false
set_option linter.unusedVariables false

set_option maxRecDepth 100000
namespace Go.AM
open Go.RowKit Go.Proofs
abbrev n_r_Places : Nat := 21
def G_r_Places : AC := (.seq (.rgn [⟨none,[(.box 2 2 (.t 0)),(.mv 4 (.k (.sl true 0 []))),(.mv 5 (.k (I 0)))]⟩] [1,2]) (.seq (.seq (.rgn [⟨none,[(.ld 8 true 2 (.t 2)),(.call 9 25 [(.t 8)]),(.bin 10 .neq (.t 9) (.k (I 0)))]⟩] [1,2,10]) (.cond (.t 10) (.seq (.rgn [⟨none,[(.ld 11 true 2 (.t 2)),(.call 12 25 [(.t 11)]),(.mv 4 (.k (.sl true 0 []))),(.mv 5 (.t 12))]⟩] [4,5]) .ret) .skip)) (.seq (.seq (.rgn [⟨none,[(.ld 13 true 2 (.t 2)),(.mv 14 (.t 1)),(.call 15 61 [(.t 13),(.t 14)]),(.un 16 .not (.t 15))]⟩] [1,2,16]) (.cond (.t 16) (.seq (.rgn [⟨none,[(.mv 4 (.k (.sl true 0 []))),(.mv 5 (.k (I 2)))]⟩] [4,5]) .ret) .skip)) (.seq (.rgn [⟨none,[(.mv 6 (.k (.sl true 0 [])))]⟩] [1,2,6]) (.seq (.seq (.rgn [⟨none,[(.mv 7 (.k (I 0)))]⟩] [1,2,6,7]) (.block 0 (.loop (.seq (.seq (.rgn [⟨none,[(.mv 17 (.t 7)),(.bin 18 .leq (.t 17) (.k (I 500)))]⟩] [1,2,6,7,18]) (.cond (.t 18) .skip (.exit 0))) (.seq (.block 1 (.seq (.rgn [⟨none,[(.ld 21 true 2 (.t 2)),(.mv 22 (.t 1)),(.mv 23 (.t 7)),(.bld 24 [(I 0),(I 0)] [(0,1,(.t 22)),(1,1,(.t 23))]),(.call 25 62 [(.t 21),(.t 24)]),(.bin 26 .neq (.t 25) (.k (I 0)))]⟩] [1,2,6,7,26]) (.cond (.t 26) (.rgn [⟨none,[(.mv 27 (.t 6)),(.mv 28 (.t 7)),(.bsl 29 1 1 [(I 0)] [(0,(.t 28))]),(.app 30 1 8 (.t 27) (.t 29)),(.mv 6 (.t 30))]⟩] [1,2,6,7]) .skip))) (.rgn [⟨none,[(.mv 19 (.t 7)),(.bin 20 .add (.t 19) (.k (I 1))),(.mv 7 (.t 20))]⟩] [1,2,6,7])))))) (.seq (.rgn [⟨none,[(.mv 31 (.t 6)),(.mv 4 (.t 31)),(.mv 5 (.k (I 0)))]⟩] [4,5]) .ret))))))
theorem func_r_Places : Tryz.prog.funcs[n_r_Places]? = some Tryz.f21 := Tryz.func21
theorem form_r_Places : formOf Tryz.prog Tryz.f21 [4,5] = some G_r_Places := by kernel_rfl
theorem res_r_Places : resTmps Tryz.f21.results.toList = some [4,5] := by kernel_rfl
abbrev n_r_Rows : Nat := 35
def G_r_Rows : AC := (.seq (.rgn [⟨none,[(.box 1 2 (.t 0)),(.mv 2 (.k (.sl true 0 [])))]⟩] [1]) (.seq (.rgn [⟨none,[(.mv 3 (.k (.sl true 0 [])))]⟩] [1,3]) (.seq (.seq (.rgn [⟨none,[(.mv 4 (.k (I 0)))]⟩] [1,3,4]) (.block 0 (.loop (.seq (.seq (.rgn [⟨none,[(.mv 8 (.t 4)),(.fa 9 (.t 1) 0),(.ld 10 false 1 (.t 9)),(.len 11 (.t 10)),(.bin 12 .lss (.t 8) (.t 11))]⟩] [1,3,4,12]) (.cond (.t 12) .skip (.exit 0))) (.seq (.block 1 (.seq (.rgn [⟨none,[(.ld 16 true 2 (.t 1)),(.mv 17 (.t 4)),(.call 18 21 [(.t 16),(.t 17)]),(.mv 15 (.t 18)),(.ext 19 (.t 15) 0),(.ext 20 (.t 15) 1),(.mv 5 (.t 19)),(.mv 6 (.t 20))]⟩] [1,3,4,5]) (.seq (.rgn [⟨none,[(.mv 7 (.k (I 0)))]⟩] [1,3,4,5,7]) (.block 2 (.loop (.seq (.seq (.rgn [⟨none,[(.mv 21 (.t 7)),(.mv 22 (.t 5)),(.len 23 (.t 22)),(.bin 24 .lss (.t 21) (.t 23))]⟩] [1,3,4,5,7,24]) (.cond (.t 24) .skip (.exit 2))) (.seq (.block 3 (.rgn [⟨none,[(.mv 27 (.t 3)),(.mv 28 (.t 4)),(.mv 29 (.t 5)),(.mv 30 (.t 7)),(.ia 31 1 (.t 29) (.t 30)),(.ld 32 false 1 (.t 31)),(.bld 33 [(I 0),(I 0)] [(0,1,(.t 28)),(1,1,(.t 32))]),(.bsl 34 1 2 [(I 0),(I 0)] [(0,(.t 33))]),(.app 35 2 16 (.t 27) (.t 34)),(.mv 3 (.t 35))]⟩] [1,3,4,5,7])) (.rgn [⟨none,[(.mv 25 (.t 7)),(.bin 26 .add (.t 25) (.k (I 1))),(.mv 7 (.t 26))]⟩] [1,3,4,5,7])))))))) (.rgn [⟨none,[(.mv 13 (.t 4)),(.bin 14 .add (.t 13) (.k (I 1))),(.mv 4 (.t 14))]⟩] [1,3,4])))))) (.seq (.rgn [⟨none,[(.mv 36 (.t 3)),(.mv 2 (.t 36))]⟩] [2]) .ret))))
theorem func_r_Rows : Tryz.prog.funcs[n_r_Rows]? = some Tryz.f35 := Tryz.func35
theorem form_r_Rows : formOf Tryz.prog Tryz.f35 [2] = some G_r_Rows := by kernel_rfl
theorem res_r_Rows : resTmps Tryz.f35.results.toList = some [2] := by kernel_rfl
abbrev n_r_CheckApart : Nat := 40
def G_r_CheckApart : AC := (.seq (.rgn [⟨none,[(.box 2 2 (.t 0)),(.mv 4 (.k (I 0)))]⟩] [1,2]) (.seq (.seq (.rgn [⟨none,[(.ld 9 true 2 (.t 2)),(.call 10 25 [(.t 9)]),(.bin 11 .neq (.t 10) (.k (I 0)))]⟩] [1,2,11]) (.cond (.t 11) (.seq (.rgn [⟨none,[(.ld 12 true 2 (.t 2)),(.call 13 25 [(.t 12)]),(.mv 4 (.t 13))]⟩] [4]) .ret) .skip)) (.seq (.rgn [⟨none,[(.mv 5 (.k (I 0)))]⟩] [1,2,5]) (.seq (.seq (.rgn [⟨none,[(.mv 6 (.k (I 0)))]⟩] [1,2,5,6]) (.block 0 (.loop (.seq (.seq (.rgn [⟨none,[(.mv 14 (.t 6)),(.mv 15 (.t 1)),(.len 16 (.t 15)),(.bin 17 .lss (.t 14) (.t 16))]⟩] [1,2,5,6,17]) (.cond (.t 17) .skip (.exit 0))) (.seq (.block 1 (.seq (.seq (.drw [⟨none,[(.mv 20 (.t 1)),(.mv 21 (.t 6)),(.ia 22 1 (.t 20) (.t 21)),(.ld 23 false 1 (.t 22)),(.bin 24 .lss (.t 23) (.k (I 0))),(.mv 25 (.t 24))]⟩,⟨(some (25,false)),[(.mv 26 (.t 1)),(.mv 27 (.t 6)),(.ia 28 1 (.t 26) (.t 27)),(.ld 29 false 1 (.t 28)),(.fa 30 (.t 2) 1),(.ld 31 false 1 (.t 30)),(.len 32 (.t 31)),(.bin 33 .geq (.t 29) (.t 32))]⟩,⟨none,[(.pick 34 (.t 25) (.k (B true)) (.t 33)),(.mv 35 (.t 34))]⟩,⟨(some (35,false)),[(.mv 36 (.t 6)),(.bin 37 .gtr (.t 36) (.k (I 0))),(.mv 38 (.t 37))]⟩,⟨(some (38,true)),[(.mv 39 (.t 1)),(.mv 40 (.t 6)),(.ia 41 1 (.t 39) (.t 40)),(.ld 42 false 1 (.t 41)),(.mv 43 (.t 1)),(.mv 44 (.t 6)),(.bin 45 .sub (.t 44) (.k (I 1))),(.ia 46 1 (.t 43) (.t 45)),(.ld 47 false 1 (.t 46)),(.bin 48 .leq (.t 42) (.t 47))]⟩,⟨(some (35,false)),[(.pick 49 (.t 38) (.t 48) (.k (B false)))]⟩,⟨none,[(.pick 50 (.t 35) (.k (B true)) (.t 49))]⟩] [(9,11),(22,27)] [1,2,5,6,50]) (.cond (.t 50) (.seq (.rgn [⟨none,[(.mv 4 (.k (I 3)))]⟩] [4]) .ret) .skip)) (.rgn [⟨none,[(.mv 51 (.t 5)),(.mv 52 (.t 1)),(.mv 53 (.t 6)),(.ia 54 1 (.t 52) (.t 53)),(.ld 55 false 1 (.t 54)),(.bin 56 .shl (.k (I 1)) (.t 55)),(.bin 57 .or (.t 51) (.t 56)),(.mv 5 (.t 57))]⟩] [1,2,5,6]))) (.rgn [⟨none,[(.mv 18 (.t 6)),(.bin 19 .add (.t 18) (.k (I 1))),(.mv 6 (.t 19))]⟩] [1,2,5,6])))))) (.seq (.rgn [⟨none,[(.ld 58 true 2 (.t 2)),(.call 59 35 [(.t 58)]),(.mv 7 (.t 59))]⟩] [2,5,7]) (.seq (.seq (.rgn [⟨none,[(.mv 8 (.k (I 0)))]⟩] [2,5,7,8]) (.block 2 (.loop (.seq (.seq (.rgn [⟨none,[(.mv 60 (.t 8)),(.mv 61 (.t 7)),(.len 62 (.t 61)),(.bin 63 .lss (.t 60) (.t 62))]⟩] [2,5,7,8,63]) (.cond (.t 63) .skip (.exit 2))) (.seq (.block 3 (.seq (.drw [⟨none,[(.ld 66 true 2 (.t 2)),(.mv 67 (.t 7)),(.mv 68 (.t 8)),(.ia 69 2 (.t 67) (.t 68)),(.ld 70 true 2 (.t 69)),(.call 71 62 [(.t 66),(.t 70)]),(.mv 72 (.t 5)),(.bin 73 .and (.t 71) (.t 72)),(.call 74 52 [(.t 73)]),(.len 75 (.t 74)),(.bin 76 .gtr (.t 75) (.k (I 1)))]⟩] [(0,4)] [2,5,7,8,76]) (.cond (.t 76) (.seq (.rgn [⟨none,[(.mv 4 (.k (I 14)))]⟩] [4]) .ret) .skip))) (.rgn [⟨none,[(.mv 64 (.t 8)),(.bin 65 .add (.t 64) (.k (I 1))),(.mv 8 (.t 65))]⟩] [2,5,7,8])))))) (.seq (.rgn [⟨none,[(.mv 4 (.k (I 0)))]⟩] [4]) .ret)))))))
theorem func_r_CheckApart : Tryz.prog.funcs[n_r_CheckApart]? = some Tryz.f40 := Tryz.func40
theorem form_r_CheckApart : formOf Tryz.prog Tryz.f40 [4] = some G_r_CheckApart := by kernel_rfl
theorem res_r_CheckApart : resTmps Tryz.f40.results.toList = some [4] := by kernel_rfl
abbrev n_r_List : Nat := 52
def G_r_List : AC := (.seq (.rgn [⟨none,[(.mv 2 (.k (.sl true 0 [])))]⟩] [0]) (.seq (.rgn [⟨none,[(.mv 3 (.k (.sl true 0 [])))]⟩] [0,3]) (.seq (.seq (.rgn [⟨none,[(.mv 4 (.k (I 0)))]⟩] [0,3,4]) (.block 0 (.loop (.seq (.seq (.rgn [⟨none,[(.mv 5 (.t 0)),(.mv 6 (.t 4)),(.bin 7 .shr (.t 5) (.t 6)),(.bin 8 .gtr (.t 7) (.k (I 0)))]⟩] [0,3,4,8]) (.cond (.t 8) .skip (.exit 0))) (.seq (.block 1 (.seq (.rgn [⟨none,[(.mv 11 (.t 0)),(.mv 12 (.t 4)),(.bin 13 .shr (.t 11) (.t 12)),(.bin 14 .and (.t 13) (.k (I 1))),(.bin 15 .eql (.t 14) (.k (I 1)))]⟩] [0,3,4,15]) (.cond (.t 15) (.rgn [⟨none,[(.mv 16 (.t 3)),(.mv 17 (.t 4)),(.bsl 18 1 1 [(I 0)] [(0,(.t 17))]),(.app 19 1 8 (.t 16) (.t 18)),(.mv 3 (.t 19))]⟩] [0,3,4]) .skip))) (.rgn [⟨none,[(.mv 9 (.t 4)),(.bin 10 .add (.t 9) (.k (I 1))),(.mv 4 (.t 10))]⟩] [0,3,4])))))) (.seq (.rgn [⟨none,[(.mv 20 (.t 3)),(.mv 2 (.t 20))]⟩] [2]) .ret))))
theorem func_r_List : Tryz.prog.funcs[n_r_List]? = some Tryz.f52 := Tryz.func52
theorem form_r_List : formOf Tryz.prog Tryz.f52 [2] = some G_r_List := by kernel_rfl
theorem res_r_List : resTmps Tryz.f52.results.toList = some [2] := by kernel_rfl
end Go.AM

namespace Go.AM
open Go.RowKit Go.Proofs
theorem bitT_end {n i : Nat} (h : shrN n i = 0) : ∀ {d : Nat},bitT n (i + d) = bitT n i
 | 0 => rfl
 | d + 1 => by
   rw [show i + (d + 1) = i + d + 1 from rfl,bitT_succ,bitT_end h]
   have : n.testBit (i + d) = false := by
    rw [Nat.testBit_eq_decide_div_mod_eq]
    have h0 : n < 2 ^ i := by
     unfold shrN at h
     rcases Nat.div_eq_zero_iff.1 h with h | h
     · have := Nat.two_pow_pos i; omega
     · exact h
    have h1 : n < 2 ^ (i + d) := Nat.lt_of_lt_of_le h0 (Nat.pow_le_pow_right (by decide) (by omega))
    rw [Nat.div_eq_of_lt h1]; rfl
   rw [this]; simp
set_option maxHeartbeats 2000000 in
theorem r_List_ok (n : Nat) (hn : n < 2 ^ 60) : PureOK Tryz.prog n_r_List [I (n : Int)] (Ls (bitL n).isEmpty (bitL n)) := by
 refine pure_of (walk func_r_List form_r_List res_r_List (by show 1 ≤ _; decide) ?_)
 simp -implicitDefEqProofs (disch := omega) [G_r_List,wrap_id]
 refine loop_eq (fun q : Nat × AV × List HObj => ⟨[(0,I (n : Int)),(3,q.2.1),(4,I (q.1 : Int))],q.2.2⟩) (fun q => q.1 ≤ 60 ∧ AccR q.2.2 q.2.1 (bitT n q.1)) (fun q => 60 - q.1) (0,.sl true 0 [],[]) ⟨Nat.zero_le _,.inl ⟨rfl,by simp [bitT]⟩⟩ rfl ?_
 rintro ⟨i,x,H⟩ ⟨d1,d2⟩
 simp only at d1 d2 ⊢
 refine hideK' fun K0 hK0 => ?_
 have hs := shrN_small (i := i) hn
 simp -implicitDefEqProofs (disch := omega) [wrap_id,-b_shr,bw_shr]
 refine c_split (fun hc => ?_) (fun hc => ?_)
 · have hc : 0 < shrN n i := by simpa using hc
   have hi : i < 60 := by
    apply Classical.byContradiction
    intro h
    have : i = 60 := by omega
    subst this
    unfold shrN at hc
    rw [Nat.div_eq_of_lt hn] at hc
    omega
   have ix : ((i : Int) + 1) = ((i + 1 : Nat) : Int) := by omega
   have bl := bitT_len (n := n) (i := i)
   simp -implicitDefEqProofs (disch := omega) [wrap_id,-b_shr,bw_shr,-b_and,bw_and,hs,bitN_one]
   cases hb : n.testBit i with
   | false =>
     have e : bitT n (i + 1) = bitT n i := by rw [bitT_succ,hb]; simp
     simp -implicitDefEqProofs (disch := omega) [wrap_id]
     rw [hK0]
     refine next_eq (i + 1,x,H) ⟨by simp only; omega,by simp only [e]; exact d2⟩ (by simp only; omega) (by simp only [ix])
   | true =>
     have e : bitT n (i + 1) = bitT n i ++ [(i : Int)] := by rw [bitT_succ,hb]; simp
     simp -implicitDefEqProofs (disch := omega) [wrap_id]
     refine bsl_of (ys := [I (i : Int)]) rfl rfl ?_
     simp -implicitDefEqProofs (disch := omega) [wrap_id,zrep]
     refine app_row d2.row (by omega) fun ws w1 w2 w3 => ?_
     simp -implicitDefEqProofs (disch := omega) [wrap_id]
     rw [hK0]
     refine next_eq (i + 1,.ms H.length 0 ((bitT n i).length + 1) 1,writeL H ws) ⟨by simp only; omega,.inr ⟨H.length,?_,?_,?_⟩⟩ (by simp only; omega) (by simp only [ix])
     · simp only [e]; simp
     · simp only [e]; simp
     · simp only [e]; exact w3
 · have hc : shrN n i = 0 := by simp at hc; omega
   subst hK0
   have e : bitL n = bitT n i := by
    have := bitT_end hc (d := 60 - i)
    rw [show i + (60 - i) = 60 from by omega] at this
    exact this
   rw [e]
   simp -implicitDefEqProofs (disch := omega) [wrap_id]
   exact d2.out
end Go.AM

namespace Go.AM
open Go.RowKit Go.Proofs
set_option maxHeartbeats 4000000 in
theorem r_Places_ok (f g : Bool) (s : SH) (hz : SzS s) (c : Int) : PureOK Tryz.prog n_r_Places [Sn f g s,I c] (.tup [Ls (plsL s c).isEmpty (plsL s c),I (plsE s c)]) := by
 refine pure_of (walk func_r_Places form_r_Places res_r_Places (by show 2 ≤ _; decide) ?_)
 simp -implicitDefEqProofs (disch := omega) [G_r_Places,wrap_id]
 refine callW_pure rfl (r_CheckSheet_ok f g s hz) ?_
 by_cases h0 : shtE s = 0
 · have hv := val_of h0
   rw [h0]
   simp -implicitDefEqProofs (disch := omega) [wrap_id]
   refine callW_pure rfl (r_IsComb_ok f g s c) ?_
   cases hk : isK s c with
   | false =>
     have e : plsE s c = 2 := by unfold plsE; rw [if_neg (by omega),if_pos hk]
     have e2 : plsL s c = [] := by unfold plsL; rw [if_neg (by omega)]
     rw [e,e2]
     simp -implicitDefEqProofs (disch := omega) [wrap_id]
     exact out_of (is := []) rfl
   | true =>
     have e : plsE s c = 0 := by unfold plsE; rw [if_neg (by omega),if_neg (by rw [hk]; decide)]
     have e2 : plsL s c = plcT s c 501 := by unfold plsL; rw [if_pos e]
     rw [e,e2]
     simp -implicitDefEqProofs (disch := omega) [wrap_id]
     refine loop_eq (fun q : Nat × AV × List HObj => ⟨[(1,I c),(2,.ref 0 0),(6,q.2.1),(7,I (q.1 : Int))],q.2.2⟩) (fun q => q.1 ≤ 501 ∧ AccR q.2.2 q.2.1 (plcT s c q.1) ∧ nthH q.2.2 0 = some (.cells [Ps f s.k,Ps g s.m]) ∧ rid q.2.1 ≠ some 0) (fun q => 501 - q.1) (0,.sl true 0 [],[.cells [Ps f s.k,Ps g s.m]]) ⟨Nat.zero_le _,.inl ⟨rfl,by simp [plcT]⟩,rfl,by simp [rid]⟩ rfl ?_
     rintro ⟨i,x,H⟩ ⟨d1,d2,d3,d4⟩
     simp only at d1 d2 d3 d4 ⊢
     have l0 := nthH_lt d3
     refine hideK' fun K0 hK0 => ?_
     simp -implicitDefEqProofs (disch := omega) [wrap_id]
     refine c_split (fun hc => ?_) (fun hc => ?_)
     · have hi : i < 501 := by simp at hc; omega
       have ix : ((i : Int) + 1) = ((i + 1 : Nat) : Int) := by omega
       have pl := plcT_len (s := s) (c := c) (i := i)
       simp -implicitDefEqProofs (disch := omega) [wrap_id,d3,ldr_some]
       refine callW_pure rfl (r_Bits_ok f g s hv (c,(i : Int)) hk) ?_
       by_cases hb : bitO s (c,(i : Int)) = 0
       · have e : plcT s c (i + 1) = plcT s c i := by rw [plcT_succ,if_neg (by omega)]; simp
         rw [hb]
         simp -implicitDefEqProofs (disch := omega) [wrap_id]
         rw [hK0]
         refine next_eq (i + 1,x,H) ⟨by simp only; omega,by simp only [e]; exact d2,d3,d4⟩ (by simp only; omega) (by simp only [ix])
       · have e : plcT s c (i + 1) = plcT s c i ++ [(i : Int)] := by rw [plcT_succ,if_pos hb]
         have hb2 : ((bitO s (c,(i : Int)) : Int) != 0) = true := by simp; omega
         simp -implicitDefEqProofs (disch := omega) [wrap_id,hb2]
         refine bsl_of (ys := [I (i : Int)]) rfl rfl ?_
         simp -implicitDefEqProofs (disch := omega) [wrap_id,zrep]
         refine app_row d2.row (by omega) fun ws w1 w2 w3 => ?_
         simp -implicitDefEqProofs (disch := omega) [wrap_id]
         rw [hK0]
         refine next_eq (i + 1,.ms H.length 0 ((plcT s c i).length + 1) 1,writeL H ws) ⟨by simp only; omega,.inr ⟨H.length,?_,?_,?_⟩,(w1 0 l0 (fun h => d4 h)).trans d3,?_⟩ (by simp only; omega) (by simp only [ix])
         · simp only [e]; simp
         · simp only [e]; simp
         · simp only [e]; exact w3
         · simp only [rid]; intro h; injection h with h; omega
     · have hi : i = 501 := by simp at hc; omega
       subst hi
       subst hK0
       simp -implicitDefEqProofs (disch := omega) [wrap_id]
       exact d2.tupE
 · have e : plsE s c = shtE s := by unfold plsE; rw [if_pos h0]
   have e2 : plsL s c = [] := by unfold plsL; rw [if_neg (by omega)]
   have h0' : (shtE s != 0) = true := by simp [h0]
   rw [e,e2]
   simp -implicitDefEqProofs (disch := omega) [wrap_id,h0']
   refine callW_pure rfl (r_CheckSheet_ok f g s hz) ?_
   simp -implicitDefEqProofs (disch := omega) [wrap_id]
   exact out_of (is := []) rfl
end Go.AM

namespace Go.AM
open Go.RowKit Go.Proofs
set_option maxHeartbeats 4000000 in
theorem r_Rows_ok (f g : Bool) (s : SH) (h0 : shtE s = 0) : PureOK Tryz.prog n_r_Rows [Sn f g s] (Ps (allR s).isEmpty (allR s)) := by
 have hv := val_of h0
 have hz : SzS s := ⟨by have := hv.k8; omega,by have := hv.m12; omega⟩
 have hk8 := hv.k8
 refine pure_of (walk func_r_Rows form_r_Rows res_r_Rows (by show 1 ≤ _; decide) ?_)
 simp -implicitDefEqProofs (disch := omega) [G_r_Rows,wrap_id]
 refine loop_eq (fun q : Nat × AV × List HObj => ⟨[(1,.ref 0 0),(3,q.2.1),(4,I (q.1 : Int))],q.2.2⟩) (fun q => q.1 ≤ s.k.length ∧ AccK q.2.2 q.2.1 (rwsK s q.1) ∧ nthH q.2.2 0 = some (.cells [Ps f s.k,Ps g s.m]) ∧ rid q.2.1 ≠ some 0) (fun q => s.k.length - q.1) (0,.sl true 0 [],[.cells [Ps f s.k,Ps g s.m]]) ⟨Nat.zero_le _,AccG.nil,rfl,by simp [rid]⟩ rfl ?_
 rintro ⟨i,x,H⟩ ⟨d1,d2,d3,d4⟩
 simp only at d1 d2 d3 d4 ⊢
 refine hideK' fun K0 hK0 => ?_
 simp -implicitDefEqProofs (disch := omega) [wrap_id,d3]
 refine c_split (fun hc => ?_) (fun hc => ?_)
 · have hi : i < s.k.length := by simpa using hc
   have ix : ((i : Int) + 1) = ((i + 1 : Nat) : Int) := by omega
   have hk : isK s (i : Int) = true := by unfold isK; simp; omega
   have e : plsE s (i : Int) = 0 := by unfold plsE; rw [if_neg (by omega),if_neg (by rw [hk]; decide)]
   have e2 : plsL s (i : Int) = plcT s i 501 := by unfold plsL; rw [if_pos e]
   have pl := plcT_len (s := s) (c := (i : Int)) (i := 501)
   have rl := rwsK_len (s := s) (n := i)
   simp -implicitDefEqProofs (disch := omega) [wrap_id,d3,ldr_some]
   refine callW_pure rfl (r_Places_ok f g s hz (i : Int)) ?_
   rw [e,e2]
   have hro : rowOf s i = (plcT s (i : Int) 501).map fun a => ((i : Int),a) := rfl
   generalize plcT s (i : Int) 501 = P at *
   simp -implicitDefEqProofs (disch := omega) [wrap_id]
   refine loop_eq (fun q : Nat × AV × List HObj => ⟨[(1,.ref 0 0),(3,q.2.1),(4,I (i : Int)),(5,Ls P.isEmpty P),(7,I (q.1 : Int))],q.2.2⟩) (fun q => q.1 ≤ P.length ∧ AccK q.2.2 q.2.1 (rwsK s i ++ (P.take q.1).map fun a => ((i : Int),a)) ∧ nthH q.2.2 0 = some (.cells [Ps f s.k,Ps g s.m]) ∧ rid q.2.1 ≠ some 0) (fun q => P.length - q.1) (0,x,H) ⟨Nat.zero_le _,by simpa using d2,d3,d4⟩ rfl ?_
   rintro ⟨j,y,H2⟩ ⟨f1,f2,f3,f4⟩
   simp only at f1 f2 f3 f4 ⊢
   refine hideK' fun K1 hK1 => ?_
   simp -implicitDefEqProofs (disch := omega) [wrap_id]
   refine c_split (fun hc => ?_) (fun hc => ?_)
   · have hj : j < P.length := by simpa using hc
     have jx : ((j : Int) + 1) = ((j + 1 : Nat) : Int) := by omega
     have tk : P.take (j + 1) = P.take j ++ [P[j]] := by rw [List.take_succ_eq_append_getElem hj]
     have ll : (rwsK s i ++ (P.take j).map fun a => ((i : Int),a)).length ≤ 1000000 := by
      rw [List.length_append,List.length_map,List.length_take]
      have : i * 501 ≤ 8 * 501 := Nat.mul_le_mul_right _ (by omega)
      omega
     have eQ : rwsK s i ++ (P.take (j + 1)).map (fun a => ((i : Int),a)) = (rwsK s i ++ (P.take j).map fun a => ((i : Int),a)) ++ [((i : Int),P[j])] := by
      rw [tk,List.map_append,List.append_assoc]; rfl
     generalize (rwsK s i ++ (P.take j).map fun a => ((i : Int),a)) = Q at f2 ll eQ
     simp -implicitDefEqProofs (disch := omega) [wrap_id,cells_ls,hj]
     refine bsl_of (ys := [.agg [I (i : Int),I P[j]]]) rfl rfl ?_
     simp -implicitDefEqProofs (disch := omega) [wrap_id,zrep]
     refine app_accG (ys := [I (i : Int),I P[j]]) f2 (by omega) (by decide) rfl rfl fun ws w1 w2 w3 => ?_
     simp -implicitDefEqProofs (disch := omega) [wrap_id]
     rw [hK1]
     have l0 := nthH_lt f3
     refine next_eq (j + 1,.ms H2.length 0 (Q.length + 1) 2,writeL H2 ws) ⟨by simp only; omega,?_,(w1 0 l0 f4).trans f3,?_⟩ (by simp only; omega) (by simp only [jx])
     · simp only [eQ]
       unfold AccK
       rw [flat2_appK,List.length_append]
       exact w3
     · simp only [rid]; intro e; injection e; omega
   · have hj : j = P.length := by simp at hc; omega
     subst hj
     subst hK1
     simp -implicitDefEqProofs (disch := omega) [wrap_id]
     rw [hK0]
     refine next_eq (i + 1,y,H2) ⟨by simp only; omega,?_,f3,f4⟩ (by simp only; omega) (by simp only [ix])
     simp only [rwsK_succ,hro]
     rw [List.take_length] at f2
     exact f2
 · have hi : i = s.k.length := by simp at hc; omega
   subst hi
   subst hK0
   simp -implicitDefEqProofs (disch := omega) [wrap_id]
   exact AccK.out d2
end Go.AM

namespace Go.AM
open Go.RowKit Go.Proofs
theorem allR_len {s : SH} (hv : ValS s) : (allR s).length ≤ 4008 := by
 have := rwsK_len (s := s) (n := s.k.length)
 have h : s.k.length * 501 ≤ 8 * 501 := Nat.mul_le_mul_right _ hv.k8
 unfold allR; omega
end Go.AM

namespace Go.AM
open Go.RowKit Go.Proofs
theorem and_nat {a c : Nat} (ha : a < 2 ^ 60) (hc : c < 2 ^ 60) : IntKind.i64.wrap ((BitVec.ofInt IntKind.i64.bits (a : Int) &&& BitVec.ofInt IntKind.i64.bits (c : Int)).toNat : Int) = ((a &&& c : Nat) : Int) := by
 have e : (BitVec.ofInt IntKind.i64.bits (a : Int) &&& BitVec.ofInt IntKind.i64.bits (c : Int)).toNat = a &&& c := by
  show (BitVec.ofInt 64 (a : Int) &&& BitVec.ofInt 64 (c : Int)).toNat = a &&& c
  rw [BitVec.toNat_and,BitVec.ofInt_natCast,BitVec.ofInt_natCast,BitVec.toNat_ofNat,BitVec.toNat_ofNat,Nat.mod_eq_of_lt (by omega),Nat.mod_eq_of_lt (by omega)]
 have h : a &&& c < 2 ^ 60 := Nat.and_lt_two_pow _ hc
 rw [e,wrap_id (by omega)]
theorem bw_andN {a c : Nat} {K : AV → List (Nat × HObj) → Prop} (ha : a < 2 ^ 60) (hc : c < 2 ^ 60) : BinW .and (I (a : Int)) (I (c : Int)) K = K (I (andN a c : Int)) [] := by
 rw [b_and,and_nat ha hc]; rfl
set_option maxHeartbeats 8000000 in
theorem r_CheckApart_ok (f g h : Bool) (s : SH) (hz : SzS s) (l : List Int) (hl : l.length ≤ 1000000) : PureOK Tryz.prog n_r_CheckApart [Sn f g s,Ls h l] (I (aprE s l)) := by
 refine pure_of (walk func_r_CheckApart form_r_CheckApart res_r_CheckApart (by show 2 ≤ _; decide) ?_)
 simp -implicitDefEqProofs (disch := omega) [G_r_CheckApart,wrap_id]
 refine callW_pure rfl (r_CheckSheet_ok f g s hz) ?_
 by_cases h0 : shtE s ≠ 0
 · have h0' : (shtE s != 0) = true := by simp [h0]
   rw [show aprE s l = shtE s from by unfold aprE; rw [if_pos h0]]
   simp -implicitDefEqProofs (disch := omega) [wrap_id,h0']
   refine callW_pure rfl (r_CheckSheet_ok f g s hz) ?_
   simp -implicitDefEqProofs (disch := omega) [wrap_id]
 have h0 : shtE s = 0 := by omega
 have hv := val_of h0
 have hm12 := hv.m12
 rw [h0]
 have e0 : aprE s l = if apA s.m.length l = true then 3 else if apR s (allR s) (apT l l.length) = true then 14 else 0 := by unfold aprE; rw [if_neg (by omega)]
 rw [e0]
 simp -implicitDefEqProofs (disch := omega) [wrap_id]
 refine loop_eq (fun i : Nat => ⟨[(1,Ls h l),(2,.ref 0 0),(5,I (apT l i : Nat)),(6,I (i : Int))],[.cells [Ps f s.k,Ps g s.m]]⟩) (fun i => i ≤ l.length ∧ ∀ k,k < i → apB s.m.length l k = false) (fun i => l.length - i) 0 ⟨Nat.zero_le _,fun k hk => by omega⟩ rfl ?_
 rintro i ⟨d1,d2⟩
 refine hideK' fun K0 hK0 => ?_
 simp -implicitDefEqProofs (disch := omega) [wrap_id]
 refine c_split (fun hc => ?_) (fun hc => ?_)
 · have hi : i < l.length := by simpa using hc
   have ix : ((i : Int) + 1) = ((i + 1 : Nat) : Int) := by omega
   have eb : apB s.m.length l i = (decide (l[i] < 0) || decide ((s.m.length : Int) ≤ l[i]) || (decide (0 < i) && decide (l[i] ≤ l.getD (i - 1) 0))) := by unfold apB; rw [getD_atI hi]
   have bad : apB s.m.length l i = true → apA s.m.length l = true := fun hb => List.any_eq_true.2 ⟨i,List.mem_range.2 hi,hb⟩
   by_cases q1 : l[i] < 0
   · rw [if_pos (bad (by rw [eb,decide_eq_true q1]; simp))] at hK0
     subst hK0
     simp -implicitDefEqProofs (disch := omega) [wrap_id,cmp2,nthT,cells_ls,hi,q1]
   by_cases q2 : (s.m.length : Int) ≤ l[i]
   · rw [if_pos (bad (by rw [eb,decide_eq_true q2]; simp))] at hK0
     subst hK0
     simp -implicitDefEqProofs (disch := omega) [wrap_id,cmp2,nthT,cells_ls,hi,q1,q2]
   have fin : apB s.m.length l i = false → ∀ k,k < i + 1 → apB s.m.length l k = false := fun hb k hk => by
    by_cases e : k = i
    · subst e; exact hb
    · exact d2 k (by omega)
   have eT : apT l (i + 1) = orN (apT l i) (pwN l[i].toNat) := by show orN _ (pwN (l.getD i 0).toNat) = _; rw [getD_atI hi]
   have o1 : apT l i < 2 ^ 60 := Nat.lt_of_lt_of_le (apT_small hm12 d2) (Nat.pow_le_pow_right (by decide) (by omega))
   obtain ⟨v,hv2⟩ : ∃ v : Nat,l[i] = v := ⟨l[i].toNat,by omega⟩
   have o2 := pwN_small (i := v) (by omega)
   by_cases q3 : 0 < i
   · have q3' : (0 : Int) < (i : Int) := by omega
     have hj : i - 1 < l.length := by omega
     have iy : ((i : Int) - 1) = ((i - 1 : Nat) : Int) := by omega
     by_cases q4 : l[i] ≤ l[i - 1]
     · rw [if_pos (bad (by rw [eb,getD_atI hj,decide_eq_true q3,decide_eq_true q4]; simp))] at hK0
       subst hK0
       simp -implicitDefEqProofs (disch := omega) [wrap_id,cmp2,nthT,cells_ls,hi,hj,q1,q2,q3,q3',q4,iy]
     · have fin := fin (by rw [eb,getD_atI hj]; simp [q1,q2,q4])
       simp -implicitDefEqProofs (disch := omega) [wrap_id,cmp2,nthT,cells_ls,hi,hj,q1,q2,q3,q3',q4,iy,-b_shl,-b_or]
       rw [hv2] at eT ⊢
       rw [Int.toNat_natCast] at eT
       rw [bw_shl (by omega)]
       simp -implicitDefEqProofs (disch := omega) [wrap_id,-b_or,bw_or,o1,o2]
       rw [hK0]
       exact next_eq (i + 1) ⟨by omega,fin⟩ (by omega) (by simp only [ix,eT])
   · have q3' : ¬ (0 : Int) < (i : Int) := by omega
     have fin := fin (by rw [eb]; simp [q1,q2,q3])
     simp -implicitDefEqProofs (disch := omega) [wrap_id,cmp2,nthT,cells_ls,hi,q1,q2,q3,q3',-b_shl,-b_or]
     rw [hv2] at eT ⊢
     rw [Int.toNat_natCast] at eT
     rw [bw_shl (by omega)]
     simp -implicitDefEqProofs (disch := omega) [wrap_id,-b_or,bw_or,o1,o2]
     rw [hK0]
     exact next_eq (i + 1) ⟨by omega,fin⟩ (by omega) (by simp only [ix,eT])
 have hi : i = l.length := by simp at hc; omega
 subst hi
 subst hK0
 have ea : apA s.m.length l = false := by
  unfold apA
  rw [List.any_eq_false]
  exact fun k hk => by rw [d2 k (List.mem_range.1 hk)]; decide
 rw [if_neg (by rw [ea]; decide)]
 have o1 : apT l l.length < 2 ^ 60 := Nat.lt_of_lt_of_le (apT_small hm12 d2) (Nat.pow_le_pow_right (by decide) (by omega))
 generalize apT l l.length = o at *
 simp -implicitDefEqProofs (disch := omega) [wrap_id]
 refine callW_pure rfl (r_Rows_ok f g s h0) ?_
 have km := fun r (h : r ∈ allR s) => (isK_allR h).1
 have al := allR_len hv
 generalize allR s = R at *
 simp -implicitDefEqProofs (disch := omega) [wrap_id]
 refine loop_eq (fun i : Nat => ⟨[(2,.ref 0 0),(5,I (o : Int)),(7,Ps R.isEmpty R),(8,I (i : Int))],[.cells [Ps f s.k,Ps g s.m]]⟩) (fun i => i ≤ R.length ∧ ∀ k (hk : k < R.length),k < i → ¬ 1 < (bitL (andN (bitO s R[k]) o)).length) (fun i => R.length - i) 0 ⟨Nat.zero_le _,fun k _ hk => by omega⟩ rfl ?_
 rintro i ⟨c1,c2⟩
 refine hideK' fun K0 hK0 => ?_
 simp -implicitDefEqProofs (disch := omega) [wrap_id]
 refine c_split (fun hc => ?_) (fun hc => ?_)
 · have hi : i < R.length := by simpa using hc
   have ix : ((i : Int) + 1) = ((i + 1 : Nat) : Int) := by omega
   have o2 := bitO_60 hv R[i]
   simp -implicitDefEqProofs (disch := omega) [wrap_id,cells_pair,hi]
   refine ⟨flat2_len _,?_⟩
   refine pureW_of rfl (r_Bits_ok f g s hv R[i] (km _ (List.getElem_mem hi))) ?_
   simp -implicitDefEqProofs (disch := omega) [wrap_id,cmp2,nthT,-b_and,bw_andN,o1,o2]
   refine pureW_of rfl (r_List_ok (andN (bitO s R[i]) o) (Nat.and_lt_two_pow _ o1)) ?_
   by_cases e : 1 < (bitL (andN (bitO s R[i]) o)).length
   · have eb : apR s R o = true := List.any_eq_true.2 ⟨_,List.getElem_mem hi,decide_eq_true e⟩
     rw [if_pos eb] at hK0
     subst hK0
     have e' : (1 : Int) < (bitL (andN (bitO s R[i]) o)).length := by omega
     simp -implicitDefEqProofs (disch := omega) [wrap_id,cmp2,nthT,e,e']
   · have e' : ¬ (1 : Int) < (bitL (andN (bitO s R[i]) o)).length := by omega
     simp -implicitDefEqProofs (disch := omega) [wrap_id,cmp2,nthT,e,e']
     rw [hK0]
     refine next_eq (i + 1) ⟨by omega,fun k h1 h2 => ?_⟩ (by omega) (by simp only [ix])
     by_cases e2 : k = i
     · subst e2; exact e
     · exact c2 k h1 (by omega)
 have hi : i = R.length := by simp at hc; omega
 subst hi
 subst hK0
 have eb : apR s R o = false := by
  unfold apR
  rw [List.any_eq_false]
  intro r hr
  obtain ⟨k,hk,rfl⟩ := List.getElem_of_mem hr
  rw [decide_eq_false (c2 k hk hk)]; decide
 rw [if_neg (by rw [eb]; decide)]
 simp -implicitDefEqProofs (disch := omega) [wrap_id]
end Go.AM

set_option maxRecDepth 100000
namespace Go.AM
open Go.RowKit Go.Proofs
abbrev n_l_CombProved : Nat := 8
def G_l_CombProved : AC := (.seq (.rgn [⟨none,[(.box 3 2 (.t 0)),(.mv 6 (.k (B false)))]⟩] [1,2,3]) (.seq (.seq (.rgn [⟨none,[(.ld 13 true 2 (.t 3)),(.call 14 48 [(.t 13)]),(.un 15 .not (.t 14)),(.mv 16 (.t 15))]⟩,⟨(some (16,false)),[(.mv 17 (.t 1)),(.len 18 (.t 17)),(.bin 19 .gtr (.t 18) (.k (I 30)))]⟩,⟨none,[(.pick 20 (.t 16) (.k (B true)) (.t 19)),(.mv 21 (.t 20))]⟩,⟨(some (21,false)),[(.mv 22 (.t 2)),(.len 23 (.t 22)),(.bin 24 .gtr (.t 23) (.k (I 20)))]⟩,⟨none,[(.pick 25 (.t 21) (.k (B true)) (.t 24))]⟩] [1,2,3,25]) (.cond (.t 25) (.seq (.rgn [⟨none,[(.call 26 17 []),(.mv 6 (.t 26))]⟩] [6]) .ret) .skip)) (.seq (.rgn [⟨none,[(.ld 28 true 2 (.t 3)),(.call 29 29 [(.t 28)]),(.mv 27 (.t 29)),(.ext 30 (.t 27) 0),(.ext 31 (.t 27) 1),(.mv 7 (.t 30)),(.mv 8 (.t 31))]⟩] [1,2,3,7,8]) (.seq (.rgn [⟨none,[(.ld 33 true 2 (.t 3)),(.call 34 37 [(.t 33)]),(.mv 32 (.t 34)),(.ext 35 (.t 32) 0),(.ext 36 (.t 32) 1),(.mv 9 (.t 35)),(.mv 10 (.t 36))]⟩] [1,2,3,7,8,9,10]) (.seq (.drw [⟨none,[(.ld 37 true 2 (.t 3)),(.mv 38 (.t 1)),(.call 39 32 [(.t 37),(.t 38)]),(.ld 40 true 2 (.t 3)),(.mv 41 (.t 2)),(.call 42 39 [(.t 40),(.t 41)]),(.mv 11 (.t 39)),(.mv 12 (.t 42))]⟩] [(0,3),(2,3)] [1,2,3,7,8,9,10,11,12]) (.seq (.seq (.rgn [⟨none,[(.mv 43 (.t 10)),(.bin 44 .neq (.t 43) (.k (I 0))),(.mv 45 (.t 44))]⟩,⟨(some (45,false)),[(.ld 46 true 2 (.t 3)),(.mv 47 (.t 9)),(.call 48 39 [(.t 46),(.t 47)]),(.bin 49 .neq (.t 48) (.k (I 0)))]⟩,⟨none,[(.pick 50 (.t 45) (.k (B true)) (.t 49)),(.mv 51 (.t 50))]⟩,⟨(some (51,false)),[(.ld 52 true 2 (.t 3)),(.mv 53 (.t 9)),(.call 54 40 [(.t 52),(.t 53)]),(.bin 55 .neq (.t 54) (.k (I 0)))]⟩,⟨none,[(.pick 56 (.t 51) (.k (B true)) (.t 55)),(.mv 57 (.t 56))]⟩,⟨(some (57,false)),[(.mv 58 (.t 12)),(.bin 59 .eql (.t 58) (.k (I 0))),(.mv 60 (.t 59))]⟩,⟨(some (60,true)),[(.mv 61 (.t 2)),(.len 62 (.t 61)),(.mv 63 (.t 9)),(.len 64 (.t 63)),(.bin 65 .gtr (.t 62) (.t 64))]⟩,⟨(some (57,false)),[(.pick 66 (.t 60) (.t 65) (.k (B false)))]⟩,⟨none,[(.pick 67 (.t 57) (.k (B true)) (.t 66))]⟩] [1,3,7,8,9,11,67]) (.cond (.t 67) (.seq (.rgn [⟨none,[(.mv 6 (.k (B false)))]⟩] [6]) .ret) .skip)) (.seq (.seq (.rgn [⟨none,[(.mv 68 (.t 8)),(.bin 69 .neq (.t 68) (.k (I 0)))]⟩] [1,3,7,8,9,11,69]) (.cond (.t 69) (.seq (.rgn [⟨none,[(.mv 70 (.t 8)),(.bin 71 .eql (.t 70) (.k (I 19))),(.mv 72 (.t 71))]⟩,⟨(some (72,true)),[(.mv 73 (.t 7)),(.len 74 (.t 73)),(.bin 75 .eql (.t 74) (.k (I 0)))]⟩,⟨none,[(.pick 76 (.t 72) (.t 75) (.k (B false))),(.mv 77 (.t 76))]⟩,⟨(some (77,true)),[(.mv 78 (.t 11)),(.bin 79 .neq (.t 78) (.k (I 0)))]⟩,⟨none,[(.pick 80 (.t 77) (.t 79) (.k (B false))),(.mv 81 (.t 80))]⟩,⟨(some (81,true)),[(.call 82 17 [])]⟩,⟨none,[(.pick 83 (.t 81) (.t 82) (.k (B false))),(.mv 6 (.t 83))]⟩] [6]) .ret) .skip)) (.seq (.seq (.rgn [⟨none,[(.ld 84 true 2 (.t 3)),(.mv 85 (.t 7)),(.call 86 32 [(.t 84),(.t 85)]),(.bin 87 .neq (.t 86) (.k (I 0))),(.mv 88 (.t 87))]⟩,⟨(some (88,false)),[(.ld 89 true 2 (.t 3)),(.mv 90 (.t 7)),(.call 91 33 [(.t 89),(.t 90)]),(.bin 92 .neq (.t 91) (.k (I 0)))]⟩,⟨none,[(.pick 93 (.t 88) (.k (B true)) (.t 92)),(.mv 94 (.t 93))]⟩,⟨(some (94,false)),[(.mv 95 (.t 7)),(.len 96 (.t 95)),(.mv 97 (.t 9)),(.len 98 (.t 97)),(.bin 99 .lss (.t 96) (.t 98))]⟩,⟨none,[(.pick 100 (.t 94) (.k (B true)) (.t 99)),(.mv 101 (.t 100))]⟩,⟨(some (101,false)),[(.mv 102 (.t 7)),(.len 103 (.t 102)),(.fa 104 (.t 3) 1),(.ld 105 false 1 (.t 104)),(.len 106 (.t 105)),(.bin 107 .gtr (.t 103) (.t 106))]⟩,⟨none,[(.pick 108 (.t 101) (.k (B true)) (.t 107))]⟩] [1,7,11,108]) (.cond (.t 108) (.seq (.rgn [⟨none,[(.mv 6 (.k (B false)))]⟩] [6]) .ret) .skip)) (.seq (.rgn [⟨none,[(.mv 109 (.t 11)),(.bin 110 .neq (.t 109) (.k (I 0))),(.mv 111 (.t 110))]⟩,⟨(some (111,false)),[(.mv 112 (.t 1)),(.len 113 (.t 112)),(.mv 114 (.t 7)),(.len 115 (.t 114)),(.bin 116 .geq (.t 113) (.t 115))]⟩,⟨none,[(.pick 117 (.t 111) (.k (B true)) (.t 116)),(.mv 118 (.t 117))]⟩,⟨(some (118,true)),[(.call 119 17 [])]⟩,⟨none,[(.pick 120 (.t 118) (.t 119) (.k (B false))),(.mv 6 (.t 120))]⟩] [6]) .ret)))))))))
theorem func_l_CombProved : Tryz.prog.funcs[n_l_CombProved]? = some Tryz.f8 := Tryz.func8
theorem form_l_CombProved : formOf Tryz.prog Tryz.f8 [6] = some G_l_CombProved := by kernel_rfl
theorem res_l_CombProved : resTmps Tryz.f8.results.toList = some [6] := by kernel_rfl
abbrev n_l_great : Nat := 16
def G_l_great : AC := (.seq (.rgn [⟨none,[(.box 1 2 (.t 0)),(.mv 2 (.k (B false)))]⟩] [1]) (.seq (.rgn [⟨none,[(.fa 3 (.t 1) 0),(.ld 4 false 1 (.t 3)),(.len 5 (.t 4)),(.bin 6 .gtr (.t 5) (.k (I 12))),(.mv 7 (.t 6))]⟩,⟨(some (7,false)),[(.fa 8 (.t 1) 1),(.ld 9 false 1 (.t 8)),(.len 10 (.t 9)),(.bin 11 .gtr (.t 10) (.k (I 18)))]⟩,⟨none,[(.pick 12 (.t 7) (.k (B true)) (.t 11)),(.mv 2 (.t 12))]⟩] [2]) .ret))
theorem func_l_great : Tryz.prog.funcs[n_l_great]? = some Tryz.f16 := Tryz.func16
theorem form_l_great : formOf Tryz.prog Tryz.f16 [2] = some G_l_great := by kernel_rfl
theorem res_l_great : resTmps Tryz.f16.results.toList = some [2] := by kernel_rfl
abbrev n_l_fine : Nat := 48
def G_l_fine : AC := (.seq (.rgn [⟨none,[(.box 1 2 (.t 0)),(.mv 2 (.k (B false)))]⟩] [1]) (.seq (.rgn [⟨none,[(.ld 3 true 2 (.t 1)),(.call 4 16 [(.t 3)]),(.un 5 .not (.t 4)),(.mv 6 (.t 5))]⟩,⟨(some (6,true)),[(.ld 7 true 2 (.t 1)),(.call 8 25 [(.t 7)]),(.bin 9 .eql (.t 8) (.k (I 0)))]⟩,⟨none,[(.pick 10 (.t 6) (.t 9) (.k (B false))),(.mv 2 (.t 10))]⟩] [2]) .ret))
theorem func_l_fine : Tryz.prog.funcs[n_l_fine]? = some Tryz.f48 := Tryz.func48
theorem form_l_fine : formOf Tryz.prog Tryz.f48 [2] = some G_l_fine := by kernel_rfl
theorem res_l_fine : resTmps Tryz.f48.results.toList = some [2] := by kernel_rfl
end Go.AM

namespace Go.AM
open Go.RowKit Go.Proofs
def grtK (s : SH) : Bool := decide (12 < s.k.length) || decide (18 < s.m.length)
theorem grtK_sz {s : SH} (h : grtK s = false) : SzS s ∧ s.k.length ≤ 12 ∧ s.m.length ≤ 18 := by
 unfold grtK at h
 simp only [Bool.or_eq_false_iff,decide_eq_false_iff_not] at h
 exact ⟨⟨by omega,by omega⟩,by omega,by omega⟩
theorem lk_great_ok (f g : Bool) (s : SH) : PureOK Tryz.prog n_l_great [Sn f g s] (B (grtK s)) := by
 refine pure_of (walk func_l_great form_l_great res_l_great (by show 1 ≤ _; decide) ?_)
 simp -implicitDefEqProofs (disch := omega) [G_l_great,wrap_id]
 unfold grtK
 have e1 : decide ((12 : Int) < (s.k.length : Int)) = decide (12 < s.k.length) := by rw [decide_eq_decide]; omega
 have e2 : decide ((18 : Int) < (s.m.length : Int)) = decide (18 < s.m.length) := by rw [decide_eq_decide]; omega
 cases h : decide (12 < s.k.length) with
 | true =>
   rw [h] at e1
   simp -implicitDefEqProofs (disch := omega) [wrap_id,e1]
 | false =>
   rw [h] at e1
   simp -implicitDefEqProofs (disch := omega) [wrap_id,e1,e2]
def finK (s : SH) : Bool := !grtK s && decide (shtE s = 0)
theorem lk_fine_ok (f g : Bool) (s : SH) : PureOK Tryz.prog n_l_fine [Sn f g s] (B (finK s)) := by
 refine pure_of (walk func_l_fine form_l_fine res_l_fine (by show 1 ≤ _; decide) ?_)
 simp -implicitDefEqProofs (disch := omega) [G_l_fine,wrap_id]
 refine callW_pure rfl (lk_great_ok f g s) ?_
 unfold finK
 cases hg : grtK s with
 | true => simp -implicitDefEqProofs (disch := omega) [wrap_id]
 | false =>
   obtain ⟨hz,_⟩ := grtK_sz hg
   simp -implicitDefEqProofs (disch := omega) [wrap_id]
   refine callW_pure rfl (r_CheckSheet_ok f g s hz) ?_
   by_cases h : shtE s = 0
   · rw [h]
     simp -implicitDefEqProofs (disch := omega) [wrap_id]
   · have h' : (shtE s == 0) = false := by rw [beq_eq_false_iff_ne]; exact h
     simp -implicitDefEqProofs (disch := omega) [wrap_id,h',h]
end Go.AM

namespace Go.AM
open Go.RowKit Go.Proofs
theorem bitL_60 {n : Nat} : (bitL n).length ≤ 60 := bitT_len
theorem apaL_len {s : SH} : (apaL s).length ≤ 60 := by
 unfold apaL
 split
 · obtain ⟨⟨b,_,_,e⟩,_⟩ := bst_max (s := s) (i := pwN s.m.length)
   rw [← e]; exact bitL_60
 · exact Nat.zero_le _
end Go.AM

namespace Go.AM
open Go.RowKit Go.Proofs
theorem mpp2 {c : List AV} : NoMpp [HObj.cells c] := mpp_list rfl
end Go.AM

namespace Go.AM
open Go.RowKit Go.Proofs
theorem apK_R {s : SH} {R : List (Int × Int)} {b : Nat} : apK s R b R.length = true ↔ apR s R b = false := by
 unfold apK apR
 rw [List.all_eq_true,List.any_eq_false]
 constructor
 · intro h r hr
   obtain ⟨j,hj,rfl⟩ := List.mem_iff_getElem.1 hr
   have := h j (List.mem_range.2 hj)
   rw [getD_at hj] at this
   simp at this ⊢; omega
 · intro h k hk
   have hk := List.mem_range.1 hk
   have := h R[k] (List.getElem_mem hk)
   rw [getD_at hk]
   simp at this ⊢; omega
theorem apT_bitR {l : List Int} {k : Nat} : ∀ {i : Nat},(apT l i).testBit k = true ↔ ∃ j,j < i ∧ (l.getD j 0).toNat = k
 | 0 => by simp [apT]
 | i + 1 => by
   unfold apT
   rw [orN_bit,Bool.or_eq_true,apT_bitR,pwN_bit,decide_eq_true_eq]
   constructor
   · rintro (⟨j,h1,h2⟩ | h)
     · exact ⟨j,by omega,h2⟩
     · exact ⟨i,by omega,h⟩
   · rintro ⟨j,h1,h2⟩
     by_cases e : j = i
     · subst e; exact .inr h2
     · exact .inl ⟨j,by omega,h2⟩
theorem apa_bits {s : SH} (h0 : shtE s = 0) : ∃ b,apR s (allR s) b = false ∧ b < pwN s.m.length ∧ apaL s = bitL b ∧ ∀ c,c < pwN s.m.length → apR s (allR s) c = false → (bitL c).length ≤ (apaL s).length := by
 have hv := val_of h0
 have w := pw_12 hv
 obtain ⟨⟨b,h1,h2,h3⟩,h4⟩ := bst_max (s := s) (i := pwN s.m.length)
 have ea : apaL s = bstT s (pwN s.m.length) := by unfold apaL; rw [if_pos h0]
 refine ⟨b,apK_R.1 h1,by omega,by rw [ea,h3],fun c hc hr => ?_⟩
 have := h4 c hc (apK_R.2 hr)
 rw [ea]
 unfold Bt at this
 omega
theorem ap_inc {n : Nat} {l : List Int} (h : apA n l = false) : (∀ j (hj : j < l.length),0 ≤ l[j] ∧ l[j] < n) ∧ l.Pairwise (· < ·) := by
 unfold apA at h
 rw [List.any_eq_false] at h
 have key : ∀ j (hj : j < l.length),0 ≤ l[j] ∧ l[j] < (n : Int) ∧ (0 < j → l.getD (j - 1) 0 < l[j]) := fun j hj => by
  have := h j (List.mem_range.2 hj)
  unfold apB at this
  rw [getD_atI hj] at this
  simp only [Bool.or_eq_true,Bool.and_eq_true,decide_eq_true_eq,not_or,not_and] at this
  exact ⟨by omega,by omega,fun h0 => by have := this.2 h0; omega⟩
 refine ⟨fun j hj => ⟨(key j hj).1,(key j hj).2.1⟩,?_⟩
 rw [List.pairwise_iff_getElem]
 intro i j hi hj hij
 induction j with
 | zero => omega
 | succ j ih =>
   have := (key (j + 1) hj).2.2 (by omega)
   rw [Nat.add_sub_cancel,getD_atI (by omega)] at this
   by_cases e : i = j
   · subst e; exact this
   · have := ih (by omega) (by omega)
     omega
theorem apT_lt {n : Nat} (hn : n ≤ 12) {l : List Int} (h : apA n l = false) : apT l l.length < 2 ^ n := apT_small hn fun k hk => by
 unfold apA at h
 rw [List.any_eq_false] at h
 have := h k (List.mem_range.2 hk)
 simpa using this
theorem apT_len {n : Nat} (hn : n ≤ 12) {l : List Int} (h : apA n l = false) : l.length ≤ (bitL (apT l l.length)).length := by
 obtain ⟨h1,h2⟩ := ap_inc h
 have lt : apT l l.length < 4096 := Nat.lt_of_lt_of_le (apT_lt hn h) (Nat.pow_le_pow_right (by decide) hn)
 have nd : l.Nodup := h2.imp fun h => by omega
 refine nd.length_le_of_subset fun x hx => ?_
 obtain ⟨j,hj,rfl⟩ := List.mem_iff_getElem.1 hx
 have a := (h1 j hj).1
 have e : l[j] = ((l[j].toNat : Nat) : Int) := by omega
 rw [e,bitL_mem lt,apT_bitR]
 exact ⟨j,hj,by rw [getD_atI hj]⟩
theorem apa_most {s : SH} {l : List Int} (h : aprE s l = 0) : l.length ≤ (apaL s).length := by
 unfold aprE at h
 split at h
 · omega
 rename_i h0
 have h0 : shtE s = 0 := by omega
 have hv := val_of h0
 split at h
 · cases h
 rename_i h1
 split at h
 · cases h
 rename_i h2
 have h1 : apA s.m.length l = false := by simpa using h1
 have h2 : apR s (allR s) (apT l l.length) = false := by simpa using h2
 obtain ⟨b,_,_,_,h4⟩ := apa_bits h0
 have := h4 _ (apT_lt hv.m12 h1) h2
 have := apT_len hv.m12 h1
 omega
theorem apT_bits {b n : Nat} (hb : b < 4096) : apT (bitL b) (bitL b).length = b := by
 refine Nat.eq_of_testBit_eq fun k => ?_
 rw [Bool.eq_iff_iff,apT_bitR]
 constructor
 · rintro ⟨j,hj,h⟩
   rw [getD_atI hj] at h
   have hm : (bitL b)[j] ∈ bitL b := List.getElem_mem hj
   obtain ⟨x,hx,_,hb2⟩ := bitT_mem.1 hm
   rw [hx] at h
   have : x = k := by omega
   subst this; exact hb2
 · intro h
   obtain ⟨j,hj,e⟩ := List.mem_iff_getElem.1 ((bitL_mem hb).2 h)
   exact ⟨j,hj,by rw [getD_atI hj,e]; rfl⟩
theorem apa_ok {s : SH} (h0 : shtE s = 0) : aprE s (apaL s) = 0 := by
 have hv := val_of h0
 have hm12 := hv.m12
 have w := pw_12 hv
 obtain ⟨b,h1,h2,h3,_⟩ := apa_bits h0
 rw [h3]
 unfold aprE
 rw [if_neg (by omega),if_neg,if_neg]
 · rw [apT_bits (n := 0) (by omega),h1]; decide
 · rw [Bool.not_eq_true]
   unfold apA
   rw [List.any_eq_false]
   intro j hj
   have hj := List.mem_range.1 hj
   have hm : (bitL b)[j] ∈ bitL b := List.getElem_mem hj
   obtain ⟨x,hx,_,hb2⟩ := bitT_mem.1 hm
   have xl : x < s.m.length := by
    refine Classical.byContradiction fun hh => ?_
    rw [Nat.testBit_lt_two_pow (Nat.lt_of_lt_of_le (show b < 2 ^ s.m.length from h2) (Nat.pow_le_pow_right (by decide) (by omega)))] at hb2
    cases hb2
   unfold apB
   rw [getD_atI hj,hx]
   simp only [Bool.or_eq_true,Bool.and_eq_true,decide_eq_true_eq,not_or,not_and]
   refine ⟨⟨by omega,by omega⟩,fun hj0 => ?_⟩
   have := (List.pairwise_iff_getElem.1 (bitL_sorted (n := b))) (j - 1) j (by omega) hj (by omega)
   rw [getD_atI (by omega),← hx]
   omega
theorem apa_rows {s : SH} (h0 : shtE s = 0) {R : List (Int × Int)} (hB : Bst s R) : (apaL s).length ≤ R.length := by
 have hv := val_of h0
 have w := pw_12 hv
 obtain ⟨b,h1,h2,h3,_⟩ := apa_bits h0
 rw [h3]
 have sel : ∀ x : Int,∃ j : Nat,x ∈ bitL b → j < R.length ∧ (bitO s (gR R j)).testBit x.toNat = true := fun x => by
  by_cases hx : x ∈ bitL b
  · obtain ⟨k,rfl,_,hk⟩ := bitT_mem.1 hx
    have ha : (allN s).testBit k = true := by
     unfold allN
     rw [show pwN s.m.length = 2 ^ s.m.length from rfl,Nat.testBit_two_pow_sub_one,decide_eq_true_eq]
     refine Classical.byContradiction fun hh => ?_
     rw [Nat.testBit_lt_two_pow (Nat.lt_of_lt_of_le (show b < 2 ^ s.m.length from h2) (Nat.pow_le_pow_right (by decide) (by omega)))] at hk
     cases hk
    rw [← hB.all,foldl_bit,Nat.zero_testBit,Bool.false_or,List.any_map,List.any_eq_true] at ha
    obtain ⟨r,hr,h⟩ := ha
    obtain ⟨j,hj,rfl⟩ := List.mem_iff_getElem.1 hr
    exact ⟨j,fun _ => ⟨hj,by rw [gR_at hj]; exact h⟩⟩
  · exact ⟨0,fun h => absurd h hx⟩
 have : ∃ f : Int → Nat,∀ x ∈ bitL b,f x < R.length ∧ (bitO s (gR R (f x))).testBit x.toNat = true := ⟨fun x => Classical.choose (sel x),fun x hx => Classical.choose_spec (sel x) hx⟩
 obtain ⟨f,hf⟩ := this
 have inj : ∀ x ∈ bitL b,∀ y ∈ bitL b,f x = f y → x = y := fun x hx y hy e => by
  refine Classical.byContradiction fun hne => ?_
  obtain ⟨a1,a2⟩ := hf x hx
  obtain ⟨b1,b2⟩ := hf y hy
  rw [← e] at b2
  obtain ⟨i,rfl,_,hi⟩ := bitT_mem.1 hx
  obtain ⟨k,rfl,_,hk⟩ := bitT_mem.1 hy
  simp only [Int.toNat_natCast] at a2 b2
  have two : 1 < (bitL (andN (bitO s (gR R (f (i : Int)))) b)).length := (cnt_two (Nat.lt_of_le_of_lt Nat.and_le_left (by have := bitO_small hv (gR R (f (i : Int))); have := w.1; unfold pwN at this; omega))).2 ⟨i,k,by omega,by rw [Nat.testBit_and,a2,hi]; rfl,by rw [Nat.testBit_and,b2,hk]; rfl⟩
  unfold apR at h1
  rw [List.any_eq_false] at h1
  have := h1 _ (hB.mem (gR R (f (i : Int))) (by rw [gR_at a1]; exact List.getElem_mem a1))
  simp at this
  omega
 have key : ∀ l : List Int,(∀ x ∈ l,x ∈ bitL b) → l.Nodup → (l.map f).Nodup := by
  intro l
  induction l with
  | nil => intro _ _; exact List.nodup_nil
  | cons x l ih =>
    intro hs hn
    rw [List.nodup_cons] at hn
    rw [List.map_cons,List.nodup_cons]
    refine ⟨fun hx => ?_,ih (fun k hk => hs k (by simp [hk])) hn.2⟩
    obtain ⟨y,hy,e⟩ := List.mem_map.1 hx
    have := inj y (hs y (by simp [hy])) x (hs x (by simp)) e
    subst this; exact hn.1 hy
 have nd := key _ (fun x h => h) ((bitL_sorted (n := b)).imp fun h => by omega)
 have := nd.length_le_of_subset (l₂ := List.range R.length) fun j hj => by
  obtain ⟨x,hx,rfl⟩ := List.mem_map.1 hj
  exact List.mem_range.2 (hf x hx).1
 rwa [List.length_map,List.length_range] at this
theorem rws_of {s : SH} {R : List (Int × Int)} (h : rwsE2 s R = 0) : shtE s = 0 ∧ (∀ r ∈ R,r ∈ allR s) ∧ (R.map fun r => bitO s r).foldl orN 0 = allN s := by
 unfold rwsE2 at h
 split at h
 · omega
 rename_i h0
 split at h
 · cases h
 split at h
 · cases h
 rename_i h2
 split at h
 · cases h
 rename_i h3
 split at h
 · cases h
 split at h
 · cases h
 rename_i h5
 have h0 : shtE s = 0 := by omega
 refine ⟨h0,fun r hr => ?_,?_⟩
 · have h2 : R.all (fun r => isK s r.1) = true := by simpa using h2
   have h3 : R.any (fun r => decide (bitO s r = 0)) = false := by simpa using h3
   refine mem_allR (List.all_eq_true.1 h2 r hr) ?_
   have := (List.any_eq_false.1 h3) r hr
   simpa using this
 · rw [foldl_or_le]
   unfold allN
   exact Classical.byContradiction fun h => h5 (by simpa using h)
theorem rws_rk {s : SH} {R : List (Int × Int)} (h : rwsE2 s R = 0) : RkR s (allR s) 0 R.length (allN s) := by
 obtain ⟨_,h1,h2⟩ := rws_of h
 exact ⟨R.map fun r => bitO s r,by simp,fun k hk => by
  obtain ⟨r,hr,rfl⟩ := List.mem_map.1 hk
  exact ⟨r,h1 r hr,rfl⟩,h2⟩
theorem rws_few {s : SH} {R B : List (Int × Int)} (h : rwsE2 s R = 0) (hB : Bst s B) : B.length ≤ R.length := Classical.byContradiction fun hn => hB.few _ (by omega) (rws_rk h)
theorem rws_lost {s : SH} {R : List (Int × Int)} (h : rwsE2 s R = 0) : lostL s = [] := by
 obtain ⟨h0,h1,h2⟩ := rws_of h
 have hv := val_of h0
 have w := pw_12 hv
 rw [lost_nil hv]
 have lt : allB s (allR s) < pwN s.m.length := orT_small hv
 refine Nat.eq_of_testBit_eq fun k => ?_
 rw [Bool.eq_iff_iff]
 constructor
 · intro h
   unfold allN
   rw [show pwN s.m.length = 2 ^ s.m.length from rfl,Nat.testBit_two_pow_sub_one,decide_eq_true_eq]
   refine Classical.byContradiction fun hh => ?_
   rw [Nat.testBit_lt_two_pow (Nat.lt_of_lt_of_le (show allB s (allR s) < 2 ^ s.m.length from lt) (Nat.pow_le_pow_right (by decide) (by omega)))] at h
   cases h
 · intro h
   rw [← h2,foldl_bit,Nat.zero_testBit,Bool.false_or,List.any_map,List.any_eq_true] at h
   obtain ⟨r,hr,h⟩ := h
   rw [orT_bit,List.any_eq_true]
   exact ⟨r,h1 r hr,h⟩
end Go.AM

namespace Go.AM
open Go.RowKit Go.Proofs
set_option maxHeartbeats 8000000 in
theorem lawProved (f g h k : Bool) (s : SH) (R : List (Int × Int)) (l : List Int) : PureOK Tryz.prog n_l_CombProved [Sn f g s,Ps h R,Ls k l] (B true) := by
 refine pure_of (walk func_l_CombProved form_l_CombProved res_l_CombProved (by show 3 ≤ _; decide) ?_)
 simp -implicitDefEqProofs (disch := omega) [G_l_CombProved,wrap_id]
 refine callW_pure (ys := [Sn f g s]) (ids := []) rfl (lk_fine_ok f g s) ?_
 cases hg : finK s with
 | false =>
   simp -implicitDefEqProofs (disch := omega) [wrap_id]
   refine callW_pure rfl lk_Works_ok ?_
   simp -implicitDefEqProofs (disch := omega) [wrap_id]
 | true =>
   have hf : grtK s = false ∧ shtE s = 0 := by
    unfold finK at hg
    simpa using hg
   obtain ⟨hz,_,_⟩ := grtK_sz hf.1
   have h0 := hf.2
   have hv := val_of h0
   have hm12 := hv.m12
   by_cases hR : 30 < R.length
   · have hR' : (30 : Int) < (R.length : Int) := by omega
     simp -implicitDefEqProofs (disch := omega) [wrap_id,hR,hR']
     refine callW_pure rfl lk_Works_ok ?_
     simp -implicitDefEqProofs (disch := omega) [wrap_id]
   have hR' : ¬ (30 : Int) < (R.length : Int) := by omega
   by_cases hl : 20 < l.length
   · have hl' : (20 : Int) < (l.length : Int) := by omega
     simp -implicitDefEqProofs (disch := omega) [wrap_id,hR,hR',hl,hl']
     refine callW_pure rfl lk_Works_ok ?_
     simp -implicitDefEqProofs (disch := omega) [wrap_id]
   have hl' : ¬ (20 : Int) < (l.length : Int) := by omega
   have al := apaL_len (s := s)
   have ca := apa_ok h0
   simp -implicitDefEqProofs (disch := omega) [wrap_id,hR,hR',hl,hl']
   refine k_Best_v hz mpp2 (fun hb => ?_) (fun hb _ hL B hB0 hB hO => ?_)
   · have h19 : whE s [] = 19 ∧ rwsE2 s R ≠ 0 := by
      unfold whE at hb ⊢
      rw [if_neg (by omega),if_neg (by simp)] at hb ⊢
      by_cases hL : lostL s = []
      · rw [if_neg (by simp [hL])] at hb; exact absurd rfl hb
      · rw [if_pos hL]; exact ⟨rfl,fun h => hL (rws_lost h)⟩
     obtain ⟨h19,hr⟩ := h19
     have hr' : (rwsE2 s R != 0) = true := by simp [hr]
     rw [h19]
     simp -implicitDefEqProofs (disch := omega) [wrap_id]
     refine callW_pure (ys := [Sn f g s]) (ids := []) rfl (k_Apart_ok f g s hz) ?_
     rw [h0]
     simp -implicitDefEqProofs (disch := omega) [wrap_id]
     refine pureW_of (ys := [Sn f g s,Ps h R]) (ids := []) rfl (k_CheckRows_ok f g h s hz R (by omega)) ?_
     simp -implicitDefEqProofs (disch := omega) [wrap_id]
     refine pureW_of (ys := [Sn f g s,Ls k l]) (ids := []) rfl (k_CheckApart_ok f g k s hz l (by omega)) ?_
     simp -implicitDefEqProofs (disch := omega) [wrap_id,cmp2,nthT,disj]
     refine callW_pure (ys := [Sn f g s,Ls (apaL s).isEmpty (apaL s)]) (ids := []) rfl (k_CheckApart_ok f g _ s hz (apaL s) (by omega)) ?_
     rw [ca]
     simp -implicitDefEqProofs (disch := omega) [wrap_id]
     refine callW_pure (ys := [Sn f g s,Ls (apaL s).isEmpty (apaL s)]) (ids := []) rfl (r_CheckApart_ok f g _ s hz (apaL s) (by omega)) ?_
     rw [ca]
     simp -implicitDefEqProofs (disch := omega) [wrap_id]
     by_cases hq : aprE s l = 0
     · have := apa_most hq
       have ng : ¬ (apaL s).length < l.length := by omega
       have ng' : ¬ ((apaL s).length : Int) < (l.length : Int) := by omega
       have hq' : (aprE s l == 0) = true := by simp [hq]
       simp -implicitDefEqProofs (disch := omega) [wrap_id,hq,hq',ng,ng',hr']
       refine callW_pure rfl lk_Works_ok ?_
       simp -implicitDefEqProofs (disch := omega) [wrap_id]
     · have hq' : (aprE s l == 0) = false := by simp [hq]
       simp -implicitDefEqProofs (disch := omega) [wrap_id,hq,hq',hr']
       refine callW_pure rfl lk_Works_ok ?_
       simp -implicitDefEqProofs (disch := omega) [wrap_id]
   · have cB := bst_rws h0 hB hO
     have lB := hB.len
     have lA := apa_rows h0 hB
     have n1 : ¬ B.length < (apaL s).length := by omega
     have n1' : ¬ (B.length : Int) < ((apaL s).length : Int) := by omega
     have n2 : ¬ s.m.length < B.length := by omega
     have n2' : ¬ (s.m.length : Int) < (B.length : Int) := by omega
     simp -implicitDefEqProofs (disch := omega) [wrap_id]
     refine callW_pure (ys := [Sn f g s]) (ids := []) rfl (k_Apart_ok f g s hz) ?_
     rw [h0]
     simp -implicitDefEqProofs (disch := omega) [wrap_id]
     refine pureW_of (ys := [Sn f g s,Ps h R]) (ids := []) rfl (k_CheckRows_ok f g h s hz R (by omega)) ?_
     simp -implicitDefEqProofs (disch := omega) [wrap_id]
     refine pureW_of (ys := [Sn f g s,Ls k l]) (ids := []) rfl (k_CheckApart_ok f g k s hz l (by omega)) ?_
     simp -implicitDefEqProofs (disch := omega) [wrap_id,cmp2,nthT,disj]
     refine callW_pure (ys := [Sn f g s,Ls (apaL s).isEmpty (apaL s)]) (ids := []) rfl (k_CheckApart_ok f g _ s hz (apaL s) (by omega)) ?_
     rw [ca]
     simp -implicitDefEqProofs (disch := omega) [wrap_id]
     refine callW_pure (ys := [Sn f g s,Ls (apaL s).isEmpty (apaL s)]) (ids := []) rfl (r_CheckApart_ok f g _ s hz (apaL s) (by omega)) ?_
     rw [ca]
     simp -implicitDefEqProofs (disch := omega) [wrap_id]
     by_cases hq : aprE s l = 0
     · have := apa_most hq
       have ng : ¬ (apaL s).length < l.length := by omega
       have ng' : ¬ ((apaL s).length : Int) < (l.length : Int) := by omega
       have hq' : (aprE s l == 0) = true := by simp [hq]
       simp -implicitDefEqProofs (disch := omega) [wrap_id,hq,hq',ng,ng']
       refine callW_pure (ys := [Sn f g s,Ps false B]) (ids := []) rfl (k_CheckRows_ok f g false s hz B (by omega)) ?_
       rw [cB]
       simp -implicitDefEqProofs (disch := omega) [wrap_id]
       refine callW_pure (ys := [Sn f g s,Ps false B]) (ids := []) rfl (r_CheckRows_ok f g false s hz B (by omega)) ?_
       rw [cB]
       simp -implicitDefEqProofs (disch := omega) [wrap_id,n1,n1',n2,n2']
       by_cases hr : rwsE2 s R = 0
       · have hle := rws_few hr hB
         have hr' : (rwsE2 s R != 0) = false := by simp [hr]
         have hle' : (B.length : Int) ≤ (R.length : Int) := by omega
         simp -implicitDefEqProofs (disch := omega) [wrap_id,hr,hr',hle,hle']
         refine callW_pure rfl lk_Works_ok ?_
         simp -implicitDefEqProofs (disch := omega) [wrap_id]
       · have hr' : (rwsE2 s R != 0) = true := by simp [hr]
         simp -implicitDefEqProofs (disch := omega) [wrap_id,hr,hr']
         refine callW_pure rfl lk_Works_ok ?_
         simp -implicitDefEqProofs (disch := omega) [wrap_id]
     · have hq' : (aprE s l == 0) = false := by simp [hq]
       simp -implicitDefEqProofs (disch := omega) [wrap_id,hq,hq']
       refine callW_pure (ys := [Sn f g s,Ps false B]) (ids := []) rfl (k_CheckRows_ok f g false s hz B (by omega)) ?_
       rw [cB]
       simp -implicitDefEqProofs (disch := omega) [wrap_id]
       refine callW_pure (ys := [Sn f g s,Ps false B]) (ids := []) rfl (r_CheckRows_ok f g false s hz B (by omega)) ?_
       rw [cB]
       simp -implicitDefEqProofs (disch := omega) [wrap_id,n1,n1',n2,n2']
       by_cases hr : rwsE2 s R = 0
       · have hle := rws_few hr hB
         have hr' : (rwsE2 s R != 0) = false := by simp [hr]
         have hle' : (B.length : Int) ≤ (R.length : Int) := by omega
         simp -implicitDefEqProofs (disch := omega) [wrap_id,hr,hr',hle,hle']
         refine callW_pure rfl lk_Works_ok ?_
         simp -implicitDefEqProofs (disch := omega) [wrap_id]
       · have hr' : (rwsE2 s R != 0) = true := by simp [hr]
         simp -implicitDefEqProofs (disch := omega) [wrap_id,hr,hr']
         refine callW_pure rfl lk_Works_ok ?_
         simp -implicitDefEqProofs (disch := omega) [wrap_id]
end Go.AM
