/-
  KxSh2: texts joined: FmCF Cb4 Cb5 Cb6 Cb7 FmCL Lc1 Ld1. Own work.
-/
import Derived.Test.YtfpfnlnmilndmaaGreatDoorKxSh1
import Derived.Test.YtfpfnlnmilndmaaGreatDoorProg
set_option linter.unusedSimpArgs false
set_option linter.unusedVariables false

set_option maxRecDepth 100000
namespace Go.AM
open Go.RowKit Go.Proofs
abbrev n_r_Has : Nat := 19
def G_r_Has : AC := (.seq (.rgn [⟨none,[(.box 2 2 (.t 0)),(.box 3 2 (.t 1)),(.mv 4 (.k (.sl true 0 []))),(.mv 5 (.k (I 0)))]⟩] [2,3]) (.seq (.seq (.rgn [⟨none,[(.ld 6 true 2 (.t 2)),(.call 7 25 [(.t 6)]),(.bin 8 .neq (.t 7) (.k (I 0)))]⟩] [2,3,8]) (.cond (.t 8) (.seq (.rgn [⟨none,[(.ld 9 true 2 (.t 2)),(.call 10 25 [(.t 9)]),(.mv 4 (.k (.sl true 0 []))),(.mv 5 (.t 10))]⟩] [4,5]) .ret) .skip)) (.seq (.seq (.rgn [⟨none,[(.ld 11 true 2 (.t 2)),(.fa 12 (.t 3) 0),(.ld 13 false 1 (.t 12)),(.call 14 61 [(.t 11),(.t 13)]),(.un 15 .not (.t 14))]⟩] [2,3,15]) (.cond (.t 15) (.seq (.rgn [⟨none,[(.mv 4 (.k (.sl true 0 []))),(.mv 5 (.k (I 2)))]⟩] [4,5]) .ret) .skip)) (.seq (.seq (.rgn [⟨none,[(.ld 16 true 2 (.t 2)),(.ld 17 true 2 (.t 3)),(.call 18 62 [(.t 16),(.t 17)]),(.bin 19 .eql (.t 18) (.k (I 0)))]⟩] [2,3,19]) (.cond (.t 19) (.seq (.rgn [⟨none,[(.mv 4 (.k (.sl true 0 []))),(.mv 5 (.k (I 19)))]⟩] [4,5]) .ret) .skip)) (.seq (.rgn [⟨none,[(.ld 20 true 2 (.t 2)),(.ld 21 true 2 (.t 3)),(.call 22 62 [(.t 20),(.t 21)]),(.call 23 52 [(.t 22)]),(.mv 4 (.t 23)),(.mv 5 (.k (I 0)))]⟩] [4,5]) .ret)))))
theorem func_r_Has : Tryz.prog.funcs[n_r_Has]? = some Tryz.f19 := Tryz.func19
theorem form_r_Has : formOf Tryz.prog Tryz.f19 [4,5] = some G_r_Has := by kernel_rfl
theorem res_r_Has : resTmps Tryz.f19.results.toList = some [4,5] := by kernel_rfl
abbrev n_r_Places : Nat := 21
def G_r_Places : AC := (.seq (.rgn [⟨none,[(.box 2 2 (.t 0)),(.mv 4 (.k (.sl true 0 []))),(.mv 5 (.k (I 0)))]⟩] [1,2]) (.seq (.seq (.rgn [⟨none,[(.ld 8 true 2 (.t 2)),(.call 9 25 [(.t 8)]),(.bin 10 .neq (.t 9) (.k (I 0)))]⟩] [1,2,10]) (.cond (.t 10) (.seq (.rgn [⟨none,[(.ld 11 true 2 (.t 2)),(.call 12 25 [(.t 11)]),(.mv 4 (.k (.sl true 0 []))),(.mv 5 (.t 12))]⟩] [4,5]) .ret) .skip)) (.seq (.seq (.rgn [⟨none,[(.ld 13 true 2 (.t 2)),(.mv 14 (.t 1)),(.call 15 61 [(.t 13),(.t 14)]),(.un 16 .not (.t 15))]⟩] [1,2,16]) (.cond (.t 16) (.seq (.rgn [⟨none,[(.mv 4 (.k (.sl true 0 []))),(.mv 5 (.k (I 2)))]⟩] [4,5]) .ret) .skip)) (.seq (.rgn [⟨none,[(.mv 6 (.k (.sl true 0 [])))]⟩] [1,2,6]) (.seq (.seq (.rgn [⟨none,[(.mv 7 (.k (I 0)))]⟩] [1,2,6,7]) (.block 0 (.loop (.seq (.seq (.rgn [⟨none,[(.mv 17 (.t 7)),(.bin 18 .leq (.t 17) (.k (I 500)))]⟩] [1,2,6,7,18]) (.cond (.t 18) .skip (.exit 0))) (.seq (.block 1 (.seq (.rgn [⟨none,[(.ld 21 true 2 (.t 2)),(.mv 22 (.t 1)),(.mv 23 (.t 7)),(.bld 24 [(I 0),(I 0)] [(0,1,(.t 22)),(1,1,(.t 23))]),(.call 25 62 [(.t 21),(.t 24)]),(.bin 26 .neq (.t 25) (.k (I 0)))]⟩] [1,2,6,7,26]) (.cond (.t 26) (.rgn [⟨none,[(.mv 27 (.t 6)),(.mv 28 (.t 7)),(.bsl 29 1 1 [(I 0)] [(0,(.t 28))]),(.app 30 1 8 (.t 27) (.t 29)),(.mv 6 (.t 30))]⟩] [1,2,6,7]) .skip))) (.rgn [⟨none,[(.mv 19 (.t 7)),(.bin 20 .add (.t 19) (.k (I 1))),(.mv 7 (.t 20))]⟩] [1,2,6,7])))))) (.seq (.rgn [⟨none,[(.mv 31 (.t 6)),(.mv 4 (.t 31)),(.mv 5 (.k (I 0)))]⟩] [4,5]) .ret))))))
theorem func_r_Places : Tryz.prog.funcs[n_r_Places]? = some Tryz.f21 := Tryz.func21
theorem form_r_Places : formOf Tryz.prog Tryz.f21 [4,5] = some G_r_Places := by kernel_rfl
theorem res_r_Places : resTmps Tryz.f21.results.toList = some [4,5] := by kernel_rfl
abbrev n_r_Lost : Nat := 23
def G_r_Lost : AC := (.seq (.rgn [⟨none,[(.box 1 2 (.t 0)),(.mv 2 (.k (.sl true 0 []))),(.mv 3 (.k (I 0)))]⟩] [1]) (.seq (.seq (.rgn [⟨none,[(.ld 4 true 2 (.t 1)),(.call 5 25 [(.t 4)]),(.bin 6 .neq (.t 5) (.k (I 0)))]⟩] [1,6]) (.cond (.t 6) (.seq (.rgn [⟨none,[(.ld 7 true 2 (.t 1)),(.call 8 25 [(.t 7)]),(.mv 2 (.k (.sl true 0 []))),(.mv 3 (.t 8))]⟩] [2,3]) .ret) .skip)) (.seq (.rgn [⟨none,[(.ld 9 true 2 (.t 1)),(.call 10 66 [(.t 9)]),(.mv 2 (.t 10)),(.mv 3 (.k (I 0)))]⟩] [2,3]) .ret)))
theorem func_r_Lost : Tryz.prog.funcs[n_r_Lost]? = some Tryz.f23 := Tryz.func23
theorem form_r_Lost : formOf Tryz.prog Tryz.f23 [2,3] = some G_r_Lost := by kernel_rfl
theorem res_r_Lost : resTmps Tryz.f23.results.toList = some [2,3] := by kernel_rfl
abbrev n_r_Rows : Nat := 35
def G_r_Rows : AC := (.seq (.rgn [⟨none,[(.box 1 2 (.t 0)),(.mv 2 (.k (.sl true 0 [])))]⟩] [1]) (.seq (.rgn [⟨none,[(.mv 3 (.k (.sl true 0 [])))]⟩] [1,3]) (.seq (.seq (.rgn [⟨none,[(.mv 4 (.k (I 0)))]⟩] [1,3,4]) (.block 0 (.loop (.seq (.seq (.rgn [⟨none,[(.mv 8 (.t 4)),(.fa 9 (.t 1) 0),(.ld 10 false 1 (.t 9)),(.len 11 (.t 10)),(.bin 12 .lss (.t 8) (.t 11))]⟩] [1,3,4,12]) (.cond (.t 12) .skip (.exit 0))) (.seq (.block 1 (.seq (.rgn [⟨none,[(.ld 16 true 2 (.t 1)),(.mv 17 (.t 4)),(.call 18 21 [(.t 16),(.t 17)]),(.mv 15 (.t 18)),(.ext 19 (.t 15) 0),(.ext 20 (.t 15) 1),(.mv 5 (.t 19)),(.mv 6 (.t 20))]⟩] [1,3,4,5]) (.seq (.rgn [⟨none,[(.mv 7 (.k (I 0)))]⟩] [1,3,4,5,7]) (.block 2 (.loop (.seq (.seq (.rgn [⟨none,[(.mv 21 (.t 7)),(.mv 22 (.t 5)),(.len 23 (.t 22)),(.bin 24 .lss (.t 21) (.t 23))]⟩] [1,3,4,5,7,24]) (.cond (.t 24) .skip (.exit 2))) (.seq (.block 3 (.rgn [⟨none,[(.mv 27 (.t 3)),(.mv 28 (.t 4)),(.mv 29 (.t 5)),(.mv 30 (.t 7)),(.ia 31 1 (.t 29) (.t 30)),(.ld 32 false 1 (.t 31)),(.bld 33 [(I 0),(I 0)] [(0,1,(.t 28)),(1,1,(.t 32))]),(.bsl 34 1 2 [(I 0),(I 0)] [(0,(.t 33))]),(.app 35 2 16 (.t 27) (.t 34)),(.mv 3 (.t 35))]⟩] [1,3,4,5,7])) (.rgn [⟨none,[(.mv 25 (.t 7)),(.bin 26 .add (.t 25) (.k (I 1))),(.mv 7 (.t 26))]⟩] [1,3,4,5,7])))))))) (.rgn [⟨none,[(.mv 13 (.t 4)),(.bin 14 .add (.t 13) (.k (I 1))),(.mv 4 (.t 14))]⟩] [1,3,4])))))) (.seq (.rgn [⟨none,[(.mv 36 (.t 3)),(.mv 2 (.t 36))]⟩] [2]) .ret))))
theorem func_r_Rows : Tryz.prog.funcs[n_r_Rows]? = some Tryz.f35 := Tryz.func35
theorem form_r_Rows : formOf Tryz.prog Tryz.f35 [2] = some G_r_Rows := by kernel_rfl
theorem res_r_Rows : resTmps Tryz.f35.results.toList = some [2] := by kernel_rfl
abbrev n_r_List : Nat := 52
def G_r_List : AC := (.seq (.rgn [⟨none,[(.mv 2 (.k (.sl true 0 [])))]⟩] [0]) (.seq (.rgn [⟨none,[(.mv 3 (.k (.sl true 0 [])))]⟩] [0,3]) (.seq (.seq (.rgn [⟨none,[(.mv 4 (.k (I 0)))]⟩] [0,3,4]) (.block 0 (.loop (.seq (.seq (.rgn [⟨none,[(.mv 5 (.t 0)),(.mv 6 (.t 4)),(.bin 7 .shr (.t 5) (.t 6)),(.bin 8 .gtr (.t 7) (.k (I 0)))]⟩] [0,3,4,8]) (.cond (.t 8) .skip (.exit 0))) (.seq (.block 1 (.seq (.rgn [⟨none,[(.mv 11 (.t 0)),(.mv 12 (.t 4)),(.bin 13 .shr (.t 11) (.t 12)),(.bin 14 .and (.t 13) (.k (I 1))),(.bin 15 .eql (.t 14) (.k (I 1)))]⟩] [0,3,4,15]) (.cond (.t 15) (.rgn [⟨none,[(.mv 16 (.t 3)),(.mv 17 (.t 4)),(.bsl 18 1 1 [(I 0)] [(0,(.t 17))]),(.app 19 1 8 (.t 16) (.t 18)),(.mv 3 (.t 19))]⟩] [0,3,4]) .skip))) (.rgn [⟨none,[(.mv 9 (.t 4)),(.bin 10 .add (.t 9) (.k (I 1))),(.mv 4 (.t 10))]⟩] [0,3,4])))))) (.seq (.rgn [⟨none,[(.mv 20 (.t 3)),(.mv 2 (.t 20))]⟩] [2]) .ret))))
theorem func_r_List : Tryz.prog.funcs[n_r_List]? = some Tryz.f52 := Tryz.func52
theorem form_r_List : formOf Tryz.prog Tryz.f52 [2] = some G_r_List := by kernel_rfl
theorem res_r_List : resTmps Tryz.f52.results.toList = some [2] := by kernel_rfl
abbrev n_r_lost : Nat := 66
def G_r_lost : AC := (.seq (.rgn [⟨none,[(.box 1 2 (.t 0)),(.mv 2 (.k (.sl true 0 [])))]⟩] [1]) (.seq (.rgn [⟨none,[(.ld 6 true 2 (.t 1)),(.call 7 35 [(.t 6)]),(.mv 3 (.t 7))]⟩] [1,3]) (.seq (.rgn [⟨none,[(.mv 4 (.k (I 0)))]⟩] [1,3,4]) (.seq (.seq (.rgn [⟨none,[(.mv 5 (.k (I 0)))]⟩] [1,3,4,5]) (.block 0 (.loop (.seq (.seq (.rgn [⟨none,[(.mv 8 (.t 5)),(.mv 9 (.t 3)),(.len 10 (.t 9)),(.bin 11 .lss (.t 8) (.t 10))]⟩] [1,3,4,5,11]) (.cond (.t 11) .skip (.exit 0))) (.seq (.block 1 (.drw [⟨none,[(.mv 14 (.t 4)),(.ld 15 true 2 (.t 1)),(.mv 16 (.t 3)),(.mv 17 (.t 5)),(.ia 18 2 (.t 16) (.t 17)),(.ld 19 true 2 (.t 18)),(.call 20 62 [(.t 15),(.t 19)]),(.bin 21 .or (.t 14) (.t 20)),(.mv 4 (.t 21))]⟩] [(1,5)] [1,3,4,5])) (.rgn [⟨none,[(.mv 12 (.t 5)),(.bin 13 .add (.t 12) (.k (I 1))),(.mv 5 (.t 13))]⟩] [1,3,4,5])))))) (.seq (.rgn [⟨none,[(.fa 22 (.t 1) 1),(.ld 23 false 1 (.t 22)),(.len 24 (.t 23)),(.bin 25 .shl (.k (I 1)) (.t 24)),(.bin 26 .sub (.t 25) (.k (I 1))),(.mv 27 (.t 4)),(.bin 28 .sub (.t 26) (.t 27)),(.call 29 52 [(.t 28)]),(.mv 2 (.t 29))]⟩] [2]) .ret)))))
theorem func_r_lost : Tryz.prog.funcs[n_r_lost]? = some Tryz.f66 := Tryz.func66
theorem form_r_lost : formOf Tryz.prog Tryz.f66 [2] = some G_r_lost := by kernel_rfl
theorem res_r_lost : resTmps Tryz.f66.results.toList = some [2] := by kernel_rfl
end Go.AM

namespace Go.AM
open Go.RowKit Go.Proofs
theorem bitT_end {n i : Nat} (h : shrN n i = 0) : ∀ {d : Nat},bitT n (i + d) = bitT n i
 | 0 => rfl
 | d + 1 => by
   rw [show i + (d + 1) = i + d + 1 from rfl,bitT_succ,bitT_end h]
   have : n.testBit (i + d) = false := by
    rw [Nat.testBit_eq_decide_div_mod_eq]
    have h0 : n < 2 ^ i := by
     unfold shrN at h
     rcases Nat.div_eq_zero_iff.1 h with h | h
     · have := Nat.two_pow_pos i; omega
     · exact h
    have h1 : n < 2 ^ (i + d) := Nat.lt_of_lt_of_le h0 (Nat.pow_le_pow_right (by decide) (by omega))
    rw [Nat.div_eq_of_lt h1]; rfl
   rw [this]; simp
set_option maxHeartbeats 2000000 in
theorem r_List_ok (n : Nat) (hn : n < 2 ^ 60) : PureOK Tryz.prog n_r_List [I (n : Int)] (Ls (bitL n).isEmpty (bitL n)) := by
 refine pure_of (walk func_r_List form_r_List res_r_List (by show 1 ≤ _; decide) ?_)
 simp -implicitDefEqProofs (disch := omega) [G_r_List,wrap_id]
 refine loop_eq (fun q : Nat × AV × List HObj => ⟨[(0,I (n : Int)),(3,q.2.1),(4,I (q.1 : Int))],q.2.2⟩) (fun q => q.1 ≤ 60 ∧ AccR q.2.2 q.2.1 (bitT n q.1)) (fun q => 60 - q.1) (0,.sl true 0 [],[]) ⟨Nat.zero_le _,.inl ⟨rfl,by simp [bitT]⟩⟩ rfl ?_
 rintro ⟨i,x,H⟩ ⟨d1,d2⟩
 simp only at d1 d2 ⊢
 refine hideK' fun K0 hK0 => ?_
 have hs := shrN_small (i := i) hn
 simp -implicitDefEqProofs (disch := omega) [wrap_id,-b_shr,bw_shr]
 refine c_split (fun hc => ?_) (fun hc => ?_)
 · have hc : 0 < shrN n i := by simpa using hc
   have hi : i < 60 := by
    apply Classical.byContradiction
    intro h
    have : i = 60 := by omega
    subst this
    unfold shrN at hc
    rw [Nat.div_eq_of_lt hn] at hc
    omega
   have ix : ((i : Int) + 1) = ((i + 1 : Nat) : Int) := by omega
   have bl := bitT_len (n := n) (i := i)
   simp -implicitDefEqProofs (disch := omega) [wrap_id,-b_shr,bw_shr,-b_and,bw_and,hs,bitN_one]
   cases hb : n.testBit i with
   | false =>
     have e : bitT n (i + 1) = bitT n i := by rw [bitT_succ,hb]; simp
     simp -implicitDefEqProofs (disch := omega) [wrap_id]
     rw [hK0]
     refine next_eq (i + 1,x,H) ⟨by simp only; omega,by simp only [e]; exact d2⟩ (by simp only; omega) (by simp only [ix])
   | true =>
     have e : bitT n (i + 1) = bitT n i ++ [(i : Int)] := by rw [bitT_succ,hb]; simp
     simp -implicitDefEqProofs (disch := omega) [wrap_id]
     refine bsl_of (ys := [I (i : Int)]) rfl rfl ?_
     simp -implicitDefEqProofs (disch := omega) [wrap_id,zrep]
     refine app_row d2.row (by omega) fun ws w1 w2 w3 => ?_
     simp -implicitDefEqProofs (disch := omega) [wrap_id]
     rw [hK0]
     refine next_eq (i + 1,.ms H.length 0 ((bitT n i).length + 1) 1,writeL H ws) ⟨by simp only; omega,.inr ⟨H.length,?_,?_,?_⟩⟩ (by simp only; omega) (by simp only [ix])
     · simp only [e]; simp
     · simp only [e]; simp
     · simp only [e]; exact w3
 · have hc : shrN n i = 0 := by simp at hc; omega
   subst hK0
   have e : bitL n = bitT n i := by
    have := bitT_end hc (d := 60 - i)
    rw [show i + (60 - i) = 60 from by omega] at this
    exact this
   rw [e]
   simp -implicitDefEqProofs (disch := omega) [wrap_id]
   exact d2.out
end Go.AM

namespace Go.AM
open Go.RowKit Go.Proofs
set_option maxHeartbeats 2000000 in
theorem r_Has_ok (f g : Bool) (s : SH) (hz : SzS s) (r : Int × Int) : PureOK Tryz.prog n_r_Has [Sn f g s,Pr r] (.tup [Ls (hasL s r).isEmpty (hasL s r),I (hasE s r)]) := by
 refine pure_of (walk func_r_Has form_r_Has res_r_Has (by show 2 ≤ _; decide) ?_)
 simp -implicitDefEqProofs (disch := omega) [G_r_Has,wrap_id]
 refine callW_pure rfl (r_CheckSheet_ok f g s hz) ?_
 by_cases h0 : shtE s = 0
 · have hv := val_of h0
   rw [h0]
   simp -implicitDefEqProofs (disch := omega) [wrap_id]
   refine callW_pure rfl (r_IsComb_ok f g s r.1) ?_
   cases hk : isK s r.1 with
   | false =>
     have e : hasE s r = 2 := by unfold hasE; rw [if_neg (by omega),if_pos hk]
     have e2 : hasL s r = [] := by unfold hasL; rw [if_neg (by omega)]
     rw [e,e2]
     simp -implicitDefEqProofs (disch := omega) [wrap_id]
     exact out_of (is := []) rfl
   | true =>
     simp -implicitDefEqProofs (disch := omega) [wrap_id]
     refine callW_pure rfl (r_Bits_ok f g s hv r hk) ?_
     by_cases hb : bitO s r = 0
     · have e : hasE s r = 19 := by unfold hasE; rw [if_neg (by omega),if_neg (by rw [hk]; decide),if_pos hb]
       have e2 : hasL s r = [] := by unfold hasL; rw [if_neg (by omega)]
       rw [e,e2,hb]
       simp -implicitDefEqProofs (disch := omega) [wrap_id]
       exact out_of (is := []) rfl
     · have e : hasE s r = 0 := by unfold hasE; rw [if_neg (by omega),if_neg (by rw [hk]; decide),if_neg hb]
       have e2 : hasL s r = bitL (bitO s r) := by unfold hasL; rw [if_pos e]
       have hb2 : ((bitO s r : Int) == 0) = false := by rw [beq_eq_false_iff_ne]; omega
       rw [e,e2]
       simp -implicitDefEqProofs (disch := omega) [wrap_id,hb2]
       refine callW_pure rfl (r_Bits_ok f g s hv r hk) ?_
       simp -implicitDefEqProofs (disch := omega) [wrap_id]
       refine callW_pure rfl (r_List_ok _ (bitO_60 hv r)) ?_
       simp -implicitDefEqProofs (disch := omega) [wrap_id]
       exact out_of (is := []) rfl
 · have e : hasE s r = shtE s := by unfold hasE; rw [if_pos h0]
   have e2 : hasL s r = [] := by unfold hasL; rw [if_neg (by omega)]
   have h0' : (shtE s != 0) = true := by simp [h0]
   rw [e,e2]
   simp -implicitDefEqProofs (disch := omega) [wrap_id,h0']
   refine callW_pure rfl (r_CheckSheet_ok f g s hz) ?_
   simp -implicitDefEqProofs (disch := omega) [wrap_id]
   exact out_of (is := []) rfl
set_option maxHeartbeats 4000000 in
theorem r_Places_ok (f g : Bool) (s : SH) (hz : SzS s) (c : Int) : PureOK Tryz.prog n_r_Places [Sn f g s,I c] (.tup [Ls (plsL s c).isEmpty (plsL s c),I (plsE s c)]) := by
 refine pure_of (walk func_r_Places form_r_Places res_r_Places (by show 2 ≤ _; decide) ?_)
 simp -implicitDefEqProofs (disch := omega) [G_r_Places,wrap_id]
 refine callW_pure rfl (r_CheckSheet_ok f g s hz) ?_
 by_cases h0 : shtE s = 0
 · have hv := val_of h0
   rw [h0]
   simp -implicitDefEqProofs (disch := omega) [wrap_id]
   refine callW_pure rfl (r_IsComb_ok f g s c) ?_
   cases hk : isK s c with
   | false =>
     have e : plsE s c = 2 := by unfold plsE; rw [if_neg (by omega),if_pos hk]
     have e2 : plsL s c = [] := by unfold plsL; rw [if_neg (by omega)]
     rw [e,e2]
     simp -implicitDefEqProofs (disch := omega) [wrap_id]
     exact out_of (is := []) rfl
   | true =>
     have e : plsE s c = 0 := by unfold plsE; rw [if_neg (by omega),if_neg (by rw [hk]; decide)]
     have e2 : plsL s c = plcT s c 501 := by unfold plsL; rw [if_pos e]
     rw [e,e2]
     simp -implicitDefEqProofs (disch := omega) [wrap_id]
     refine loop_eq (fun q : Nat × AV × List HObj => ⟨[(1,I c),(2,.ref 0 0),(6,q.2.1),(7,I (q.1 : Int))],q.2.2⟩) (fun q => q.1 ≤ 501 ∧ AccR q.2.2 q.2.1 (plcT s c q.1) ∧ nthH q.2.2 0 = some (.cells [Ps f s.k,Ps g s.m]) ∧ rid q.2.1 ≠ some 0) (fun q => 501 - q.1) (0,.sl true 0 [],[.cells [Ps f s.k,Ps g s.m]]) ⟨Nat.zero_le _,.inl ⟨rfl,by simp [plcT]⟩,rfl,by simp [rid]⟩ rfl ?_
     rintro ⟨i,x,H⟩ ⟨d1,d2,d3,d4⟩
     simp only at d1 d2 d3 d4 ⊢
     have l0 := nthH_lt d3
     refine hideK' fun K0 hK0 => ?_
     simp -implicitDefEqProofs (disch := omega) [wrap_id]
     refine c_split (fun hc => ?_) (fun hc => ?_)
     · have hi : i < 501 := by simp at hc; omega
       have ix : ((i : Int) + 1) = ((i + 1 : Nat) : Int) := by omega
       have pl := plcT_len (s := s) (c := c) (i := i)
       simp -implicitDefEqProofs (disch := omega) [wrap_id,d3,ldr_some]
       refine callW_pure rfl (r_Bits_ok f g s hv (c,(i : Int)) hk) ?_
       by_cases hb : bitO s (c,(i : Int)) = 0
       · have e : plcT s c (i + 1) = plcT s c i := by rw [plcT_succ,if_neg (by omega)]; simp
         rw [hb]
         simp -implicitDefEqProofs (disch := omega) [wrap_id]
         rw [hK0]
         refine next_eq (i + 1,x,H) ⟨by simp only; omega,by simp only [e]; exact d2,d3,d4⟩ (by simp only; omega) (by simp only [ix])
       · have e : plcT s c (i + 1) = plcT s c i ++ [(i : Int)] := by rw [plcT_succ,if_pos hb]
         have hb2 : ((bitO s (c,(i : Int)) : Int) != 0) = true := by simp; omega
         simp -implicitDefEqProofs (disch := omega) [wrap_id,hb2]
         refine bsl_of (ys := [I (i : Int)]) rfl rfl ?_
         simp -implicitDefEqProofs (disch := omega) [wrap_id,zrep]
         refine app_row d2.row (by omega) fun ws w1 w2 w3 => ?_
         simp -implicitDefEqProofs (disch := omega) [wrap_id]
         rw [hK0]
         refine next_eq (i + 1,.ms H.length 0 ((plcT s c i).length + 1) 1,writeL H ws) ⟨by simp only; omega,.inr ⟨H.length,?_,?_,?_⟩,(w1 0 l0 (fun h => d4 h)).trans d3,?_⟩ (by simp only; omega) (by simp only [ix])
         · simp only [e]; simp
         · simp only [e]; simp
         · simp only [e]; exact w3
         · simp only [rid]; intro h; injection h with h; omega
     · have hi : i = 501 := by simp at hc; omega
       subst hi
       subst hK0
       simp -implicitDefEqProofs (disch := omega) [wrap_id]
       exact d2.tupE
 · have e : plsE s c = shtE s := by unfold plsE; rw [if_pos h0]
   have e2 : plsL s c = [] := by unfold plsL; rw [if_neg (by omega)]
   have h0' : (shtE s != 0) = true := by simp [h0]
   rw [e,e2]
   simp -implicitDefEqProofs (disch := omega) [wrap_id,h0']
   refine callW_pure rfl (r_CheckSheet_ok f g s hz) ?_
   simp -implicitDefEqProofs (disch := omega) [wrap_id]
   exact out_of (is := []) rfl
end Go.AM

namespace Go.AM
open Go.RowKit Go.Proofs
set_option maxHeartbeats 4000000 in
theorem r_Rows_ok (f g : Bool) (s : SH) (h0 : shtE s = 0) : PureOK Tryz.prog n_r_Rows [Sn f g s] (Ps (allR s).isEmpty (allR s)) := by
 have hv := val_of h0
 have hz : SzS s := ⟨by have := hv.k8; omega,by have := hv.m12; omega⟩
 have hk8 := hv.k8
 refine pure_of (walk func_r_Rows form_r_Rows res_r_Rows (by show 1 ≤ _; decide) ?_)
 simp -implicitDefEqProofs (disch := omega) [G_r_Rows,wrap_id]
 refine loop_eq (fun q : Nat × AV × List HObj => ⟨[(1,.ref 0 0),(3,q.2.1),(4,I (q.1 : Int))],q.2.2⟩) (fun q => q.1 ≤ s.k.length ∧ AccK q.2.2 q.2.1 (rwsK s q.1) ∧ nthH q.2.2 0 = some (.cells [Ps f s.k,Ps g s.m]) ∧ rid q.2.1 ≠ some 0) (fun q => s.k.length - q.1) (0,.sl true 0 [],[.cells [Ps f s.k,Ps g s.m]]) ⟨Nat.zero_le _,AccG.nil,rfl,by simp [rid]⟩ rfl ?_
 rintro ⟨i,x,H⟩ ⟨d1,d2,d3,d4⟩
 simp only at d1 d2 d3 d4 ⊢
 refine hideK' fun K0 hK0 => ?_
 simp -implicitDefEqProofs (disch := omega) [wrap_id,d3]
 refine c_split (fun hc => ?_) (fun hc => ?_)
 · have hi : i < s.k.length := by simpa using hc
   have ix : ((i : Int) + 1) = ((i + 1 : Nat) : Int) := by omega
   have hk : isK s (i : Int) = true := by unfold isK; simp; omega
   have e : plsE s (i : Int) = 0 := by unfold plsE; rw [if_neg (by omega),if_neg (by rw [hk]; decide)]
   have e2 : plsL s (i : Int) = plcT s i 501 := by unfold plsL; rw [if_pos e]
   have pl := plcT_len (s := s) (c := (i : Int)) (i := 501)
   have rl := rwsK_len (s := s) (n := i)
   simp -implicitDefEqProofs (disch := omega) [wrap_id,d3,ldr_some]
   refine callW_pure rfl (r_Places_ok f g s hz (i : Int)) ?_
   rw [e,e2]
   have hro : rowOf s i = (plcT s (i : Int) 501).map fun a => ((i : Int),a) := rfl
   generalize plcT s (i : Int) 501 = P at *
   simp -implicitDefEqProofs (disch := omega) [wrap_id]
   refine loop_eq (fun q : Nat × AV × List HObj => ⟨[(1,.ref 0 0),(3,q.2.1),(4,I (i : Int)),(5,Ls P.isEmpty P),(7,I (q.1 : Int))],q.2.2⟩) (fun q => q.1 ≤ P.length ∧ AccK q.2.2 q.2.1 (rwsK s i ++ (P.take q.1).map fun a => ((i : Int),a)) ∧ nthH q.2.2 0 = some (.cells [Ps f s.k,Ps g s.m]) ∧ rid q.2.1 ≠ some 0) (fun q => P.length - q.1) (0,x,H) ⟨Nat.zero_le _,by simpa using d2,d3,d4⟩ rfl ?_
   rintro ⟨j,y,H2⟩ ⟨f1,f2,f3,f4⟩
   simp only at f1 f2 f3 f4 ⊢
   refine hideK' fun K1 hK1 => ?_
   simp -implicitDefEqProofs (disch := omega) [wrap_id]
   refine c_split (fun hc => ?_) (fun hc => ?_)
   · have hj : j < P.length := by simpa using hc
     have jx : ((j : Int) + 1) = ((j + 1 : Nat) : Int) := by omega
     have tk : P.take (j + 1) = P.take j ++ [P[j]] := by rw [List.take_succ_eq_append_getElem hj]
     have ll : (rwsK s i ++ (P.take j).map fun a => ((i : Int),a)).length ≤ 1000000 := by
      rw [List.length_append,List.length_map,List.length_take]
      have : i * 501 ≤ 8 * 501 := Nat.mul_le_mul_right _ (by omega)
      omega
     have eQ : rwsK s i ++ (P.take (j + 1)).map (fun a => ((i : Int),a)) = (rwsK s i ++ (P.take j).map fun a => ((i : Int),a)) ++ [((i : Int),P[j])] := by
      rw [tk,List.map_append,List.append_assoc]; rfl
     generalize (rwsK s i ++ (P.take j).map fun a => ((i : Int),a)) = Q at f2 ll eQ
     simp -implicitDefEqProofs (disch := omega) [wrap_id,cells_ls,hj]
     refine bsl_of (ys := [.agg [I (i : Int),I P[j]]]) rfl rfl ?_
     simp -implicitDefEqProofs (disch := omega) [wrap_id,zrep]
     refine app_accG (ys := [I (i : Int),I P[j]]) f2 (by omega) (by decide) rfl rfl fun ws w1 w2 w3 => ?_
     simp -implicitDefEqProofs (disch := omega) [wrap_id]
     rw [hK1]
     have l0 := nthH_lt f3
     refine next_eq (j + 1,.ms H2.length 0 (Q.length + 1) 2,writeL H2 ws) ⟨by simp only; omega,?_,(w1 0 l0 f4).trans f3,?_⟩ (by simp only; omega) (by simp only [jx])
     · simp only [eQ]
       unfold AccK
       rw [flat2_appK,List.length_append]
       exact w3
     · simp only [rid]; intro e; injection e; omega
   · have hj : j = P.length := by simp at hc; omega
     subst hj
     subst hK1
     simp -implicitDefEqProofs (disch := omega) [wrap_id]
     rw [hK0]
     refine next_eq (i + 1,y,H2) ⟨by simp only; omega,?_,f3,f4⟩ (by simp only; omega) (by simp only [ix])
     simp only [rwsK_succ,hro]
     rw [List.take_length] at f2
     exact f2
 · have hi : i = s.k.length := by simp at hc; omega
   subst hi
   subst hK0
   simp -implicitDefEqProofs (disch := omega) [wrap_id]
   exact AccK.out d2
end Go.AM

namespace Go.AM
open Go.RowKit Go.Proofs
theorem allR_len {s : SH} (hv : ValS s) : (allR s).length ≤ 4008 := by
 have := rwsK_len (s := s) (n := s.k.length)
 have h : s.k.length * 501 ≤ 8 * 501 := Nat.mul_le_mul_right _ hv.k8
 unfold allR; omega
set_option maxHeartbeats 4000000 in
theorem r_lost_ok (f g : Bool) (s : SH) (h0 : shtE s = 0) : PureOK Tryz.prog n_r_lost [Sn f g s] (Ls (lostL s).isEmpty (lostL s)) := by
 have hv := val_of h0
 have hm12 := hv.m12
 obtain ⟨w1,w2⟩ := pwN_12 hv
 have al := allR_len hv
 refine pure_of (walk func_r_lost form_r_lost res_r_lost (by show 1 ≤ _; decide) ?_)
 simp -implicitDefEqProofs (disch := omega) [G_r_lost,wrap_id]
 refine callW_pure rfl (r_Rows_ok f g s h0) ?_
 have km := fun r (h : r ∈ allR s) => (isK_allR h).1
 have eL : lostL s = bitL (pwN s.m.length - 1 - orT s (allR s) (allR s).length) := rfl
 rw [eL]
 generalize allR s = R at *
 simp -implicitDefEqProofs (disch := omega) [wrap_id]
 refine loop_eq (fun i : Nat => ⟨[(1,.ref 0 0),(3,Ps R.isEmpty R),(4,I (orT s R i : Nat)),(5,I (i : Int))],[.cells [Ps f s.k,Ps g s.m]]⟩) (fun i => i ≤ R.length) (fun i => R.length - i) 0 (Nat.zero_le _) rfl ?_
 rintro i d1
 refine hideK' fun K0 hK0 => ?_
 simp -implicitDefEqProofs (disch := omega) [wrap_id]
 refine c_split (fun hc => ?_) (fun hc => ?_)
 · have hi : i < R.length := by simpa using hc
   have ix : ((i : Int) + 1) = ((i + 1 : Nat) : Int) := by omega
   have e : orT s R (i + 1) = orN (orT s R i) (bitO s R[i]) := by show orN _ (bitO s (R.getD i (0,0))) = _; rw [getD_at hi]
   have o1 := orT_60 hv (l := R) (i := i)
   have o2 := bitO_60 hv R[i]
   simp -implicitDefEqProofs (disch := omega) [wrap_id,cells_pair,hi]
   refine ⟨flat2_len _,?_⟩
   refine pureW_of rfl (r_Bits_ok f g s hv R[i] (km _ (List.getElem_mem hi))) ?_
   simp -implicitDefEqProofs (disch := omega) [wrap_id,cmp2,nthT,-b_or,bw_or,o1,o2]
   rw [hK0]
   exact next_eq (i + 1) (by omega) (by omega) (by simp only [ix,e])
 · have hi : i = R.length := by simp at hc; omega
   subst hi
   subst hK0
   have o1 : orT s R R.length < pwN s.m.length := orT_small hv
   generalize orT s R R.length = o at *
   generalize hp : pwN s.m.length = p at *
   have e1 : (p : Int) - 1 - (o : Int) = ((p - 1 - o : Nat) : Int) := by omega
   simp -implicitDefEqProofs (disch := omega) [wrap_id,-b_shl,bw_shl,hp,e1]
   refine callW_pure rfl (r_List_ok _ (by omega)) ?_
   simp -implicitDefEqProofs (disch := omega) [wrap_id]
   exact out_of (is := []) rfl
set_option maxHeartbeats 2000000 in
theorem r_Lost_ok (f g : Bool) (s : SH) (hz : SzS s) : PureOK Tryz.prog n_r_Lost [Sn f g s] (.tup [Ls (lstL s).isEmpty (lstL s),I (shtE s)]) := by
 refine pure_of (walk func_r_Lost form_r_Lost res_r_Lost (by show 1 ≤ _; decide) ?_)
 simp -implicitDefEqProofs (disch := omega) [G_r_Lost,wrap_id]
 refine callW_pure rfl (r_CheckSheet_ok f g s hz) ?_
 unfold lstL
 by_cases h0 : shtE s = 0
 · rw [if_pos h0,h0]
   simp -implicitDefEqProofs (disch := omega) [wrap_id]
   refine callW_pure rfl (r_lost_ok f g s h0) ?_
   simp -implicitDefEqProofs (disch := omega) [wrap_id]
   exact out_of (is := []) rfl
 · rw [if_neg h0]
   have h0' : (shtE s != 0) = true := by simp [h0]
   simp -implicitDefEqProofs (disch := omega) [wrap_id,h0']
   refine callW_pure rfl (r_CheckSheet_ok f g s hz) ?_
   simp -implicitDefEqProofs (disch := omega) [wrap_id]
   exact out_of (is := []) rfl
end Go.AM

set_option maxRecDepth 100000
namespace Go.AM
open Go.RowKit Go.Proofs
abbrev n_l_CombSheets : Nat := 3
def G_l_CombSheets : AC := (.seq (.rgn [⟨none,[(.box 3 2 (.t 0)),(.box 4 2 (.t 1)),(.mv 6 (.k (B false)))]⟩] [2,3,4]) (.seq (.seq (.rgn [⟨none,[(.ld 19 true 2 (.t 3)),(.call 20 16 [(.t 19)])]⟩] [2,3,4,20]) (.cond (.t 20) (.seq (.rgn [⟨none,[(.call 21 17 []),(.mv 6 (.t 21))]⟩] [6]) .ret) .skip)) (.seq (.rgn [⟨none,[(.ld 23 true 2 (.t 3)),(.ld 24 true 2 (.t 4)),(.call 25 18 [(.t 23),(.t 24)]),(.mv 22 (.t 25)),(.ext 26 (.t 22) 0),(.ext 27 (.t 22) 1),(.mv 7 (.t 26)),(.mv 8 (.t 27))]⟩] [2,3,4,7,8]) (.seq (.rgn [⟨none,[(.ld 29 true 2 (.t 3)),(.ld 30 true 2 (.t 4)),(.call 31 19 [(.t 29),(.t 30)]),(.mv 28 (.t 31)),(.ext 32 (.t 28) 0),(.ext 33 (.t 28) 1),(.mv 9 (.t 32)),(.mv 10 (.t 33))]⟩] [2,3,7,8,9,10]) (.seq (.rgn [⟨none,[(.ld 35 true 2 (.t 3)),(.mv 36 (.t 2)),(.call 37 20 [(.t 35),(.t 36)]),(.mv 34 (.t 37)),(.ext 38 (.t 34) 0),(.ext 39 (.t 34) 1),(.mv 11 (.t 38)),(.mv 12 (.t 39))]⟩] [2,3,7,8,9,10,11,12]) (.seq (.rgn [⟨none,[(.ld 41 true 2 (.t 3)),(.mv 42 (.t 2)),(.call 43 21 [(.t 41),(.t 42)]),(.mv 40 (.t 43)),(.ext 44 (.t 40) 0),(.ext 45 (.t 40) 1),(.mv 13 (.t 44)),(.mv 14 (.t 45))]⟩] [3,7,8,9,10,11,12,13,14]) (.seq (.rgn [⟨none,[(.ld 47 true 2 (.t 3)),(.call 48 22 [(.t 47)]),(.mv 46 (.t 48)),(.ext 49 (.t 46) 0),(.ext 50 (.t 46) 1),(.mv 15 (.t 49)),(.mv 16 (.t 50))]⟩] [3,7,8,9,10,11,12,13,14,15,16]) (.seq (.rgn [⟨none,[(.ld 52 true 2 (.t 3)),(.call 53 23 [(.t 52)]),(.mv 51 (.t 53)),(.ext 54 (.t 51) 0),(.ext 55 (.t 51) 1),(.mv 17 (.t 54)),(.mv 18 (.t 55))]⟩] [3,7,8,9,10,11,12,13,14,15,16,17,18]) (.seq (.drw [⟨none,[(.ld 56 true 2 (.t 3)),(.call 57 24 [(.t 56)]),(.ld 58 true 2 (.t 3)),(.call 59 25 [(.t 58)]),(.bin 60 .eql (.t 57) (.t 59)),(.mv 61 (.t 60))]⟩,⟨(some (61,true)),[(.mv 62 (.t 7)),(.mv 63 (.t 9)),(.call 64 26 [(.t 62),(.t 63)])]⟩,⟨none,[(.pick 65 (.t 61) (.t 64) (.k (B false))),(.mv 66 (.t 65))]⟩,⟨(some (66,true)),[(.mv 67 (.t 8)),(.mv 68 (.t 10)),(.bin 69 .eql (.t 67) (.t 68))]⟩,⟨none,[(.pick 70 (.t 66) (.t 69) (.k (B false))),(.mv 71 (.t 70))]⟩,⟨(some (71,true)),[(.mv 72 (.t 11)),(.mv 73 (.t 13)),(.call 74 27 [(.t 72),(.t 73)])]⟩,⟨none,[(.pick 75 (.t 71) (.t 74) (.k (B false))),(.mv 76 (.t 75))]⟩,⟨(some (76,true)),[(.mv 77 (.t 12)),(.mv 78 (.t 14)),(.bin 79 .eql (.t 77) (.t 78))]⟩,⟨none,[(.pick 80 (.t 76) (.t 79) (.k (B false))),(.mv 81 (.t 80))]⟩,⟨(some (81,true)),[(.mv 82 (.t 15)),(.mv 83 (.t 17)),(.call 84 26 [(.t 82),(.t 83)])]⟩,⟨none,[(.pick 85 (.t 81) (.t 84) (.k (B false))),(.mv 86 (.t 85))]⟩,⟨(some (86,true)),[(.mv 87 (.t 16)),(.mv 88 (.t 18)),(.bin 89 .eql (.t 87) (.t 88))]⟩,⟨none,[(.pick 90 (.t 86) (.t 89) (.k (B false))),(.mv 91 (.t 90))]⟩,⟨(some (91,true)),[(.call 92 17 [])]⟩,⟨none,[(.pick 93 (.t 91) (.t 92) (.k (B false))),(.mv 6 (.t 93))]⟩] [(0,2),(1,2)] [6]) .ret)))))))))
theorem func_l_CombSheets : Tryz.prog.funcs[n_l_CombSheets]? = some Tryz.f3 := Tryz.func3
theorem form_l_CombSheets : formOf Tryz.prog Tryz.f3 [6] = some G_l_CombSheets := by kernel_rfl
theorem res_l_CombSheets : resTmps Tryz.f3.results.toList = some [6] := by kernel_rfl
abbrev n_l_great : Nat := 16
def G_l_great : AC := (.seq (.rgn [⟨none,[(.box 1 2 (.t 0)),(.mv 2 (.k (B false)))]⟩] [1]) (.seq (.rgn [⟨none,[(.fa 3 (.t 1) 0),(.ld 4 false 1 (.t 3)),(.len 5 (.t 4)),(.bin 6 .gtr (.t 5) (.k (I 12))),(.mv 7 (.t 6))]⟩,⟨(some (7,false)),[(.fa 8 (.t 1) 1),(.ld 9 false 1 (.t 8)),(.len 10 (.t 9)),(.bin 11 .gtr (.t 10) (.k (I 18)))]⟩,⟨none,[(.pick 12 (.t 7) (.k (B true)) (.t 11)),(.mv 2 (.t 12))]⟩] [2]) .ret))
theorem func_l_great : Tryz.prog.funcs[n_l_great]? = some Tryz.f16 := Tryz.func16
theorem form_l_great : formOf Tryz.prog Tryz.f16 [2] = some G_l_great := by kernel_rfl
theorem res_l_great : resTmps Tryz.f16.results.toList = some [2] := by kernel_rfl
end Go.AM

namespace Go.AM
open Go.RowKit Go.Proofs
def grtK (s : SH) : Bool := decide (12 < s.k.length) || decide (18 < s.m.length)
theorem grtK_sz {s : SH} (h : grtK s = false) : SzS s ∧ s.k.length ≤ 12 ∧ s.m.length ≤ 18 := by
 unfold grtK at h
 simp only [Bool.or_eq_false_iff,decide_eq_false_iff_not] at h
 exact ⟨⟨by omega,by omega⟩,by omega,by omega⟩
theorem lk_great_ok (f g : Bool) (s : SH) : PureOK Tryz.prog n_l_great [Sn f g s] (B (grtK s)) := by
 refine pure_of (walk func_l_great form_l_great res_l_great (by show 1 ≤ _; decide) ?_)
 simp -implicitDefEqProofs (disch := omega) [G_l_great,wrap_id]
 unfold grtK
 have e1 : decide ((12 : Int) < (s.k.length : Int)) = decide (12 < s.k.length) := by rw [decide_eq_decide]; omega
 have e2 : decide ((18 : Int) < (s.m.length : Int)) = decide (18 < s.m.length) := by rw [decide_eq_decide]; omega
 cases h : decide (12 < s.k.length) with
 | true =>
   rw [h] at e1
   simp -implicitDefEqProofs (disch := omega) [wrap_id,e1]
 | false =>
   rw [h] at e1
   simp -implicitDefEqProofs (disch := omega) [wrap_id,e1,e2]
end Go.AM

namespace Go.AM
open Go.RowKit Go.Proofs
theorem bitL_60 {n : Nat} : (bitL n).length ≤ 60 := bitT_len
theorem hasL_len {s : SH} {r : Int × Int} : (hasL s r).length ≤ 60 := by
 unfold hasL
 split
 · exact bitL_60
 · exact Nat.zero_le _
theorem plsL_len {s : SH} {n : Int} : (plsL s n).length ≤ 501 := by
 unfold plsL
 split
 · exact plcT_len
 · exact Nat.zero_le _
theorem lstL_len {s : SH} : (lstL s).length ≤ 60 := by
 unfold lstL
 split
 · unfold lostL; exact bitL_60
 · exact Nat.zero_le _
set_option maxHeartbeats 8000000 in
theorem lawSheets (f g : Bool) (s : SH) (r : Int × Int) (n : Int) : PureOK Tryz.prog n_l_CombSheets [Sn f g s,Pr r,I n] (B true) := by
 refine pure_of (walk func_l_CombSheets form_l_CombSheets res_l_CombSheets (by show 3 ≤ _; decide) ?_)
 simp -implicitDefEqProofs (disch := omega) [G_l_CombSheets,wrap_id]
 refine callW_pure (ys := [Sn f g s]) (ids := []) rfl (lk_great_ok f g s) ?_
 cases hg : grtK s with
 | true =>
   simp -implicitDefEqProofs (disch := omega) [wrap_id]
   refine callW_pure rfl lk_Works_ok ?_
   simp -implicitDefEqProofs (disch := omega) [wrap_id]
 | false =>
   obtain ⟨hz,_,_⟩ := grtK_sz hg
   have l1 := hasL_len (s := s) (r := r)
   have l2 := plsL_len (s := s) (n := n)
   have l3 := lstL_len (s := s)
   simp -implicitDefEqProofs (disch := omega) [wrap_id]
   refine callW_pure (ys := [Sn f g s,Pr r]) (ids := []) rfl (k_Has_ok f g s hz r) ?_
   simp -implicitDefEqProofs (disch := omega) [wrap_id]
   refine callW_pure (ys := [Sn f g s,Pr r]) (ids := []) rfl (r_Has_ok f g s hz r) ?_
   simp -implicitDefEqProofs (disch := omega) [wrap_id]
   refine callW_pure (ys := [Sn f g s,I n]) (ids := []) rfl (k_Places_ok f g s hz n) ?_
   simp -implicitDefEqProofs (disch := omega) [wrap_id]
   refine callW_pure (ys := [Sn f g s,I n]) (ids := []) rfl (r_Places_ok f g s hz n) ?_
   simp -implicitDefEqProofs (disch := omega) [wrap_id]
   refine callW_pure (ys := [Sn f g s]) (ids := []) rfl (k_Lost_ok f g s hz) ?_
   simp -implicitDefEqProofs (disch := omega) [wrap_id]
   refine callW_pure (ys := [Sn f g s]) (ids := []) rfl (r_Lost_ok f g s hz) ?_
   simp -implicitDefEqProofs (disch := omega) [wrap_id]
   refine pureW_of (ys := [Sn f g s]) (ids := []) rfl (k_CheckSheet_ok f g s hz) ?_
   simp -implicitDefEqProofs (disch := omega) [wrap_id]
   refine pureW_of (ys := [Sn f g s]) (ids := []) rfl (r_CheckSheet_ok f g s hz) ?_
   simp -implicitDefEqProofs (disch := omega) [wrap_id]
   refine pureW_of rfl (lk_ints_ok _ _ (hasL s r) (hasL s r) (by omega) (by omega)) ?_
   simp -implicitDefEqProofs (disch := omega) [wrap_id]
   refine pureW_of rfl (lk_longs_ok _ _ (plsL s n) (plsL s n) (by omega) (by omega)) ?_
   simp -implicitDefEqProofs (disch := omega) [wrap_id]
   refine pureW_of rfl (lk_ints_ok _ _ (lstL s) (lstL s) (by omega) (by omega)) ?_
   simp -implicitDefEqProofs (disch := omega) [wrap_id]
   refine pureW_of rfl lk_Works_ok ?_
   simp -implicitDefEqProofs (disch := omega) [wrap_id,cmp2,nthT,disj]
end Go.AM
