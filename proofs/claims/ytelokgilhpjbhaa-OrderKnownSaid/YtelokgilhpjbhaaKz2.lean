/-
  Kz2: texts joined: FmOL LoK. Own work.
-/
import Derived.Test.YtelokgilhpjbhaaKz1
import Derived.Test.YtelokgilhpjbhaaProg

set_option maxRecDepth 100000
namespace Go.AM
open Go.RowKit Go.Proofs
abbrev n_l_OrderKnown : Nat := 3
def G_l_OrderKnown : AC := (.seq (.rgn [⟨none, [(.mv 0 (.k (B false)))]⟩] []) (.seq (.rgn [⟨none, [(.call 21 4 []), (.call 22 5 []), (.call 23 6 []), (.al 1 [(I 0), (.sl true 0 [])]), (.al 2 [(I 0), (.sl true 0 [])]), (.st 2 (.t 1) (.t 21)), (.st 2 (.t 2) (.t 22)), (.mv 3 (.t 23))]⟩] [1, 2, 3]) (.seq (.rgn [⟨none, [(.ld 25 true 2 (.t 1)), (.mv 26 (.t 3)), (.bsl 27 2 1 [(I 0)] [(0, (.k (I 0))), (1, (.k (I 1)))]), (.call 28 7 [(.t 25), (.t 26), (.t 27)]), (.mv 24 (.t 28)), (.ext 29 (.t 24) 0), (.ext 30 (.t 24) 1), (.mv 4 (.t 29)), (.mv 5 (.t 30))]⟩] [1, 2, 3, 4, 5]) (.seq (.rgn [⟨none, [(.ld 32 true 2 (.t 1)), (.bsl 33 2 1 [(I 0)] [(0, (.k (I 1))), (1, (.k (I 0)))]), (.call 34 8 [(.t 32), (.t 33)]), (.mv 31 (.t 34)), (.ext 35 (.t 31) 0), (.ext 36 (.t 31) 1), (.mv 6 (.t 35)), (.mv 7 (.t 36))]⟩] [1, 2, 3, 4, 5, 6, 7]) (.seq (.rgn [⟨none, [(.ld 38 true 2 (.t 1)), (.bsl 39 1 1 [(I 0)] [(0, (.k (I 1)))]), (.call 40 9 [(.t 38), (.t 39)]), (.mv 37 (.t 40)), (.ext 41 (.t 37) 0), (.ext 42 (.t 37) 1), (.mv 8 (.t 41)), (.mv 9 (.t 42))]⟩] [1, 2, 3, 4, 5, 6, 7, 8, 9]) (.seq (.rgn [⟨none, [(.ld 44 true 2 (.t 2)), (.bsl 45 2 1 [(I 0)] [(0, (.k (I 0))), (1, (.k (I 1)))]), (.call 46 9 [(.t 44), (.t 45)]), (.mv 43 (.t 46)), (.ext 47 (.t 43) 0), (.ext 48 (.t 43) 1), (.mv 10 (.t 47)), (.mv 11 (.t 48))]⟩] [1, 2, 3, 4, 5, 6, 7, 8, 9, 10, 11]) (.seq (.rgn [⟨none, [(.ld 50 true 2 (.t 1)), (.mv 51 (.t 3)), (.bsl 52 4 1 [(I 0)] [(0, (.k (I 1))), (1, (.k (I 2))), (2, (.k (I 0))), (3, (.k (I 0)))]), (.call 53 10 [(.t 50), (.t 51), (.t 52)]), (.mv 49 (.t 53)), (.ext 54 (.t 49) 0), (.ext 55 (.t 49) 1), (.mv 12 (.t 54)), (.mv 13 (.t 55))]⟩] [1, 2, 3, 4, 5, 6, 7, 8, 9, 10, 11, 12, 13]) (.seq (.rgn [⟨none, [(.ld 57 true 2 (.t 1)), (.call 58 11 [(.t 57), (.k (I 0)), (.k (I 1))]), (.mv 56 (.t 58)), (.ext 59 (.t 56) 0), (.ext 60 (.t 56) 1), (.mv 14 (.t 59)), (.mv 15 (.t 60))]⟩] [1, 2, 3, 4, 5, 6, 7, 8, 9, 10, 11, 12, 13, 14, 15]) (.seq (.rgn [⟨none, [(.ld 62 true 2 (.t 2)), (.call 63 11 [(.t 62), (.k (I 0)), (.k (I 1))]), (.mv 61 (.t 63)), (.ext 64 (.t 61) 0), (.ext 65 (.t 61) 1), (.mv 16 (.t 64)), (.mv 17 (.t 65))]⟩] [1, 2, 3, 4, 5, 6, 7, 8, 9, 10, 11, 12, 13, 14, 15, 16, 17]) (.seq (.drw [⟨none, [(.ld 66 true 2 (.t 2)), (.mv 67 (.t 3)), (.bsl 68 4 1 [(I 0)] [(0, (.k (I 0))), (1, (.k (I 1))), (2, (.k (I 0))), (3, (.k (I 2)))]), (.call 69 13 [(.k (I 0)), (.k (I 1)), (.k (I 0)), (.k (I 0))]), (.call 70 12 [(.t 66), (.t 67), (.t 68), (.t 69)]), (.mv 18 (.t 70))]⟩] [(0, 2), (0, 3), (2, 3)] [1, 3, 4, 5, 6, 7, 8, 9, 10, 11, 12, 13, 14, 15, 16, 17, 18]) (.seq (.rgn [⟨none, [(.ld 72 true 2 (.t 1)), (.mv 73 (.t 3)), (.bsl 74 4 1 [(I 0)] [(0, (.k (I 1))), (1, (.k (I 2))), (2, (.k (I 0))), (3, (.k (I 0)))]), (.call 75 14 [(.t 72), (.t 73), (.t 74), (.k (I 0))]), (.mv 71 (.t 75)), (.ext 76 (.t 71) 0), (.ext 77 (.t 71) 1), (.mv 19 (.t 76)), (.mv 20 (.t 77))]⟩] [4, 5, 6, 7, 8, 9, 10, 11, 12, 13, 14, 15, 16, 17, 18, 19, 20]) (.seq (.rgn [⟨none, [(.mv 78 (.t 5)), (.bin 79 .eql (.t 78) (.k (I 0))), (.mv 80 (.t 79))]⟩, ⟨(some (80, true)), [(.mv 81 (.t 7)), (.bin 82 .eql (.t 81) (.k (I 0)))]⟩, ⟨none, [(.pick 83 (.t 80) (.t 82) (.k (B false))), (.mv 84 (.t 83))]⟩, ⟨(some (84, true)), [(.mv 85 (.t 9)), (.bin 86 .eql (.t 85) (.k (I 0)))]⟩, ⟨none, [(.pick 87 (.t 84) (.t 86) (.k (B false))), (.mv 88 (.t 87))]⟩, ⟨(some (88, true)), [(.mv 89 (.t 11)), (.bin 90 .eql (.t 89) (.k (I 0)))]⟩, ⟨none, [(.pick 91 (.t 88) (.t 90) (.k (B false))), (.mv 92 (.t 91))]⟩, ⟨(some (92, true)), [(.mv 93 (.t 13)), (.bin 94 .eql (.t 93) (.k (I 0)))]⟩, ⟨none, [(.pick 95 (.t 92) (.t 94) (.k (B false))), (.mv 96 (.t 95))]⟩, ⟨(some (96, true)), [(.mv 97 (.t 15)), (.bin 98 .eql (.t 97) (.k (I 0)))]⟩, ⟨none, [(.pick 99 (.t 96) (.t 98) (.k (B false))), (.mv 100 (.t 99))]⟩, ⟨(some (100, true)), [(.mv 101 (.t 17)), (.bin 102 .eql (.t 101) (.k (I 0)))]⟩, ⟨none, [(.pick 103 (.t 100) (.t 102) (.k (B false))), (.mv 104 (.t 103))]⟩, ⟨(some (104, true)), [(.mv 105 (.t 18)), (.bin 106 .eql (.t 105) (.k (I 0)))]⟩, ⟨none, [(.pick 107 (.t 104) (.t 106) (.k (B false))), (.mv 108 (.t 107))]⟩, ⟨(some (108, true)), [(.mv 109 (.t 20)), (.bin 110 .eql (.t 109) (.k (I 0)))]⟩, ⟨none, [(.pick 111 (.t 108) (.t 110) (.k (B false))), (.mv 112 (.t 111))]⟩, ⟨(some (112, true)), [(.mv 113 (.t 4)), (.bsl 114 4 1 [(I 0)] [(0, (.k (I 0))), (1, (.k (I 1))), (2, (.k (I 2))), (3, (.k (I 0)))]), (.call 115 15 [(.t 113), (.t 114)])]⟩, ⟨none, [(.pick 116 (.t 112) (.t 115) (.k (B false))), (.mv 117 (.t 116))]⟩, ⟨(some (117, true)), [(.mv 118 (.t 6)), (.bsl 119 4 1 [(I 0)] [(0, (.k (I 2))), (1, (.k (I 1))), (2, (.k (I 3))), (3, (.k (I 0)))]), (.call 120 15 [(.t 118), (.t 119)])]⟩, ⟨none, [(.pick 121 (.t 117) (.t 120) (.k (B false))), (.mv 122 (.t 121))]⟩, ⟨(some (122, true)), [(.mv 123 (.t 8)), (.bin 124 .eql (.t 123) (.k (I 4)))]⟩, ⟨none, [(.pick 125 (.t 122) (.t 124) (.k (B false))), (.mv 126 (.t 125))]⟩, ⟨(some (126, true)), [(.mv 127 (.t 10)), (.bin 128 .eql (.t 127) (.k (I 2)))]⟩, ⟨none, [(.pick 129 (.t 126) (.t 128) (.k (B false))), (.mv 130 (.t 129))]⟩, ⟨(some (130, true)), [(.mv 131 (.t 12)), (.bsl 132 2 1 [(I 0)] [(0, (.k (I 1))), (1, (.k (I 1)))]), (.call 133 15 [(.t 131), (.t 132)])]⟩, ⟨none, [(.pick 134 (.t 130) (.t 133) (.k (B false))), (.mv 135 (.t 134))]⟩, ⟨(some (135, true)), [(.mv 136 (.t 14)), (.len 137 (.t 136)), (.bin 138 .eql (.t 137) (.k (I 12)))]⟩, ⟨none, [(.pick 139 (.t 135) (.t 138) (.k (B false))), (.mv 140 (.t 139))]⟩, ⟨(some (140, true)), [(.mv 141 (.t 16)), (.bld 142 [(I 0), (I 0)] [(0, 1, (.k (I 0))), (1, 1, (.k (I 1)))]), (.bld 143 [(I 0), (I 0)] [(0, 1, (.k (I 1))), (1, 1, (.k (I 0)))]), (.bsl 144 2 2 [(I 0), (I 0)] [(0, (.t 142)), (1, (.t 143))]), (.call 145 16 [(.t 141), (.t 144)])]⟩, ⟨none, [(.pick 146 (.t 140) (.t 145) (.k (B false))), (.mv 147 (.t 146))]⟩, ⟨(some (147, true)), [(.mv 148 (.t 19)), (.bin 149 .eql (.t 148) (.k (I 0)))]⟩, ⟨none, [(.pick 150 (.t 147) (.t 149) (.k (B false))), (.mv 151 (.t 150))]⟩, ⟨(some (151, true)), [(.call 152 17 [])]⟩, ⟨none, [(.pick 153 (.t 151) (.t 152) (.k (B false))), (.mv 0 (.t 153))]⟩] [0]) .ret))))))))))))
theorem func_l_OrderKnown : Try.prog.funcs[n_l_OrderKnown]? = some Try.f3 := Try.func3
theorem form_l_OrderKnown : formOf Try.prog Try.f3 [0] = some G_l_OrderKnown := by kernel_rfl
theorem res_l_OrderKnown : resTmps Try.f3.results.toList = some [0] := by kernel_rfl
end Go.AM

set_option linter.unusedSimpArgs false
set_option linter.unusedVariables false
namespace Go.AM
open Go.RowKit Go.Proofs
theorem k2_drw : drwL bTur rR [0, 1] = [0, 1, 2, 0] ∧ drwE bTur rR [0, 1] = 0 := by decide +kernel
theorem k2_jnt : jntL bTur [1, 0] = [2, 1, 3, 0] ∧ jntE bTur [1, 0] = 0 := by decide +kernel
theorem k2_rnd : rndV bTur [1] = 4 ∧ jntE bTur [1] = 0 := by decide +kernel
theorem k2_rn2 : rndV bPar [0, 1] = 2 ∧ jntE bPar [0, 1] = 0 := by decide +kernel
theorem k2_bst : AnsB bTur rR rT [1, 1] 0 :=
  .inr ⟨by decide +kernel, .inr ⟨2, [1, 1], k_dst, best_words (by decide +kernel) (by decide +kernel), rfl, rfl⟩⟩
def ppTur (a q : Nat × Nat) : Bool := decide (a.1 = a.2) == decide (q.1 = q.2)
def wds : Nat → List (List Nat)
  | 0 => [[]]
  | n + 1 => [] :: ((wds n).map (0 :: ·) ++ (wds n).map (1 :: ·))
theorem pp_tur : PPok bTur ppTur := by
  obtain ⟨n, hb⟩ := okb_of (b := bTur) (by decide +kernel)
  have : n = 4 := by have := hb.P; simp at this; omega
  subst this
  exact ppok_try hb (wds 7) (by decide +kernel) (by decide +kernel) (by decide +kernel)
theorem k2_prs : (prsA bTur 0 1 ppTur).length = 12 ∧ prsE bTur 0 1 = 0 := by decide +kernel
theorem k2_pr2 : prsA bPar 0 1 ppPar = [(0, 1), (1, 0)] ∧ prsE bPar 0 1 = 0 := by decide +kernel
theorem k2_ckp : ckpE bPar rR rO 0 1 0 0 ppPar = 0 := by decide +kernel
theorem k2_ovr : ¬ Over bTur.S rR rT 2 0 := by
  rintro ⟨y, m, m', ⟨⟨l, h1, h2⟩, _⟩, ⟨⟨l', h3, h4⟩, _⟩, h5⟩
  have hw : Wd bTur.S rR rT (l ++ 0 :: l') := h1.append (Wd.cons.2 ⟨by decide, h3⟩)
  have := mem_wordsL.2 ⟨hw, (by simp; omega : (l ++ 0 :: l').length = 2)⟩
  rw [show wordsL bTur.S 2 rR rT = [[1, 1]] from by decide +kernel, List.mem_singleton] at this
  have h0 : 0 ∈ l ++ 0 :: l' := by simp
  rw [this] at h0
  exact absurd h0 (by decide)
theorem k2_knd : AnsK bTur rR rT 0 0 0 := .inr ⟨by decide +kernel, .inr ⟨by decide, .inr ⟨2, k_dst, rfl, .inr (.inr ⟨dist_words (by decide +kernel) (by decide +kernel), k2_ovr, rfl⟩)⟩⟩⟩
set_option maxHeartbeats 4000000 in
theorem lawOrderKnown : PureOK Try.prog n_l_OrderKnown [] (B true) := by
  refine pure_of (walk func_l_OrderKnown form_l_OrderKnown res_l_OrderKnown (by show 0 ≤ _; decide) ?_)
  simp -implicitDefEqProofs (disch := omega) [G_l_OrderKnown, wrap_id]
  refine callW_pure rfl l_turning_ok ?_
  simp -implicitDefEqProofs (disch := omega) [wrap_id]
  refine callW_pure rfl l_parted_ok ?_
  simp -implicitDefEqProofs (disch := omega) [wrap_id]
  refine callW_pure rfl l_row_ok ?_
  simp -implicitDefEqProofs (disch := omega) [wrap_id]
  refine bsl_of (ys := [I 0, I 1]) rfl rfl ?_
  simp -implicitDefEqProofs (disch := omega) [wrap_id, zrep]
  refine callW_pure (ys := [On true bTur, Ls true rR, Ls true [0, 1]]) (ids := []) rfl (o_Draw_ok true true true bTur sz_tur rR [0, 1] (by decide) (by decide)) ?_
  rw [k2_drw.1, k2_drw.2]
  simp -implicitDefEqProofs (disch := omega) [wrap_id]
  refine bsl_of (ys := [I 1, I 0]) rfl rfl ?_
  simp -implicitDefEqProofs (disch := omega) [wrap_id, zrep]
  refine callW_pure (ys := [On true bTur, Ls true [1, 0]]) (ids := []) rfl (o_Joint_ok true true bTur sz_tur [1, 0] (by decide)) ?_
  rw [k2_jnt.1, k2_jnt.2]
  simp -implicitDefEqProofs (disch := omega) [wrap_id]
  refine bsl_of (ys := [I 1]) rfl rfl ?_
  simp -implicitDefEqProofs (disch := omega) [wrap_id, zrep]
  refine callW_pure (ys := [On true bTur, Ls true [1]]) (ids := []) rfl (o_Round_ok true true bTur sz_tur [1] (by decide)) ?_
  rw [k2_rnd.1, k2_rnd.2]
  simp -implicitDefEqProofs (disch := omega) [wrap_id]
  refine bsl_of (ys := [I 0, I 1]) rfl rfl ?_
  simp -implicitDefEqProofs (disch := omega) [wrap_id, zrep]
  refine callW_pure (ys := [On true bPar, Ls true [0, 1]]) (ids := []) rfl (o_Round_ok true true bPar sz_par [0, 1] (by decide)) ?_
  rw [k2_rn2.1, k2_rn2.2]
  simp -implicitDefEqProofs (disch := omega) [wrap_id]
  refine bsl_of (ys := [I 1, I 2, I 0, I 0]) rfl rfl ?_
  simp -implicitDefEqProofs (disch := omega) [wrap_id, zrep]
  refine callW_pure (ys := [On true bTur, Ls true rR, Ls true rT]) (ids := []) rfl (o_Best_ok true true true bTur sz_tur rR rT (by decide) (by decide) k2_bst) ?_
  simp -implicitDefEqProofs (disch := omega) [wrap_id]
  refine callW_pure (ys := [On true bTur, I 0, I 1]) (ids := []) rfl (o_Pairs_ok true bTur sz_tur 0 1 pp_tur) ?_
  rw [k2_prs.2]
  simp -implicitDefEqProofs (disch := omega) [wrap_id]
  refine callW_pure (ys := [On true bPar, I 0, I 1]) (ids := []) rfl (o_Pairs_ok true bPar sz_par 0 1 pp_par) ?_
  rw [k2_pr2.1, k2_pr2.2]
  simp -implicitDefEqProofs (disch := omega) [wrap_id]
  refine bsl_of (ys := [I 0, I 1, I 0, I 2]) rfl rfl ?_
  simp -implicitDefEqProofs (disch := omega) [wrap_id, zrep, cmp2, nthT]
  refine pureW_of (ys := [I 0, I 1, I 0, I 0]) (ids := []) rfl (l_pair_ok 0 1 0 0) ?_
  simp -implicitDefEqProofs (disch := omega) [wrap_id, cmp2, nthT]
  refine pureW_of (ys := [On true bPar, Ls true rR, Ls true rO, Pt 0 1 0 0]) (ids := []) rfl (o_CheckPair_ok true true true bPar sz_par rR rO (by decide) (by decide) 0 1 0 0 pp_par) ?_
  rw [k2_ckp]
  simp -implicitDefEqProofs (disch := omega) [wrap_id, cmp2, nthT]
  refine bsl_of (ys := [I 1, I 2, I 0, I 0]) rfl rfl ?_
  simp -implicitDefEqProofs (disch := omega) [wrap_id, zrep]
  refine callW_pure (ys := [On true bTur, Ls true rR, Ls true rT, I 0]) (ids := []) rfl (o_Kind_ok true true true bTur sz_tur rR rT (by decide) (by decide) 0 k2_knd) ?_
  simp -implicitDefEqProofs (disch := omega) [wrap_id]
  refine bsl_of (ys := [I 0, I 1, I 2, I 0]) rfl rfl ?_
  simp -implicitDefEqProofs (disch := omega) [wrap_id, zrep]
  refine callW_pure (ys := [Ls false [0, 1, 2, 0], Ls true [0, 1, 2, 0]]) (ids := []) rfl (l_ints_ok false true [0, 1, 2, 0] [0, 1, 2, 0] (by decide) (by decide)) ?_
  simp -implicitDefEqProofs (disch := omega) [wrap_id]
  refine bsl_of (ys := [I 2, I 1, I 3, I 0]) rfl rfl ?_
  simp -implicitDefEqProofs (disch := omega) [wrap_id, zrep]
  refine callW_pure (ys := [Ls false [2, 1, 3, 0], Ls true [2, 1, 3, 0]]) (ids := []) rfl (l_ints_ok false true [2, 1, 3, 0] [2, 1, 3, 0] (by decide) (by decide)) ?_
  simp -implicitDefEqProofs (disch := omega) [wrap_id]
  refine bsl_of (ys := [I 1, I 1]) rfl rfl ?_
  simp -implicitDefEqProofs (disch := omega) [wrap_id, zrep]
  refine callW_pure (ys := [Ls false [1, 1], Ls true [1, 1]]) (ids := []) rfl (l_ints_ok false true [1, 1] [1, 1] (by decide) (by decide)) ?_
  simp -implicitDefEqProofs (disch := omega) [wrap_id]
  have e12 : (((prsA bTur 0 1 ppTur).length : Int) == 12) = true := by rw [k2_prs.1]; rfl
  simp -implicitDefEqProofs (disch := omega) [wrap_id, e12]
  refine bsl_of (sz := 2) (ys := [Pr (0, 1), Pr (1, 0)]) (by rfl) (by rfl) ?_
  simp -implicitDefEqProofs (disch := omega) [wrap_id, zrep]
  refine callW_pure (ys := [Ps false [(0, 1), (1, 0)], Ps true [(0, 1), (1, 0)]]) (ids := []) rfl (l_twos_ok false true [(0, 1), (1, 0)] [(0, 1), (1, 0)] (by decide) (by decide)) ?_
  simp -implicitDefEqProofs (disch := omega) [wrap_id]
  exact callW_pure rfl works_ok (by simp)
end Go.AM
