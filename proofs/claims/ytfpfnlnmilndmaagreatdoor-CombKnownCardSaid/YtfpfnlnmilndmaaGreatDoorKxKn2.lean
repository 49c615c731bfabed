/-
  KxKn2: texts joined: FmCL Lc2 Ld9. Own work.
-/
import Derived.Test.YtfpfnlnmilndmaaGreatDoorKxKn1
import Derived.Test.YtfpfnlnmilndmaaGreatDoorProg
set_option linter.unusedSimpArgs false
set_option linter.unusedVariables false

set_option maxRecDepth 100000
namespace Go.AM
open Go.RowKit Go.Proofs
abbrev n_l_CombKnown : Nat := 15
def G_l_CombKnown : AC := (.seq (.rgn [⟨none,[(.mv 0 (.k (B false)))]⟩] []) (.seq (.rgn [⟨none,[(.call 15 56 []),(.al 1 [(.sl true 0 []),(.sl true 0 [])]),(.st 2 (.t 1) (.t 15))]⟩] [1]) (.seq (.drw [⟨none,[(.ld 17 true 2 (.t 1)),(.call 18 49 [(.k (I 1)),(.k (I 21))]),(.call 19 18 [(.t 17),(.t 18)]),(.mv 16 (.t 19)),(.ext 20 (.t 16) 0),(.ext 21 (.t 16) 1),(.mv 2 (.t 20)),(.mv 3 (.t 21))]⟩] [(0,1)] [1,2,3]) (.seq (.rgn [⟨none,[(.ld 23 true 2 (.t 1)),(.call 24 20 [(.t 23),(.k (I 0))]),(.mv 22 (.t 24)),(.ext 25 (.t 22) 0),(.ext 26 (.t 22) 1),(.mv 4 (.t 25)),(.mv 5 (.t 26))]⟩] [1,2,3,4,5]) (.seq (.rgn [⟨none,[(.ld 28 true 2 (.t 1)),(.call 29 22 [(.t 28)]),(.mv 27 (.t 29)),(.ext 30 (.t 27) 0),(.ext 31 (.t 27) 1),(.mv 6 (.t 30)),(.mv 7 (.t 31))]⟩] [1,2,3,4,5,6,7]) (.seq (.drw [⟨none,[(.ld 32 true 2 (.t 1)),(.call 33 49 [(.k (I 0)),(.k (I 5))]),(.call 34 49 [(.k (I 1)),(.k (I 20))]),(.bsl 35 2 2 [(I 0),(I 0)] [(0,(.t 33)),(1,(.t 34))]),(.call 36 32 [(.t 32),(.t 35)]),(.mv 8 (.t 36))]⟩] [(0,1),(0,2),(0,3)] [1,2,3,4,5,6,7,8]) (.seq (.rgn [⟨none,[(.ld 37 true 2 (.t 1)),(.bsl 38 2 1 [(I 0)] [(0,(.k (I 1))),(1,(.k (I 2)))]),(.call 39 39 [(.t 37),(.t 38)]),(.mv 9 (.t 39))]⟩] [1,2,3,4,5,6,7,8,9]) (.seq (.drw [⟨none,[(.ld 41 true 2 (.t 1)),(.call 42 49 [(.k (I 0)),(.k (I 7))]),(.call 43 41 [(.t 41),(.t 42)]),(.mv 40 (.t 43)),(.ext 44 (.t 40) 0),(.ext 45 (.t 40) 1),(.mv 10 (.t 44)),(.mv 11 (.t 45))]⟩] [(0,1)] [2,3,4,5,6,7,8,9,10,11]) (.seq (.rgn [⟨none,[(.call 47 54 [(.k (I 0)),(.k (I 3))]),(.call 48 54 [(.k (I 10)),(.k (I 13))]),(.bsl 49 2 2 [(I 0),(I 0)] [(0,(.t 47)),(1,(.t 48))]),(.call 50 45 [(.t 49)]),(.mv 46 (.t 50)),(.ext 51 (.t 46) 0),(.ext 52 (.t 46) 1),(.mv 12 (.t 51)),(.mv 13 (.t 52))]⟩] [2,3,4,5,6,7,8,9,10,11,12,13]) (.seq (.rgn [⟨none,[(.call 53 54 [(.k (I 3)),(.k (I 3))]),(.bld 54 [(I 0),(I 0),(I 0)] [(0,1,(.k (I 7))),(1,2,(.t 53))]),(.call 55 54 [(.k (I 2)),(.k (I 3))]),(.bld 56 [(I 0),(I 0),(I 0)] [(0,1,(.k (I 8))),(1,2,(.t 55))]),(.call 57 54 [(.k (I 1)),(.k (I 3))]),(.bld 58 [(I 0),(I 0),(I 0)] [(0,1,(.k (I 9))),(1,2,(.t 57))]),(.call 59 54 [(.k (I 0)),(.k (I 3))]),(.bld 60 [(I 0),(I 0),(I 0)] [(0,1,(.k (I 10))),(1,2,(.t 59))]),(.call 61 54 [(.k (I 0)),(.k (I 2))]),(.bld 62 [(I 0),(I 0),(I 0)] [(0,1,(.k (I 11))),(1,2,(.t 61))]),(.call 63 54 [(.k (I 0)),(.k (I 1))]),(.bld 64 [(I 0),(I 0),(I 0)] [(0,1,(.k (I 12))),(1,2,(.t 63))]),(.call 65 54 [(.k (I 0)),(.k (I 0))]),(.bld 66 [(I 0),(I 0),(I 0)] [(0,1,(.k (I 13))),(1,2,(.t 65))]),(.bsl 67 7 3 [(I 0),(I 0),(I 0)] [(0,(.t 54)),(1,(.t 56)),(2,(.t 58)),(3,(.t 60)),(4,(.t 62)),(5,(.t 64)),(6,(.t 66))]),(.mv 14 (.t 67))]⟩] [2,3,4,5,6,7,8,9,10,11,12,13,14]) (.seq (.rgn [⟨none,[(.mv 68 (.t 3)),(.bin 69 .eql (.t 68) (.k (I 0))),(.mv 70 (.t 69))]⟩,⟨(some (70,true)),[(.mv 71 (.t 5)),(.bin 72 .eql (.t 71) (.k (I 0)))]⟩,⟨none,[(.pick 73 (.t 70) (.t 72) (.k (B false))),(.mv 74 (.t 73))]⟩,⟨(some (74,true)),[(.mv 75 (.t 7)),(.bin 76 .eql (.t 75) (.k (I 0)))]⟩,⟨none,[(.pick 77 (.t 74) (.t 76) (.k (B false))),(.mv 78 (.t 77))]⟩,⟨(some (78,true)),[(.mv 79 (.t 8)),(.bin 80 .eql (.t 79) (.k (I 0)))]⟩,⟨none,[(.pick 81 (.t 78) (.t 80) (.k (B false))),(.mv 82 (.t 81))]⟩,⟨(some (82,true)),[(.mv 83 (.t 9)),(.bin 84 .eql (.t 83) (.k (I 0)))]⟩,⟨none,[(.pick 85 (.t 82) (.t 84) (.k (B false))),(.mv 86 (.t 85))]⟩,⟨(some (86,true)),[(.mv 87 (.t 11)),(.bin 88 .eql (.t 87) (.k (I 0)))]⟩,⟨none,[(.pick 89 (.t 86) (.t 88) (.k (B false))),(.mv 90 (.t 89))]⟩,⟨(some (90,true)),[(.mv 91 (.t 13)),(.bin 92 .eql (.t 91) (.k (I 0)))]⟩,⟨none,[(.pick 93 (.t 90) (.t 92) (.k (B false))),(.mv 94 (.t 93))]⟩,⟨(some (94,true)),[(.mv 95 (.t 2)),(.bsl 96 2 1 [(I 0)] [(0,(.k (I 2))),(1,(.k (I 4)))]),(.call 97 26 [(.t 95),(.t 96)])]⟩,⟨none,[(.pick 98 (.t 94) (.t 97) (.k (B false))),(.mv 99 (.t 98))]⟩,⟨(some (99,true)),[(.mv 100 (.t 4)),(.bsl 101 2 1 [(I 0)] [(0,(.k (I 5))),(1,(.k (I 15)))]),(.call 102 27 [(.t 100),(.t 101)])]⟩,⟨none,[(.pick 103 (.t 99) (.t 102) (.k (B false))),(.mv 104 (.t 103))]⟩,⟨(some (104,true)),[(.mv 105 (.t 6)),(.len 106 (.t 105)),(.bin 107 .eql (.t 106) (.k (I 0)))]⟩,⟨none,[(.pick 108 (.t 104) (.t 107) (.k (B false))),(.mv 109 (.t 108))]⟩,⟨(some (109,true)),[(.mv 110 (.t 10)),(.bin 111 .eql (.t 110) (.k (I 0)))]⟩,⟨none,[(.pick 112 (.t 109) (.t 111) (.k (B false))),(.mv 113 (.t 112))]⟩,⟨(some (113,true)),[(.mv 114 (.t 12)),(.mv 115 (.t 14)),(.call 116 47 [(.t 114),(.t 115)])]⟩,⟨none,[(.pick 117 (.t 113) (.t 116) (.k (B false))),(.mv 118 (.t 117))]⟩,⟨(some (118,true)),[(.call 119 17 [])]⟩,⟨none,[(.pick 120 (.t 118) (.t 119) (.k (B false))),(.mv 0 (.t 120))]⟩] [0]) .ret)))))))))))
theorem func_l_CombKnown : Tryz.prog.funcs[n_l_CombKnown]? = some Tryz.f15 := Tryz.func15
theorem form_l_CombKnown : formOf Tryz.prog Tryz.f15 [0] = some G_l_CombKnown := by kernel_rfl
theorem res_l_CombKnown : resTmps Tryz.f15.results.toList = some [0] := by kernel_rfl
abbrev n_l_spaces : Nat := 47
def G_l_spaces : AC := (.seq (.rgn [⟨none,[(.mv 4 (.k (B false)))]⟩] [0,1]) (.seq (.seq (.rgn [⟨none,[(.mv 6 (.t 0)),(.len 7 (.t 6)),(.mv 8 (.t 1)),(.len 9 (.t 8)),(.bin 10 .neq (.t 7) (.t 9))]⟩] [0,1,10]) (.cond (.t 10) (.seq (.rgn [⟨none,[(.mv 4 (.k (B false)))]⟩] [4]) .ret) .skip)) (.seq (.seq (.rgn [⟨none,[(.mv 5 (.k (I 0)))]⟩] [0,1,5]) (.block 0 (.loop (.seq (.seq (.rgn [⟨none,[(.mv 11 (.t 5)),(.mv 12 (.t 0)),(.len 13 (.t 12)),(.bin 14 .lss (.t 11) (.t 13))]⟩] [0,1,5,14]) (.cond (.t 14) .skip (.exit 0))) (.seq (.block 1 (.seq (.drw [⟨none,[(.mv 17 (.t 0)),(.mv 18 (.t 5)),(.ia 19 3 (.t 17) (.t 18)),(.ld 20 true 3 (.t 19)),(.mv 21 (.t 1)),(.mv 22 (.t 5)),(.ia 23 3 (.t 21) (.t 22)),(.ld 24 true 3 (.t 23)),(.eqk 25 true (true,[.int,.int,.int]) (.t 20) (.t 24))]⟩] [(3,7)] [0,1,5,25]) (.cond (.t 25) (.seq (.rgn [⟨none,[(.mv 4 (.k (B false)))]⟩] [4]) .ret) .skip))) (.rgn [⟨none,[(.mv 15 (.t 5)),(.bin 16 .add (.t 15) (.k (I 1))),(.mv 5 (.t 16))]⟩] [0,1,5])))))) (.seq (.rgn [⟨none,[(.mv 4 (.k (B true)))]⟩] [4]) .ret))))
theorem func_l_spaces : Tryz.prog.funcs[n_l_spaces]? = some Tryz.f47 := Tryz.func47
theorem form_l_spaces : formOf Tryz.prog Tryz.f47 [4] = some G_l_spaces := by kernel_rfl
theorem res_l_spaces : resTmps Tryz.f47.results.toList = some [4] := by kernel_rfl
end Go.AM

namespace Go.AM
open Go.RowKit Go.Proofs
theorem flat3_len (c : List (Int × Int × Int)) : (flat3 c).length = c.length * 3 := by
 induction c with
 | nil => rfl
 | cons p c ih => simp [flat3] at ih ⊢; omega
theorem flat3_drop (c : List (Int × Int × Int)) (i : Nat) : (flat3 c).drop (i * 3) = flat3 (c.drop i) := by
 induction i generalizing c with
 | zero => simp
 | succ i ih =>
   cases c with
   | nil => simp [flat3]
   | cons p c =>
     have : (i + 1) * 3 = i * 3 + 1 + 1 + 1 := by omega
     rw [this]
     simp only [List.drop_succ_cons]
     rw [← ih c]
     rfl
theorem flat3_view {c : List (Int × Int × Int)} {i : Nat} (h : i < c.length) : ((flat3 c).drop (i * 3)).take 3 = [I c[i].1,I c[i].2.1,I c[i].2.2] := by
 rw [flat3_drop,List.drop_eq_getElem_cons h]
 rfl
set_option maxHeartbeats 1000000 in
theorem lk_spaces_ok (f g : Bool) (l m : List (Int × Int × Int)) (hl : l.length ≤ 1000000) (hm : m.length ≤ 1000000) : PureOK Tryz.prog n_l_spaces [Ts f l,Ts g m] (B (decide (l = m))) := by
 refine pure_of (walk func_l_spaces form_l_spaces res_l_spaces (by show 2 ≤ _; decide) ?_)
 have f1 := flat3_len l
 have f2 := flat3_len m
 simp -implicitDefEqProofs (disch := omega) [G_l_spaces,wrap_id]
 by_cases h : l.length = m.length
 · simp -implicitDefEqProofs (disch := omega) [wrap_id,h]
   refine loop_eq (fun i : Nat => ⟨[(0,Ts f l),(1,Ts g m),(5,I (i : Int))],[]⟩) (fun i => i ≤ l.length ∧ l.take i = m.take i) (fun i => l.length - i) 0 ⟨by omega,rfl⟩ (by simp [h]) ?_
   rintro i ⟨hi,he⟩
   refine hideK' fun K0 hK0 => ?_
   simp -implicitDefEqProofs (disch := omega) [wrap_id]
   refine c_split (fun hc => ?_) (fun hc => ?_)
   · have h1 : i < l.length := by simp at hc; omega
     have h2 : i < m.length := by omega
     have ix : ((i : Int) + 1) = ((i + 1 : Nat) : Int) := by omega
     have v1 := flat3_view h1
     have v2 := flat3_view h2
     simp -implicitDefEqProofs (disch := omega) [wrap_id,f1,f2,h1,h2,v1,v2,cmp2,nthT]
     refine ⟨by omega,by omega,?_⟩
     have ek : eqK (true,[Leaf.int,Leaf.int,Leaf.int]) (rowV [l[i].1,l[i].2.1,l[i].2.2]) (rowV [m[i].1,m[i].2.1,m[i].2.2]) = some (decide ([l[i].1,l[i].2.1,l[i].2.2] = [m[i].1,m[i].2.1,m[i].2.2])) := eqK_row (n := 3) rfl rfl
     rw [eqk_of (neg := true) (a := rowV [l[i].1,l[i].2.1,l[i].2.2]) (b := rowV [m[i].1,m[i].2.1,m[i].2.2]) rfl rfl ek]
     by_cases e : l[i] = m[i]
     · have e' : [l[i].1,l[i].2.1,l[i].2.2] = [m[i].1,m[i].2.1,m[i].2.2] := by rw [e]
       rw [decide_eq_true e']
       simp -implicitDefEqProofs (disch := omega) [wrap_id,cmp2,nthT]
       rw [hK0]
       refine next_eq (i + 1) ⟨by omega,?_⟩ (by omega) (by simp only [ix])
       rw [List.take_add_one,List.take_add_one,he]; simp [h1,h2,e]
     · have e' : ¬ [l[i].1,l[i].2.1,l[i].2.2] = [m[i].1,m[i].2.1,m[i].2.2] := fun h => e (by injection h with h1 h; injection h with h2 h; injection h with h3 h; exact Prod.ext h1 (Prod.ext h2 h3))
       have ne : l ≠ m := fun h => by subst h; exact e rfl
       rw [decide_eq_false e']
       subst hK0
       simp -implicitDefEqProofs (disch := omega) [wrap_id,cmp2,nthT,ne]
   · have h1 : l.length ≤ i := by simp at hc; omega
     have e1 : l.take i = l := List.take_of_length_le h1
     have e2 : m.take i = m := List.take_of_length_le (by omega)
     have e : l = m := by rw [← e1,he,e2]
     subst hK0
     simp -implicitDefEqProofs (disch := omega) [wrap_id,e]
 · have ne : l ≠ m := fun e => h (by rw [e])
   have h' : ((l.length : Int) != (m.length : Int)) = true := by simp; omega
   simp -implicitDefEqProofs (disch := omega) [wrap_id,h',ne]
end Go.AM

namespace Go.AM
open Go.RowKit Go.Proofs
abbrev spcW : List (Int × Int × Int) := [(7,3,3),(8,2,3),(9,1,3),(10,0,3),(11,0,2),(12,0,1),(13,0,0)]
theorem kn1 : hasL shS (1,21) = [2,4] ∧ hasE shS (1,21) = 0 := by decide +kernel
theorem kn2 : plsL shS 0 = [5,15] ∧ plsE shS 0 = 0 := by decide +kernel
theorem kn3 : lstL shS = [] := by decide +kernel
theorem kn4 : rwsE2 shS [(0,5),(1,20)] = 0 := by decide +kernel
theorem kn5 : aprE shS [1,2] = 0 := by decide +kernel
theorem kn6 : bitO shS (0,7) = 0 := by decide +kernel
theorem kn7 : spcL [(0,3),(10,13)] = spcW ∧ spcE [(0,3),(10,13)] = 0 := by decide +kernel
theorem ansKd_7 : AnsKd shS (0,7) 0 0 := .inr ⟨wS0,.inr ⟨by decide,.inr ⟨wS3,.inl ⟨kn6,rfl,rfl⟩⟩⟩⟩
set_option maxHeartbeats 8000000 in
theorem lawKnown : PureOK Tryz.prog n_l_CombKnown [] (B true) := by
 have zS : SzS shS := ⟨by decide,by decide⟩
 have cH := k_Has_ok true true shS zS (1,21)
 rw [kn1.1,kn1.2] at cH
 have cP := k_Places_ok true true shS zS 0
 rw [kn2.1,kn2.2] at cP
 have cL := k_Lost_ok true true shS zS
 rw [kn3,wS0] at cL
 have cC := k_CheckRows_ok true true true shS zS [(0,5),(1,20)] (by decide)
 rw [kn4] at cC
 have cQ := k_CheckApart_ok true true true shS zS [1,2] (by decide)
 rw [kn5] at cQ
 have cS := k_Spaces_ok true [(0,3),(10,13)] (by decide)
 rw [kn7.1,kn7.2] at cS
 refine pure_of (walk func_l_CombKnown form_l_CombKnown res_l_CombKnown (by show 0 ≤ _; decide) ?_)
 simp -implicitDefEqProofs (disch := omega) [G_l_CombKnown,wrap_id]
 refine callW_pure rfl lk_Sheet_ok ?_
 simp -implicitDefEqProofs (disch := omega) [wrap_id,cmp2,nthT]
 refine pureW_of rfl (lk_Row_ok 1 21) ?_
 simp -implicitDefEqProofs (disch := omega) [wrap_id,cmp2,nthT]
 refine pureW_of (ys := [Sn true true shS,Pr (1,21)]) (ids := []) rfl cH ?_
 simp -implicitDefEqProofs (disch := omega) [wrap_id,cmp2,nthT]
 refine callW_pure (ys := [Sn true true shS,I 0]) (ids := []) rfl cP ?_
 simp -implicitDefEqProofs (disch := omega) [wrap_id,cmp2,nthT]
 refine callW_pure (ys := [Sn true true shS]) (ids := []) rfl cL ?_
 simp -implicitDefEqProofs (disch := omega) [wrap_id,cmp2,nthT]
 refine pureW_of rfl (lk_Row_ok 0 5) ?_
 simp -implicitDefEqProofs (disch := omega) [wrap_id,cmp2,nthT]
 refine pureW_of rfl (lk_Row_ok 1 20) ?_
 simp -implicitDefEqProofs (disch := omega) [wrap_id,cmp2,nthT]
 refine bsl_of (sz := 2) (ys := [Pr (0,5),Pr (1,20)]) (by rfl) (by rfl) ?_
 simp -implicitDefEqProofs (disch := omega) [wrap_id,zrep]
 refine pureW_of (ys := [Sn true true shS,Ps true [(0,5),(1,20)]]) (ids := []) rfl cC ?_
 simp -implicitDefEqProofs (disch := omega) [wrap_id,cmp2,nthT,disj]
 refine bsl_of (ys := [I 1,I 2]) (by rfl) (by rfl) ?_
 simp -implicitDefEqProofs (disch := omega) [wrap_id,zrep]
 refine callW_pure (ys := [Sn true true shS,Ls true [1,2]]) (ids := []) rfl cQ ?_
 simp -implicitDefEqProofs (disch := omega) [wrap_id,cmp2,nthT]
 refine pureW_of rfl (lk_Row_ok 0 7) ?_
 simp -implicitDefEqProofs (disch := omega) [wrap_id,cmp2,nthT]
 refine pureW_of (ys := [Sn true true shS,Pr (0,7)]) (ids := []) rfl (k_Kind_ok true true shS zS (0,7) ansKd_7) ?_
 simp -implicitDefEqProofs (disch := omega) [wrap_id,cmp2,nthT]
 refine callW_pure rfl (lk_rg_ok 0 3) ?_
 simp -implicitDefEqProofs (disch := omega) [wrap_id]
 refine callW_pure rfl (lk_rg_ok 10 13) ?_
 simp -implicitDefEqProofs (disch := omega) [wrap_id]
 refine bsl_of (sz := 2) (ys := [Pr (0,3),Pr (10,13)]) (by rfl) (by rfl) ?_
 simp -implicitDefEqProofs (disch := omega) [wrap_id,zrep]
 refine callW_pure (ys := [Ps true [(0,3),(10,13)]]) (ids := []) rfl cS ?_
 simp -implicitDefEqProofs (disch := omega) [wrap_id]
 refine callW_pure rfl (lk_rg_ok 3 3) ?_
 simp -implicitDefEqProofs (disch := omega) [wrap_id]
 refine callW_pure rfl (lk_rg_ok 2 3) ?_
 simp -implicitDefEqProofs (disch := omega) [wrap_id]
 refine callW_pure rfl (lk_rg_ok 1 3) ?_
 simp -implicitDefEqProofs (disch := omega) [wrap_id]
 refine callW_pure rfl (lk_rg_ok 0 3) ?_
 simp -implicitDefEqProofs (disch := omega) [wrap_id]
 refine callW_pure rfl (lk_rg_ok 0 2) ?_
 simp -implicitDefEqProofs (disch := omega) [wrap_id]
 refine callW_pure rfl (lk_rg_ok 0 1) ?_
 simp -implicitDefEqProofs (disch := omega) [wrap_id]
 refine callW_pure rfl (lk_rg_ok 0 0) ?_
 simp -implicitDefEqProofs (disch := omega) [wrap_id]
 refine bsl_of (sz := 3) (ys := [.agg [I 7,I 3,I 3],.agg [I 8,I 2,I 3],.agg [I 9,I 1,I 3],.agg [I 10,I 0,I 3],.agg [I 11,I 0,I 2],.agg [I 12,I 0,I 1],.agg [I 13,I 0,I 0]]) (by rfl) (by rfl) ?_
 simp -implicitDefEqProofs (disch := omega) [wrap_id,zrep]
 refine bsl_of (ys := [I 2,I 4]) (by rfl) (by rfl) ?_
 simp -implicitDefEqProofs (disch := omega) [wrap_id,zrep]
 refine callW_pure rfl (lk_ints_ok false true [2,4] [2,4] (by decide) (by decide)) ?_
 simp -implicitDefEqProofs (disch := omega) [wrap_id]
 refine bsl_of (ys := [I 5,I 15]) (by rfl) (by rfl) ?_
 simp -implicitDefEqProofs (disch := omega) [wrap_id,zrep]
 refine callW_pure rfl (lk_longs_ok false true [5,15] [5,15] (by decide) (by decide)) ?_
 simp -implicitDefEqProofs (disch := omega) [wrap_id]
 refine callW_pure (ys := [Ts false spcW,Ts true spcW]) (ids := []) rfl (lk_spaces_ok false true spcW spcW (by decide) (by decide)) ?_
 simp -implicitDefEqProofs (disch := omega) [wrap_id]
 refine callW_pure rfl lk_Works_ok ?_
 simp -implicitDefEqProofs (disch := omega) [wrap_id]
end Go.AM
