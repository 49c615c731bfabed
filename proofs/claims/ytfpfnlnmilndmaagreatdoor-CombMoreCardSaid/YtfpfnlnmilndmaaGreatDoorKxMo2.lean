/-
  KxMo2: texts joined: FmCL Lc1 Ld1 Ld2 Tk10 Tk11 Tk12 Ld6 Ld7. Own work.
-/
import Derived.Test.YtfpfnlnmilndmaaGreatDoorKxMo1
import Derived.Test.YtfpfnlnmilndmaaGreatDoorProg
set_option linter.unusedSimpArgs false
set_option linter.unusedVariables false

set_option maxRecDepth 100000
namespace Go.AM
open Go.RowKit Go.Proofs
abbrev n_l_CombMore : Nat := 10
def G_l_CombMore : AC := (.seq (.rgn [⟨none,[(.box 3 2 (.t 0)),(.box 4 2 (.t 1)),(.mv 6 (.k (B false)))]⟩] [2,3,4]) (.seq (.seq (.rgn [⟨none,[(.ld 15 true 2 (.t 3)),(.call 16 48 [(.t 15)]),(.un 17 .not (.t 16)),(.mv 18 (.t 17))]⟩,⟨(some (18,false)),[(.mv 19 (.t 2)),(.len 20 (.t 19)),(.bin 21 .gtr (.t 20) (.k (I 30)))]⟩,⟨none,[(.pick 22 (.t 18) (.k (B true)) (.t 21))]⟩] [2,3,4,22]) (.cond (.t 22) (.seq (.rgn [⟨none,[(.call 23 17 []),(.mv 6 (.t 23))]⟩] [6]) .ret) .skip)) (.seq (.rgn [⟨none,[(.ld 24 true 2 (.t 3)),(.al 7 [(.sl true 0 []),(.sl true 0 [])]),(.st 2 (.t 7) (.t 24))]⟩] [2,3,4,7]) (.seq (.drw [⟨none,[(.bsl 25 0 2 [(I 0),(I 0)] []),(.fa 26 (.t 3) 0),(.ld 27 false 1 (.t 26)),(.app 28 2 16 (.t 25) (.t 27)),(.ld 29 true 2 (.t 4)),(.bsl 30 1 2 [(I 0),(I 0)] [(0,(.t 29))]),(.app 31 2 16 (.t 28) (.t 30)),(.fa 32 (.t 7) 0),(.st 1 (.t 32) (.t 31))]⟩] [(0,2),(0,4),(2,4),(3,4),(0,5),(2,5),(3,5)] [2,3,7]) (.seq (.rgn [⟨none,[(.ld 34 true 2 (.t 3)),(.call 35 53 [(.t 34)]),(.mv 33 (.t 35)),(.ext 36 (.t 33) 0),(.ext 37 (.t 33) 1),(.mv 8 (.t 36)),(.mv 9 (.t 37))]⟩] [2,3,7,8,9]) (.seq (.rgn [⟨none,[(.ld 39 true 2 (.t 3)),(.call 40 22 [(.t 39)]),(.mv 38 (.t 40)),(.ext 41 (.t 38) 0),(.ext 42 (.t 38) 1),(.mv 10 (.t 41)),(.mv 11 (.t 42))]⟩] [2,3,7,8,9,10,11]) (.seq (.seq (.rgn [⟨none,[(.mv 43 (.t 9)),(.un 44 .not (.t 43)),(.mv 45 (.t 44))]⟩,⟨(some (45,false)),[(.mv 46 (.t 11)),(.bin 47 .neq (.t 46) (.k (I 0)))]⟩,⟨none,[(.pick 48 (.t 45) (.k (B true)) (.t 47))]⟩] [2,3,7,8,10,48]) (.cond (.t 48) (.seq (.rgn [⟨none,[(.mv 6 (.k (B false)))]⟩] [6]) .ret) .skip)) (.seq (.seq (.rgn [⟨none,[(.ld 49 true 2 (.t 7)),(.call 50 48 [(.t 49)]),(.un 51 .not (.t 50))]⟩] [2,3,7,8,10,51]) (.cond (.t 51) (.seq (.rgn [⟨none,[(.call 52 17 []),(.mv 6 (.t 52))]⟩] [6]) .ret) .skip)) (.seq (.rgn [⟨none,[(.ld 54 true 2 (.t 7)),(.call 55 53 [(.t 54)]),(.mv 53 (.t 55)),(.ext 56 (.t 53) 0),(.ext 57 (.t 53) 1),(.mv 12 (.t 56)),(.mv 9 (.t 57))]⟩] [2,3,7,8,9,10,12]) (.seq (.rgn [⟨none,[(.ld 59 true 2 (.t 7)),(.call 60 22 [(.t 59)]),(.mv 58 (.t 60)),(.ext 61 (.t 58) 0),(.ext 62 (.t 58) 1),(.mv 13 (.t 61)),(.mv 11 (.t 62))]⟩] [2,3,7,8,9,10,11,12,13]) (.seq (.seq (.rgn [⟨none,[(.mv 63 (.t 9)),(.un 64 .not (.t 63)),(.mv 65 (.t 64))]⟩,⟨(some (65,false)),[(.mv 66 (.t 11)),(.bin 67 .neq (.t 66) (.k (I 0)))]⟩,⟨none,[(.pick 68 (.t 65) (.k (B true)) (.t 67)),(.mv 69 (.t 68))]⟩,⟨(some (69,false)),[(.mv 70 (.t 12)),(.mv 71 (.t 8)),(.bin 72 .gtr (.t 70) (.t 71))]⟩,⟨none,[(.pick 73 (.t 69) (.k (B true)) (.t 72)),(.mv 74 (.t 73))]⟩,⟨(some (74,false)),[(.ld 75 true 2 (.t 3)),(.mv 76 (.t 2)),(.call 77 32 [(.t 75),(.t 76)]),(.bin 78 .eql (.t 77) (.k (I 0))),(.mv 79 (.t 78))]⟩,⟨(some (79,true)),[(.ld 80 true 2 (.t 7)),(.mv 81 (.t 2)),(.call 82 32 [(.t 80),(.t 81)]),(.bin 83 .neq (.t 82) (.k (I 0)))]⟩,⟨(some (74,false)),[(.pick 84 (.t 79) (.t 83) (.k (B false)))]⟩,⟨none,[(.pick 85 (.t 74) (.k (B true)) (.t 84))]⟩] [10,13,85]) (.cond (.t 85) (.seq (.rgn [⟨none,[(.mv 6 (.k (B false)))]⟩] [6]) .ret) .skip)) (.seq (.seq (.rgn [⟨none,[(.mv 14 (.k (I 0)))]⟩] [10,13,14]) (.block 0 (.loop (.seq (.seq (.rgn [⟨none,[(.mv 86 (.t 14)),(.mv 87 (.t 13)),(.len 88 (.t 87)),(.bin 89 .lss (.t 86) (.t 88))]⟩] [10,13,14,89]) (.cond (.t 89) .skip (.exit 0))) (.seq (.block 1 (.seq (.rgn [⟨none,[(.mv 92 (.t 10)),(.mv 93 (.t 13)),(.mv 94 (.t 14)),(.ia 95 1 (.t 93) (.t 94)),(.ld 96 false 1 (.t 95)),(.call 97 51 [(.t 92),(.t 96)]),(.un 98 .not (.t 97))]⟩] [10,13,14,98]) (.cond (.t 98) (.seq (.rgn [⟨none,[(.mv 6 (.k (B false)))]⟩] [6]) .ret) .skip))) (.rgn [⟨none,[(.mv 90 (.t 14)),(.bin 91 .add (.t 90) (.k (I 1))),(.mv 14 (.t 91))]⟩] [10,13,14])))))) (.seq (.rgn [⟨none,[(.call 99 17 []),(.mv 6 (.t 99))]⟩] [6]) .ret)))))))))))))
theorem func_l_CombMore : Tryz.prog.funcs[n_l_CombMore]? = some Tryz.f10 := Tryz.func10
theorem form_l_CombMore : formOf Tryz.prog Tryz.f10 [6] = some G_l_CombMore := by kernel_rfl
theorem res_l_CombMore : resTmps Tryz.f10.results.toList = some [6] := by kernel_rfl
abbrev n_l_great : Nat := 16
def G_l_great : AC := (.seq (.rgn [⟨none,[(.box 1 2 (.t 0)),(.mv 2 (.k (B false)))]⟩] [1]) (.seq (.rgn [⟨none,[(.fa 3 (.t 1) 0),(.ld 4 false 1 (.t 3)),(.len 5 (.t 4)),(.bin 6 .gtr (.t 5) (.k (I 12))),(.mv 7 (.t 6))]⟩,⟨(some (7,false)),[(.fa 8 (.t 1) 1),(.ld 9 false 1 (.t 8)),(.len 10 (.t 9)),(.bin 11 .gtr (.t 10) (.k (I 18)))]⟩,⟨none,[(.pick 12 (.t 7) (.k (B true)) (.t 11)),(.mv 2 (.t 12))]⟩] [2]) .ret))
theorem func_l_great : Tryz.prog.funcs[n_l_great]? = some Tryz.f16 := Tryz.func16
theorem form_l_great : formOf Tryz.prog Tryz.f16 [2] = some G_l_great := by kernel_rfl
theorem res_l_great : resTmps Tryz.f16.results.toList = some [2] := by kernel_rfl
abbrev n_l_fine : Nat := 48
def G_l_fine : AC := (.seq (.rgn [⟨none,[(.box 1 2 (.t 0)),(.mv 2 (.k (B false)))]⟩] [1]) (.seq (.rgn [⟨none,[(.ld 3 true 2 (.t 1)),(.call 4 16 [(.t 3)]),(.un 5 .not (.t 4)),(.mv 6 (.t 5))]⟩,⟨(some (6,true)),[(.ld 7 true 2 (.t 1)),(.call 8 25 [(.t 7)]),(.bin 9 .eql (.t 8) (.k (I 0)))]⟩,⟨none,[(.pick 10 (.t 6) (.t 9) (.k (B false))),(.mv 2 (.t 10))]⟩] [2]) .ret))
theorem func_l_fine : Tryz.prog.funcs[n_l_fine]? = some Tryz.f48 := Tryz.func48
theorem form_l_fine : formOf Tryz.prog Tryz.f48 [2] = some G_l_fine := by kernel_rfl
theorem res_l_fine : resTmps Tryz.f48.results.toList = some [2] := by kernel_rfl
abbrev n_l_in : Nat := 51
def G_l_in : AC := (.seq (.rgn [⟨none,[(.mv 4 (.k (B false)))]⟩] [0,1]) (.seq (.seq (.rgn [⟨none,[(.mv 5 (.k (I 0)))]⟩] [0,1,5]) (.block 0 (.loop (.seq (.seq (.rgn [⟨none,[(.mv 6 (.t 5)),(.mv 7 (.t 0)),(.len 8 (.t 7)),(.bin 9 .lss (.t 6) (.t 8))]⟩] [0,1,5,9]) (.cond (.t 9) .skip (.exit 0))) (.seq (.block 1 (.seq (.rgn [⟨none,[(.mv 12 (.t 0)),(.mv 13 (.t 5)),(.ia 14 1 (.t 12) (.t 13)),(.ld 15 false 1 (.t 14)),(.mv 16 (.t 1)),(.bin 17 .eql (.t 15) (.t 16))]⟩] [0,1,5,17]) (.cond (.t 17) (.seq (.rgn [⟨none,[(.mv 4 (.k (B true)))]⟩] [4]) .ret) .skip))) (.rgn [⟨none,[(.mv 10 (.t 5)),(.bin 11 .add (.t 10) (.k (I 1))),(.mv 5 (.t 11))]⟩] [0,1,5])))))) (.seq (.rgn [⟨none,[(.mv 4 (.k (B false)))]⟩] [4]) .ret)))
theorem func_l_in : Tryz.prog.funcs[n_l_in]? = some Tryz.f51 := Tryz.func51
theorem form_l_in : formOf Tryz.prog Tryz.f51 [4] = some G_l_in := by kernel_rfl
theorem res_l_in : resTmps Tryz.f51.results.toList = some [4] := by kernel_rfl
abbrev n_l_fewest : Nat := 53
def G_l_fewest : AC := (.seq (.rgn [⟨none,[(.box 1 2 (.t 0)),(.mv 2 (.k (I 0))),(.mv 3 (.k (B false)))]⟩] [1]) (.seq (.rgn [⟨none,[(.ld 7 true 2 (.t 1)),(.call 8 29 [(.t 7)]),(.mv 6 (.t 8)),(.ext 9 (.t 6) 0),(.ext 10 (.t 6) 1),(.mv 4 (.t 9)),(.mv 5 (.t 10))]⟩] [4,5]) (.seq (.seq (.rgn [⟨none,[(.mv 11 (.t 5)),(.bin 12 .eql (.t 11) (.k (I 19)))]⟩] [4,5,12]) (.cond (.t 12) (.seq (.rgn [⟨none,[(.mv 13 (.t 4)),(.len 14 (.t 13)),(.bin 15 .eql (.t 14) (.k (I 0))),(.mv 2 (.k (I 100))),(.mv 3 (.t 15))]⟩] [2,3]) .ret) .skip)) (.seq (.rgn [⟨none,[(.mv 16 (.t 4)),(.len 17 (.t 16)),(.mv 18 (.t 5)),(.bin 19 .eql (.t 18) (.k (I 0))),(.mv 2 (.t 17)),(.mv 3 (.t 19))]⟩] [2,3]) .ret))))
theorem func_l_fewest : Tryz.prog.funcs[n_l_fewest]? = some Tryz.f53 := Tryz.func53
theorem form_l_fewest : formOf Tryz.prog Tryz.f53 [2,3] = some G_l_fewest := by kernel_rfl
theorem res_l_fewest : resTmps Tryz.f53.results.toList = some [2,3] := by kernel_rfl
end Go.AM

namespace Go.AM
open Go.RowKit Go.Proofs
set_option maxHeartbeats 1000000 in
theorem lk_in_ok (f : Bool) (l : List Int) (n : Int) (hl : l.length ≤ 1000000) : PureOK Tryz.prog n_l_in [Ls f l,I n] (B (l.contains n)) := by
 refine pure_of (walk func_l_in form_l_in res_l_in (by show 2 ≤ _; decide) ?_)
 generalize hE : l.contains n = E
 simp -implicitDefEqProofs (disch := omega) [G_l_in,wrap_id]
 refine loop_eq (fun i : Nat => ⟨[(0,Ls f l),(1,I n),(5,I (i : Int))],[]⟩) (fun i => i ≤ l.length ∧ ∀ k (hk : k < l.length),k < i → l[k] ≠ n) (fun i => l.length - i) 0 ⟨Nat.zero_le _,fun k hk h => by omega⟩ rfl ?_
 rintro i ⟨c1,c2⟩
 refine hideK' fun K0 hK0 => ?_
 simp -implicitDefEqProofs (disch := omega) [wrap_id]
 refine c_split (fun h => ?_) (fun h => ?_)
 · have hi : i < l.length := by simp at h; omega
   have ix : ((i : Int) + 1) = ((i + 1 : Nat) : Int) := by omega
   by_cases e : l[i] = n
   · have : l.contains n = true := by
      rw [List.contains_iff_mem,← e]; exact List.getElem_mem hi
     rw [this] at hE
     subst hE
     subst hK0
     simp -implicitDefEqProofs (disch := omega) [wrap_id,cells_ls,hi,e]
   · have e' : (l[i] == n) = false := by simpa using e
     simp -implicitDefEqProofs (disch := omega) [wrap_id,cells_ls,hi,e']
     rw [hK0]
     refine next_eq (i + 1) ⟨by omega,fun k hk h2 => ?_⟩ (by omega) (by simp only [ix])
     by_cases ek : k = i
     · subst ek; exact e
     · exact c2 k hk (by omega)
 · have hi : i = l.length := by simp at h; omega
   have : l.contains n = false := by
    rw [Bool.eq_false_iff]
    intro hc
    rw [List.contains_iff_mem] at hc
    obtain ⟨k,hk,e⟩ := List.getElem_of_mem hc
    exact c2 k hk (by omega) e
   rw [this] at hE
   subst hE
   subst hK0
   simp -implicitDefEqProofs (disch := omega) [wrap_id]
def grtK (s : SH) : Bool := decide (12 < s.k.length) || decide (18 < s.m.length)
theorem grtK_sz {s : SH} (h : grtK s = false) : SzS s ∧ s.k.length ≤ 12 ∧ s.m.length ≤ 18 := by
 unfold grtK at h
 simp only [Bool.or_eq_false_iff,decide_eq_false_iff_not] at h
 exact ⟨⟨by omega,by omega⟩,by omega,by omega⟩
theorem lk_great_ok (f g : Bool) (s : SH) : PureOK Tryz.prog n_l_great [Sn f g s] (B (grtK s)) := by
 refine pure_of (walk func_l_great form_l_great res_l_great (by show 1 ≤ _; decide) ?_)
 simp -implicitDefEqProofs (disch := omega) [G_l_great,wrap_id]
 unfold grtK
 have e1 : decide ((12 : Int) < (s.k.length : Int)) = decide (12 < s.k.length) := by rw [decide_eq_decide]; omega
 have e2 : decide ((18 : Int) < (s.m.length : Int)) = decide (18 < s.m.length) := by rw [decide_eq_decide]; omega
 cases h : decide (12 < s.k.length) with
 | true =>
   rw [h] at e1
   simp -implicitDefEqProofs (disch := omega) [wrap_id,e1]
 | false =>
   rw [h] at e1
   simp -implicitDefEqProofs (disch := omega) [wrap_id,e1,e2]
def finK (s : SH) : Bool := !grtK s && decide (shtE s = 0)
theorem lk_fine_ok (f g : Bool) (s : SH) : PureOK Tryz.prog n_l_fine [Sn f g s] (B (finK s)) := by
 refine pure_of (walk func_l_fine form_l_fine res_l_fine (by show 1 ≤ _; decide) ?_)
 simp -implicitDefEqProofs (disch := omega) [G_l_fine,wrap_id]
 refine callW_pure rfl (lk_great_ok f g s) ?_
 unfold finK
 cases hg : grtK s with
 | true => simp -implicitDefEqProofs (disch := omega) [wrap_id]
 | false =>
   obtain ⟨hz,_⟩ := grtK_sz hg
   simp -implicitDefEqProofs (disch := omega) [wrap_id]
   refine callW_pure rfl (r_CheckSheet_ok f g s hz) ?_
   by_cases h : shtE s = 0
   · rw [h]
     simp -implicitDefEqProofs (disch := omega) [wrap_id]
   · have h' : (shtE s == 0) = false := by rw [beq_eq_false_iff_ne]; exact h
     simp -implicitDefEqProofs (disch := omega) [wrap_id,h',h]
end Go.AM

namespace Go.AM
open Go.RowKit Go.Proofs
theorem bitL_60 {n : Nat} : (bitL n).length ≤ 60 := bitT_len
theorem lstL_len {s : SH} : (lstL s).length ≤ 60 := by
 unfold lstL
 split
 · unfold lostL; exact bitL_60
 · exact Nat.zero_le _
end Go.AM

namespace Go.AM
open Go.RowKit Go.Proofs
theorem mpp2 {c : List AV} : NoMpp [HObj.cells c] := mpp_list rfl
end Go.AM

namespace Go.AM
open Go.RowKit Go.Proofs
theorem allB_bit {s : SH} {R : List (Int × Int)} {k : Nat} : (allB s R).testBit k = true ↔ ∃ r ∈ R,(bitO s r).testBit k = true := by
 rw [← foldl_or_le,foldl_bit,Nat.zero_testBit,Bool.false_or,List.any_eq_true]
 constructor
 · rintro ⟨x,hx,h⟩
   obtain ⟨r,hr,rfl⟩ := List.mem_map.1 hx
   exact ⟨r,hr,h⟩
 · rintro ⟨r,hr,h⟩
   exact ⟨_,List.mem_map.2 ⟨r,hr,rfl⟩,h⟩
theorem bit_4096 {s : SH} (hv : ValS s) {r : Int × Int} : bitO s r < 4096 := Nat.lt_of_lt_of_le (bitO_small hv r) (Nat.le_trans (Nat.pow_le_pow_right (by decide) hv.m12) (by decide))
theorem allB_lt {s : SH} (hv : ValS s) {R : List (Int × Int)} : allB s R < 2 ^ s.m.length := orT_small hv
theorem rest_bit {n x k : Nat} (hx : x < 2 ^ n) : (pwN n - 1 - x).testBit k = (decide (k < n) && !x.testBit k) := by
 unfold pwN
 rw [show 2 ^ n - 1 - x = 2 ^ n - (x + 1) from by omega,Nat.testBit_two_pow_sub_succ hx]
theorem lost_mem {s : SH} (hv : ValS s) {k : Nat} : (k : Int) ∈ lostL s ↔ k < s.m.length ∧ ¬ ∃ r ∈ allR s,(bitO s r).testBit k = true := by
 have w := pw_12 hv
 have hx := allB_lt hv (R := allR s)
 unfold lostL
 rw [bitL_mem (by have := w; omega),rest_bit hx,Bool.and_eq_true,decide_eq_true_eq,Bool.not_eq_true',← allB_bit]
 rw [Bool.not_eq_true]
theorem lost_all {s : SH} {x : Int} (hv : ValS s) (h : x ∈ lostL s) : ∃ k : Nat,x = k ∧ k < s.m.length := by
 have h2 := h
 unfold lostL bitL at h
 obtain ⟨k,rfl,_,_⟩ := bitT_mem.1 h
 exact ⟨k,rfl,((lost_mem hv).1 h2).1⟩
structure HadK (s : SH) (c i : Nat) (l : List Int) (o : Nat) : Prop where
 bit : ∀ t,o.testBit t = true ↔ (∃ r ∈ rwsK s c,(bitO s r).testBit t = true) ∨ (∃ r ∈ (rowOf s c).take i,(bitO s r).testBit t = true) ∨ (t : Int) ∈ l
theorem HadK.zero {s : SH} : HadK s 0 0 [] 0 := ⟨fun t => by
 rw [Nat.zero_testBit]
 constructor
 · intro h; cases h
 · rintro (⟨r,h,_⟩ | ⟨r,h,_⟩ | h)
   · cases h
   · cases h
   · cases h⟩
theorem HadK.row {s : SH} (hv : ValS s) {c i o : Nat} (hi : i < (rowOf s c).length) (h : HadK s c i (bitL (bitO s (rowOf s c)[i])) o) : HadK s c (i + 1) [] o := ⟨fun t => by
 rw [h.bit,List.take_succ_eq_append_getElem hi,bitL_mem (bit_4096 hv)]
 constructor
 · rintro (h | ⟨r,hr,hb⟩ | h)
   · exact .inl h
   · exact .inr (.inl ⟨r,List.mem_append.2 (.inl hr),hb⟩)
   · exact .inr (.inl ⟨_,List.mem_append.2 (.inr (.head _)),h⟩)
 · rintro (h | ⟨r,hr,hb⟩ | h)
   · exact .inl h
   · rcases List.mem_append.1 hr with hr | hr
     · exact .inr (.inl ⟨r,hr,hb⟩)
     · rw [List.mem_singleton] at hr; rw [hr] at hb; exact .inr (.inr hb)
   · cases h⟩
theorem HadK.mark {s : SH} {c i o k : Nat} {l : List Int} (h : HadK s c i l o) : HadK s c i (l ++ [(k : Int)]) (orN o (pwN k)) := ⟨fun t => by
 rw [orN_bit,pwN_bit,Bool.or_eq_true,h.bit,List.mem_append,List.mem_singleton,decide_eq_true_eq]
 constructor
 · rintro ((h | h | h) | h)
   · exact .inl h
   · exact .inr (.inl h)
   · exact .inr (.inr (.inl h))
   · exact .inr (.inr (.inr (by omega)))
 · rintro (h | h | h | h)
   · exact .inl (.inl h)
   · exact .inl (.inr (.inl h))
   · exact .inl (.inr (.inr h))
   · exact .inr (by omega)⟩
theorem HadK.end {s : SH} {o : Nat} (h : HadK s s.k.length 0 [] o) : o = allB s (allR s) := Nat.eq_of_testBit_eq fun t => by
 rw [Bool.eq_iff_iff,h.bit,allB_bit]
 constructor
 · rintro (h | ⟨r,hr,_⟩ | h)
   · exact h
   · cases hr
   · cases h
 · exact fun h => .inl h
theorem HadK.lt {s : SH} (hv : ValS s) {c i o : Nat} {l : List Int} (hl : ∀ x ∈ l,∀ k : Nat,x = k → k < s.m.length) (h : HadK s c i l o) : o < 4096 := by
 have hm := hv.m12
 refine Nat.lt_of_lt_of_le (m := 2 ^ s.m.length) (Nat.lt_pow_two_of_testBit _ fun t ht => ?_) (Nat.le_trans (Nat.pow_le_pow_right (by decide) hm) (by decide))
 have nb : ∀ r,(bitO s r).testBit t = false := fun r => Nat.testBit_lt_two_pow (Nat.lt_of_lt_of_le (bitO_small hv r) (Nat.pow_le_pow_right (by decide) ht))
 rw [← Bool.not_eq_true,h.bit]
 rintro (⟨r,_,h⟩ | ⟨r,_,h⟩ | h)
 · rw [nb] at h; cases h
 · rw [nb] at h; cases h
 · have := hl _ h t rfl; omega
end Go.AM

namespace Go.AM
open Go.RowKit Go.Proofs
theorem bit_mark {s : SH} (hv : ValS s) {r : Int × Int} {i : Nat} (h : (bitO s r).testBit i = true) : i < s.m.length := Classical.byContradiction fun hk => by
 have := Nat.testBit_lt_two_pow (Nat.lt_of_lt_of_le (bitO_small hv r) (Nat.pow_le_pow_right (by decide) (show s.m.length ≤ i by omega)))
 rw [this] at h
 cases h
def FewV (s : SH) (v : Nat) : Prop := (lostL s ≠ [] ∧ v = 100) ∨ (lostL s = [] ∧ v ≤ s.m.length ∧ RkR s (allR s) 0 v (allN s) ∧ ∀ k,k < v → ¬ RkR s (allR s) 0 k (allN s))
theorem rk_lost {s : SH} (hv : ValS s) {n : Nat} (h : RkR s (allR s) 0 n (allN s)) : lostL s = [] := by
 refine Classical.byContradiction fun hne => ?_
 cases e : lostL s with
 | nil => exact hne e
 | cons x l =>
   have hx : x ∈ lostL s := by rw [e]; exact .head _
   obtain ⟨k,rfl,hk⟩ := lost_all hv hx
   refine ((lost_mem hv).1 hx).2 ?_
   obtain ⟨ks,_,h2,h3⟩ := h
   have : (allN s).testBit k = true := by unfold allN pwN; rw [Nat.testBit_two_pow_sub_one,decide_eq_true hk]
   rw [← h3,foldl_bit,Nat.zero_testBit,Bool.false_or,List.any_eq_true] at this
   obtain ⟨y,hy,hb⟩ := this
   obtain ⟨r,hr,rfl⟩ := h2 y hy
   exact ⟨r,hr,hb⟩
theorem rk_of_cover {s : SH} (hv : ValS s) {R : List (Int × Int)} (h : ∀ k,k < s.m.length → ∃ r ∈ R,(bitO s r).testBit k = true) : RkR s R 0 R.length (allN s) := by
 refine ⟨R.map fun r => bitO s r,by simp,fun k hk => by obtain ⟨r,hr,e⟩ := List.mem_map.1 hk; exact ⟨r,hr,e⟩,Nat.eq_of_testBit_eq fun i => ?_⟩
 rw [foldl_bit,Nat.zero_testBit,Bool.false_or]
 unfold allN pwN
 rw [Nat.testBit_two_pow_sub_one,Bool.eq_iff_iff,List.any_eq_true,decide_eq_true_eq]
 constructor
 · rintro ⟨x,hx,hb⟩
   obtain ⟨r,hr,rfl⟩ := List.mem_map.1 hx
   exact bit_mark hv hb
 · intro hi
   obtain ⟨r,hr,hb⟩ := h i hi
   exact ⟨_,List.mem_map.2 ⟨r,hr,rfl⟩,hb⟩
theorem few_ex {s : SH} (hv : ValS s) : ∃ v,FewV s v := by
 by_cases hL : lostL s = []
 · have h1 : RkR s (allR s) 0 (allR s).length (allN s) := rk_of_cover hv fun k hk => Classical.byContradiction fun hn => by
    have : (k : Int) ∈ lostL s := (lost_mem hv).2 ⟨hk,hn⟩
    rw [hL] at this
    cases this
   obtain ⟨n,h2,h3⟩ := leastR (P := fun n => RkR s (allR s) 0 n (allN s)) ⟨_,h1⟩
   refine ⟨n,.inr ⟨hL,?_,h2,fun k hk h => by have := h3 k h; omega⟩⟩
   have w := pw_12 hv
   obtain ⟨m,a1,a2,a3⟩ := RkR.short (t := allN s) (by unfold allN pwN at *; omega) h2
   rw [cnt_all hv] at a2
   have := h3 m a3
   omega
 · exact ⟨100,.inl ⟨hL,rfl⟩⟩
theorem few_bst {s : SH} {v : Nat} (h : FewV s v) (hL : lostL s = []) {B : List (Int × Int)} (hB : Bst s B) : B.length = v := by
 rcases h with ⟨h,_⟩ | ⟨_,_,h1,h2⟩
 · exact absurd hL h
 · have a := h2 B.length
   have b := hB.few v
   have c := bst_rk hB
   refine Classical.byContradiction fun hne => ?_
   rcases Nat.lt_or_gt_of_ne hne with h | h
   · exact a h c
   · exact b h h1
theorem few_100 {s : SH} (hv : ValS s) {v : Nat} (h : FewV s v) : v = 100 ↔ lostL s ≠ [] := by
 have := hv.m12
 rcases h with ⟨h,e⟩ | ⟨h,e,_⟩
 · exact ⟨fun _ => h,fun _ => e⟩
 · exact ⟨fun e2 => by omega,fun e2 => absurd h e2⟩
end Go.AM

namespace Go.AM
open Go.RowKit Go.Proofs
abbrev morS (s : SH) (c : Int × Int) : SH := ⟨s.k ++ [c],s.m⟩
theorem isK_more {s : SH} {c : Int × Int} {n : Int} (h : isK s n = true) : isK (morS s c) n = true := by
 unfold isK at *
 simp only [Bool.and_eq_true,decide_eq_true_eq,List.length_append,List.length_singleton] at *
 omega
theorem bitO_more {s : SH} {c : Int × Int} {r : Int × Int} (h : isK s r.1 = true) : bitO (morS s c) r = bitO s r := by
 unfold isK at h
 simp only [Bool.and_eq_true,decide_eq_true_eq] at h
 have hi : r.1.toNat < s.k.length := by omega
 have e : (s.k ++ [c]).getD r.1.toNat (0,0) = s.k.getD r.1.toNat (0,0) := by
  rw [getD_at (by rw [List.length_append]; omega),getD_at hi,List.getElem_append_left hi]
 unfold bitO
 show (if r.2 < 0 ∨ 500 < r.2 then 0 else (rowB s.m ((s.k ++ [c]).getD r.1.toNat (0,0)).1 r.2 ((s.k ++ [c]).getD r.1.toNat (0,0)).2.toNat).getD 0) = _
 rw [e]
theorem allR_more {s : SH} {c : Int × Int} {r : Int × Int} (h : r ∈ allR s) : r ∈ allR (morS s c) := by
 obtain ⟨h1,h2⟩ := isK_allR h
 exact mem_allR (isK_more h1) (by rw [bitO_more h1]; exact h2)
theorem rk_more {s : SH} {c : Int × Int} {had n t : Nat} (h : RkR s (allR s) had n t) : RkR (morS s c) (allR (morS s c)) had n t := by
 obtain ⟨ks,h1,h2,h3⟩ := h
 refine ⟨ks,h1,fun k hk => ?_,h3⟩
 obtain ⟨r,hr,e⟩ := h2 k hk
 exact ⟨r,allR_more hr,by rw [bitO_more (isK_allR hr).1]; exact e⟩
theorem lost_more {s : SH} {c : Int × Int} (hv : ValS s) (hx : ValS (morS s c)) {k : Int} (h : k ∈ lostL (morS s c)) : k ∈ lostL s := by
 obtain ⟨n,rfl,hn⟩ := lost_all hx h
 refine (lost_mem hv).2 ⟨hn,?_⟩
 rintro ⟨r,hr,hb⟩
 exact ((lost_mem hx).1 h).2 ⟨r,allR_more hr,by rw [bitO_more (isK_allR hr).1]; exact hb⟩
theorem few_more {s : SH} {c : Int × Int} (hv : ValS s) (hx : ValS (morS s c)) {v w : Nat} (h1 : FewV s v) (h2 : FewV (morS s c) w) : w ≤ v := by
 have := hx.m12
 have := hv.m12
 rcases h1 with ⟨_,rfl⟩ | ⟨a1,a2,a3,a4⟩
 · rcases h2 with ⟨_,rfl⟩ | ⟨_,b,_⟩
   · exact Nat.le_refl _
   · omega
 · have q := rk_more (c := c) a3
   rcases h2 with ⟨h,_⟩ | ⟨_,_,_,b⟩
   · exact absurd (rk_lost hx q) h
   · exact Classical.byContradiction fun hlt => b v (by omega) q
theorem rws_more {s : SH} {c : Int × Int} (hx : shtE (morS s c) = 0) {R : List (Int × Int)} (h : rwsE2 s R = 0) : rwsE2 (morS s c) R = 0 := by
 unfold rwsE2 at h
 split at h
 · rename_i h0; exact absurd h h0
 split at h
 · cases h
 split at h
 · cases h
 rename_i h20 hk
 split at h
 · cases h
 split at h
 · cases h
 split at h
 · cases h
 rename_i hb hd ha
 have hk' : ∀ r ∈ R,isK s r.1 = true := by
  rw [Bool.not_eq_false,List.all_eq_true] at hk
  exact hk
 have e1 : allB (morS s c) R = allB s R := by
  rw [← foldl_or_le,← foldl_or_le]
  congr 1
  exact List.map_congr_left fun r hr => bitO_more (hk' r hr)
 unfold rwsE2
 rw [if_neg (by omega),if_neg h20,if_neg,if_neg,if_neg hd,if_neg]
 · rw [e1]; exact ha
 · rw [Bool.not_eq_true,List.any_eq_false] at hb ⊢
   intro r hr
   rw [bitO_more (hk' r hr)]
   exact hb r hr
 · rw [Bool.not_eq_false,List.all_eq_true]
   exact fun r hr => isK_more (hk' r hr)
end Go.AM

namespace Go.AM
open Go.RowKit Go.Proofs
theorem wh_19 {s : SH} (h0 : shtE s = 0) (hb : whE s [] ≠ 0) : whE s [] = 19 ∧ lostL s ≠ [] := by
 unfold whE at hb ⊢
 rw [if_neg (by omega),if_neg (by simp)] at hb ⊢
 by_cases hL : lostL s = []
 · rw [if_neg (by simp [hL])] at hb; exact absurd rfl hb
 · rw [if_pos hL]; exact ⟨rfl,hL⟩
set_option maxHeartbeats 8000000 in
theorem lk_fewest_ok (f g : Bool) (s : SH) (hz : SzS s) (h0 : shtE s = 0) {v : Nat} (hF : FewV s v) : PureOK Tryz.prog n_l_fewest [Sn f g s] (.tup [I (v : Int),B true]) := by
 have hv := val_of h0
 refine pure_of (walk func_l_fewest form_l_fewest res_l_fewest (by show 1 ≤ _; decide) ?_)
 simp -implicitDefEqProofs (disch := omega) [G_l_fewest,wrap_id]
 refine k_Best_v hz mpp2 (fun hb => ?_) (fun hb _ hL B hB0 hB hO => ?_)
 · obtain ⟨h19,hL⟩ := wh_19 h0 hb
   obtain rfl := (few_100 hv hF).2 hL
   rw [h19]
   simp -implicitDefEqProofs (disch := omega) [wrap_id]
   exact out_of (is := []) rfl
 · obtain rfl := few_bst hF hL hB
   simp -implicitDefEqProofs (disch := omega) [wrap_id]
   exact out_of (is := []) rfl
theorem getElem_eqL {L : List (Int × Int)} {P : List Int} {c : Int} {i : Nat} (h : L = P.map fun a => (c,a)) (h1 : i < L.length) (h2 : i < P.length) : L[i] = (c,P[i]) := by
 subst h
 exact List.getElem_map ..
theorem HadK.rowP {s : SH} (hv : ValS s) {c i o : Nat} {P : List Int} (hP : rowOf s c = P.map fun a => ((c : Int),a)) (hi : i < P.length) (h : HadK s c i (bitL (bitO s ((c : Int),P[i]'hi))) o) : HadK s c (i + 1) [] o := by
 have hi' : i < (rowOf s c).length := by rw [hP,List.length_map]; exact hi
 refine HadK.row hv hi' ?_
 rw [getElem_eqL hP hi' hi]
 exact h
theorem fin_val {s : SH} (hg : finK s = true) : shtE s = 0 ∧ SzS s ∧ ValS s := by
 have hf : grtK s = false ∧ shtE s = 0 := by
  unfold finK at hg
  simpa using hg
 exact ⟨hf.2,(grtK_sz hf.1).1,val_of hf.2⟩
theorem lst_eq {s : SH} (h0 : shtE s = 0) : lstL s = lostL s := by unfold lstL; rw [if_pos h0]
end Go.AM

namespace Go.AM
open Go.RowKit Go.Proofs
theorem view_flat2 {c : List (Int × Int)} : view (flat2 c) 0 (c.length * 2) = flat2 c := by
 have fl := flat2_len c
 simp only [view,List.drop_zero]
 exact List.take_of_length_le (by omega)
theorem purL_k {hp : List HObj} {id n : Nat} {c m : List (Int × Int)} {g : Bool} (h : nthH hp id = some (.cells (flat2 c))) (hn : n = c.length) : purifyL (hpf hp) [.ms id 0 n 2,Ps g m] = some ([Ps false c,Ps g m],[id]) := by
 have fl := flat2_len c
 subst hn
 simp only [purifyL,purify1,purify0,hpf_nthH,h]
 rw [if_pos ⟨by omega,pcL_pure (flat2_pc c)⟩,view_flat2]
 rfl
set_option maxHeartbeats 16000000 in
theorem lawMore (f g h : Bool) (s : SH) (mo : Int × Int) (R : List (Int × Int)) : PureOK Tryz.prog n_l_CombMore [Sn f g s, Pr mo, Ps h R] (B true) := by
 refine pure_of (walk func_l_CombMore form_l_CombMore res_l_CombMore (by show 3 ≤ _; decide) ?_)
 simp -implicitDefEqProofs (disch := omega) [G_l_CombMore,wrap_id]
 refine callW_pure (ys := [Sn f g s]) (ids := []) rfl (lk_fine_ok f g s) ?_
 cases hg : finK s with
 | false =>
   simp -implicitDefEqProofs (disch := omega) [wrap_id]
   refine callW_pure rfl lk_Works_ok ?_
   simp -implicitDefEqProofs (disch := omega) [wrap_id]
 | true =>
   obtain ⟨h0,hz,hv⟩ := fin_val hg
   have hm12 := hv.m12
   have hk8 := hv.k8
   by_cases hR : 30 < R.length
   · have hR' : (30 : Int) < (R.length : Int) := by omega
     simp -implicitDefEqProofs (disch := omega) [wrap_id,hR,hR']
     refine callW_pure rfl lk_Works_ok ?_
     simp -implicitDefEqProofs (disch := omega) [wrap_id]
   have hR' : ¬ (30 : Int) < (R.length : Int) := by omega
   simp -implicitDefEqProofs (disch := omega) [wrap_id,hR,hR']
   refine bsl_of (sz := 2) (ys := []) (by rfl) (by rfl) ?_
   simp -implicitDefEqProofs (disch := omega) [wrap_id,zrep]
   refine ⟨⟨flat2_len _,fun x hx => List.all_eq_true.1 (flat2_pc _) x hx,by omega,by omega⟩,?_⟩
   refine bsl_of (sz := 2) (ys := [Pr mo]) (by rfl) (by rfl) ?_
   simp -implicitDefEqProofs (disch := omega) [wrap_id,zrep,flat2_len]
   have fl : List.take (s.k.length * 2) (flat2 s.k) ++ [I mo.1,I mo.2] = flat2 (s.k ++ [mo]) := by rw [List.take_of_length_le (by rw [flat2_len]; omega),flat2_appK]; rfl
   rw [fl]
   refine ⟨⟨by omega,by omega⟩,?_⟩
   refine callW_freeze (id := 2) (cs := [.ms 4 0 (s.k.length + 1) 2,Ps g s.m]) (cs' := [Ps false (s.k ++ [mo]),Ps g s.m]) (is := [4]) (ys := [Sn f g s]) rfl (purL_k rfl (by simp)) (by decide) rfl (fun i h1 h2 => by
    have : i = 0 := by simp at h1; omega
    subst this; exact .inl rfl) ?_
   show CallW _ _ _ [.cells [Ps f s.k,Ps g s.m],.cells [I mo.1,I mo.2],.cells [Ps false (s.k ++ [mo]),Ps g s.m],.gone,.gone] _
   obtain ⟨v,hF⟩ := few_ex hv
   have v100 := few_100 hv hF
   have cL := k_Lost_ok f g s hz
   rw [lst_eq h0,h0] at cL
   refine callW_pure (ys := [Sn f g s]) (ids := []) rfl (lk_fewest_ok f g s hz h0 hF) ?_
   simp -implicitDefEqProofs (disch := omega) [wrap_id]
   refine callW_pure (ys := [Sn f g s]) (ids := []) rfl cL ?_
   simp -implicitDefEqProofs (disch := omega) [wrap_id]
   refine callW_pure (ys := [Sn false g (morS s mo)]) (ids := []) rfl (lk_fine_ok false g (morS s mo)) ?_
   cases hgx : finK (morS s mo) with
   | false =>
     simp -implicitDefEqProofs (disch := omega) [wrap_id]
     refine callW_pure rfl lk_Works_ok ?_
     simp -implicitDefEqProofs (disch := omega) [wrap_id]
   | true =>
     obtain ⟨x0,xz,xv⟩ := fin_val hgx
     obtain ⟨u,hG⟩ := few_ex xv
     have cX := k_Lost_ok false g (morS s mo) xz
     rw [lst_eq x0,x0] at cX
     have hle := few_more hv xv hF hG
     have hlt : (v < u) = False := by simp only [eq_iff_iff,iff_false]; omega
     have hlt' : ((v : Int) < (u : Int)) = False := by simp only [eq_iff_iff,iff_false]; omega
     have lL := lstL_len (s := s)
     rw [lst_eq h0] at lL
     have lX := lstL_len (s := morS s mo)
     rw [lst_eq x0] at lX
     have cR := k_CheckRows_ok f g h s hz R (by omega)
     have cY := k_CheckRows_ok false g h (morS s mo) xz R (by omega)
     have cM := fun k (h : k ∈ lostL (morS s mo)) => lost_more hv xv h
     simp -implicitDefEqProofs (disch := omega) [wrap_id]
     refine callW_pure (ys := [Sn false g (morS s mo)]) (ids := []) rfl (lk_fewest_ok false g (morS s mo) xz x0 hG) ?_
     simp -implicitDefEqProofs (disch := omega) [wrap_id]
     refine callW_pure (ys := [Sn false g (morS s mo)]) (ids := []) rfl cX ?_
     simp -implicitDefEqProofs (disch := omega) [wrap_id,hlt,hlt']
     refine callW_pure (ys := [Sn f g s,Ps h R]) (ids := []) rfl cR ?_
     generalize lostL s = L at *
     generalize lostL (morS s mo) = X at *
     by_cases hr : rwsE2 s R = 0
     case' pos =>
      rw [rws_more x0 hr] at cY
      rw [hr]
      simp -implicitDefEqProofs (disch := omega) [wrap_id]
      refine callW_pure (ys := [Sn false g (morS s mo),Ps h R]) (ids := []) rfl cY ?_
      simp -implicitDefEqProofs (disch := omega) [wrap_id]
     case' neg =>
      have hr' : (rwsE2 s R == 0) = false := by rw [beq_eq_false_iff_ne]; exact hr
      simp -implicitDefEqProofs (disch := omega) [wrap_id,hr']
     all_goals
      generalize hH : ([.cells [Ps f s.k,Ps g s.m],.cells [I mo.1,I mo.2],.cells [Ps false (s.k ++ [mo]),Ps g s.m],.gone,.gone] : List HObj) = H
      refine loop_eq (fun i : Nat => ⟨[(10,Ls L.isEmpty L),(13,Ls X.isEmpty X),(14,I (i : Int))],H⟩) (fun i => i ≤ X.length) (fun i => X.length - i) 0 (Nat.zero_le _) rfl ?_
      intro i c1
      refine hideK' fun K0 hK0 => ?_
      simp -implicitDefEqProofs (disch := omega) [wrap_id]
      refine c_split (fun hc => ?_) (fun hc => ?_)
      · have hi : i < X.length := by simpa using hc
        have ix : ((i : Int) + 1) = ((i + 1 : Nat) : Int) := by omega
        have cI := lk_in_ok L.isEmpty L X[i] (by omega)
        have e : L.contains X[i] = true := List.contains_iff_mem.2 (cM _ (List.getElem_mem hi))
        rw [e] at cI
        simp -implicitDefEqProofs (disch := omega) [wrap_id,cells_ls,hi]
        refine callW_pure rfl cI ?_
        simp -implicitDefEqProofs (disch := omega) [wrap_id]
        rw [hK0]
        exact next_eq (i + 1) (by omega) (by omega) (by simp only [ix])
      · have hi : i = X.length := by simp at hc; omega
        subst hi
        subst hK0
        simp -implicitDefEqProofs (disch := omega) [wrap_id]
        refine callW_pure rfl lk_Works_ok ?_
        simp -implicitDefEqProofs (disch := omega) [wrap_id]
end Go.AM
