/-
  KxBk2: texts joined: FmOF Co1 Co2 FmOL Lo1 Lo5 Lo9 Lo10 Lo11. Own work.
-/
import Derived.Test.YtelokgilhpjbhaaGreatKxBk1
import Derived.Test.YtelokgilhpjbhaaGreatProg

set_option maxRecDepth 100000
namespace Go.AM
open Go.RowKit Go.Proofs
abbrev n_r_CheckBench : Nat := 24
def G_r_CheckBench : AC := (.seq (.rgn [⟨none, [(.box 1 2 (.t 0)), (.mv 2 (.k (I 0)))]⟩] [1]) (.seq (.seq (.rgn [⟨none, [(.fa 4 (.t 1) 0), (.ld 5 false 1 (.t 4)), (.bin 6 .lss (.t 5) (.k (I 2))), (.mv 7 (.t 6))]⟩, ⟨(some (7, false)), [(.fa 8 (.t 1) 0), (.ld 9 false 1 (.t 8)), (.bin 10 .gtr (.t 9) (.k (I 6)))]⟩, ⟨none, [(.pick 11 (.t 7) (.k (B true)) (.t 10))]⟩] [1, 11]) (.cond (.t 11) (.seq (.rgn [⟨none, [(.mv 2 (.k (I 2)))]⟩] [2]) .ret) .skip)) (.seq (.seq (.rgn [⟨none, [(.fa 12 (.t 1) 1), (.ld 13 false 1 (.t 12)), (.len 14 (.t 13)), (.bin 15 .gtr (.t 14) (.k (I 6)))]⟩] [1, 15]) (.cond (.t 15) (.seq (.rgn [⟨none, [(.mv 2 (.k (I 6)))]⟩] [2]) .ret) .skip)) (.seq (.seq (.rgn [⟨none, [(.mv 3 (.k (I 0)))]⟩] [1, 3]) (.block 0 (.loop (.seq (.seq (.rgn [⟨none, [(.mv 16 (.t 3)), (.fa 17 (.t 1) 1), (.ld 18 false 1 (.t 17)), (.len 19 (.t 18)), (.bin 20 .lss (.t 16) (.t 19))]⟩] [1, 3, 20]) (.cond (.t 20) .skip (.exit 0))) (.seq (.block 1 (.seq (.drw [⟨none, [(.fa 23 (.t 1) 1), (.ld 24 false 1 (.t 23)), (.mv 25 (.t 3)), (.ia 26 1 (.t 24) (.t 25)), (.ld 27 false 1 (.t 26)), (.fa 28 (.t 1) 0), (.ld 29 false 1 (.t 28)), (.call 30 77 [(.t 27), (.t 29)]), (.un 31 .not (.t 30))]⟩] [(1, 6), (4, 6)] [1, 3, 31]) (.cond (.t 31) (.seq (.rgn [⟨none, [(.mv 2 (.k (I 15)))]⟩] [2]) .ret) .skip))) (.rgn [⟨none, [(.mv 21 (.t 3)), (.bin 22 .add (.t 21) (.k (I 1))), (.mv 3 (.t 22))]⟩] [1, 3])))))) (.seq (.rgn [⟨none, [(.mv 2 (.k (I 0)))]⟩] [2]) .ret)))))
theorem func_r_CheckBench : Tryz.prog.funcs[n_r_CheckBench]? = some Tryz.f24 := Tryz.func24
theorem form_r_CheckBench : formOf Tryz.prog Tryz.f24 [2] = some G_r_CheckBench := by kernel_rfl
theorem res_r_CheckBench : resTmps Tryz.f24.results.toList = some [2] := by kernel_rfl
abbrev n_r_isStroke : Nat := 77
def G_r_isStroke : AC := (.seq (.rgn [⟨none, [(.mv 4 (.k (B false)))]⟩] [0, 1]) (.seq (.seq (.rgn [⟨none, [(.mv 8 (.t 0)), (.len 9 (.t 8)), (.mv 10 (.t 1)), (.bin 11 .neq (.t 9) (.t 10))]⟩] [0, 1, 11]) (.cond (.t 11) (.seq (.rgn [⟨none, [(.mv 4 (.k (B false)))]⟩] [4]) .ret) .skip)) (.seq (.seq (.rgn [⟨none, [(.mv 5 (.k (I 0)))]⟩] [0, 1, 5]) (.block 0 (.loop (.seq (.seq (.rgn [⟨none, [(.mv 12 (.t 5)), (.mv 13 (.t 1)), (.bin 14 .lss (.t 12) (.t 13))]⟩] [0, 1, 5, 14]) (.cond (.t 14) .skip (.exit 0))) (.seq (.block 1 (.seq (.rgn [⟨none, [(.mv 6 (.k (I 0)))]⟩] [0, 1, 5, 6]) (.seq (.seq (.rgn [⟨none, [(.mv 7 (.k (I 0)))]⟩] [0, 1, 5, 6, 7]) (.block 2 (.loop (.seq (.seq (.rgn [⟨none, [(.mv 17 (.t 7)), (.mv 18 (.t 0)), (.len 19 (.t 18)), (.bin 20 .lss (.t 17) (.t 19))]⟩] [0, 1, 5, 6, 7, 20]) (.cond (.t 20) .skip (.exit 2))) (.seq (.block 3 (.seq (.rgn [⟨none, [(.mv 23 (.t 0)), (.mv 24 (.t 7)), (.ia 25 1 (.t 23) (.t 24)), (.ld 26 false 1 (.t 25)), (.mv 27 (.t 5)), (.bin 28 .eql (.t 26) (.t 27))]⟩] [0, 1, 5, 6, 7, 28]) (.cond (.t 28) (.rgn [⟨none, [(.mv 29 (.t 6)), (.bin 30 .add (.t 29) (.k (I 1))), (.mv 6 (.t 30))]⟩] [0, 1, 5, 6, 7]) .skip))) (.rgn [⟨none, [(.mv 21 (.t 7)), (.bin 22 .add (.t 21) (.k (I 1))), (.mv 7 (.t 22))]⟩] [0, 1, 5, 6, 7])))))) (.seq (.rgn [⟨none, [(.mv 31 (.t 6)), (.bin 32 .neq (.t 31) (.k (I 1)))]⟩] [0, 1, 5, 32]) (.cond (.t 32) (.seq (.rgn [⟨none, [(.mv 4 (.k (B false)))]⟩] [4]) .ret) .skip))))) (.rgn [⟨none, [(.mv 15 (.t 5)), (.bin 16 .add (.t 15) (.k (I 1))), (.mv 5 (.t 16))]⟩] [0, 1, 5])))))) (.seq (.rgn [⟨none, [(.mv 4 (.k (B true)))]⟩] [4]) .ret))))
theorem func_r_isStroke : Tryz.prog.funcs[n_r_isStroke]? = some Tryz.f77 := Tryz.func77
theorem form_r_isStroke : formOf Tryz.prog Tryz.f77 [4] = some G_r_isStroke := by kernel_rfl
theorem res_r_isStroke : resTmps Tryz.f77.results.toList = some [4] := by kernel_rfl
end Go.AM

set_option linter.unusedSimpArgs false
set_option linter.unusedVariables false
namespace Go.AM
open Go.RowKit Go.Proofs
theorem count_take {l : List Int} {i : Nat} {p : Int} (h : i < l.length) : (l.take (i + 1)).count p = (l.take i).count p + if l[i] = p then 1 else 0 := by
  rw [List.take_succ_eq_append_getElem h, List.count_append, List.count_singleton]
  by_cases e : l[i] = p
  · simp [e]
  · simp [e]
set_option maxHeartbeats 1000000 in
theorem r_isStroke_ok (f : Bool) (l : List Int) (P : Int) (hl : l.length ≤ 1000000) : PureOK Tryz.prog n_r_isStroke [Ls f l, I P] (B (strO P l)) := by
  refine pure_of (walk func_r_isStroke form_r_isStroke res_r_isStroke (by show 2 ≤ _; decide) ?_)
  simp -implicitDefEqProofs (disch := omega) [G_r_isStroke, wrap_id]
  by_cases hP : (l.length : Int) = P
  · subst hP
    simp -implicitDefEqProofs (disch := omega) [wrap_id]
    refine loop_eq (fun p : Nat => ⟨[(0, Ls f l), (1, I (l.length : Int)), (5, I (p : Int))], []⟩) (fun p => p ≤ l.length ∧ ((List.range p).all fun p => l.count (p : Int) == 1) = true) (fun p => l.length - p) 0 ⟨Nat.zero_le _, rfl⟩ rfl ?_
    rintro p ⟨hp, ha⟩
    refine hideK' fun K0 hK0 => ?_
    simp -implicitDefEqProofs (disch := omega) [wrap_id]
    refine c_split (fun h => ?_) (fun h => ?_)
    · have hp : p < l.length := by simp at h; omega
      have px : ((p : Int) + 1) = ((p + 1 : Nat) : Int) := by omega
      simp -implicitDefEqProofs (disch := omega) [wrap_id]
      refine loop_eq (fun i : Nat => ⟨[(0, Ls f l), (1, I (l.length : Int)), (5, I (p : Int)), (6, I ((l.take i).count (p : Int) : Nat)), (7, I (i : Int))], []⟩) (fun i => i ≤ l.length) (fun i => l.length - i) 0 (Nat.zero_le _) rfl ?_
      intro i hi
      refine hideK' fun K1 hK1 => ?_
      simp -implicitDefEqProofs (disch := omega) [wrap_id]
      refine c_split (fun h => ?_) (fun h => ?_)
      · have hi : i < l.length := by simp at h; omega
        have ix : ((i : Int) + 1) = ((i + 1 : Nat) : Int) := by omega
        have ct := count_take (p := (p : Int)) hi
        have cl : (l.take i).count (p : Int) ≤ l.length := Nat.le_trans List.count_le_length (by rw [List.length_take]; omega)
        generalize hc : (l.take i).count (p : Int) = c at *
        have cx : ((c : Int) + 1) = ((c + 1 : Nat) : Int) := by omega
        by_cases e : l[i] = (p : Int)
        · rw [if_pos e] at ct
          simp -implicitDefEqProofs (disch := omega) [wrap_id, cells_ls, hi, e]
          rw [hK1]
          exact next_eq (i + 1) (by omega) (by omega) (by simp only [ix, cx, ct])
        · rw [if_neg e] at ct
          have e' : (l[i] == (p : Int)) = false := by simpa using e
          simp -implicitDefEqProofs (disch := omega) [wrap_id, cells_ls, hi, e, e']
          rw [hK1]
          exact next_eq (i + 1) (by omega) (by omega) (by simp only [ix, ct]; rfl)
      · have hi : i = l.length := by simp at h; omega
        subst hi
        subst hK1
        have cl := List.count_le_length (a := (p : Int)) (l := l)
        have tk : l.take l.length = l := List.take_of_length_le (Nat.le_refl _)
        by_cases e : l.count (p : Int) = 1
        · simp -implicitDefEqProofs (disch := omega) [wrap_id, e, tk]
          rw [hK0]
          refine next_eq (p + 1) ⟨by omega, ?_⟩ (by omega) (by simp only [px])
          rw [range_all_succ, ha, e]; rfl
        · have e' : ((l.count (p : Int) : Int) != 1) = true := by simp only [bne_iff_ne, ne_eq]; omega
          have hf : strO (l.length : Int) l = false := by
            unfold strO
            have : ((List.range l.length).all fun p => l.count (p : Int) == 1) = false := by
              rw [List.all_eq_false]
              exact ⟨p, List.mem_range.2 hp, by simp [e]⟩
            rw [this, Bool.and_false]
          simp -implicitDefEqProofs (disch := omega) [wrap_id, e', tk]
          rw [hf] at hK0
          subst hK0
          simp -implicitDefEqProofs (disch := omega) [wrap_id]
    · have hp : p = l.length := by simp at h; omega
      subst hp
      have ht : strO (l.length : Int) l = true := by unfold strO; rw [ha]; simp
      rw [ht] at hK0
      subst hK0
      simp -implicitDefEqProofs (disch := omega) [wrap_id]
  · have hP' : ((l.length : Int) != P) = true := by simpa using hP
    have hf : strO P l = false := by unfold strO; rw [decide_eq_false hP]; rfl
    simp -implicitDefEqProofs (disch := omega) [wrap_id, hP', hf]
end Go.AM

set_option linter.unusedSimpArgs false
set_option linter.unusedVariables false
namespace Go.AM
open Go.RowKit Go.Proofs
set_option maxHeartbeats 1000000 in
theorem r_CheckBench_ok (g : Bool) (b : OB) (hb : b.s.length ≤ 1000000) (hs : ∀ p ∈ b.s, p.2.length ≤ 1000000) : PureOK Tryz.prog n_r_CheckBench [On g b] (I (chkO b)) := by
  refine pure_of (walk func_r_CheckBench form_r_CheckBench res_r_CheckBench (by show 1 ≤ _; decide) ?_)
  simp -implicitDefEqProofs (disch := omega) [G_r_CheckBench, wrap_id]
  by_cases h1 : b.P < 2
  · have e : chkO b = 2 := by unfold chkO; rw [if_pos (.inl h1)]
    simp -implicitDefEqProofs (disch := omega) [wrap_id, h1, e]
  by_cases h2 : 6 < b.P
  · have e : chkO b = 2 := by unfold chkO; rw [if_pos (.inr h2)]
    simp -implicitDefEqProofs (disch := omega) [wrap_id, h1, h2, e]
  by_cases h3 : 6 < b.s.length
  · have h3' : (6 : Int) < b.s.length := by omega
    have e : chkO b = 6 := by unfold chkO; rw [if_neg (by omega), if_pos h3]
    simp -implicitDefEqProofs (disch := omega) [wrap_id, h1, h2, h3', e]
  have h3' : ¬ (6 : Int) < b.s.length := by omega
  have e : chkO b = if b.s.all (fun p => strO b.P p.2) then 0 else 15 := by unfold chkO; rw [if_neg (by omega), if_neg h3]
  rw [e]
  simp -implicitDefEqProofs (disch := omega) [wrap_id, h1, h2, h3']
  refine loop_eq (fun i : Nat => ⟨[(1, .ref 0 0), (3, I (i : Int))], [.cells [I b.P, LLs g b.s]]⟩) (fun i => i ≤ b.s.length ∧ ∀ k (hk : k < b.s.length), k < i → strO b.P b.s[k].2 = true) (fun i => b.s.length - i) 0 ⟨Nat.zero_le _, fun k _ h => by omega⟩ rfl ?_
  rintro i ⟨hi, ha⟩
  refine hideK' fun K0 hK0 => ?_
  simp -implicitDefEqProofs (disch := omega) [wrap_id]
  refine c_split (fun h => ?_) (fun h => ?_)
  · have hi : i < b.s.length := by simp at h; omega
    have ix : ((i : Int) + 1) = ((i + 1 : Nat) : Int) := by omega
    simp -implicitDefEqProofs (disch := omega) [wrap_id, cells_lls, hi]
    refine pureW_of rfl (r_isStroke_ok _ _ b.P (hs _ (List.getElem_mem hi))) ?_
    cases hst : strO b.P b.s[i].2 with
    | true =>
      simp -implicitDefEqProofs (disch := omega) [wrap_id, cmp2, nthT]
      rw [hK0]
      refine next_eq (i + 1) ⟨by omega, fun k hk hki => ?_⟩ (by omega) (by simp only [ix])
      by_cases hk2 : k = i
      · subst hk2; exact hst
      · exact ha k hk (by omega)
    | false =>
      have hf : b.s.all (fun p => strO b.P p.2) = false := by
        rw [List.all_eq_false]
        exact ⟨b.s[i], List.getElem_mem hi, by simp [hst]⟩
      rw [hf] at hK0
      subst hK0
      simp -implicitDefEqProofs (disch := omega) [wrap_id, cmp2, nthT]
  · have hi : i = b.s.length := by simp at h; omega
    subst hi
    have ht : b.s.all (fun p => strO b.P p.2) = true := by
      rw [List.all_eq_true]
      intro p hp
      obtain ⟨k, hk, rfl⟩ := List.getElem_of_mem hp
      exact ha k hk hk
    rw [ht] at hK0
    subst hK0
    simp -implicitDefEqProofs (disch := omega) [wrap_id]
end Go.AM

set_option maxRecDepth 100000
namespace Go.AM
open Go.RowKit Go.Proofs
abbrev n_l_OrderBack : Nat := 8
def G_l_OrderBack : AC := (.seq (.rgn [⟨none, [(.box 3 2 (.t 0)), (.mv 6 (.k (B false)))]⟩] [1, 2, 3]) (.seq (.seq (.rgn [⟨none, [(.ld 21 true 2 (.t 3)), (.call 22 47 [(.t 21)]), (.un 23 .not (.t 22)), (.mv 24 (.t 23))]⟩, ⟨(some (24, false)), [(.mv 25 (.t 1)), (.mv 26 (.t 2)), (.bsl 27 2 1 [(.sl true 0 [])] [(0, (.t 25)), (1, (.t 26))]), (.call 28 48 [(.t 27)]), (.un 29 .not (.t 28))]⟩, ⟨none, [(.pick 30 (.t 24) (.k (B true)) (.t 29))]⟩] [1, 2, 3, 30]) (.cond (.t 30) (.seq (.rgn [⟨none, [(.call 31 16 []), (.mv 6 (.t 31))]⟩] [6]) .ret) .skip)) (.seq (.drw [⟨none, [(.ld 32 true 2 (.t 3)), (.mv 33 (.t 1)), (.call 34 49 [(.t 32), (.t 33)]), (.ld 35 true 2 (.t 3)), (.mv 36 (.t 2)), (.call 37 50 [(.t 35), (.t 36)]), (.mv 7 (.t 34)), (.mv 8 (.t 37))]⟩] [(0, 3), (2, 3)] [3, 7, 8]) (.seq (.rgn [⟨none, [(.ld 39 true 2 (.t 3)), (.mv 40 (.t 7)), (.mv 41 (.t 8)), (.call 42 17 [(.t 39), (.t 40), (.t 41)]), (.mv 38 (.t 42)), (.ext 43 (.t 38) 0), (.ext 44 (.t 38) 1), (.mv 9 (.t 43)), (.mv 10 (.t 44))]⟩] [3, 7, 8, 9, 10]) (.seq (.rgn [⟨none, [(.ld 46 true 2 (.t 3)), (.mv 47 (.t 8)), (.call 48 21 [(.t 46), (.t 47)]), (.mv 45 (.t 48)), (.ext 49 (.t 45) 0), (.ext 50 (.t 45) 1), (.mv 11 (.t 49)), (.mv 12 (.t 50))]⟩] [3, 7, 8, 9, 10, 11, 12]) (.seq (.seq (.rgn [⟨none, [(.mv 51 (.t 10)), (.bin 52 .neq (.t 51) (.k (I 0))), (.mv 53 (.t 52))]⟩, ⟨(some (53, false)), [(.mv 54 (.t 12)), (.bin 55 .neq (.t 54) (.k (I 0)))]⟩, ⟨none, [(.pick 56 (.t 53) (.k (B true)) (.t 55)), (.mv 57 (.t 56))]⟩, ⟨(some (57, false)), [(.mv 58 (.t 11)), (.bin 59 .lss (.t 58) (.k (I 1)))]⟩, ⟨none, [(.pick 60 (.t 57) (.k (B true)) (.t 59)), (.mv 61 (.t 60))]⟩, ⟨(some (61, false)), [(.mv 62 (.t 11)), (.bin 63 .gtr (.t 62) (.k (I 6)))]⟩, ⟨none, [(.pick 64 (.t 61) (.k (B true)) (.t 63))]⟩] [3, 7, 8, 9, 11, 64]) (.cond (.t 64) (.seq (.rgn [⟨none, [(.mv 6 (.k (B false)))]⟩] [6]) .ret) .skip)) (.seq (.rgn [⟨none, [(.bsl 65 0 1 [(I 0)] []), (.mv 66 (.t 9)), (.app 67 1 8 (.t 65) (.t 66)), (.mv 13 (.t 67))]⟩] [3, 7, 8, 9, 11, 13]) (.seq (.seq (.rgn [⟨none, [(.mv 14 (.k (I 1)))]⟩] [3, 7, 8, 9, 11, 13, 14]) (.block 0 (.loop (.seq (.seq (.rgn [⟨none, [(.mv 68 (.t 14)), (.mv 69 (.t 11)), (.bin 70 .lss (.t 68) (.t 69))]⟩] [3, 7, 8, 9, 11, 13, 14, 70]) (.cond (.t 70) .skip (.exit 0))) (.seq (.block 1 (.seq (.rgn [⟨none, [(.ld 74 true 2 (.t 3)), (.mv 75 (.t 13)), (.mv 76 (.t 8)), (.call 77 17 [(.t 74), (.t 75), (.t 76)]), (.mv 73 (.t 77)), (.ext 78 (.t 73) 0), (.ext 79 (.t 73) 1), (.mv 15 (.t 78)), (.mv 16 (.t 79))]⟩] [3, 7, 8, 9, 11, 14, 15, 16]) (.seq (.seq (.rgn [⟨none, [(.mv 80 (.t 16)), (.bin 81 .neq (.t 80) (.k (I 0)))]⟩] [3, 7, 8, 9, 11, 14, 15, 81]) (.cond (.t 81) (.seq (.rgn [⟨none, [(.mv 6 (.k (B false)))]⟩] [6]) .ret) .skip)) (.rgn [⟨none, [(.mv 82 (.t 15)), (.mv 13 (.t 82))]⟩] [3, 7, 8, 9, 11, 13, 14])))) (.rgn [⟨none, [(.mv 71 (.t 14)), (.bin 72 .add (.t 71) (.k (I 1))), (.mv 14 (.t 72))]⟩] [3, 7, 8, 9, 11, 13, 14])))))) (.seq (.rgn [⟨none, [(.ld 84 true 2 (.t 3)), (.mv 85 (.t 7)), (.mv 86 (.t 9)), (.call 87 29 [(.t 84), (.t 85), (.t 86)]), (.mv 83 (.t 87)), (.ext 88 (.t 83) 0), (.ext 89 (.t 83) 1), (.mv 17 (.t 88)), (.mv 10 (.t 89))]⟩] [3, 7, 9, 10, 13, 17]) (.seq (.rgn [⟨none, [(.ld 91 true 2 (.t 3)), (.mv 92 (.t 9)), (.mv 93 (.t 7)), (.call 94 29 [(.t 91), (.t 92), (.t 93)]), (.mv 90 (.t 94)), (.ext 95 (.t 90) 0), (.ext 96 (.t 90) 1), (.mv 18 (.t 95)), (.mv 12 (.t 96))]⟩] [3, 7, 9, 10, 12, 13, 17, 18]) (.seq (.seq (.rgn [⟨none, [(.mv 97 (.t 13)), (.mv 98 (.t 7)), (.call 99 25 [(.t 97), (.t 98)]), (.un 100 .not (.t 99)), (.mv 101 (.t 100))]⟩, ⟨(some (101, false)), [(.mv 102 (.t 10)), (.bin 103 .neq (.t 102) (.k (I 0)))]⟩, ⟨none, [(.pick 104 (.t 101) (.k (B true)) (.t 103)), (.mv 105 (.t 104))]⟩, ⟨(some (105, false)), [(.mv 106 (.t 12)), (.bin 107 .neq (.t 106) (.k (I 0)))]⟩, ⟨none, [(.pick 108 (.t 105) (.k (B true)) (.t 107))]⟩] [3, 7, 9, 17, 18, 108]) (.cond (.t 108) (.seq (.rgn [⟨none, [(.mv 6 (.k (B false)))]⟩] [6]) .ret) .skip)) (.seq (.rgn [⟨none, [(.ld 110 true 2 (.t 3)), (.mv 111 (.t 7)), (.mv 112 (.t 17)), (.call 113 17 [(.t 110), (.t 111), (.t 112)]), (.mv 109 (.t 113)), (.ext 114 (.t 109) 0), (.ext 115 (.t 109) 1), (.mv 19 (.t 114)), (.mv 10 (.t 115))]⟩] [3, 7, 9, 10, 18, 19]) (.seq (.rgn [⟨none, [(.ld 117 true 2 (.t 3)), (.mv 118 (.t 9)), (.mv 119 (.t 18)), (.call 120 17 [(.t 117), (.t 118), (.t 119)]), (.mv 116 (.t 120)), (.ext 121 (.t 116) 0), (.ext 122 (.t 116) 1), (.mv 20 (.t 121)), (.mv 12 (.t 122))]⟩] [7, 9, 10, 12, 19, 20]) (.seq (.rgn [⟨none, [(.mv 123 (.t 10)), (.bin 124 .eql (.t 123) (.k (I 0))), (.mv 125 (.t 124))]⟩, ⟨(some (125, true)), [(.mv 126 (.t 12)), (.bin 127 .eql (.t 126) (.k (I 0)))]⟩, ⟨none, [(.pick 128 (.t 125) (.t 127) (.k (B false))), (.mv 129 (.t 128))]⟩, ⟨(some (129, true)), [(.mv 130 (.t 19)), (.mv 131 (.t 9)), (.call 132 25 [(.t 130), (.t 131)])]⟩, ⟨none, [(.pick 133 (.t 129) (.t 132) (.k (B false))), (.mv 134 (.t 133))]⟩, ⟨(some (134, true)), [(.mv 135 (.t 20)), (.mv 136 (.t 7)), (.call 137 25 [(.t 135), (.t 136)])]⟩, ⟨none, [(.pick 138 (.t 134) (.t 137) (.k (B false))), (.mv 139 (.t 138))]⟩, ⟨(some (139, true)), [(.call 140 16 [])]⟩, ⟨none, [(.pick 141 (.t 139) (.t 140) (.k (B false))), (.mv 6 (.t 141))]⟩] [6]) .ret))))))))))))))
theorem func_l_OrderBack : Tryz.prog.funcs[n_l_OrderBack]? = some Tryz.f8 := Tryz.func8
theorem form_l_OrderBack : formOf Tryz.prog Tryz.f8 [6] = some G_l_OrderBack := by kernel_rfl
theorem res_l_OrderBack : resTmps Tryz.f8.results.toList = some [6] := by kernel_rfl
abbrev n_l_great : Nat := 13
def G_l_great : AC := (.seq (.rgn [⟨none, [(.box 1 2 (.t 0)), (.mv 2 (.k (B false)))]⟩] [1]) (.seq (.seq (.rgn [⟨none, [(.fa 4 (.t 1) 1), (.ld 5 false 1 (.t 4)), (.len 6 (.t 5)), (.bin 7 .gtr (.t 6) (.k (I 10)))]⟩] [1, 7]) (.cond (.t 7) (.seq (.rgn [⟨none, [(.mv 2 (.k (B true)))]⟩] [2]) .ret) .skip)) (.seq (.seq (.rgn [⟨none, [(.mv 3 (.k (I 0)))]⟩] [1, 3]) (.block 0 (.loop (.seq (.seq (.rgn [⟨none, [(.mv 8 (.t 3)), (.fa 9 (.t 1) 1), (.ld 10 false 1 (.t 9)), (.len 11 (.t 10)), (.bin 12 .lss (.t 8) (.t 11))]⟩] [1, 3, 12]) (.cond (.t 12) .skip (.exit 0))) (.seq (.block 1 (.seq (.rgn [⟨none, [(.fa 15 (.t 1) 1), (.ld 16 false 1 (.t 15)), (.mv 17 (.t 3)), (.ia 18 1 (.t 16) (.t 17)), (.ld 19 false 1 (.t 18)), (.len 20 (.t 19)), (.bin 21 .gtr (.t 20) (.k (I 10)))]⟩] [1, 3, 21]) (.cond (.t 21) (.seq (.rgn [⟨none, [(.mv 2 (.k (B true)))]⟩] [2]) .ret) .skip))) (.rgn [⟨none, [(.mv 13 (.t 3)), (.bin 14 .add (.t 13) (.k (I 1))), (.mv 3 (.t 14))]⟩] [1, 3])))))) (.seq (.rgn [⟨none, [(.mv 2 (.k (B false)))]⟩] [2]) .ret))))
theorem func_l_great : Tryz.prog.funcs[n_l_great]? = some Tryz.f13 := Tryz.func13
theorem form_l_great : formOf Tryz.prog Tryz.f13 [2] = some G_l_great := by kernel_rfl
theorem res_l_great : resTmps Tryz.f13.results.toList = some [2] := by kernel_rfl
abbrev n_l_fine : Nat := 47
def G_l_fine : AC := (.seq (.rgn [⟨none, [(.box 1 2 (.t 0)), (.mv 2 (.k (B false)))]⟩] [1]) (.seq (.rgn [⟨none, [(.ld 3 true 2 (.t 1)), (.call 4 13 [(.t 3)]), (.un 5 .not (.t 4)), (.mv 6 (.t 5))]⟩, ⟨(some (6, true)), [(.ld 7 true 2 (.t 1)), (.call 8 24 [(.t 7)]), (.bin 9 .eql (.t 8) (.k (I 0)))]⟩, ⟨none, [(.pick 10 (.t 6) (.t 9) (.k (B false))), (.mv 2 (.t 10))]⟩] [2]) .ret))
theorem func_l_fine : Tryz.prog.funcs[n_l_fine]? = some Tryz.f47 := Tryz.func47
theorem form_l_fine : formOf Tryz.prog Tryz.f47 [2] = some G_l_fine := by kernel_rfl
theorem res_l_fine : resTmps Tryz.f47.results.toList = some [2] := by kernel_rfl
abbrev n_l_short : Nat := 48
def G_l_short : AC := (.seq (.rgn [⟨none, [(.mv 2 (.k (B false)))]⟩] [0]) (.seq (.seq (.rgn [⟨none, [(.mv 3 (.k (I 0)))]⟩] [0, 3]) (.block 0 (.loop (.seq (.seq (.rgn [⟨none, [(.mv 4 (.t 3)), (.mv 5 (.t 0)), (.len 6 (.t 5)), (.bin 7 .lss (.t 4) (.t 6))]⟩] [0, 3, 7]) (.cond (.t 7) .skip (.exit 0))) (.seq (.block 1 (.seq (.rgn [⟨none, [(.mv 10 (.t 0)), (.mv 11 (.t 3)), (.ia 12 1 (.t 10) (.t 11)), (.ld 13 false 1 (.t 12)), (.len 14 (.t 13)), (.bin 15 .gtr (.t 14) (.k (I 40)))]⟩] [0, 3, 15]) (.cond (.t 15) (.seq (.rgn [⟨none, [(.mv 2 (.k (B false)))]⟩] [2]) .ret) .skip))) (.rgn [⟨none, [(.mv 8 (.t 3)), (.bin 9 .add (.t 8) (.k (I 1))), (.mv 3 (.t 9))]⟩] [0, 3])))))) (.seq (.rgn [⟨none, [(.mv 2 (.k (B true)))]⟩] [2]) .ret)))
theorem func_l_short : Tryz.prog.funcs[n_l_short]? = some Tryz.f48 := Tryz.func48
theorem form_l_short : formOf Tryz.prog Tryz.f48 [2] = some G_l_short := by kernel_rfl
theorem res_l_short : resTmps Tryz.f48.results.toList = some [2] := by kernel_rfl
abbrev n_l_Row : Nat := 49
def G_l_Row : AC := (.seq (.rgn [⟨none, [(.box 2 2 (.t 0)), (.mv 4 (.k (.sl true 0 [])))]⟩] [1, 2]) (.seq (.rgn [⟨none, [(.mv 5 (.k (.sl true 0 [])))]⟩] [1, 2, 5]) (.seq (.seq (.rgn [⟨none, [(.mv 6 (.k (I 0)))]⟩] [1, 2, 5, 6]) (.block 0 (.loop (.seq (.seq (.rgn [⟨none, [(.mv 8 (.t 6)), (.fa 9 (.t 2) 0), (.ld 10 false 1 (.t 9)), (.bin 11 .lss (.t 8) (.t 10))]⟩] [1, 2, 5, 6, 11]) (.cond (.t 11) .skip (.exit 0))) (.seq (.block 1 (.seq (.rgn [⟨none, [(.mv 7 (.k (I 0)))]⟩] [1, 2, 5, 6, 7]) (.seq (.seq (.rgn [⟨none, [(.mv 14 (.t 1)), (.len 15 (.t 14)), (.bin 16 .gtr (.t 15) (.k (I 0)))]⟩] [1, 2, 5, 6, 7, 16]) (.cond (.t 16) (.rgn [⟨none, [(.mv 17 (.t 1)), (.mv 18 (.t 6)), (.mv 19 (.t 1)), (.len 20 (.t 19)), (.bin 21 .rem (.t 18) (.t 20)), (.ia 22 1 (.t 17) (.t 21)), (.ld 23 false 1 (.t 22)), (.cnv 24 .i64 (.t 23)), (.bin 25 .rem (.t 24) (.k (I 6))), (.mv 7 (.t 25))]⟩] [1, 2, 5, 6, 7]) .skip)) (.rgn [⟨none, [(.mv 26 (.t 5)), (.mv 27 (.t 7)), (.bsl 28 1 1 [(I 0)] [(0, (.t 27))]), (.app 29 1 8 (.t 26) (.t 28)), (.mv 5 (.t 29))]⟩] [1, 2, 5, 6])))) (.rgn [⟨none, [(.mv 12 (.t 6)), (.bin 13 .add (.t 12) (.k (I 1))), (.mv 6 (.t 13))]⟩] [1, 2, 5, 6])))))) (.seq (.rgn [⟨none, [(.mv 30 (.t 5)), (.mv 4 (.t 30))]⟩] [4]) .ret))))
theorem func_l_Row : Tryz.prog.funcs[n_l_Row]? = some Tryz.f49 := Tryz.func49
theorem form_l_Row : formOf Tryz.prog Tryz.f49 [4] = some G_l_Row := by kernel_rfl
theorem res_l_Row : resTmps Tryz.f49.results.toList = some [4] := by kernel_rfl
abbrev n_l_Strokes : Nat := 50
def G_l_Strokes : AC := (.seq (.rgn [⟨none, [(.box 2 2 (.t 0)), (.mv 4 (.k (.sl true 0 [])))]⟩] [1, 2]) (.seq (.rgn [⟨none, [(.mv 5 (.k (.sl true 0 [])))]⟩] [1, 2, 5]) (.seq (.seq (.rgn [⟨none, [(.mv 6 (.k (I 0)))]⟩] [1, 2, 5, 6]) (.block 0 (.loop (.seq (.seq (.rgn [⟨none, [(.mv 7 (.t 6)), (.mv 8 (.t 1)), (.len 9 (.t 8)), (.bin 10 .lss (.t 7) (.t 9)), (.mv 11 (.t 10))]⟩, ⟨(some (11, true)), [(.fa 12 (.t 2) 1), (.ld 13 false 1 (.t 12)), (.len 14 (.t 13)), (.bin 15 .gtr (.t 14) (.k (I 0)))]⟩, ⟨none, [(.pick 16 (.t 11) (.t 15) (.k (B false)))]⟩] [1, 2, 5, 6, 16]) (.cond (.t 16) .skip (.exit 0))) (.seq (.block 1 (.drw [⟨none, [(.mv 19 (.t 5)), (.mv 20 (.t 1)), (.mv 21 (.t 6)), (.ia 22 1 (.t 20) (.t 21)), (.ld 23 false 1 (.t 22)), (.cnv 24 .i64 (.t 23)), (.fa 25 (.t 2) 1), (.ld 26 false 1 (.t 25)), (.len 27 (.t 26)), (.bin 28 .rem (.t 24) (.t 27)), (.bsl 29 1 1 [(I 0)] [(0, (.t 28))]), (.app 30 1 8 (.t 19) (.t 29)), (.mv 5 (.t 30))]⟩] [(4, 7)] [1, 2, 5, 6])) (.rgn [⟨none, [(.mv 17 (.t 6)), (.bin 18 .add (.t 17) (.k (I 1))), (.mv 6 (.t 18))]⟩] [1, 2, 5, 6])))))) (.seq (.rgn [⟨none, [(.mv 31 (.t 5)), (.mv 4 (.t 31))]⟩] [4]) .ret))))
theorem func_l_Strokes : Tryz.prog.funcs[n_l_Strokes]? = some Tryz.f50 := Tryz.func50
theorem form_l_Strokes : formOf Tryz.prog Tryz.f50 [4] = some G_l_Strokes := by kernel_rfl
theorem res_l_Strokes : resTmps Tryz.f50.results.toList = some [4] := by kernel_rfl
end Go.AM

set_option linter.unusedSimpArgs false
set_option linter.unusedVariables false
namespace Go.AM
open Go.RowKit Go.Proofs
def grtO (b : OB) : Bool := decide (10 < b.s.length) || b.s.any fun p => decide (10 < p.2.length)
theorem l_great_ok (g : Bool) (b : OB) (hb : b.s.length ≤ 9223372036854775807) (hz : ∀ p ∈ b.s, p.2.length ≤ 9223372036854775807) : PureOK Tryz.prog n_l_great [On g b] (B (grtO b)) := by
  refine pure_of (walk func_l_great form_l_great res_l_great (by show 1 ≤ _; decide) ?_)
  simp -implicitDefEqProofs (disch := omega) [G_l_great, wrap_id]
  by_cases h : 10 < b.s.length
  · have h' : (10 : Int) < b.s.length := by omega
    have e : grtO b = true := by simp [grtO, h]
    rw [e]
    simp -implicitDefEqProofs (disch := omega) [wrap_id, h']
  · have h' : ¬ (10 : Int) < b.s.length := by omega
    have e0 : grtO b = b.s.any fun p => decide (10 < p.2.length) := by simp [grtO, h]
    generalize grtO b = E at e0 ⊢
    simp -implicitDefEqProofs (disch := omega) [wrap_id, h']
    refine loop_eq (fun i : Nat => ⟨[(1, .ref 0 0), (3, I (i : Int))], [.cells [I b.P, LLs g b.s]]⟩) (fun i => i ≤ b.s.length ∧ ∀ k (hk : k < b.s.length), k < i → ¬ 10 < b.s[k].2.length) (fun i => b.s.length - i) 0 ⟨by omega, fun k hk h => by omega⟩ rfl ?_
    rintro i ⟨hi, he⟩
    refine hideK' fun K0 hK0 => ?_
    simp -implicitDefEqProofs (disch := omega) [wrap_id]
    refine c_split (fun hc => ?_) (fun hc => ?_)
    · have h1 : i < b.s.length := by simp at hc; omega
      have ix : ((i : Int) + 1) = ((i + 1 : Nat) : Int) := by omega
      have z1 := hz _ (List.getElem_mem h1)
      by_cases e : 10 < b.s[i].2.length
      · have e' : (10 : Int) < b.s[i].2.length := by omega
        have : (b.s.any fun p => decide (10 < p.2.length)) = true := List.any_eq_true.2 ⟨_, List.getElem_mem h1, by simpa using e⟩
        rw [this] at e0
        subst e0
        subst hK0
        simp -implicitDefEqProofs (disch := omega) [wrap_id, cells_lls, h1, e']
      · have e' : ¬ (10 : Int) < b.s[i].2.length := by omega
        simp -implicitDefEqProofs (disch := omega) [wrap_id, cells_lls, h1, e']
        rw [hK0]
        refine next_eq (i + 1) ⟨by omega, fun k hk h2 => ?_⟩ (by omega) (by simp only [ix])
        by_cases ek : k = i
        · subst ek; exact e
        · exact he k hk (by omega)
    · have h1 : i = b.s.length := by simp at hc; omega
      have : (b.s.any fun p => decide (10 < p.2.length)) = false := by
        rw [List.any_eq_false]
        intro p hp
        obtain ⟨k, hk, rfl⟩ := List.getElem_of_mem hp
        simpa using he k hk (by omega)
      rw [this] at e0
      subst e0
      subst hK0
      simp -implicitDefEqProofs (disch := omega) [wrap_id]
theorem grt_sz {b : OB} (h : grtO b = false) : Sz12 b ∧ SzO b := by
  unfold grtO at h
  rw [Bool.or_eq_false_iff] at h
  have h1 : ¬ 10 < b.s.length := by simpa using h.1
  have h2 : ∀ p ∈ b.s, ¬ 10 < p.2.length := fun p hp => by simpa using List.any_eq_false.1 h.2 p hp
  exact ⟨⟨by omega, fun p hp => by have := h2 p hp; omega⟩, ⟨by omega, fun p hp => by have := h2 p hp; omega⟩⟩
end Go.AM

set_option linter.unusedSimpArgs false
set_option linter.unusedVariables false
namespace Go.AM
open Go.RowKit Go.Proofs
theorem least_ex {d : Nat} : ∀ {L : List (List Nat)}, L ≠ [] → (∀ w ∈ L, w.length = d) → ∃ w ∈ L, ∀ m ∈ L, frst (wI m) (wI w) = false
  | [a], _, _ => ⟨a, by simp, fun m hm => by rw [List.mem_singleton] at hm; subst hm; exact frst_self _⟩
  | a :: b :: L, _, hl => by
    obtain ⟨w, hw, hm⟩ := least_ex (L := b :: L) (by simp) (fun w hw => hl w (by simp [List.mem_cons.1 hw]))
    have la := hl a (by simp)
    have lw := hl w (List.mem_cons_of_mem _ hw)
    cases hf : frst (wI a) (wI w) with
    | true =>
      refine ⟨a, by simp, fun m hm2 => ?_⟩
      rcases List.mem_cons.1 hm2 with rfl | hm3
      · exact frst_self _
      · have lm := hl m hm2
        exact frst_le_trans (a := wI a) (b := wI w) (c := wI m) (by rw [wI_len, wI_len]; omega) (by rw [wI_len, wI_len]; omega) (frst_asymm hf) (hm m hm3)
    | false =>
      refine ⟨w, List.mem_cons_of_mem _ hw, fun m hm2 => ?_⟩
      rcases List.mem_cons.1 hm2 with rfl | hm3
      · exact hf
      · exact hm m hm3
theorem best_ex {S : List (List Int)} {r x : List Int} {d : Nat} (h : Dist S r x d) : ∃ w, IsBest S d r x w := by
  obtain ⟨⟨w0, hw, hl⟩, _⟩ := h
  have hm := mem_wordsL.2 ⟨hw, hl⟩
  obtain ⟨w, h1, h2⟩ := least_ex (d := d) (L := wordsL S d r x) (fun e => by rw [e] at hm; cases hm) (fun w hw => (mem_wordsL.1 hw).2)
  exact ⟨w, best_words h1 h2⟩
end Go.AM

set_option linter.unusedSimpArgs false
set_option linter.unusedVariables false
namespace Go.AM
open Go.RowKit Go.Proofs
def finO (b : OB) : Bool := !grtO b && decide (chkO b = 0)
theorem l_fine_ok (g : Bool) (b : OB) (hb : OBK b) : PureOK Tryz.prog n_l_fine [On g b] (B (finO b)) := by
  refine pure_of (walk func_l_fine form_l_fine res_l_fine (by show 1 ≤ _; decide) ?_)
  simp -implicitDefEqProofs (disch := omega) [G_l_fine, wrap_id]
  refine callW_pure rfl (l_great_ok g b hb.many hb.len) ?_
  cases hg : grtO b with
  | true => simp -implicitDefEqProofs (disch := omega) [wrap_id, finO, hg]
  | false =>
    obtain ⟨z1, z2⟩ := grt_sz hg
    simp -implicitDefEqProofs (disch := omega) [wrap_id]
    refine callW_pure rfl (r_CheckBench_ok g b z2.many z2.len) ?_
    by_cases h : chkO b = 0
    · simp -implicitDefEqProofs (disch := omega) [wrap_id, h, finO, hg]
    · have h' : (chkO b == 0) = false := by simpa using h
      simp -implicitDefEqProofs (disch := omega) [wrap_id, h', h, finO, hg]
theorem fin_ok {b : OB} (h : finO b = true) : ∃ n, Okb b n ∧ Sz12 b ∧ SzO b := by
  unfold finO at h
  rw [Bool.and_eq_true, decide_eq_true_iff] at h
  obtain ⟨n, hb⟩ := okb_of h.2
  have hg : grtO b = false := by simpa using h.1
  obtain ⟨z1, z2⟩ := grt_sz hg
  exact ⟨n, hb, z1, z2⟩
theorem cells_us {l : List Int} {j : Nat} {K : AV → List (Nat × HObj) → Prop} (h : j < l.length) : CellsW (l.map fun n => U n) j 1 false K = K (U (l.getD j 0)) [] := by
  simp [CellsW, h]
def rowG (n : Nat) (u : List Int) : List Int := (List.range n).map fun i => if u = [] then 0 else (u.getD (i % u.length) 0).tmod 6
theorem rowG_len {n : Nat} {u : List Int} : (rowG n u).length = n := by simp [rowG]
theorem rowG_snoc {n : Nat} {u : List Int} : rowG (n + 1) u = rowG n u ++ [if u = [] then 0 else (u.getD (n % u.length) 0).tmod 6] := by simp [rowG, List.range_succ]
theorem tmod6 {x : Int} (h : 0 ≤ x) : 0 ≤ x.tmod 6 ∧ x.tmod 6 ≤ 5 := by
  rw [Int.tmod_eq_emod_of_nonneg h]; omega
theorem getD_u {u : List Int} (hu : ∀ n ∈ u, 0 ≤ n ∧ n ≤ 255) (k : Nat) : 0 ≤ u.getD k 0 ∧ u.getD k 0 ≤ 255 := by
  by_cases h : k < u.length
  · exact hu _ (getD_mem h)
  · rw [List.getD_eq_getElem?_getD, List.getElem?_eq_none (by omega)]; exact ⟨Int.le_refl _, by decide⟩
theorem rowG_col {n : Nat} {u : List Int} (hu : ∀ n ∈ u, 0 ≤ n ∧ n ≤ 255) : ∀ x ∈ rowG n u, 0 ≤ x ∧ x ≤ 5 := fun x hx => by
  obtain ⟨i, _, rfl⟩ := List.mem_map.1 hx
  by_cases h : u = []
  · rw [if_pos h]; decide
  · rw [if_neg h]; exact tmod6 (getD_u hu _).1
theorem rowO_of {b : OB} {n : Nat} (hb : Okb b n) {r : List Int} (h1 : r.length = n) (h2 : ∀ x ∈ r, 0 ≤ x ∧ x ≤ 5) : rowO b r = true := by
  unfold rowO
  rw [Bool.and_eq_true, decide_eq_true_iff, List.all_eq_true]
  exact ⟨by rw [hb.P, h1], fun x hx => by have := h2 x hx; simp; omega⟩
set_option maxHeartbeats 1000000 in
theorem l_Row_ok (g f : Bool) {b : OB} {n : Nat} (hb : Okb b n) (u : List Int) (hl : u.length ≤ 1000000) (hu : ∀ n ∈ u, 0 ≤ n ∧ n ≤ 255) : PureOK Tryz.prog n_l_Row [On g b, Us f u] (Ls (rowG n u).isEmpty (rowG n u)) := by
  have h6 := hb.hi
  have hn := hb.P
  refine pure_of (walk func_l_Row form_l_Row res_l_Row (by show 2 ≤ _; decide) ?_)
  simp -implicitDefEqProofs (disch := omega) [G_l_Row, wrap_id]
  refine loop_eq (fun q : Nat × AV × List HObj => ⟨[(1, Us f u), (2, .ref 0 0), (5, q.2.1), (6, I (q.1 : Int))], q.2.2⟩) (fun q => q.1 ≤ n ∧ AccR q.2.2 q.2.1 (rowG q.1 u) ∧ nthH q.2.2 0 = some (.cells [I b.P, LLs g b.s]) ∧ rid q.2.1 ≠ some 0) (fun q => n - q.1) (0, .sl true 0 [], [.cells [I b.P, LLs g b.s]]) ⟨Nat.zero_le _, .inl ⟨rfl, rfl⟩, rfl, by simp [rid]⟩ rfl ?_
  rintro ⟨i, x, H⟩ ⟨c1, c2, c3, c4⟩
  simp only at c1 c2 c3 c4 ⊢
  have l0 := nthH_lt c3
  refine hideK' fun K0 hK0 => ?_
  simp -implicitDefEqProofs (disch := omega) [wrap_id, c3, ldr_some, hn]
  refine c_split (fun h => ?_) (fun h => ?_)
  · have hir : i < n := by simp at h; omega
    have ix : ((i : Int) + 1) = ((i + 1 : Nat) : Int) := by omega
    have tk := rowG_snoc (n := i) (u := u)
    have tl := rowG_len (n := i) (u := u)
    have fin : ∀ (v : Int) (fr : List (Nat × AV)), v = (if u = [] then 0 else (u.getD (i % u.length) 0).tmod 6) →
        ∀ KK, (∀ ws, (∀ j, j < H.length → rid x ≠ some j → nthH (writeL H ws) j = nthH H j) → nthH (writeL H ws) H.length = some (.cells ((rowG i u ++ [v]).map fun n => I n)) → KK (.ms H.length 0 (i + 1) 1) ws) → AppW H 1 8 x (.sl true 1 [I v]) KK := fun v fr _ KK hKK => by
      refine app_row c2.row (by omega) fun ws w1 w2 w3 => ?_
      rw [tl]
      exact hKK ws w1 w3
    by_cases hu0 : u = []
    · subst hu0
      simp -implicitDefEqProofs (disch := omega) [wrap_id]
      refine bsl_of (ys := [I 0]) rfl rfl ?_
      simp -implicitDefEqProofs (disch := omega) [wrap_id, zrep]
      refine fin 0 [] (by simp) _ fun ws w1 w3 => ?_
      simp -implicitDefEqProofs (disch := omega) [wrap_id]
      rw [hK0]
      rw [if_pos rfl] at tk
      refine next_eq (i + 1, .ms H.length 0 (i + 1) 1, writeL H ws) ⟨by simp only; omega, .inr ⟨H.length, ?_, ?_, ?_⟩, ?_, ?_⟩ (by simp only; omega) (by simp only [ix])
      · rw [rowG_len]
      · simp only [tk]; simp
      · simp only [tk]; exact w3
      · rw [w1 0 l0 c4]; exact c3
      · simp only [rid]; intro e; injection e; omega
    · have hp : 0 < u.length := List.length_pos_iff.2 hu0
      have hp' : ((0 : Int) < u.length) = True := by simp only [eq_iff_iff, iff_true]; omega
      have em : (i : Int).tmod u.length = ((i % u.length : Nat) : Int) := by rw [Int.tmod_eq_emod_of_nonneg (by omega)]; simp
      have lt := Nat.mod_lt i hp
      obtain ⟨b1, b2⟩ := getD_u hu (i % u.length)
      obtain ⟨v1, v2⟩ := tmod6 b1
      rw [if_neg hu0] at tk
      obtain ⟨w, hw⟩ : ∃ w, u.getD (i % u.length) 0 = w := ⟨_, rfl⟩
      have cu : ∀ K, CellsW (u.map fun n => U n) (i % u.length) 1 false K = K (U w) [] := fun K => by rw [cells_us lt, hw]
      rw [hw] at b1 b2 v1 v2 tk
      obtain ⟨m, hm⟩ : ∃ m : Nat, i % u.length = m := ⟨_, rfl⟩
      rw [hm] at em lt
      simp only [hm] at cu
      simp -implicitDefEqProofs (disch := omega) [wrap_id, hp, hp', em, lt, cu]
      refine bsl_of (ys := [I (w.tmod 6)]) rfl rfl ?_
      simp -implicitDefEqProofs (disch := omega) [wrap_id, zrep]
      refine fin (w.tmod 6) [] (by rw [if_neg hu0, hm]; rw [hm] at hw; rw [hw]) _ fun ws w1 w3 => ?_
      simp -implicitDefEqProofs (disch := omega) [wrap_id]
      rw [hK0]
      refine next_eq (i + 1, .ms H.length 0 (i + 1) 1, writeL H ws) ⟨by simp only; omega, .inr ⟨H.length, ?_, ?_, ?_⟩, ?_, ?_⟩ (by simp only; omega) (by simp only [ix])
      · rw [rowG_len]
      · simp only [tk]; simp
      · simp only [tk]; exact w3
      · rw [w1 0 l0 c4]; exact c3
      · simp only [rid]; intro e; injection e; omega
  · have hir : i = n := by simp at h; omega
    subst hir
    subst hK0
    simp -implicitDefEqProofs (disch := omega) [wrap_id]
    exact out_acc c2
def strG (k : Nat) (u : List Int) : List Int := if k = 0 then [] else u.map fun x => x.tmod k
theorem strG_len {k : Nat} {u : List Int} : (strG k u).length ≤ u.length := by unfold strG; split <;> simp
theorem strG_LsO {b : OB} {u : List Int} (hu : ∀ n ∈ u, 0 ≤ n ∧ n ≤ 255) : LsO b (strG b.s.length u) := fun s hs => by
  unfold strG at hs
  split at hs
  · cases hs
  · obtain ⟨x, hx, rfl⟩ := List.mem_map.1 hs
    rw [Int.tmod_eq_emod_of_nonneg (hu x hx).1]
    rename_i h0
    have h1 : (0 : Int) < b.s.length := by omega
    exact ⟨Int.emod_nonneg _ (by omega), Int.emod_lt_of_pos _ h1⟩
set_option maxHeartbeats 1000000 in
theorem l_Strokes_ok (g f : Bool) {b : OB} {n : Nat} (hb : Okb b n) (u : List Int) (hl : u.length ≤ 1000000) (hu : ∀ n ∈ u, 0 ≤ n ∧ n ≤ 255) : PureOK Tryz.prog n_l_Strokes [On g b, Us f u] (Ls (strG b.s.length u).isEmpty (strG b.s.length u)) := by
  have hm := hb.many
  refine pure_of (walk func_l_Strokes form_l_Strokes res_l_Strokes (by show 2 ≤ _; decide) ?_)
  simp -implicitDefEqProofs (disch := omega) [G_l_Strokes, wrap_id]
  refine loop_eq (fun q : Nat × AV × List HObj => ⟨[(1, Us f u), (2, .ref 0 0), (5, q.2.1), (6, I (q.1 : Int))], q.2.2⟩) (fun q => q.1 ≤ (strG b.s.length u).length ∧ AccR q.2.2 q.2.1 ((strG b.s.length u).take q.1) ∧ nthH q.2.2 0 = some (.cells [I b.P, LLs g b.s]) ∧ rid q.2.1 ≠ some 0) (fun q => (strG b.s.length u).length - q.1) (0, .sl true 0 [], [.cells [I b.P, LLs g b.s]]) ⟨Nat.zero_le _, .inl ⟨rfl, rfl⟩, rfl, by simp [rid]⟩ rfl ?_
  rintro ⟨i, x, H⟩ ⟨c1, c2, c3, c4⟩
  simp only at c1 c2 c3 c4 ⊢
  have l0 := nthH_lt c3
  refine hideK' fun K0 hK0 => ?_
  by_cases hk : b.s.length = 0
  · have e0 : strG b.s.length u = [] := by unfold strG; rw [if_pos hk]
    rw [e0] at c1 c2
    have hi : i = 0 := by simpa using c1
    subst hi
    subst hK0
    have hk' : ¬ ((0 : Int) < b.s.length) := by omega
    have hk2 : ¬ (0 < b.s.length) := by omega
    by_cases hu0 : u = []
    · subst hu0
      simp -implicitDefEqProofs (disch := omega) [wrap_id, c3, ldr_some, hk', hk2]
      rw [e0]
      exact out_acc c2
    · have hp : 0 < u.length := List.length_pos_iff.2 hu0
      simp -implicitDefEqProofs (disch := omega) [wrap_id, c3, ldr_some, hk', hk2, hp]
      rw [e0]
      exact out_acc c2
  · have e0 : strG b.s.length u = u.map fun x => x.tmod b.s.length := by unfold strG; rw [if_neg hk]
    have el : (strG b.s.length u).length = u.length := by rw [e0, List.length_map]
    have hk2 : 0 < b.s.length := by omega
    by_cases hi : i < u.length
    · have ix : ((i : Int) + 1) = ((i + 1 : Nat) : Int) := by omega
      obtain ⟨b1, b2⟩ := hu u[i] (List.getElem_mem hi)
      obtain ⟨w, hw⟩ : ∃ w, u[i] = w := ⟨_, rfl⟩
      have cu : ∀ K, CellsW (u.map fun n => U n) i 1 false K = K (U w) [] := fun K => by
        rw [cells_us hi, List.getD_eq_getElem?_getD, List.getElem?_eq_getElem hi, ← hw]; rfl
      have tk : (strG b.s.length u).take (i + 1) = (strG b.s.length u).take i ++ [w.tmod b.s.length] := by
        rw [List.take_succ_eq_append_getElem (by omega)]
        simp [e0, hw]
      have tl : ((strG b.s.length u).take i).length = i := by rw [List.length_take]; omega
      rw [hw] at b1 b2
      simp -implicitDefEqProofs (disch := omega) [wrap_id, c3, ldr_some, hk2, hi, cu, cmp2, nthT]
      refine bsl_of (ys := [I (w.tmod b.s.length)]) rfl rfl ?_
      simp -implicitDefEqProofs (disch := omega) [wrap_id, zrep, cmp2, nthT]
      refine app_row c2.row (by omega) fun ws w1 w2 w3 => ?_
      simp -implicitDefEqProofs (disch := omega) [wrap_id, cmp2, nthT, tl]
      rw [hK0]
      refine next_eq (i + 1, .ms H.length 0 (i + 1) 1, writeL H ws) ⟨by simp only; omega, .inr ⟨H.length, ?_, ?_, ?_⟩, ?_, ?_⟩ (by simp only; omega) (by simp only [ix])
      · rw [List.length_take, Nat.min_eq_left (by omega)]
      · simp only [tk]; simp
      · simp only [tk]; exact w3
      · rw [w1 0 l0 c4]; exact c3
      · simp only [rid]; intro e; injection e; omega
    · have tk : (strG b.s.length u).take i = strG b.s.length u := List.take_of_length_le (by omega)
      rw [tk] at c2
      subst hK0
      simp -implicitDefEqProofs (disch := omega) [wrap_id, c3, ldr_some, hi]
      exact out_acc c2
abbrev UUs (f : Bool) (ls : List (Bool × List Int)) : AV := .sl f ls.length (ls.map fun p => Us p.1 p.2)
theorem cells_uus {ls : List (Bool × List Int)} {j : Nat} {K : AV → List (Nat × HObj) → Prop} (h : j < ls.length) : CellsW (ls.map fun p => Us p.1 p.2) j 1 false K = K (Us ls[j].1 ls[j].2) [] := by
  simp [CellsW, h]
theorem l_short_ok (f : Bool) (ls : List (Bool × List Int)) (hl : ls.length ≤ 1000000) (hz : ∀ p ∈ ls, p.2.length ≤ 9223372036854775807) : PureOK Tryz.prog n_l_short [UUs f ls] (B (ls.all fun p => decide (p.2.length ≤ 40))) := by
  refine pure_of (walk func_l_short form_l_short res_l_short (by show 1 ≤ _; decide) ?_)
  generalize hE : (ls.all fun p => decide (p.2.length ≤ 40)) = E
  simp -implicitDefEqProofs (disch := omega) [G_l_short, wrap_id]
  refine loop_eq (fun i : Nat => ⟨[(0, UUs f ls), (3, I (i : Int))], []⟩) (fun i => i ≤ ls.length ∧ ∀ k (hk : k < ls.length), k < i → ls[k].2.length ≤ 40) (fun i => ls.length - i) 0 ⟨Nat.zero_le _, fun k hk h => by omega⟩ rfl ?_
  rintro i ⟨c1, c2⟩
  refine hideK' fun K0 hK0 => ?_
  simp -implicitDefEqProofs (disch := omega) [wrap_id]
  refine c_split (fun h => ?_) (fun h => ?_)
  · have hi : i < ls.length := by simp at h; omega
    have ix : ((i : Int) + 1) = ((i + 1 : Nat) : Int) := by omega
    have z1 := hz _ (List.getElem_mem hi)
    by_cases e : ls[i].2.length ≤ 40
    · have e' : ¬ (40 : Int) < ls[i].2.length := by omega
      simp -implicitDefEqProofs (disch := omega) [wrap_id, cells_uus, hi, e']
      rw [hK0]
      refine next_eq (i + 1) ⟨by omega, fun k hk h2 => ?_⟩ (by omega) (by simp only [ix])
      by_cases ek : k = i
      · subst ek; exact e
      · exact c2 k hk (by omega)
    · have e' : (40 : Int) < ls[i].2.length := by omega
      have : (ls.all fun p => decide (p.2.length ≤ 40)) = false := by
        rw [List.all_eq_false]
        exact ⟨_, List.getElem_mem hi, by simpa using e⟩
      rw [this] at hE
      subst hE
      subst hK0
      simp -implicitDefEqProofs (disch := omega) [wrap_id, cells_uus, hi, e']
  · have hi : i = ls.length := by simp at h; omega
    have : (ls.all fun p => decide (p.2.length ≤ 40)) = true := by
      rw [List.all_eq_true]
      intro p hp
      obtain ⟨k, hk, rfl⟩ := List.getElem_of_mem hp
      simpa using c2 k hk (by omega)
    rw [this] at hE
    subst hE
    subst hK0
    simp -implicitDefEqProofs (disch := omega) [wrap_id]
end Go.AM

set_option linter.unusedSimpArgs false
set_option linter.unusedVariables false
namespace Go.AM
open Go.RowKit Go.Proofs
theorem plc_of {b : OB} {n : Nat} (hb : Okb b n) : b.P.toNat = n := by have := hb.P; omega
theorem allI_aft {b : OB} {n : Nat} (hb : Okb b n) : ∀ {l r : List Int}, LsO b l → r.length = n → allI b l r = aft (allI b l (plcL n)) r
  | [], r, _, hr => (aft_plc hr).symm
  | s :: l, r, hl, hr => by
    have hl' : LsO b l := fun t ht => hl t (by simp [ht])
    have h1 := hl s (by simp)
    have ps : Pm n (b.S.getD s.toNat []) := hb.pmS.at (by rw [S_len]; omega)
    show allI b l (aft (b.S.getD s.toNat []) r) = aft (allI b l (aft (b.S.getD s.toNat []) (plcL n))) r
    rw [allI_aft hb hl' (by rw [aft_len]; exact ps.len), allI_aft (r := aft (b.S.getD s.toNat []) (plcL n)) hb hl' (by rw [aft_len]; exact ps.len), aft_plc' ps.rng]
    exact aft_aft ps.len (allI_pm hb hl' .plc).rng
theorem allI_wI {b : OB} {w : List Nat} {r : List Int} : allI b (wI w) r = allS b.S w r := by unfold allI; rw [wI_nat]
theorem wd_allI {b : OB} {l r : List Int} (hl : LsO b l) : Wd b.S r (allI b l r) (l.map Int.toNat) :=
  ⟨fun s hs => by
    obtain ⟨x, hx, rfl⟩ := List.mem_map.1 hs
    have := hl x hx
    rw [S_len]; omega, rfl⟩
theorem wI_LsO {b : OB} {w : List Nat} (h : ∀ s ∈ w, s < b.S.length) : LsO b (wI w) := fun s hs => by
  obtain ⟨t, ht, rfl⟩ := List.mem_map.1 hs
  have := h t ht
  rw [S_len] at this
  omega
theorem pwr_pm {n : Nat} {j : List Int} (h : Pm n j) : ∀ m, Pm n (pwr j m)
  | 0 => by show Pm n (plcL j.length); rw [h.len]; exact .plc
  | m + 1 => h.comp (pwr_pm h m)
theorem pwr_step {n : Nat} {j r : List Int} (h : Pm n j) (m : Nat) : aft j (aft (pwr j m) r) = aft (pwr j (m + 1)) r := aft_aft (pwr_pm h m).len h.rng
theorem pwr_zero {n : Nat} {j r : List Int} (h : Pm n j) (hr : r.length = n) : aft (pwr j 0) r = r := by show aft (plcL j.length) r = r; rw [h.len]; exact aft_plc hr
theorem pwr_one {n : Nat} {j r : List Int} (h : Pm n j) (hr : r.length = n) : aft (pwr j 1) r = aft j r := by
  rw [← pwr_step h 0, pwr_zero h hr]
theorem pwr_ord {n : Nat} {j r : List Int} (h2 : 2 ≤ n) (h6 : n ≤ 6) (h : Pm n j) (hr : r.length = n) : aft (pwr j (ordN j)) r = r := by
  rw [(ord_ok h2 h6 h).id, h.len]; exact aft_plc hr
theorem pwr_add {n : Nat} {j : List Int} (h : Pm n j) (a : Nat) : ∀ c, pwr j (a + c) = aft (pwr j c) (pwr j a)
  | 0 => by show pwr j a = aft (plcL j.length) (pwr j a); rw [h.len, aft_plc (pwr_pm h a).len]
  | c + 1 => by
    show aft j (pwr j (a + c)) = aft (aft j (pwr j c)) (pwr j a)
    rw [pwr_add h a c]
    exact aft_aft (pwr_pm h c).len h.rng
theorem reach_pwr {b : OB} {n : Nat} (hb : Okb b n) {l : List Int} (hl : LsO b l) {y : List Int} (hy : y.length = n) : ∀ k, ∃ w, Wd b.S y (aft (pwr (allI b l (plcL n)) k) y) w
  | 0 => ⟨[], by rw [pwr_zero (allI_pm hb hl .plc) hy]; exact .nil⟩
  | k + 1 => by
    obtain ⟨w, hw⟩ := reach_pwr hb hl hy k
    have pj := allI_pm hb hl (.plc (n := n))
    refine ⟨w ++ l.map Int.toNat, hw.append ?_⟩
    rw [← pwr_step pj k, ← allI_aft hb hl (by rw [aft_len]; exact (pwr_pm pj k).len)]
    exact wd_allI hl
theorem reach_back {b : OB} {n : Nat} (hb : Okb b n) {r x : List Int} (hr : r.length = n) {w : List Nat} (h : Wd b.S r x w) : ∃ v, Wd b.S x r v := by
  have hl := wI_LsO h.1
  have e : allI b (wI w) r = x := by rw [allI_wI]; exact h.2
  have pj := allI_pm hb hl (.plc (n := n))
  have lx : x.length = n := by rw [← e]; exact allI_len hb hl hr
  obtain ⟨v, hv⟩ := reach_pwr hb hl lx (ordN (allI b (wI w) (plcL n)) - 1)
  refine ⟨v, ?_⟩
  have ex : x = aft (pwr (allI b (wI w) (plcL n)) 1) r := by rw [pwr_one pj hr, ← allI_aft hb hl hr, e]
  have lo := (ord_ok hb.lo hb.hi pj).lo
  have : aft (pwr (allI b (wI w) (plcL n)) (ordN (allI b (wI w) (plcL n)) - 1)) x = r := by
    rw [ex, aft_aft (pwr_pm pj 1).len (pwr_pm pj _).rng, ← pwr_add pj 1]
    have : 1 + (ordN (allI b (wI w) (plcL n)) - 1) = ordN (allI b (wI w) (plcL n)) := by omega
    rw [this]
    exact pwr_ord hb.lo hb.hi pj hr
  rw [this] at hv
  exact hv
theorem perm_le : (permK 2 2 []).length ≤ 720 ∧ (permK 3 3 []).length ≤ 720 ∧ (permK 4 4 []).length ≤ 720 ∧ (permK 5 5 []).length ≤ 720 ∧ (permK 6 6 []).length ≤ 720 := by decide +kernel
theorem perm_len {n : Nat} (h2 : 2 ≤ n) (h6 : n ≤ 6) : (permK n n []).length ≤ 720 := by
  obtain ⟨p2, p3, p4, p5, p6⟩ := perm_le
  match n, h2, h6 with
  | 2, _, _ => exact p2
  | 3, _, _ => exact p3
  | 4, _, _ => exact p4
  | 5, _, _ => exact p5
  | 6, _, _ => exact p6
theorem reach_perm {b : OB} {n : Nat} (hb : Okb b n) {r : List Int} (hr : r.length = n) {w : List Nat} (hw : ∀ s ∈ w, s < b.S.length) : allS b.S w r ∈ (permK n n []).map fun p => aft p r := by
  have hl := wI_LsO hw
  rw [← allI_wI, allI_aft hb hl hr]
  exact List.mem_map_of_mem (pm_mem (allI_pm hb hl .plc))
theorem few {b : OB} {n : Nat} (hb : Okb b n) {r : List Int} (hr : r.length = n) {L : List (List Int)} (nd : L.Nodup) (h : ∀ y ∈ L, ¬ NoW b.S r y) : L.length ≤ 720 := by
  have sub : L ⊆ (permK n n []).map fun p => aft p r := fun y hy => by
    obtain ⟨w, hw, e⟩ := not_noW.1 (h y hy)
    rw [← e]; exact reach_perm hb hr hw
  have := nd.length_le_of_subset sub
  rw [List.length_map] at this
  exact Nat.le_trans this (perm_len hb.lo hb.hi)
theorem dist_720 {b : OB} {n : Nat} (hb : Okb b n) {r x : List Int} (hr : r.length = n) {m : Nat} (hd : Dist b.S r x m) : m < 720 := by
  obtain ⟨⟨l, h1, h2⟩, h3⟩ := hd
  have nd : ((List.range (m + 1)).map fun i => allS b.S (l.take i) r).Nodup := by
    rw [List.Nodup, List.pairwise_map]
    refine List.Pairwise.imp_of_mem (fun {a c} ha hc hab e => ?_) (List.pairwise_lt_range)
    have ha := List.mem_range.1 ha
    have hc := List.mem_range.1 hc
    have w1 : Wd b.S r (allS b.S (l.take a) r) (l.take a) := (Wd.split (m := l.drop a) (by rw [List.take_append_drop]; exact h1)).1
    have w2 : Wd b.S (allS b.S (l.take c) r) x (l.drop c) := (Wd.split (m := l.drop c) (by rw [List.take_append_drop]; exact h1)).2
    have := h3 _ ((e ▸ w1).append w2)
    rw [List.length_append, List.length_take, List.length_drop] at this
    omega
  have := few hb hr nd fun y hy => by
    obtain ⟨i, hi, rfl⟩ := List.mem_map.1 hy
    exact not_noW.2 ⟨l.take i, fun s hs => h1.1 s (List.mem_of_mem_take hs), rfl⟩
  rw [List.length_map, List.length_range] at this
  omega
theorem lstO_of {b : OB} {l : List Int} (h1 : LsO b l) (h2 : l.length ≤ 720) : lstO b l = 0 := by
  unfold lstO
  rw [if_neg (by omega), if_pos]
  rw [List.all_eq_true]
  intro s hs
  have := h1 s hs
  simpa using this
theorem chk_of {b : OB} {n : Nat} (hb : Okb b n) : chkO b = 0 := by
  have hP := hb.P
  have h2 := hb.lo
  have h6 := hb.hi
  have hm := hb.many
  unfold chkO
  rw [if_neg (by omega), if_neg (by omega), if_pos]
  rw [List.all_eq_true]
  intro p hp
  have pm := hb.pm p hp
  unfold strO
  rw [Bool.and_eq_true, decide_eq_true_iff, List.all_eq_true]
  refine ⟨by rw [pm.len, hP], fun k hk => ?_⟩
  have hk := List.mem_range.1 hk
  rw [beq_iff_eq]
  have m1 := pm.mem (k := k) (by rw [← pm.len]; exact hk)
  have c1 := List.count_pos_iff.2 m1
  have c2 := List.nodup_iff_count.1 pm.nd (k : Int)
  omega
theorem drw_of {b : OB} {n : Nat} (hb : Okb b n) {r l : List Int} (h1 : rowO b r = true) (h2 : LsO b l) (h3 : l.length ≤ 720) : drwE b r l = 0 ∧ drwL b r l = allI b l r := by
  have e : drwE b r l = 0 := by unfold drwE; rw [if_neg (by rw [chk_of hb]; decide), if_neg (by rw [h1]; decide)]; exact lstO_of h2 h3
  exact ⟨e, by unfold drwL; rw [if_pos e]⟩
theorem jnt_of {b : OB} {n : Nat} (hb : Okb b n) {l : List Int} (h2 : LsO b l) (h3 : l.length ≤ 720) : jntE b l = 0 ∧ jntL b l = allI b l (plcL n) := by
  have e : jntE b l = 0 := by unfold jntE; rw [if_neg (by rw [chk_of hb]; decide)]; exact lstO_of h2 h3
  exact ⟨e, by unfold jntL; rw [if_pos e, plc_of hb]⟩
theorem rnd_of {b : OB} {n : Nat} (hb : Okb b n) {l : List Int} (h2 : LsO b l) (h3 : l.length ≤ 720) : rndV b l = (ordN (allI b l (plcL n)) : Int) ∧ jntE b l = 0 := by
  obtain ⟨e1, e2⟩ := jnt_of hb h2 h3
  exact ⟨by unfold rndV; rw [if_pos e1, e2], e1⟩
theorem rowO_aft {b : OB} {n : Nat} (hb : Okb b n) {s r : List Int} (hs : Pm n s) (h : rowO b r = true) : rowO b (aft s r) = true := by
  have hr := rowO_len hb h
  refine rowO_of hb (by rw [aft_len]; exact hs.len) fun x hx => ?_
  have := aft_col hs.rng hr (C := plcL 6) (fun y hy => plc_mem.2 (by have := rowO_col h y hy; omega)) x hx
  have := plc_mem.1 this
  omega
theorem rws_of {b : OB} {n : Nat} (hb : Okb b n) {r x : List Int} (h1 : rowO b r = true) (h2 : rowO b x = true) : rwsE b r x = 0 := by
  unfold rwsE
  rw [if_neg (by rw [chk_of hb]; decide), if_neg (by rw [h1, h2]; decide)]
theorem best_of {b : OB} {n : Nat} (hb : Okb b n) {r x : List Int} (h1 : rowO b r = true) (h2 : rowO b x = true) {v : List Nat} (h : Wd b.S r x v) :
    ∃ d w, Dist b.S r x d ∧ IsBest b.S d r x w ∧ AnsB b r x (wI w) 0 ∧ LsO b (wI w) ∧ (wI w).length ≤ 720 ∧ allI b (wI w) r = x ∧ (wI w).length = d ∧ d ≤ v.length := by
  obtain ⟨d, hd, hdv⟩ := Dist.of h
  obtain ⟨w, hw⟩ := best_ex hd
  have := dist_720 hb (rowO_len hb h1) hd
  obtain ⟨a1, a2, a3⟩ := hw
  exact ⟨d, w, hd, ⟨a1, a2, a3⟩, .inr ⟨rws_of hb h1 h2, .inr ⟨d, w, hd, ⟨a1, a2, a3⟩, rfl, rfl⟩⟩, wI_LsO a1.1, by rw [wI_len]; omega, by rw [allI_wI]; exact a1.2, by rw [wI_len]; exact a2, hdv⟩
end Go.AM

set_option linter.unusedSimpArgs false
set_option linter.unusedVariables false
namespace Go.AM
open Go.RowKit Go.Proofs
set_option maxHeartbeats 8000000 in
theorem lawOrderBack (b : OB) (u v : List Int) (hb : OBK b) (hu : UOK u) (hv : UOK v) : PureOK Tryz.prog n_l_OrderBack [On false b, Us false u, Us false v] (B true) := by
  refine pure_of (walk func_l_OrderBack form_l_OrderBack res_l_OrderBack (by show 3 ≤ _; decide) ?_)
  simp -implicitDefEqProofs (disch := omega) [G_l_OrderBack, wrap_id]
  refine callW_pure rfl (l_fine_ok false b hb) ?_
  cases hf : finO b with
  | false =>
    simp -implicitDefEqProofs (disch := omega) [wrap_id]
    exact callW_pure rfl works_ok (by simp)
  | true =>
  obtain ⟨n, ok, z1, z2⟩ := fin_ok hf
  simp -implicitDefEqProofs (disch := omega) [wrap_id]
  refine bsl_of (ys := [Us false u, Us false v]) rfl rfl ?_
  simp -implicitDefEqProofs (disch := omega) [wrap_id, zrep]
  refine callW_pure (ys := [UUs true [(false, u), (false, v)]]) (ids := []) rfl (l_short_ok true [(false, u), (false, v)] (by simp) (by simp; exact ⟨hu.1, hv.1⟩)) ?_
  cases hs : ([(false, u), (false, v)].all fun p : Bool × List Int => decide (p.2.length ≤ 40)) with
  | false =>
    simp -implicitDefEqProofs (disch := omega) [wrap_id]
    exact callW_pure rfl works_ok (by simp)
  | true =>
  simp -implicitDefEqProofs (disch := omega) [wrap_id]
  have hl : u.length ≤ 40 ∧ v.length ≤ 40 := by simpa using hs
  have h2 := ok.lo
  have h6 := ok.hi
  have lf : (rowG n u).length = n := rowG_len
  have of : rowO b (rowG n u) = true := rowO_of ok lf (rowG_col hu.2)
  have lL := strG_LsO (b := b) hv.2
  have ll : (strG b.s.length v).length ≤ 40 := Nat.le_trans strG_len hl.2
  have R1 := l_Row_ok false false ok u (by omega) hu.2
  have R2 := l_Strokes_ok false false ok v (by omega) hv.2
  generalize rowG n u = r at lf of R1
  generalize strG b.s.length v = l at lL ll R2
  refine pureW_of rfl R1 ?_
  simp -implicitDefEqProofs (disch := omega) [wrap_id, cmp2, nthT]
  refine pureW_of rfl R2 ?_
  simp -implicitDefEqProofs (disch := omega) [wrap_id, cmp2, nthT]
  obtain ⟨d1, d2⟩ := drw_of ok of lL (by omega)
  refine callW_pure rfl (o_Draw_ok false _ _ b z1 r l (by omega) (by omega)) ?_
  rw [d1, d2]
  simp -implicitDefEqProofs (disch := omega) [wrap_id]
  obtain ⟨e1, e2⟩ := rnd_of ok lL (by omega)
  refine callW_pure rfl (o_Round_ok false _ b z1 l (by omega)) ?_
  rw [e1, e2]
  have pj := allI_pm ok lL (.plc (n := n))
  have oj := ord_ok h2 h6 pj
  have lo := oj.lo
  have hi := oj.hi
  have pw := fun k => pwr_pm pj k
  have ea := allI_aft ok lL lf
  have eo := pwr_ord h2 h6 pj lf
  have e0 := pwr_one pj lf
  have st := fun k => pwr_step (r := r) pj k
  have eD : ∀ k, allI b l (aft (pwr (allI b l (plcL n)) k) r) = aft (pwr (allI b l (plcL n)) (k + 1)) r := fun k => by
    rw [allI_aft ok lL (by rw [aft_len]; exact (pw k).len)]; exact st k
  have oX : ∀ k, rowO b (aft (pwr (allI b l (plcL n)) k) r) = true := fun k => rowO_aft ok (pw k) of
  have lX : ∀ k, (aft (pwr (allI b l (plcL n)) k) r).length = n := fun k => by rw [aft_len]; exact (pw k).len
  generalize hO : ordN (allI b l (plcL n)) = N at *
  have wd := wd_allI (b := b) (r := r) lL
  rw [ea, ← e0] at wd
  obtain ⟨vb, wb⟩ := reach_back ok lf wd
  generalize allI b l (plcL n) = J at *
  rw [ea, ← e0] at *
  obtain ⟨X, hX⟩ : ∃ X : Nat → List Int, ∀ k, aft (pwr J k) r = X k := ⟨_, fun _ => rfl⟩
  simp only [hX] at *
  have n1 : ¬ (N : Int) < 1 := by omega
  have n2 : ¬ (6 : Int) < N := by omega
  have n3 : ¬ N = 0 := by omega
  have n4 : ¬ N < 1 := by omega
  have n5 : ¬ 6 < N := by omega
  have lx := lX 1
  have ne : ∀ k, (X k).isEmpty = false := fun k => ne_emp (lX k) (by omega)
  have nr : r.isEmpty = false := ne_emp lf (by omega)
  obtain ⟨d, w, _, _, B1, Lw, Lw2, Aw, _, _⟩ := best_of ok of (oX 1) wd
  obtain ⟨d', w', _, _, B2, Lw', Lw2', Aw', _, _⟩ := best_of ok (oX 1) of wb
  simp only [ne, nr]
  simp -implicitDefEqProofs (disch := omega) [wrap_id]
  simp -implicitDefEqProofs (disch := omega) [wrap_id, n1, n2, n3, n4, n5]
  refine bsl_of (ys := []) rfl rfl ?_
  simp -implicitDefEqProofs (disch := omega) [wrap_id, zrep]
  refine ⟨⟨by omega, by omega⟩, ?_⟩
  refine loop_of (fun i : Nat => ⟨[(3, .ref 0 0), (7, Ls false r), (8, Ls l.isEmpty l), (9, Ls false (X 1)), (11, I N), (13, Ls false (X i)), (14, I (i : Int))], [.cells [I b.P, LLs false b.s], .gone]⟩) (fun i => 1 ≤ i ∧ i ≤ N) (fun i => N - i) 1 ⟨by omega, by omega⟩
    (le_freeze (ids := [1]) (.keep (.keep (.keep (.keep (.keep (.new (ms_pur rfl rfl) (by simp) .refl)))))) (by intro i hi; simp at hi; subst hi; exact ⟨_, rfl⟩)) ?_
  rintro i ⟨c1, c2⟩
  refine hideK' fun K0 hK0 => ?_
  simp -implicitDefEqProofs (disch := omega) [wrap_id]
  refine c_split (fun hc => ?_) (fun hc => ?_)
  · have hi : i < N := by simpa using hc
    have ix : ((i : Int) + 1) = ((i + 1 : Nat) : Int) := by omega
    obtain ⟨g1, g2⟩ := drw_of ok (oX i) lL (by omega)
    have li := lX i
    simp -implicitDefEqProofs (disch := omega) [wrap_id]
    refine callW_pure rfl (o_Draw_ok false false _ b z1 (X i) l (by omega) (by omega)) ?_
    rw [g1, g2, eD, ne]
    simp -implicitDefEqProofs (disch := omega) [wrap_id]
    rw [hK0]
    exact next_eq (i + 1) ⟨by omega, by omega⟩ (by omega) (by simp only [ix])
  · have hi : i = N := by simp at hc; omega
    subst hi
    subst hK0
    rw [eo]
    simp -implicitDefEqProofs (disch := omega) [wrap_id]
    refine callW_pure rfl (o_Best_ok false false false b z1 r (X 1) (by omega) (by omega) B1) ?_
    simp -implicitDefEqProofs (disch := omega) [wrap_id]
    refine callW_pure rfl (o_Best_ok false false false b z1 (X 1) r (by omega) (by omega) B2) ?_
    simp -implicitDefEqProofs (disch := omega) [wrap_id]
    refine callW_pure rfl (l_ints_ok false false r r (by omega) (by omega)) ?_
    rw [decide_eq_true rfl]
    simp -implicitDefEqProofs (disch := omega) [wrap_id]
    obtain ⟨g1, g2⟩ := drw_of ok of Lw Lw2
    refine callW_pure rfl (o_Draw_ok false false false b z1 r (wI w) (by omega) (by omega)) ?_
    rw [g1, g2, Aw, ne]
    simp -implicitDefEqProofs (disch := omega) [wrap_id]
    obtain ⟨g1, g2⟩ := drw_of ok (oX 1) Lw' Lw2'
    refine callW_pure rfl (o_Draw_ok false false false b z1 (X 1) (wI w') (by omega) (by omega)) ?_
    rw [g1, g2, Aw', nr]
    simp -implicitDefEqProofs (disch := omega) [wrap_id]
    refine callW_pure rfl (l_ints_ok false false (X 1) (X 1) (by omega) (by omega)) ?_
    rw [decide_eq_true rfl]
    simp -implicitDefEqProofs (disch := omega) [wrap_id]
    refine callW_pure rfl (l_ints_ok false false r r (by omega) (by omega)) ?_
    rw [decide_eq_true rfl]
    simp -implicitDefEqProofs (disch := omega) [wrap_id]
    exact callW_pure rfl works_ok (by simp)
end Go.AM
