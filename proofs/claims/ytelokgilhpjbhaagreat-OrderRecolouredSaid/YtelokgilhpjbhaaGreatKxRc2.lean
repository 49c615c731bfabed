/-
  KxRc2: texts joined: FmOF Co1 Co2 Co3 Co6 FmOL Lo1 Lo5 Lo9 Lo10 Lo14 Lo15. Own work.
-/
import Derived.Test.YtelokgilhpjbhaaGreatKxRc1
import Derived.Test.YtelokgilhpjbhaaGreatProg

set_option maxRecDepth 100000
namespace Go.AM
open Go.RowKit Go.Proofs
abbrev n_r_CheckBench : Nat := 24
def G_r_CheckBench : AC := (.seq (.rgn [⟨none, [(.box 1 2 (.t 0)), (.mv 2 (.k (I 0)))]⟩] [1]) (.seq (.seq (.rgn [⟨none, [(.fa 4 (.t 1) 0), (.ld 5 false 1 (.t 4)), (.bin 6 .lss (.t 5) (.k (I 2))), (.mv 7 (.t 6))]⟩, ⟨(some (7, false)), [(.fa 8 (.t 1) 0), (.ld 9 false 1 (.t 8)), (.bin 10 .gtr (.t 9) (.k (I 6)))]⟩, ⟨none, [(.pick 11 (.t 7) (.k (B true)) (.t 10))]⟩] [1, 11]) (.cond (.t 11) (.seq (.rgn [⟨none, [(.mv 2 (.k (I 2)))]⟩] [2]) .ret) .skip)) (.seq (.seq (.rgn [⟨none, [(.fa 12 (.t 1) 1), (.ld 13 false 1 (.t 12)), (.len 14 (.t 13)), (.bin 15 .gtr (.t 14) (.k (I 6)))]⟩] [1, 15]) (.cond (.t 15) (.seq (.rgn [⟨none, [(.mv 2 (.k (I 6)))]⟩] [2]) .ret) .skip)) (.seq (.seq (.rgn [⟨none, [(.mv 3 (.k (I 0)))]⟩] [1, 3]) (.block 0 (.loop (.seq (.seq (.rgn [⟨none, [(.mv 16 (.t 3)), (.fa 17 (.t 1) 1), (.ld 18 false 1 (.t 17)), (.len 19 (.t 18)), (.bin 20 .lss (.t 16) (.t 19))]⟩] [1, 3, 20]) (.cond (.t 20) .skip (.exit 0))) (.seq (.block 1 (.seq (.drw [⟨none, [(.fa 23 (.t 1) 1), (.ld 24 false 1 (.t 23)), (.mv 25 (.t 3)), (.ia 26 1 (.t 24) (.t 25)), (.ld 27 false 1 (.t 26)), (.fa 28 (.t 1) 0), (.ld 29 false 1 (.t 28)), (.call 30 77 [(.t 27), (.t 29)]), (.un 31 .not (.t 30))]⟩] [(1, 6), (4, 6)] [1, 3, 31]) (.cond (.t 31) (.seq (.rgn [⟨none, [(.mv 2 (.k (I 15)))]⟩] [2]) .ret) .skip))) (.rgn [⟨none, [(.mv 21 (.t 3)), (.bin 22 .add (.t 21) (.k (I 1))), (.mv 3 (.t 22))]⟩] [1, 3])))))) (.seq (.rgn [⟨none, [(.mv 2 (.k (I 0)))]⟩] [2]) .ret)))))
theorem func_r_CheckBench : Tryz.prog.funcs[n_r_CheckBench]? = some Tryz.f24 := Tryz.func24
theorem form_r_CheckBench : formOf Tryz.prog Tryz.f24 [2] = some G_r_CheckBench := by kernel_rfl
theorem res_r_CheckBench : resTmps Tryz.f24.results.toList = some [2] := by kernel_rfl
abbrev n_r_All : Nat := 51
def G_r_All : AC := (.seq (.rgn [⟨none, [(.box 3 2 (.t 0)), (.mv 6 (.k (.sl true 0 [])))]⟩] [1, 2, 3]) (.seq (.rgn [⟨none, [(.bsl 9 0 1 [(I 0)] []), (.mv 10 (.t 1)), (.app 11 1 8 (.t 9) (.t 10)), (.mv 7 (.t 11))]⟩] [2, 3, 7]) (.seq (.seq (.rgn [⟨none, [(.mv 8 (.k (I 0)))]⟩] [2, 3, 7, 8]) (.block 0 (.loop (.seq (.seq (.rgn [⟨none, [(.mv 12 (.t 8)), (.mv 13 (.t 2)), (.len 14 (.t 13)), (.bin 15 .lss (.t 12) (.t 14))]⟩] [2, 3, 7, 8, 15]) (.cond (.t 15) .skip (.exit 0))) (.seq (.block 1 (.drw [⟨none, [(.fa 18 (.t 3) 1), (.ld 19 false 1 (.t 18)), (.mv 20 (.t 2)), (.mv 21 (.t 8)), (.ia 22 1 (.t 20) (.t 21)), (.ld 23 false 1 (.t 22)), (.ia 24 1 (.t 19) (.t 23)), (.ld 25 false 1 (.t 24)), (.mv 26 (.t 7)), (.call 27 55 [(.t 25), (.t 26)]), (.mv 7 (.t 27))]⟩] [(1, 5)] [2, 3, 7, 8])) (.rgn [⟨none, [(.mv 16 (.t 8)), (.bin 17 .add (.t 16) (.k (I 1))), (.mv 8 (.t 17))]⟩] [2, 3, 7, 8])))))) (.seq (.rgn [⟨none, [(.mv 28 (.t 7)), (.mv 6 (.t 28))]⟩] [6]) .ret))))
theorem func_r_All : Tryz.prog.funcs[n_r_All]? = some Tryz.f51 := Tryz.func51
theorem form_r_All : formOf Tryz.prog Tryz.f51 [6] = some G_r_All := by kernel_rfl
theorem res_r_All : resTmps Tryz.f51.results.toList = some [6] := by kernel_rfl
abbrev n_r_After : Nat := 55
def G_r_After : AC := (.seq (.rgn [⟨none, [(.mv 4 (.k (.sl true 0 [])))]⟩] [0, 1]) (.seq (.rgn [⟨none, [(.mv 5 (.k (.sl true 0 [])))]⟩] [0, 1, 5]) (.seq (.seq (.rgn [⟨none, [(.mv 6 (.k (I 0)))]⟩] [0, 1, 5, 6]) (.block 0 (.loop (.seq (.seq (.rgn [⟨none, [(.mv 7 (.t 6)), (.mv 8 (.t 1)), (.len 9 (.t 8)), (.bin 10 .lss (.t 7) (.t 9))]⟩] [0, 1, 5, 6, 10]) (.cond (.t 10) .skip (.exit 0))) (.seq (.block 1 (.rgn [⟨none, [(.mv 13 (.t 5)), (.mv 14 (.t 1)), (.mv 15 (.t 0)), (.mv 16 (.t 6)), (.ia 17 1 (.t 15) (.t 16)), (.ld 18 false 1 (.t 17)), (.ia 19 1 (.t 14) (.t 18)), (.ld 20 false 1 (.t 19)), (.bsl 21 1 1 [(I 0)] [(0, (.t 20))]), (.app 22 1 8 (.t 13) (.t 21)), (.mv 5 (.t 22))]⟩] [0, 1, 5, 6])) (.rgn [⟨none, [(.mv 11 (.t 6)), (.bin 12 .add (.t 11) (.k (I 1))), (.mv 6 (.t 12))]⟩] [0, 1, 5, 6])))))) (.seq (.rgn [⟨none, [(.mv 23 (.t 5)), (.mv 4 (.t 23))]⟩] [4]) .ret))))
theorem func_r_After : Tryz.prog.funcs[n_r_After]? = some Tryz.f55 := Tryz.func55
theorem form_r_After : formOf Tryz.prog Tryz.f55 [4] = some G_r_After := by kernel_rfl
theorem res_r_After : resTmps Tryz.f55.results.toList = some [4] := by kernel_rfl
abbrev n_r_isStroke : Nat := 77
def G_r_isStroke : AC := (.seq (.rgn [⟨none, [(.mv 4 (.k (B false)))]⟩] [0, 1]) (.seq (.seq (.rgn [⟨none, [(.mv 8 (.t 0)), (.len 9 (.t 8)), (.mv 10 (.t 1)), (.bin 11 .neq (.t 9) (.t 10))]⟩] [0, 1, 11]) (.cond (.t 11) (.seq (.rgn [⟨none, [(.mv 4 (.k (B false)))]⟩] [4]) .ret) .skip)) (.seq (.seq (.rgn [⟨none, [(.mv 5 (.k (I 0)))]⟩] [0, 1, 5]) (.block 0 (.loop (.seq (.seq (.rgn [⟨none, [(.mv 12 (.t 5)), (.mv 13 (.t 1)), (.bin 14 .lss (.t 12) (.t 13))]⟩] [0, 1, 5, 14]) (.cond (.t 14) .skip (.exit 0))) (.seq (.block 1 (.seq (.rgn [⟨none, [(.mv 6 (.k (I 0)))]⟩] [0, 1, 5, 6]) (.seq (.seq (.rgn [⟨none, [(.mv 7 (.k (I 0)))]⟩] [0, 1, 5, 6, 7]) (.block 2 (.loop (.seq (.seq (.rgn [⟨none, [(.mv 17 (.t 7)), (.mv 18 (.t 0)), (.len 19 (.t 18)), (.bin 20 .lss (.t 17) (.t 19))]⟩] [0, 1, 5, 6, 7, 20]) (.cond (.t 20) .skip (.exit 2))) (.seq (.block 3 (.seq (.rgn [⟨none, [(.mv 23 (.t 0)), (.mv 24 (.t 7)), (.ia 25 1 (.t 23) (.t 24)), (.ld 26 false 1 (.t 25)), (.mv 27 (.t 5)), (.bin 28 .eql (.t 26) (.t 27))]⟩] [0, 1, 5, 6, 7, 28]) (.cond (.t 28) (.rgn [⟨none, [(.mv 29 (.t 6)), (.bin 30 .add (.t 29) (.k (I 1))), (.mv 6 (.t 30))]⟩] [0, 1, 5, 6, 7]) .skip))) (.rgn [⟨none, [(.mv 21 (.t 7)), (.bin 22 .add (.t 21) (.k (I 1))), (.mv 7 (.t 22))]⟩] [0, 1, 5, 6, 7])))))) (.seq (.rgn [⟨none, [(.mv 31 (.t 6)), (.bin 32 .neq (.t 31) (.k (I 1)))]⟩] [0, 1, 5, 32]) (.cond (.t 32) (.seq (.rgn [⟨none, [(.mv 4 (.k (B false)))]⟩] [4]) .ret) .skip))))) (.rgn [⟨none, [(.mv 15 (.t 5)), (.bin 16 .add (.t 15) (.k (I 1))), (.mv 5 (.t 16))]⟩] [0, 1, 5])))))) (.seq (.rgn [⟨none, [(.mv 4 (.k (B true)))]⟩] [4]) .ret))))
theorem func_r_isStroke : Tryz.prog.funcs[n_r_isStroke]? = some Tryz.f77 := Tryz.func77
theorem form_r_isStroke : formOf Tryz.prog Tryz.f77 [4] = some G_r_isStroke := by kernel_rfl
theorem res_r_isStroke : resTmps Tryz.f77.results.toList = some [4] := by kernel_rfl
end Go.AM

set_option linter.unusedSimpArgs false
set_option linter.unusedVariables false
namespace Go.AM
open Go.RowKit Go.Proofs
theorem count_take {l : List Int} {i : Nat} {p : Int} (h : i < l.length) : (l.take (i + 1)).count p = (l.take i).count p + if l[i] = p then 1 else 0 := by
  rw [List.take_succ_eq_append_getElem h, List.count_append, List.count_singleton]
  by_cases e : l[i] = p
  · simp [e]
  · simp [e]
set_option maxHeartbeats 1000000 in
theorem r_isStroke_ok (f : Bool) (l : List Int) (P : Int) (hl : l.length ≤ 1000000) : PureOK Tryz.prog n_r_isStroke [Ls f l, I P] (B (strO P l)) := by
  refine pure_of (walk func_r_isStroke form_r_isStroke res_r_isStroke (by show 2 ≤ _; decide) ?_)
  simp -implicitDefEqProofs (disch := omega) [G_r_isStroke, wrap_id]
  by_cases hP : (l.length : Int) = P
  · subst hP
    simp -implicitDefEqProofs (disch := omega) [wrap_id]
    refine loop_eq (fun p : Nat => ⟨[(0, Ls f l), (1, I (l.length : Int)), (5, I (p : Int))], []⟩) (fun p => p ≤ l.length ∧ ((List.range p).all fun p => l.count (p : Int) == 1) = true) (fun p => l.length - p) 0 ⟨Nat.zero_le _, rfl⟩ rfl ?_
    rintro p ⟨hp, ha⟩
    refine hideK' fun K0 hK0 => ?_
    simp -implicitDefEqProofs (disch := omega) [wrap_id]
    refine c_split (fun h => ?_) (fun h => ?_)
    · have hp : p < l.length := by simp at h; omega
      have px : ((p : Int) + 1) = ((p + 1 : Nat) : Int) := by omega
      simp -implicitDefEqProofs (disch := omega) [wrap_id]
      refine loop_eq (fun i : Nat => ⟨[(0, Ls f l), (1, I (l.length : Int)), (5, I (p : Int)), (6, I ((l.take i).count (p : Int) : Nat)), (7, I (i : Int))], []⟩) (fun i => i ≤ l.length) (fun i => l.length - i) 0 (Nat.zero_le _) rfl ?_
      intro i hi
      refine hideK' fun K1 hK1 => ?_
      simp -implicitDefEqProofs (disch := omega) [wrap_id]
      refine c_split (fun h => ?_) (fun h => ?_)
      · have hi : i < l.length := by simp at h; omega
        have ix : ((i : Int) + 1) = ((i + 1 : Nat) : Int) := by omega
        have ct := count_take (p := (p : Int)) hi
        have cl : (l.take i).count (p : Int) ≤ l.length := Nat.le_trans List.count_le_length (by rw [List.length_take]; omega)
        generalize hc : (l.take i).count (p : Int) = c at *
        have cx : ((c : Int) + 1) = ((c + 1 : Nat) : Int) := by omega
        by_cases e : l[i] = (p : Int)
        · rw [if_pos e] at ct
          simp -implicitDefEqProofs (disch := omega) [wrap_id, cells_ls, hi, e]
          rw [hK1]
          exact next_eq (i + 1) (by omega) (by omega) (by simp only [ix, cx, ct])
        · rw [if_neg e] at ct
          have e' : (l[i] == (p : Int)) = false := by simpa using e
          simp -implicitDefEqProofs (disch := omega) [wrap_id, cells_ls, hi, e, e']
          rw [hK1]
          exact next_eq (i + 1) (by omega) (by omega) (by simp only [ix, ct]; rfl)
      · have hi : i = l.length := by simp at h; omega
        subst hi
        subst hK1
        have cl := List.count_le_length (a := (p : Int)) (l := l)
        have tk : l.take l.length = l := List.take_of_length_le (Nat.le_refl _)
        by_cases e : l.count (p : Int) = 1
        · simp -implicitDefEqProofs (disch := omega) [wrap_id, e, tk]
          rw [hK0]
          refine next_eq (p + 1) ⟨by omega, ?_⟩ (by omega) (by simp only [px])
          rw [range_all_succ, ha, e]; rfl
        · have e' : ((l.count (p : Int) : Int) != 1) = true := by simp only [bne_iff_ne, ne_eq]; omega
          have hf : strO (l.length : Int) l = false := by
            unfold strO
            have : ((List.range l.length).all fun p => l.count (p : Int) == 1) = false := by
              rw [List.all_eq_false]
              exact ⟨p, List.mem_range.2 hp, by simp [e]⟩
            rw [this, Bool.and_false]
          simp -implicitDefEqProofs (disch := omega) [wrap_id, e', tk]
          rw [hf] at hK0
          subst hK0
          simp -implicitDefEqProofs (disch := omega) [wrap_id]
    · have hp : p = l.length := by simp at h; omega
      subst hp
      have ht : strO (l.length : Int) l = true := by unfold strO; rw [ha]; simp
      rw [ht] at hK0
      subst hK0
      simp -implicitDefEqProofs (disch := omega) [wrap_id]
  · have hP' : ((l.length : Int) != P) = true := by simpa using hP
    have hf : strO P l = false := by unfold strO; rw [decide_eq_false hP]; rfl
    simp -implicitDefEqProofs (disch := omega) [wrap_id, hP', hf]
end Go.AM

set_option linter.unusedSimpArgs false
set_option linter.unusedVariables false
namespace Go.AM
open Go.RowKit Go.Proofs
set_option maxHeartbeats 1000000 in
theorem r_CheckBench_ok (g : Bool) (b : OB) (hb : b.s.length ≤ 1000000) (hs : ∀ p ∈ b.s, p.2.length ≤ 1000000) : PureOK Tryz.prog n_r_CheckBench [On g b] (I (chkO b)) := by
  refine pure_of (walk func_r_CheckBench form_r_CheckBench res_r_CheckBench (by show 1 ≤ _; decide) ?_)
  simp -implicitDefEqProofs (disch := omega) [G_r_CheckBench, wrap_id]
  by_cases h1 : b.P < 2
  · have e : chkO b = 2 := by unfold chkO; rw [if_pos (.inl h1)]
    simp -implicitDefEqProofs (disch := omega) [wrap_id, h1, e]
  by_cases h2 : 6 < b.P
  · have e : chkO b = 2 := by unfold chkO; rw [if_pos (.inr h2)]
    simp -implicitDefEqProofs (disch := omega) [wrap_id, h1, h2, e]
  by_cases h3 : 6 < b.s.length
  · have h3' : (6 : Int) < b.s.length := by omega
    have e : chkO b = 6 := by unfold chkO; rw [if_neg (by omega), if_pos h3]
    simp -implicitDefEqProofs (disch := omega) [wrap_id, h1, h2, h3', e]
  have h3' : ¬ (6 : Int) < b.s.length := by omega
  have e : chkO b = if b.s.all (fun p => strO b.P p.2) then 0 else 15 := by unfold chkO; rw [if_neg (by omega), if_neg h3]
  rw [e]
  simp -implicitDefEqProofs (disch := omega) [wrap_id, h1, h2, h3']
  refine loop_eq (fun i : Nat => ⟨[(1, .ref 0 0), (3, I (i : Int))], [.cells [I b.P, LLs g b.s]]⟩) (fun i => i ≤ b.s.length ∧ ∀ k (hk : k < b.s.length), k < i → strO b.P b.s[k].2 = true) (fun i => b.s.length - i) 0 ⟨Nat.zero_le _, fun k _ h => by omega⟩ rfl ?_
  rintro i ⟨hi, ha⟩
  refine hideK' fun K0 hK0 => ?_
  simp -implicitDefEqProofs (disch := omega) [wrap_id]
  refine c_split (fun h => ?_) (fun h => ?_)
  · have hi : i < b.s.length := by simp at h; omega
    have ix : ((i : Int) + 1) = ((i + 1 : Nat) : Int) := by omega
    simp -implicitDefEqProofs (disch := omega) [wrap_id, cells_lls, hi]
    refine pureW_of rfl (r_isStroke_ok _ _ b.P (hs _ (List.getElem_mem hi))) ?_
    cases hst : strO b.P b.s[i].2 with
    | true =>
      simp -implicitDefEqProofs (disch := omega) [wrap_id, cmp2, nthT]
      rw [hK0]
      refine next_eq (i + 1) ⟨by omega, fun k hk hki => ?_⟩ (by omega) (by simp only [ix])
      by_cases hk2 : k = i
      · subst hk2; exact hst
      · exact ha k hk (by omega)
    | false =>
      have hf : b.s.all (fun p => strO b.P p.2) = false := by
        rw [List.all_eq_false]
        exact ⟨b.s[i], List.getElem_mem hi, by simp [hst]⟩
      rw [hf] at hK0
      subst hK0
      simp -implicitDefEqProofs (disch := omega) [wrap_id, cmp2, nthT]
  · have hi : i = b.s.length := by simp at h; omega
    subst hi
    have ht : b.s.all (fun p => strO b.P p.2) = true := by
      rw [List.all_eq_true]
      intro p hp
      obtain ⟨k, hk, rfl⟩ := List.getElem_of_mem hp
      exact ha k hk hk
    rw [ht] at hK0
    subst hK0
    simp -implicitDefEqProofs (disch := omega) [wrap_id]
end Go.AM

set_option linter.unusedSimpArgs false
set_option linter.unusedVariables false
namespace Go.AM
open Go.RowKit Go.Proofs
set_option maxHeartbeats 1000000 in
theorem r_After_ok (f g : Bool) (s r : List Int) (hl : r.length ≤ 1000) (hs : s.length = r.length) (hi : ∀ x ∈ s, 0 ≤ x ∧ x < r.length) : PureOK Tryz.prog n_r_After [Ls f s, Ls g r] (Ls (aft s r).isEmpty (aft s r)) := by
  refine pure_of (walk func_r_After form_r_After res_r_After (by show 2 ≤ _; decide) ?_)
  simp -implicitDefEqProofs (disch := omega) [G_r_After, wrap_id]
  have al : (aft s r).length = s.length := aft_len
  refine loop_eq (fun q : Nat × AV × List HObj => ⟨[(0, Ls f s), (1, Ls g r), (5, q.2.1), (6, I (q.1 : Int))], q.2.2⟩) (fun q => q.1 ≤ r.length ∧ AccR q.2.2 q.2.1 ((aft s r).take q.1)) (fun q => r.length - q.1) (0, .sl true 0 [], []) ⟨Nat.zero_le _, .inl ⟨rfl, by simp⟩⟩ rfl ?_
  rintro ⟨i, x, H⟩ ⟨c1, c2⟩
  simp only at c1 c2 ⊢
  refine hideK' fun K0 hK0 => ?_
  simp -implicitDefEqProofs (disch := omega) [wrap_id]
  refine c_split (fun h => ?_) (fun h => ?_)
  · have hir : i < r.length := by simp at h; omega
    have his : i < s.length := by omega
    have ix : ((i : Int) + 1) = ((i + 1 : Nat) : Int) := by omega
    obtain ⟨b1, b2⟩ := hi s[i] (List.getElem_mem his)
    obtain ⟨n, hn⟩ : ∃ n : Nat, s[i] = n := ⟨s[i].toNat, by omega⟩
    have hnr : n < r.length := by omega
    have tk : (aft s r).take (i + 1) = (aft s r).take i ++ [r[n]] := by
      rw [List.take_succ_eq_append_getElem (by omega), aft_get (by omega)]
      simp [hn, hnr]
    have tl : ((aft s r).take i).length = i := by rw [List.length_take]; omega
    simp -implicitDefEqProofs (disch := omega) [wrap_id, cells_ls, hir, his, hn, hnr]
    refine bsl_of (ys := [I r[n]]) rfl rfl ?_
    simp -implicitDefEqProofs (disch := omega) [wrap_id, zrep]
    refine app_row c2.row (by omega) fun ws w1 w2 w3 => ?_
    simp -implicitDefEqProofs (disch := omega) [wrap_id]
    rw [hK0]
    refine next_eq (i + 1, .ms H.length 0 (i + 1) 1, writeL H ws) ⟨by simp only; omega, .inr ⟨H.length, ?_, ?_, ?_⟩⟩ (by simp only; omega) (by simp only [ix, tl])
    · rw [List.length_take, Nat.min_eq_left (by omega)]
    · simp only [tk]; simp
    · simp only [tk]; exact w3
  · have hir : i = r.length := by simp at h; omega
    subst hir
    subst hK0
    have tk : (aft s r).take r.length = aft s r := List.take_of_length_le (by omega)
    rw [tk] at c2
    simp -implicitDefEqProofs (disch := omega) [wrap_id]
    exact out_acc c2
end Go.AM

set_option linter.unusedSimpArgs false
set_option linter.unusedVariables false
namespace Go.AM
open Go.RowKit Go.Proofs
def Cur (hp : List HObj) (x : AV) (l : List Int) : Prop := (∃ id, 0 < id ∧ x = .ms id 0 l.length 1 ∧ nthH hp id = some (.cells (l.map fun n => I n))) ∨ x = Ls false l
set_option maxHeartbeats 1000000 in
theorem r_All_ok (g f h : Bool) {b : OB} {n : Nat} (hb : Okb b n) (r l : List Int) (hr : r.length = n) (hl : LsO b l) (hll : l.length ≤ 1000000) : PureOK Tryz.prog n_r_All [On g b, Ls f r, Ls h l] (Ls false (allI b l r)) := by
  have h6 := hb.hi
  have h2 := hb.lo
  refine pure_of (walk func_r_All form_r_All res_r_All (by show 3 ≤ _; decide) ?_)
  simp -implicitDefEqProofs (disch := omega) [G_r_All, wrap_id]
  refine bsl_of rfl rfl ?_
  simp -implicitDefEqProofs (disch := omega) [wrap_id, zrep]
  refine ⟨⟨by omega, by omega⟩, ?_⟩
  refine loop_eq (fun q : Nat × AV × List HObj => ⟨[(2, Ls h l), (3, .ref 0 0), (7, q.2.1), (8, I (q.1 : Int))], q.2.2⟩) (fun q => q.1 ≤ l.length ∧ nthH q.2.2 0 = some (.cells [I b.P, LLs g b.s]) ∧ Cur q.2.2 q.2.1 (allI b (l.take q.1) r)) (fun q => l.length - q.1) (0, .ms 1 0 r.length 1, [.cells [I b.P, LLs g b.s], .cells (r.map fun n => I n)]) ⟨Nat.zero_le _, rfl, .inl ⟨1, by omega, rfl, rfl⟩⟩ rfl ?_
  rintro ⟨i, x, H⟩ ⟨c1, c2, c3⟩
  simp only at c1 c2 c3 ⊢
  have l0 := nthH_lt c2
  refine hideK' fun K0 hK0 => ?_
  simp -implicitDefEqProofs (disch := omega) [wrap_id]
  refine c_split (fun hc => ?_) (fun hc => ?_)
  · have hi : i < l.length := by simp at hc; omega
    have ix : ((i : Int) + 1) = ((i + 1 : Nat) : Int) := by omega
    obtain ⟨b1, b2⟩ := hl l[i] (List.getElem_mem hi)
    obtain ⟨k, hk⟩ : ∃ k : Nat, l[i] = k := ⟨l[i].toNat, by omega⟩
    have hks : k < b.s.length := by omega
    have pk := hb.at hks
    have cl : (allI b (l.take i) r).length = n := allI_len hb (fun s hs => hl s (List.mem_of_mem_take hs)) hr
    have sn := allI_snoc (b := b) (r := r) hi
    rw [hk, Int.toNat_natCast, S_getD hks] at sn
    have af := r_After_ok b.s[k].1 false b.s[k].2 (allI b (l.take i) r) (by omega) (by rw [cl]; exact pk.len) (fun x hx => by rw [cl]; exact pk.rng x hx)
    rw [← sn] at af
    have cl2 : (allI b (l.take (i + 1)) r).length = n := by rw [sn, aft_len]; exact pk.len
    have ne : (allI b (l.take (i + 1)) r).isEmpty = false := by
      cases hq : allI b (l.take (i + 1)) r with
      | nil => rw [hq] at cl2; simp at cl2; omega
      | cons => rfl
    rw [ne] at af
    rcases c3 with ⟨id, hid, rfl, hm⟩ | rfl
    · have lid := nthH_lt hm
      simp -implicitDefEqProofs (disch := omega) [wrap_id, c2, hi, hk, hks, cells_ls, cells_lls]
      refine pureW_of (purifyAll2 ls_pur (ms_pur hm rfl)) af ?_
      simp -implicitDefEqProofs (disch := omega) [wrap_id, cmp2, nthT]
      have e : ¬ id = 0 := by omega
      simp only [lid, if_true]
      rw [hK0]
      refine next_eq (i + 1, Ls false (allI b (l.take (i + 1)) r), H.set id .gone) ⟨by simp only; omega, (by simp only; rw [nthH_set_ne e]; exact c2), .inr rfl⟩ (by simp only; omega) (by simp only [ix])
    · simp -implicitDefEqProofs (disch := omega) [wrap_id, c2, hi, hk, hks, cells_ls, cells_lls]
      refine pureW_of (purifyAll2 ls_pur ls_pur) af ?_
      simp -implicitDefEqProofs (disch := omega) [wrap_id, cmp2, nthT]
      rw [hK0]
      exact next_eq (i + 1, Ls false (allI b (l.take (i + 1)) r), H) ⟨by simp only; omega, c2, .inr rfl⟩ (by simp only; omega) (by simp only [ix])
  · have hi : i = l.length := by simp at hc; omega
    subst hi
    subst hK0
    rw [List.take_length] at c3
    simp -implicitDefEqProofs (disch := omega) [wrap_id]
    rcases c3 with ⟨id, hid, rfl, hm⟩ | rfl
    · exact out_of (ms_pur hm rfl)
    · exact out_of ls_pur
end Go.AM

set_option maxRecDepth 100000
namespace Go.AM
open Go.RowKit Go.Proofs
abbrev n_l_OrderRecoloured : Nat := 11
def G_l_OrderRecoloured : AC := (.seq (.rgn [⟨none, [(.box 7 2 (.t 0)), (.box 13 4 (.t 6)), (.mv 14 (.k (B false)))]⟩] [1, 2, 3, 4, 5, 7, 13]) (.seq (.seq (.rgn [⟨none, [(.ld 36 true 2 (.t 7)), (.call 37 47 [(.t 36)]), (.un 38 .not (.t 37)), (.mv 39 (.t 38))]⟩, ⟨(some (39, false)), [(.mv 40 (.t 1)), (.mv 41 (.t 2)), (.bsl 42 2 1 [(.sl true 0 [])] [(0, (.t 40)), (1, (.t 41))]), (.call 43 48 [(.t 42)]), (.un 44 .not (.t 43))]⟩, ⟨none, [(.pick 45 (.t 39) (.k (B true)) (.t 44))]⟩] [1, 2, 3, 4, 5, 7, 13, 45]) (.cond (.t 45) (.seq (.rgn [⟨none, [(.call 46 16 []), (.mv 14 (.t 46))]⟩] [14]) .ret) .skip)) (.seq (.rgn [⟨none, [(.ld 47 true 2 (.t 7)), (.mv 48 (.t 1)), (.call 49 49 [(.t 47), (.t 48)]), (.mv 15 (.t 49))]⟩] [2, 3, 4, 5, 7, 13, 15]) (.seq (.drw [⟨none, [(.ld 50 true 2 (.t 7)), (.mv 51 (.t 15)), (.ld 52 true 2 (.t 7)), (.mv 53 (.t 2)), (.call 54 50 [(.t 52), (.t 53)]), (.call 55 51 [(.t 50), (.t 51), (.t 54)]), (.mv 56 (.t 3)), (.call 57 52 [(.t 55), (.t 56)]), (.mv 16 (.t 57))]⟩] [(0, 2), (0, 4)] [4, 5, 7, 13, 15, 16]) (.seq (.rgn [⟨none, [(.mv 17 (.k (.sl true 0 []))), (.mv 18 (.k (.sl true 0 [])))]⟩] [4, 5, 7, 13, 15, 16, 17, 18]) (.seq (.seq (.rgn [⟨none, [(.mv 19 (.k (I 0)))]⟩] [4, 5, 7, 13, 15, 16, 17, 18, 19]) (.block 0 (.loop (.seq (.seq (.rgn [⟨none, [(.mv 58 (.t 19)), (.fa 59 (.t 7) 0), (.ld 60 false 1 (.t 59)), (.bin 61 .lss (.t 58) (.t 60))]⟩] [4, 5, 7, 13, 15, 16, 17, 18, 19, 61]) (.cond (.t 61) .skip (.exit 0))) (.seq (.block 1 (.seq (.rgn [⟨none, [(.mv 64 (.t 17)), (.mv 65 (.t 15)), (.mv 66 (.t 19)), (.ia 67 1 (.t 65) (.t 66)), (.ld 68 false 1 (.t 67)), (.mv 69 (.t 4)), (.call 70 56 [(.t 68), (.t 69)]), (.bsl 71 1 1 [(I 0)] [(0, (.t 70))]), (.app 72 1 8 (.t 64) (.t 71)), (.mv 17 (.t 72))]⟩] [4, 5, 7, 13, 15, 16, 17, 18, 19]) (.rgn [⟨none, [(.mv 73 (.t 18)), (.mv 74 (.t 16)), (.mv 75 (.t 19)), (.ia 76 1 (.t 74) (.t 75)), (.ld 77 false 1 (.t 76)), (.mv 78 (.t 4)), (.call 79 56 [(.t 77), (.t 78)]), (.bsl 80 1 1 [(I 0)] [(0, (.t 79))]), (.app 81 1 8 (.t 73) (.t 80)), (.mv 18 (.t 81))]⟩] [4, 5, 7, 13, 15, 16, 17, 18, 19]))) (.rgn [⟨none, [(.mv 62 (.t 19)), (.bin 63 .add (.t 62) (.k (I 1))), (.mv 19 (.t 63))]⟩] [4, 5, 7, 13, 15, 16, 17, 18, 19])))))) (.seq (.rgn [⟨none, [(.mv 82 (.t 5)), (.cnv 83 .i64 (.t 82)), (.mv 20 (.t 83))]⟩] [4, 7, 13, 15, 16, 17, 18, 20]) (.seq (.seq (.rgn [⟨none, [(.fa 84 (.t 7) 1), (.ld 85 false 1 (.t 84)), (.len 86 (.t 85)), (.bin 87 .gtr (.t 86) (.k (I 0)))]⟩] [4, 7, 13, 15, 16, 17, 18, 20, 87]) (.cond (.t 87) (.rgn [⟨none, [(.mv 88 (.t 20)), (.fa 89 (.t 7) 1), (.ld 90 false 1 (.t 89)), (.len 91 (.t 90)), (.bin 92 .rem (.t 88) (.t 91)), (.mv 20 (.t 92))]⟩] [4, 7, 13, 15, 16, 17, 18, 20]) .skip)) (.seq (.rgn [⟨none, [(.ld 94 true 2 (.t 7)), (.mv 95 (.t 15)), (.mv 96 (.t 16)), (.call 97 29 [(.t 94), (.t 95), (.t 96)]), (.mv 93 (.t 97)), (.ext 98 (.t 93) 0), (.ext 99 (.t 93) 1), (.mv 21 (.t 98)), (.mv 22 (.t 99))]⟩] [4, 7, 13, 15, 16, 17, 18, 20, 21, 22]) (.seq (.rgn [⟨none, [(.ld 101 true 2 (.t 7)), (.mv 102 (.t 17)), (.mv 103 (.t 18)), (.call 104 29 [(.t 101), (.t 102), (.t 103)]), (.mv 100 (.t 104)), (.ext 105 (.t 100) 0), (.ext 106 (.t 100) 1), (.mv 23 (.t 105)), (.mv 24 (.t 106))]⟩] [4, 7, 13, 15, 16, 17, 18, 20, 21, 22, 23, 24]) (.seq (.rgn [⟨none, [(.ld 108 true 2 (.t 7)), (.mv 109 (.t 15)), (.mv 110 (.t 16)), (.call 111 33 [(.t 108), (.t 109), (.t 110)]), (.mv 107 (.t 111)), (.ext 112 (.t 107) 0), (.ext 113 (.t 107) 1), (.mv 25 (.t 112)), (.mv 26 (.t 113))]⟩] [4, 7, 13, 15, 16, 17, 18, 20, 21, 22, 23, 24, 25, 26]) (.seq (.rgn [⟨none, [(.ld 115 true 2 (.t 7)), (.mv 116 (.t 17)), (.mv 117 (.t 18)), (.call 118 33 [(.t 115), (.t 116), (.t 117)]), (.mv 114 (.t 118)), (.ext 119 (.t 114) 0), (.ext 120 (.t 114) 1), (.mv 27 (.t 119)), (.mv 28 (.t 120))]⟩] [4, 7, 13, 15, 16, 17, 18, 20, 21, 22, 23, 24, 25, 26, 27, 28]) (.seq (.rgn [⟨none, [(.ld 122 true 2 (.t 7)), (.mv 123 (.t 15)), (.mv 124 (.t 16)), (.mv 125 (.t 20)), (.call 126 31 [(.t 122), (.t 123), (.t 124), (.t 125)]), (.mv 121 (.t 126)), (.ext 127 (.t 121) 0), (.ext 128 (.t 121) 1), (.mv 29 (.t 127)), (.mv 30 (.t 128))]⟩] [4, 7, 13, 15, 16, 17, 18, 20, 21, 22, 23, 24, 25, 26, 27, 28, 29, 30]) (.seq (.rgn [⟨none, [(.ld 130 true 2 (.t 7)), (.mv 131 (.t 17)), (.mv 132 (.t 18)), (.mv 133 (.t 20)), (.call 134 31 [(.t 130), (.t 131), (.t 132), (.t 133)]), (.mv 129 (.t 134)), (.ext 135 (.t 129) 0), (.ext 136 (.t 129) 1), (.mv 31 (.t 135)), (.mv 32 (.t 136))]⟩] [4, 7, 13, 15, 16, 17, 18, 21, 22, 23, 24, 25, 26, 27, 28, 29, 30, 31, 32]) (.seq (.seq (.rgn [⟨none, [(.mv 137 (.t 21)), (.mv 138 (.t 23)), (.call 139 25 [(.t 137), (.t 138)]), (.un 140 .not (.t 139)), (.mv 141 (.t 140))]⟩, ⟨(some (141, false)), [(.mv 142 (.t 22)), (.mv 143 (.t 24)), (.bin 144 .neq (.t 142) (.t 143))]⟩, ⟨none, [(.pick 145 (.t 141) (.k (B true)) (.t 144)), (.mv 146 (.t 145))]⟩, ⟨(some (146, false)), [(.mv 147 (.t 25)), (.mv 148 (.t 27)), (.bin 149 .neq (.t 147) (.t 148))]⟩, ⟨none, [(.pick 150 (.t 146) (.k (B true)) (.t 149)), (.mv 151 (.t 150))]⟩, ⟨(some (151, false)), [(.mv 152 (.t 26)), (.mv 153 (.t 28)), (.bin 154 .neq (.t 152) (.t 153))]⟩, ⟨none, [(.pick 155 (.t 151) (.k (B true)) (.t 154)), (.mv 156 (.t 155))]⟩, ⟨(some (156, false)), [(.mv 157 (.t 29)), (.mv 158 (.t 31)), (.bin 159 .neq (.t 157) (.t 158))]⟩, ⟨none, [(.pick 160 (.t 156) (.k (B true)) (.t 159)), (.mv 161 (.t 160))]⟩, ⟨(some (161, false)), [(.mv 162 (.t 30)), (.mv 163 (.t 32)), (.bin 164 .neq (.t 162) (.t 163))]⟩, ⟨none, [(.pick 165 (.t 161) (.k (B true)) (.t 164))]⟩] [4, 7, 13, 15, 16, 17, 18, 22, 165]) (.cond (.t 165) (.seq (.rgn [⟨none, [(.mv 14 (.k (B false)))]⟩] [14]) .ret) .skip)) (.seq (.drw [⟨none, [(.iaa 166 4 1 (.t 13) (.k (I 0))), (.ld 167 false 1 (.t 166)), (.cnv 168 .i64 (.t 167)), (.fa 169 (.t 7) 0), (.ld 170 false 1 (.t 169)), (.bin 171 .rem (.t 168) (.t 170)), (.iaa 172 4 1 (.t 13) (.k (I 1))), (.ld 173 false 1 (.t 172)), (.cnv 174 .i64 (.t 173)), (.fa 175 (.t 7) 0), (.ld 176 false 1 (.t 175)), (.bin 177 .rem (.t 174) (.t 176)), (.iaa 178 4 1 (.t 13) (.k (I 2))), (.ld 179 false 1 (.t 178)), (.cnv 180 .i64 (.t 179)), (.bin 181 .rem (.t 180) (.k (I 6))), (.iaa 182 4 1 (.t 13) (.k (I 3))), (.ld 183 false 1 (.t 182)), (.cnv 184 .i64 (.t 183)), (.bin 185 .rem (.t 184) (.k (I 6))), (.call 186 57 [(.t 171), (.t 177), (.t 181), (.t 185)]), (.al 33 [(I 0), (I 0), (I 0), (I 0)]), (.st 4 (.t 33) (.t 186))]⟩] [(1, 4), (1, 7), (4, 7), (1, 10), (4, 10), (7, 10), (1, 13), (4, 13), (7, 13), (10, 13), (1, 17), (4, 17), (7, 17), (10, 17), (13, 17), (1, 21), (4, 21), (7, 21), (10, 21), (13, 21), (17, 21), (20, 21)] [4, 7, 15, 16, 17, 18, 22, 33]) (.seq (.drw [⟨none, [(.fa 187 (.t 33) 0), (.iaa 188 2 1 (.t 187) (.k (I 0))), (.ld 189 false 1 (.t 188)), (.fa 190 (.t 33) 0), (.iaa 191 2 1 (.t 190) (.k (I 1))), (.ld 192 false 1 (.t 191)), (.fa 193 (.t 33) 2), (.iaa 194 2 1 (.t 193) (.k (I 0))), (.ld 195 false 1 (.t 194)), (.mv 196 (.t 4)), (.call 197 56 [(.t 195), (.t 196)]), (.fa 198 (.t 33) 2), (.iaa 199 2 1 (.t 198) (.k (I 1))), (.ld 200 false 1 (.t 199)), (.mv 201 (.t 4)), (.call 202 56 [(.t 200), (.t 201)]), (.call 203 57 [(.t 189), (.t 192), (.t 197), (.t 202)]), (.al 34 [(I 0), (I 0), (I 0), (I 0)]), (.st 4 (.t 34) (.t 203))]⟩] [(2, 5), (2, 8), (5, 8), (2, 10), (5, 10), (2, 13), (5, 13), (8, 13), (10, 13), (2, 15), (5, 15), (2, 17), (5, 17), (8, 17), (10, 17), (13, 17), (15, 17), (16, 17)] [7, 15, 16, 17, 18, 22, 33, 34]) (.seq (.rgn [⟨none, [(.ld 204 true 2 (.t 7)), (.mv 205 (.t 15)), (.mv 206 (.t 16)), (.ld 207 true 4 (.t 33)), (.call 208 45 [(.t 204), (.t 205), (.t 206), (.t 207)]), (.mv 35 (.t 208))]⟩] [7, 17, 18, 22, 34, 35]) (.seq (.rgn [⟨none, [(.mv 209 (.t 35)), (.ld 210 true 2 (.t 7)), (.mv 211 (.t 17)), (.mv 212 (.t 18)), (.ld 213 true 4 (.t 34)), (.call 214 45 [(.t 210), (.t 211), (.t 212), (.t 213)]), (.bin 215 .eql (.t 209) (.t 214)), (.mv 216 (.t 215))]⟩, ⟨(some (216, true)), [(.mv 217 (.t 35)), (.bin 218 .neq (.t 217) (.k (I 0))), (.mv 219 (.t 218))]⟩, ⟨(some (219, false)), [(.mv 220 (.t 22)), (.bin 221 .eql (.t 220) (.k (I 13)))]⟩, ⟨(some (216, true)), [(.pick 222 (.t 219) (.k (B true)) (.t 221))]⟩, ⟨none, [(.pick 223 (.t 216) (.t 222) (.k (B false))), (.mv 224 (.t 223))]⟩, ⟨(some (224, true)), [(.call 225 16 [])]⟩, ⟨none, [(.pick 226 (.t 224) (.t 225) (.k (B false))), (.mv 14 (.t 226))]⟩] [14]) .ret)))))))))))))))))))
theorem func_l_OrderRecoloured : Tryz.prog.funcs[n_l_OrderRecoloured]? = some Tryz.f11 := Tryz.func11
theorem form_l_OrderRecoloured : formOf Tryz.prog Tryz.f11 [14] = some G_l_OrderRecoloured := by kernel_rfl
theorem res_l_OrderRecoloured : resTmps Tryz.f11.results.toList = some [14] := by kernel_rfl
abbrev n_l_great : Nat := 13
def G_l_great : AC := (.seq (.rgn [⟨none, [(.box 1 2 (.t 0)), (.mv 2 (.k (B false)))]⟩] [1]) (.seq (.seq (.rgn [⟨none, [(.fa 4 (.t 1) 1), (.ld 5 false 1 (.t 4)), (.len 6 (.t 5)), (.bin 7 .gtr (.t 6) (.k (I 10)))]⟩] [1, 7]) (.cond (.t 7) (.seq (.rgn [⟨none, [(.mv 2 (.k (B true)))]⟩] [2]) .ret) .skip)) (.seq (.seq (.rgn [⟨none, [(.mv 3 (.k (I 0)))]⟩] [1, 3]) (.block 0 (.loop (.seq (.seq (.rgn [⟨none, [(.mv 8 (.t 3)), (.fa 9 (.t 1) 1), (.ld 10 false 1 (.t 9)), (.len 11 (.t 10)), (.bin 12 .lss (.t 8) (.t 11))]⟩] [1, 3, 12]) (.cond (.t 12) .skip (.exit 0))) (.seq (.block 1 (.seq (.rgn [⟨none, [(.fa 15 (.t 1) 1), (.ld 16 false 1 (.t 15)), (.mv 17 (.t 3)), (.ia 18 1 (.t 16) (.t 17)), (.ld 19 false 1 (.t 18)), (.len 20 (.t 19)), (.bin 21 .gtr (.t 20) (.k (I 10)))]⟩] [1, 3, 21]) (.cond (.t 21) (.seq (.rgn [⟨none, [(.mv 2 (.k (B true)))]⟩] [2]) .ret) .skip))) (.rgn [⟨none, [(.mv 13 (.t 3)), (.bin 14 .add (.t 13) (.k (I 1))), (.mv 3 (.t 14))]⟩] [1, 3])))))) (.seq (.rgn [⟨none, [(.mv 2 (.k (B false)))]⟩] [2]) .ret))))
theorem func_l_great : Tryz.prog.funcs[n_l_great]? = some Tryz.f13 := Tryz.func13
theorem form_l_great : formOf Tryz.prog Tryz.f13 [2] = some G_l_great := by kernel_rfl
theorem res_l_great : resTmps Tryz.f13.results.toList = some [2] := by kernel_rfl
abbrev n_l_fine : Nat := 47
def G_l_fine : AC := (.seq (.rgn [⟨none, [(.box 1 2 (.t 0)), (.mv 2 (.k (B false)))]⟩] [1]) (.seq (.rgn [⟨none, [(.ld 3 true 2 (.t 1)), (.call 4 13 [(.t 3)]), (.un 5 .not (.t 4)), (.mv 6 (.t 5))]⟩, ⟨(some (6, true)), [(.ld 7 true 2 (.t 1)), (.call 8 24 [(.t 7)]), (.bin 9 .eql (.t 8) (.k (I 0)))]⟩, ⟨none, [(.pick 10 (.t 6) (.t 9) (.k (B false))), (.mv 2 (.t 10))]⟩] [2]) .ret))
theorem func_l_fine : Tryz.prog.funcs[n_l_fine]? = some Tryz.f47 := Tryz.func47
theorem form_l_fine : formOf Tryz.prog Tryz.f47 [2] = some G_l_fine := by kernel_rfl
theorem res_l_fine : resTmps Tryz.f47.results.toList = some [2] := by kernel_rfl
abbrev n_l_short : Nat := 48
def G_l_short : AC := (.seq (.rgn [⟨none, [(.mv 2 (.k (B false)))]⟩] [0]) (.seq (.seq (.rgn [⟨none, [(.mv 3 (.k (I 0)))]⟩] [0, 3]) (.block 0 (.loop (.seq (.seq (.rgn [⟨none, [(.mv 4 (.t 3)), (.mv 5 (.t 0)), (.len 6 (.t 5)), (.bin 7 .lss (.t 4) (.t 6))]⟩] [0, 3, 7]) (.cond (.t 7) .skip (.exit 0))) (.seq (.block 1 (.seq (.rgn [⟨none, [(.mv 10 (.t 0)), (.mv 11 (.t 3)), (.ia 12 1 (.t 10) (.t 11)), (.ld 13 false 1 (.t 12)), (.len 14 (.t 13)), (.bin 15 .gtr (.t 14) (.k (I 40)))]⟩] [0, 3, 15]) (.cond (.t 15) (.seq (.rgn [⟨none, [(.mv 2 (.k (B false)))]⟩] [2]) .ret) .skip))) (.rgn [⟨none, [(.mv 8 (.t 3)), (.bin 9 .add (.t 8) (.k (I 1))), (.mv 3 (.t 9))]⟩] [0, 3])))))) (.seq (.rgn [⟨none, [(.mv 2 (.k (B true)))]⟩] [2]) .ret)))
theorem func_l_short : Tryz.prog.funcs[n_l_short]? = some Tryz.f48 := Tryz.func48
theorem form_l_short : formOf Tryz.prog Tryz.f48 [2] = some G_l_short := by kernel_rfl
theorem res_l_short : resTmps Tryz.f48.results.toList = some [2] := by kernel_rfl
abbrev n_l_Row : Nat := 49
def G_l_Row : AC := (.seq (.rgn [⟨none, [(.box 2 2 (.t 0)), (.mv 4 (.k (.sl true 0 [])))]⟩] [1, 2]) (.seq (.rgn [⟨none, [(.mv 5 (.k (.sl true 0 [])))]⟩] [1, 2, 5]) (.seq (.seq (.rgn [⟨none, [(.mv 6 (.k (I 0)))]⟩] [1, 2, 5, 6]) (.block 0 (.loop (.seq (.seq (.rgn [⟨none, [(.mv 8 (.t 6)), (.fa 9 (.t 2) 0), (.ld 10 false 1 (.t 9)), (.bin 11 .lss (.t 8) (.t 10))]⟩] [1, 2, 5, 6, 11]) (.cond (.t 11) .skip (.exit 0))) (.seq (.block 1 (.seq (.rgn [⟨none, [(.mv 7 (.k (I 0)))]⟩] [1, 2, 5, 6, 7]) (.seq (.seq (.rgn [⟨none, [(.mv 14 (.t 1)), (.len 15 (.t 14)), (.bin 16 .gtr (.t 15) (.k (I 0)))]⟩] [1, 2, 5, 6, 7, 16]) (.cond (.t 16) (.rgn [⟨none, [(.mv 17 (.t 1)), (.mv 18 (.t 6)), (.mv 19 (.t 1)), (.len 20 (.t 19)), (.bin 21 .rem (.t 18) (.t 20)), (.ia 22 1 (.t 17) (.t 21)), (.ld 23 false 1 (.t 22)), (.cnv 24 .i64 (.t 23)), (.bin 25 .rem (.t 24) (.k (I 6))), (.mv 7 (.t 25))]⟩] [1, 2, 5, 6, 7]) .skip)) (.rgn [⟨none, [(.mv 26 (.t 5)), (.mv 27 (.t 7)), (.bsl 28 1 1 [(I 0)] [(0, (.t 27))]), (.app 29 1 8 (.t 26) (.t 28)), (.mv 5 (.t 29))]⟩] [1, 2, 5, 6])))) (.rgn [⟨none, [(.mv 12 (.t 6)), (.bin 13 .add (.t 12) (.k (I 1))), (.mv 6 (.t 13))]⟩] [1, 2, 5, 6])))))) (.seq (.rgn [⟨none, [(.mv 30 (.t 5)), (.mv 4 (.t 30))]⟩] [4]) .ret))))
theorem func_l_Row : Tryz.prog.funcs[n_l_Row]? = some Tryz.f49 := Tryz.func49
theorem form_l_Row : formOf Tryz.prog Tryz.f49 [4] = some G_l_Row := by kernel_rfl
theorem res_l_Row : resTmps Tryz.f49.results.toList = some [4] := by kernel_rfl
abbrev n_l_Strokes : Nat := 50
def G_l_Strokes : AC := (.seq (.rgn [⟨none, [(.box 2 2 (.t 0)), (.mv 4 (.k (.sl true 0 [])))]⟩] [1, 2]) (.seq (.rgn [⟨none, [(.mv 5 (.k (.sl true 0 [])))]⟩] [1, 2, 5]) (.seq (.seq (.rgn [⟨none, [(.mv 6 (.k (I 0)))]⟩] [1, 2, 5, 6]) (.block 0 (.loop (.seq (.seq (.rgn [⟨none, [(.mv 7 (.t 6)), (.mv 8 (.t 1)), (.len 9 (.t 8)), (.bin 10 .lss (.t 7) (.t 9)), (.mv 11 (.t 10))]⟩, ⟨(some (11, true)), [(.fa 12 (.t 2) 1), (.ld 13 false 1 (.t 12)), (.len 14 (.t 13)), (.bin 15 .gtr (.t 14) (.k (I 0)))]⟩, ⟨none, [(.pick 16 (.t 11) (.t 15) (.k (B false)))]⟩] [1, 2, 5, 6, 16]) (.cond (.t 16) .skip (.exit 0))) (.seq (.block 1 (.drw [⟨none, [(.mv 19 (.t 5)), (.mv 20 (.t 1)), (.mv 21 (.t 6)), (.ia 22 1 (.t 20) (.t 21)), (.ld 23 false 1 (.t 22)), (.cnv 24 .i64 (.t 23)), (.fa 25 (.t 2) 1), (.ld 26 false 1 (.t 25)), (.len 27 (.t 26)), (.bin 28 .rem (.t 24) (.t 27)), (.bsl 29 1 1 [(I 0)] [(0, (.t 28))]), (.app 30 1 8 (.t 19) (.t 29)), (.mv 5 (.t 30))]⟩] [(4, 7)] [1, 2, 5, 6])) (.rgn [⟨none, [(.mv 17 (.t 6)), (.bin 18 .add (.t 17) (.k (I 1))), (.mv 6 (.t 18))]⟩] [1, 2, 5, 6])))))) (.seq (.rgn [⟨none, [(.mv 31 (.t 5)), (.mv 4 (.t 31))]⟩] [4]) .ret))))
theorem func_l_Strokes : Tryz.prog.funcs[n_l_Strokes]? = some Tryz.f50 := Tryz.func50
theorem form_l_Strokes : formOf Tryz.prog Tryz.f50 [4] = some G_l_Strokes := by kernel_rfl
theorem res_l_Strokes : resTmps Tryz.f50.results.toList = some [4] := by kernel_rfl
abbrev n_l_turned : Nat := 52
def G_l_turned : AC := (.seq (.rgn [⟨none, [(.mv 4 (.k (.sl true 0 [])))]⟩] [0, 1]) (.seq (.rgn [⟨none, [(.mv 5 (.k (.sl true 0 [])))]⟩] [0, 1, 5]) (.seq (.seq (.rgn [⟨none, [(.mv 6 (.k (I 0)))]⟩] [0, 1, 5, 6]) (.block 0 (.loop (.seq (.seq (.rgn [⟨none, [(.mv 7 (.t 6)), (.mv 8 (.t 0)), (.len 9 (.t 8)), (.bin 10 .lss (.t 7) (.t 9))]⟩] [0, 1, 5, 6, 10]) (.cond (.t 10) .skip (.exit 0))) (.seq (.block 1 (.rgn [⟨none, [(.mv 13 (.t 5)), (.mv 14 (.t 0)), (.mv 15 (.t 6)), (.mv 16 (.t 1)), (.cnv 17 .i64 (.t 16)), (.bin 18 .add (.t 15) (.t 17)), (.mv 19 (.t 0)), (.len 20 (.t 19)), (.bin 21 .rem (.t 18) (.t 20)), (.ia 22 1 (.t 14) (.t 21)), (.ld 23 false 1 (.t 22)), (.bsl 24 1 1 [(I 0)] [(0, (.t 23))]), (.app 25 1 8 (.t 13) (.t 24)), (.mv 5 (.t 25))]⟩] [0, 1, 5, 6])) (.rgn [⟨none, [(.mv 11 (.t 6)), (.bin 12 .add (.t 11) (.k (I 1))), (.mv 6 (.t 12))]⟩] [0, 1, 5, 6])))))) (.seq (.rgn [⟨none, [(.mv 26 (.t 5)), (.mv 4 (.t 26))]⟩] [4]) .ret))))
theorem func_l_turned : Tryz.prog.funcs[n_l_turned]? = some Tryz.f52 := Tryz.func52
theorem form_l_turned : formOf Tryz.prog Tryz.f52 [4] = some G_l_turned := by kernel_rfl
theorem res_l_turned : resTmps Tryz.f52.results.toList = some [4] := by kernel_rfl
abbrev n_l_other : Nat := 56
def G_l_other : AC := (.seq (.rgn [⟨none, [(.mv 4 (.k (I 0)))]⟩] [0, 1]) (.seq (.rgn [⟨none, [(.mv 5 (.t 0)), (.mv 6 (.t 1)), (.cnv 7 .i64 (.t 6)), (.bin 8 .add (.t 5) (.t 7)), (.bin 9 .rem (.t 8) (.k (I 6))), (.mv 4 (.t 9))]⟩] [4]) .ret))
theorem func_l_other : Tryz.prog.funcs[n_l_other]? = some Tryz.f56 := Tryz.func56
theorem form_l_other : formOf Tryz.prog Tryz.f56 [4] = some G_l_other := by kernel_rfl
theorem res_l_other : resTmps Tryz.f56.results.toList = some [4] := by kernel_rfl
end Go.AM

set_option linter.unusedSimpArgs false
set_option linter.unusedVariables false
namespace Go.AM
open Go.RowKit Go.Proofs
def grtO (b : OB) : Bool := decide (10 < b.s.length) || b.s.any fun p => decide (10 < p.2.length)
theorem l_great_ok (g : Bool) (b : OB) (hb : b.s.length ≤ 9223372036854775807) (hz : ∀ p ∈ b.s, p.2.length ≤ 9223372036854775807) : PureOK Tryz.prog n_l_great [On g b] (B (grtO b)) := by
  refine pure_of (walk func_l_great form_l_great res_l_great (by show 1 ≤ _; decide) ?_)
  simp -implicitDefEqProofs (disch := omega) [G_l_great, wrap_id]
  by_cases h : 10 < b.s.length
  · have h' : (10 : Int) < b.s.length := by omega
    have e : grtO b = true := by simp [grtO, h]
    rw [e]
    simp -implicitDefEqProofs (disch := omega) [wrap_id, h']
  · have h' : ¬ (10 : Int) < b.s.length := by omega
    have e0 : grtO b = b.s.any fun p => decide (10 < p.2.length) := by simp [grtO, h]
    generalize grtO b = E at e0 ⊢
    simp -implicitDefEqProofs (disch := omega) [wrap_id, h']
    refine loop_eq (fun i : Nat => ⟨[(1, .ref 0 0), (3, I (i : Int))], [.cells [I b.P, LLs g b.s]]⟩) (fun i => i ≤ b.s.length ∧ ∀ k (hk : k < b.s.length), k < i → ¬ 10 < b.s[k].2.length) (fun i => b.s.length - i) 0 ⟨by omega, fun k hk h => by omega⟩ rfl ?_
    rintro i ⟨hi, he⟩
    refine hideK' fun K0 hK0 => ?_
    simp -implicitDefEqProofs (disch := omega) [wrap_id]
    refine c_split (fun hc => ?_) (fun hc => ?_)
    · have h1 : i < b.s.length := by simp at hc; omega
      have ix : ((i : Int) + 1) = ((i + 1 : Nat) : Int) := by omega
      have z1 := hz _ (List.getElem_mem h1)
      by_cases e : 10 < b.s[i].2.length
      · have e' : (10 : Int) < b.s[i].2.length := by omega
        have : (b.s.any fun p => decide (10 < p.2.length)) = true := List.any_eq_true.2 ⟨_, List.getElem_mem h1, by simpa using e⟩
        rw [this] at e0
        subst e0
        subst hK0
        simp -implicitDefEqProofs (disch := omega) [wrap_id, cells_lls, h1, e']
      · have e' : ¬ (10 : Int) < b.s[i].2.length := by omega
        simp -implicitDefEqProofs (disch := omega) [wrap_id, cells_lls, h1, e']
        rw [hK0]
        refine next_eq (i + 1) ⟨by omega, fun k hk h2 => ?_⟩ (by omega) (by simp only [ix])
        by_cases ek : k = i
        · subst ek; exact e
        · exact he k hk (by omega)
    · have h1 : i = b.s.length := by simp at hc; omega
      have : (b.s.any fun p => decide (10 < p.2.length)) = false := by
        rw [List.any_eq_false]
        intro p hp
        obtain ⟨k, hk, rfl⟩ := List.getElem_of_mem hp
        simpa using he k hk (by omega)
      rw [this] at e0
      subst e0
      subst hK0
      simp -implicitDefEqProofs (disch := omega) [wrap_id]
theorem grt_sz {b : OB} (h : grtO b = false) : Sz12 b ∧ SzO b := by
  unfold grtO at h
  rw [Bool.or_eq_false_iff] at h
  have h1 : ¬ 10 < b.s.length := by simpa using h.1
  have h2 : ∀ p ∈ b.s, ¬ 10 < p.2.length := fun p hp => by simpa using List.any_eq_false.1 h.2 p hp
  exact ⟨⟨by omega, fun p hp => by have := h2 p hp; omega⟩, ⟨by omega, fun p hp => by have := h2 p hp; omega⟩⟩
end Go.AM

set_option linter.unusedSimpArgs false
set_option linter.unusedVariables false
namespace Go.AM
open Go.RowKit Go.Proofs
theorem least_ex {d : Nat} : ∀ {L : List (List Nat)}, L ≠ [] → (∀ w ∈ L, w.length = d) → ∃ w ∈ L, ∀ m ∈ L, frst (wI m) (wI w) = false
  | [a], _, _ => ⟨a, by simp, fun m hm => by rw [List.mem_singleton] at hm; subst hm; exact frst_self _⟩
  | a :: b :: L, _, hl => by
    obtain ⟨w, hw, hm⟩ := least_ex (L := b :: L) (by simp) (fun w hw => hl w (by simp [List.mem_cons.1 hw]))
    have la := hl a (by simp)
    have lw := hl w (List.mem_cons_of_mem _ hw)
    cases hf : frst (wI a) (wI w) with
    | true =>
      refine ⟨a, by simp, fun m hm2 => ?_⟩
      rcases List.mem_cons.1 hm2 with rfl | hm3
      · exact frst_self _
      · have lm := hl m hm2
        exact frst_le_trans (a := wI a) (b := wI w) (c := wI m) (by rw [wI_len, wI_len]; omega) (by rw [wI_len, wI_len]; omega) (frst_asymm hf) (hm m hm3)
    | false =>
      refine ⟨w, List.mem_cons_of_mem _ hw, fun m hm2 => ?_⟩
      rcases List.mem_cons.1 hm2 with rfl | hm3
      · exact hf
      · exact hm m hm3
theorem best_ex {S : List (List Int)} {r x : List Int} {d : Nat} (h : Dist S r x d) : ∃ w, IsBest S d r x w := by
  obtain ⟨⟨w0, hw, hl⟩, _⟩ := h
  have hm := mem_wordsL.2 ⟨hw, hl⟩
  obtain ⟨w, h1, h2⟩ := least_ex (d := d) (L := wordsL S d r x) (fun e => by rw [e] at hm; cases hm) (fun w hw => (mem_wordsL.1 hw).2)
  exact ⟨w, best_words h1 h2⟩
theorem dist_ex {S : List (List Int)} {r x : List Int} (h : ¬ NoW S r x) : ∃ d, Dist S r x d := by
  obtain ⟨w, hw⟩ := not_noW.1 h
  obtain ⟨d, hd, _⟩ := Dist.of hw
  exact ⟨d, hd⟩
theorem dist_le {b : OB} {n : Nat} (hb : Okb b n) {r x : List Int} (lr : r.length = n) (hc : ∀ y ∈ r, 0 ≤ y ∧ y ≤ 5) {d : Nat} (h : Dist b.S r x d) : d < 46656 := far_lt hb.pmS lr hb.hi hc h
theorem ansB_ex (b : OB) (r x : List Int) : ∃ l e, AnsB b r x l e ∧ l.length ≤ 46656 := by
  by_cases h0 : rwsE b r x = 0
  · obtain ⟨n, hb, lr, lx, o1, o2⟩ := rws_ok h0
    by_cases h1 : NoW b.S r x
    · exact ⟨[], 13, .inr ⟨h0, .inl ⟨h1, rfl, rfl⟩⟩, by simp⟩
    · obtain ⟨d, hd⟩ := dist_ex h1
      obtain ⟨w, hw⟩ := best_ex hd
      have := dist_le hb lr (rowO_col o1) hd
      exact ⟨wI w, 0, .inr ⟨h0, .inr ⟨d, w, hd, hw, rfl, rfl⟩⟩, by rw [wI_len, hw.2.1]; omega⟩
  · exact ⟨[], rwsE b r x, .inl ⟨h0, rfl, rfl⟩, by simp⟩
theorem ansC_ex (b : OB) (r x : List Int) : ∃ v e, AnsC b r x v e := by
  by_cases h0 : rwsE b r x = 0
  · by_cases h1 : NoW b.S r x
    · exact ⟨0, 13, .inr ⟨h0, .inl ⟨h1, rfl, rfl⟩⟩⟩
    · obtain ⟨d, hd⟩ := dist_ex h1
      by_cases h2 : mostN ≤ cntW b.S d r x
      · exact ⟨0, 4, .inr ⟨h0, .inr ⟨d, hd, .inl ⟨h2, rfl, rfl⟩⟩⟩⟩
      · exact ⟨_, 0, .inr ⟨h0, .inr ⟨d, hd, .inr ⟨by omega, rfl, rfl⟩⟩⟩⟩
  · exact ⟨0, rwsE b r x, .inl ⟨h0, rfl, rfl⟩⟩
theorem ansK_ex (b : OB) (r x : List Int) (s : Int) : ∃ k e, AnsK b r x s k e := by
  by_cases h0 : rwsE b r x = 0
  · by_cases h2 : 0 ≤ s ∧ s < b.s.length
    · by_cases h1 : NoW b.S r x
      · exact ⟨0, 13, .inr ⟨h0, .inr ⟨h2, .inl ⟨h1, rfl, rfl⟩⟩⟩⟩
      · obtain ⟨d, hd⟩ := dist_ex h1
        by_cases h3 : Dist (wtO b s.toNat).S r x d
        · by_cases h4 : Over b.S r x d s.toNat
          · exact ⟨1, 0, .inr ⟨h0, .inr ⟨h2, .inr ⟨d, hd, rfl, .inr (.inl ⟨h3, h4, rfl⟩)⟩⟩⟩⟩
          · exact ⟨0, 0, .inr ⟨h0, .inr ⟨h2, .inr ⟨d, hd, rfl, .inr (.inr ⟨h3, h4, rfl⟩)⟩⟩⟩⟩
        · exact ⟨2, 0, .inr ⟨h0, .inr ⟨h2, .inr ⟨d, hd, rfl, .inl ⟨h3, rfl⟩⟩⟩⟩⟩
    · exact ⟨0, 3, .inr ⟨h0, .inl ⟨h2, rfl, rfl⟩⟩⟩
  · exact ⟨0, rwsE b r x, .inl ⟨h0, rfl, rfl⟩⟩
theorem pp_ex (b : OB) : ∃ pp, PPok b pp := by
  refine ⟨fun a q => @decide (Rch b.P.toNat b.S a q) (Classical.propDecidable _), fun n hb a q _ _ _ _ => ?_⟩
  have : b.P.toNat = n := by have := hb.P; omega
  have k := @decide_eq_true_iff (Rch b.P.toNat b.S a q) (Classical.propDecidable _)
  rw [this] at k ⊢
  exact k
end Go.AM

set_option linter.unusedSimpArgs false
set_option linter.unusedVariables false
namespace Go.AM
open Go.RowKit Go.Proofs
def finO (b : OB) : Bool := !grtO b && decide (chkO b = 0)
theorem l_fine_ok (g : Bool) (b : OB) (hb : OBK b) : PureOK Tryz.prog n_l_fine [On g b] (B (finO b)) := by
  refine pure_of (walk func_l_fine form_l_fine res_l_fine (by show 1 ≤ _; decide) ?_)
  simp -implicitDefEqProofs (disch := omega) [G_l_fine, wrap_id]
  refine callW_pure rfl (l_great_ok g b hb.many hb.len) ?_
  cases hg : grtO b with
  | true => simp -implicitDefEqProofs (disch := omega) [wrap_id, finO, hg]
  | false =>
    obtain ⟨z1, z2⟩ := grt_sz hg
    simp -implicitDefEqProofs (disch := omega) [wrap_id]
    refine callW_pure rfl (r_CheckBench_ok g b z2.many z2.len) ?_
    by_cases h : chkO b = 0
    · simp -implicitDefEqProofs (disch := omega) [wrap_id, h, finO, hg]
    · have h' : (chkO b == 0) = false := by simpa using h
      simp -implicitDefEqProofs (disch := omega) [wrap_id, h', h, finO, hg]
theorem fin_ok {b : OB} (h : finO b = true) : ∃ n, Okb b n ∧ Sz12 b ∧ SzO b := by
  unfold finO at h
  rw [Bool.and_eq_true, decide_eq_true_iff] at h
  obtain ⟨n, hb⟩ := okb_of h.2
  have hg : grtO b = false := by simpa using h.1
  obtain ⟨z1, z2⟩ := grt_sz hg
  exact ⟨n, hb, z1, z2⟩
theorem cells_us {l : List Int} {j : Nat} {K : AV → List (Nat × HObj) → Prop} (h : j < l.length) : CellsW (l.map fun n => U n) j 1 false K = K (U (l.getD j 0)) [] := by
  simp [CellsW, h]
def rowG (n : Nat) (u : List Int) : List Int := (List.range n).map fun i => if u = [] then 0 else (u.getD (i % u.length) 0).tmod 6
theorem rowG_len {n : Nat} {u : List Int} : (rowG n u).length = n := by simp [rowG]
theorem rowG_snoc {n : Nat} {u : List Int} : rowG (n + 1) u = rowG n u ++ [if u = [] then 0 else (u.getD (n % u.length) 0).tmod 6] := by simp [rowG, List.range_succ]
theorem tmod6 {x : Int} (h : 0 ≤ x) : 0 ≤ x.tmod 6 ∧ x.tmod 6 ≤ 5 := by
  rw [Int.tmod_eq_emod_of_nonneg h]; omega
theorem getD_u {u : List Int} (hu : ∀ n ∈ u, 0 ≤ n ∧ n ≤ 255) (k : Nat) : 0 ≤ u.getD k 0 ∧ u.getD k 0 ≤ 255 := by
  by_cases h : k < u.length
  · exact hu _ (getD_mem h)
  · rw [List.getD_eq_getElem?_getD, List.getElem?_eq_none (by omega)]; exact ⟨Int.le_refl _, by decide⟩
theorem rowG_col {n : Nat} {u : List Int} (hu : ∀ n ∈ u, 0 ≤ n ∧ n ≤ 255) : ∀ x ∈ rowG n u, 0 ≤ x ∧ x ≤ 5 := fun x hx => by
  obtain ⟨i, _, rfl⟩ := List.mem_map.1 hx
  by_cases h : u = []
  · rw [if_pos h]; decide
  · rw [if_neg h]; exact tmod6 (getD_u hu _).1
theorem rowO_of {b : OB} {n : Nat} (hb : Okb b n) {r : List Int} (h1 : r.length = n) (h2 : ∀ x ∈ r, 0 ≤ x ∧ x ≤ 5) : rowO b r = true := by
  unfold rowO
  rw [Bool.and_eq_true, decide_eq_true_iff, List.all_eq_true]
  exact ⟨by rw [hb.P, h1], fun x hx => by have := h2 x hx; simp; omega⟩
set_option maxHeartbeats 1000000 in
theorem l_Row_ok (g f : Bool) {b : OB} {n : Nat} (hb : Okb b n) (u : List Int) (hl : u.length ≤ 1000000) (hu : ∀ n ∈ u, 0 ≤ n ∧ n ≤ 255) : PureOK Tryz.prog n_l_Row [On g b, Us f u] (Ls (rowG n u).isEmpty (rowG n u)) := by
  have h6 := hb.hi
  have hn := hb.P
  refine pure_of (walk func_l_Row form_l_Row res_l_Row (by show 2 ≤ _; decide) ?_)
  simp -implicitDefEqProofs (disch := omega) [G_l_Row, wrap_id]
  refine loop_eq (fun q : Nat × AV × List HObj => ⟨[(1, Us f u), (2, .ref 0 0), (5, q.2.1), (6, I (q.1 : Int))], q.2.2⟩) (fun q => q.1 ≤ n ∧ AccR q.2.2 q.2.1 (rowG q.1 u) ∧ nthH q.2.2 0 = some (.cells [I b.P, LLs g b.s]) ∧ rid q.2.1 ≠ some 0) (fun q => n - q.1) (0, .sl true 0 [], [.cells [I b.P, LLs g b.s]]) ⟨Nat.zero_le _, .inl ⟨rfl, rfl⟩, rfl, by simp [rid]⟩ rfl ?_
  rintro ⟨i, x, H⟩ ⟨c1, c2, c3, c4⟩
  simp only at c1 c2 c3 c4 ⊢
  have l0 := nthH_lt c3
  refine hideK' fun K0 hK0 => ?_
  simp -implicitDefEqProofs (disch := omega) [wrap_id, c3, ldr_some, hn]
  refine c_split (fun h => ?_) (fun h => ?_)
  · have hir : i < n := by simp at h; omega
    have ix : ((i : Int) + 1) = ((i + 1 : Nat) : Int) := by omega
    have tk := rowG_snoc (n := i) (u := u)
    have tl := rowG_len (n := i) (u := u)
    have fin : ∀ (v : Int) (fr : List (Nat × AV)), v = (if u = [] then 0 else (u.getD (i % u.length) 0).tmod 6) →
        ∀ KK, (∀ ws, (∀ j, j < H.length → rid x ≠ some j → nthH (writeL H ws) j = nthH H j) → nthH (writeL H ws) H.length = some (.cells ((rowG i u ++ [v]).map fun n => I n)) → KK (.ms H.length 0 (i + 1) 1) ws) → AppW H 1 8 x (.sl true 1 [I v]) KK := fun v fr _ KK hKK => by
      refine app_row c2.row (by omega) fun ws w1 w2 w3 => ?_
      rw [tl]
      exact hKK ws w1 w3
    by_cases hu0 : u = []
    · subst hu0
      simp -implicitDefEqProofs (disch := omega) [wrap_id]
      refine bsl_of (ys := [I 0]) rfl rfl ?_
      simp -implicitDefEqProofs (disch := omega) [wrap_id, zrep]
      refine fin 0 [] (by simp) _ fun ws w1 w3 => ?_
      simp -implicitDefEqProofs (disch := omega) [wrap_id]
      rw [hK0]
      rw [if_pos rfl] at tk
      refine next_eq (i + 1, .ms H.length 0 (i + 1) 1, writeL H ws) ⟨by simp only; omega, .inr ⟨H.length, ?_, ?_, ?_⟩, ?_, ?_⟩ (by simp only; omega) (by simp only [ix])
      · rw [rowG_len]
      · simp only [tk]; simp
      · simp only [tk]; exact w3
      · rw [w1 0 l0 c4]; exact c3
      · simp only [rid]; intro e; injection e; omega
    · have hp : 0 < u.length := List.length_pos_iff.2 hu0
      have hp' : ((0 : Int) < u.length) = True := by simp only [eq_iff_iff, iff_true]; omega
      have em : (i : Int).tmod u.length = ((i % u.length : Nat) : Int) := by rw [Int.tmod_eq_emod_of_nonneg (by omega)]; simp
      have lt := Nat.mod_lt i hp
      obtain ⟨b1, b2⟩ := getD_u hu (i % u.length)
      obtain ⟨v1, v2⟩ := tmod6 b1
      rw [if_neg hu0] at tk
      obtain ⟨w, hw⟩ : ∃ w, u.getD (i % u.length) 0 = w := ⟨_, rfl⟩
      have cu : ∀ K, CellsW (u.map fun n => U n) (i % u.length) 1 false K = K (U w) [] := fun K => by rw [cells_us lt, hw]
      rw [hw] at b1 b2 v1 v2 tk
      obtain ⟨m, hm⟩ : ∃ m : Nat, i % u.length = m := ⟨_, rfl⟩
      rw [hm] at em lt
      simp only [hm] at cu
      simp -implicitDefEqProofs (disch := omega) [wrap_id, hp, hp', em, lt, cu]
      refine bsl_of (ys := [I (w.tmod 6)]) rfl rfl ?_
      simp -implicitDefEqProofs (disch := omega) [wrap_id, zrep]
      refine fin (w.tmod 6) [] (by rw [if_neg hu0, hm]; rw [hm] at hw; rw [hw]) _ fun ws w1 w3 => ?_
      simp -implicitDefEqProofs (disch := omega) [wrap_id]
      rw [hK0]
      refine next_eq (i + 1, .ms H.length 0 (i + 1) 1, writeL H ws) ⟨by simp only; omega, .inr ⟨H.length, ?_, ?_, ?_⟩, ?_, ?_⟩ (by simp only; omega) (by simp only [ix])
      · rw [rowG_len]
      · simp only [tk]; simp
      · simp only [tk]; exact w3
      · rw [w1 0 l0 c4]; exact c3
      · simp only [rid]; intro e; injection e; omega
  · have hir : i = n := by simp at h; omega
    subst hir
    subst hK0
    simp -implicitDefEqProofs (disch := omega) [wrap_id]
    exact out_acc c2
def strG (k : Nat) (u : List Int) : List Int := if k = 0 then [] else u.map fun x => x.tmod k
theorem strG_len {k : Nat} {u : List Int} : (strG k u).length ≤ u.length := by unfold strG; split <;> simp
theorem strG_LsO {b : OB} {u : List Int} (hu : ∀ n ∈ u, 0 ≤ n ∧ n ≤ 255) : LsO b (strG b.s.length u) := fun s hs => by
  unfold strG at hs
  split at hs
  · cases hs
  · obtain ⟨x, hx, rfl⟩ := List.mem_map.1 hs
    rw [Int.tmod_eq_emod_of_nonneg (hu x hx).1]
    rename_i h0
    have h1 : (0 : Int) < b.s.length := by omega
    exact ⟨Int.emod_nonneg _ (by omega), Int.emod_lt_of_pos _ h1⟩
set_option maxHeartbeats 1000000 in
theorem l_Strokes_ok (g f : Bool) {b : OB} {n : Nat} (hb : Okb b n) (u : List Int) (hl : u.length ≤ 1000000) (hu : ∀ n ∈ u, 0 ≤ n ∧ n ≤ 255) : PureOK Tryz.prog n_l_Strokes [On g b, Us f u] (Ls (strG b.s.length u).isEmpty (strG b.s.length u)) := by
  have hm := hb.many
  refine pure_of (walk func_l_Strokes form_l_Strokes res_l_Strokes (by show 2 ≤ _; decide) ?_)
  simp -implicitDefEqProofs (disch := omega) [G_l_Strokes, wrap_id]
  refine loop_eq (fun q : Nat × AV × List HObj => ⟨[(1, Us f u), (2, .ref 0 0), (5, q.2.1), (6, I (q.1 : Int))], q.2.2⟩) (fun q => q.1 ≤ (strG b.s.length u).length ∧ AccR q.2.2 q.2.1 ((strG b.s.length u).take q.1) ∧ nthH q.2.2 0 = some (.cells [I b.P, LLs g b.s]) ∧ rid q.2.1 ≠ some 0) (fun q => (strG b.s.length u).length - q.1) (0, .sl true 0 [], [.cells [I b.P, LLs g b.s]]) ⟨Nat.zero_le _, .inl ⟨rfl, rfl⟩, rfl, by simp [rid]⟩ rfl ?_
  rintro ⟨i, x, H⟩ ⟨c1, c2, c3, c4⟩
  simp only at c1 c2 c3 c4 ⊢
  have l0 := nthH_lt c3
  refine hideK' fun K0 hK0 => ?_
  by_cases hk : b.s.length = 0
  · have e0 : strG b.s.length u = [] := by unfold strG; rw [if_pos hk]
    rw [e0] at c1 c2
    have hi : i = 0 := by simpa using c1
    subst hi
    subst hK0
    have hk' : ¬ ((0 : Int) < b.s.length) := by omega
    have hk2 : ¬ (0 < b.s.length) := by omega
    by_cases hu0 : u = []
    · subst hu0
      simp -implicitDefEqProofs (disch := omega) [wrap_id, c3, ldr_some, hk', hk2]
      rw [e0]
      exact out_acc c2
    · have hp : 0 < u.length := List.length_pos_iff.2 hu0
      simp -implicitDefEqProofs (disch := omega) [wrap_id, c3, ldr_some, hk', hk2, hp]
      rw [e0]
      exact out_acc c2
  · have e0 : strG b.s.length u = u.map fun x => x.tmod b.s.length := by unfold strG; rw [if_neg hk]
    have el : (strG b.s.length u).length = u.length := by rw [e0, List.length_map]
    have hk2 : 0 < b.s.length := by omega
    by_cases hi : i < u.length
    · have ix : ((i : Int) + 1) = ((i + 1 : Nat) : Int) := by omega
      obtain ⟨b1, b2⟩ := hu u[i] (List.getElem_mem hi)
      obtain ⟨w, hw⟩ : ∃ w, u[i] = w := ⟨_, rfl⟩
      have cu : ∀ K, CellsW (u.map fun n => U n) i 1 false K = K (U w) [] := fun K => by
        rw [cells_us hi, List.getD_eq_getElem?_getD, List.getElem?_eq_getElem hi, ← hw]; rfl
      have tk : (strG b.s.length u).take (i + 1) = (strG b.s.length u).take i ++ [w.tmod b.s.length] := by
        rw [List.take_succ_eq_append_getElem (by omega)]
        simp [e0, hw]
      have tl : ((strG b.s.length u).take i).length = i := by rw [List.length_take]; omega
      rw [hw] at b1 b2
      simp -implicitDefEqProofs (disch := omega) [wrap_id, c3, ldr_some, hk2, hi, cu, cmp2, nthT]
      refine bsl_of (ys := [I (w.tmod b.s.length)]) rfl rfl ?_
      simp -implicitDefEqProofs (disch := omega) [wrap_id, zrep, cmp2, nthT]
      refine app_row c2.row (by omega) fun ws w1 w2 w3 => ?_
      simp -implicitDefEqProofs (disch := omega) [wrap_id, cmp2, nthT, tl]
      rw [hK0]
      refine next_eq (i + 1, .ms H.length 0 (i + 1) 1, writeL H ws) ⟨by simp only; omega, .inr ⟨H.length, ?_, ?_, ?_⟩, ?_, ?_⟩ (by simp only; omega) (by simp only [ix])
      · rw [List.length_take, Nat.min_eq_left (by omega)]
      · simp only [tk]; simp
      · simp only [tk]; exact w3
      · rw [w1 0 l0 c4]; exact c3
      · simp only [rid]; intro e; injection e; omega
    · have tk : (strG b.s.length u).take i = strG b.s.length u := List.take_of_length_le (by omega)
      rw [tk] at c2
      subst hK0
      simp -implicitDefEqProofs (disch := omega) [wrap_id, c3, ldr_some, hi]
      exact out_acc c2
def trnG (r : List Int) (t : Int) : List Int := (List.range r.length).map fun i => r.getD ((i + t.toNat) % r.length) 0
theorem trnG_len {r : List Int} {t : Int} : (trnG r t).length = r.length := by simp [trnG]
set_option maxHeartbeats 1000000 in
theorem l_turned_w (f : Bool) (r : List Int) (t : Int) (hr : r.length ≤ 1000) (h0 : 0 ≤ t) (h1 : t ≤ 255) {hp : List HObj} {K : AV → List HObj → Prop}
    (hK : ∀ H y, AccR H y (trnG r t) → (∀ i, rid y = some i → hp.length ≤ i) → (∀ j, j < hp.length → nthH H j = nthH hp j) → K y H) : CallW Tryz.prog n_l_turned [Ls f r, U t] hp K := by
  refine walk func_l_turned form_l_turned res_l_turned (by show 2 ≤ _; decide) ?_
  simp -implicitDefEqProofs (disch := omega) [G_l_turned, wrap_id]
  have al : (trnG r t).length = r.length := trnG_len
  refine loop_eq (fun q : Nat × AV × List HObj => ⟨[(0, Ls f r), (1, U t), (5, q.2.1), (6, I (q.1 : Int))], q.2.2⟩) (fun q => q.1 ≤ r.length ∧ AccR q.2.2 q.2.1 ((trnG r t).take q.1) ∧ (∀ i, rid q.2.1 = some i → hp.length ≤ i) ∧ hp.length ≤ q.2.2.length ∧ ∀ j, j < hp.length → nthH q.2.2 j = nthH hp j) (fun q => r.length - q.1) (0, .sl true 0 [], hp) ⟨Nat.zero_le _, .inl ⟨rfl, by simp⟩, fun i h => (by cases h), Nat.le_refl _, fun _ _ => rfl⟩ rfl ?_
  rintro ⟨i, x, H⟩ ⟨c1, c2, c3, c4, c5⟩
  simp only at c1 c2 c3 c4 c5 ⊢
  refine hideK' fun K0 hK0 => ?_
  simp -implicitDefEqProofs (disch := omega) [wrap_id]
  refine c_split (fun h => ?_) (fun h => ?_)
  · have hir : i < r.length := by simp at h; omega
    have ix : ((i : Int) + 1) = ((i + 1 : Nat) : Int) := by omega
    obtain ⟨n, hn⟩ : ∃ n : Nat, (i + t.toNat) % r.length = n := ⟨_, rfl⟩
    have hnr : n < r.length := by rw [← hn]; exact Nat.mod_lt _ (by omega)
    have em : ((i : Int) + t).tmod r.length = (n : Int) := by
      rw [Int.tmod_eq_emod_of_nonneg (by omega), ← hn]
      have : (i : Int) + t = ((i + t.toNat : Nat) : Int) := by omega
      rw [this]; simp
    have tk : (trnG r t).take (i + 1) = (trnG r t).take i ++ [r[n]] := by
      rw [List.take_succ_eq_append_getElem (by omega)]
      simp [trnG, hn, hnr]
    have tl : ((trnG r t).take i).length = i := by rw [List.length_take]; omega
    simp -implicitDefEqProofs (disch := omega) [wrap_id, em, cells_ls, hir, hnr]
    refine bsl_of (ys := [I r[n]]) rfl rfl ?_
    simp -implicitDefEqProofs (disch := omega) [wrap_id, zrep]
    refine app_row c2.row (by omega) fun ws w1 w2 w3 => ?_
    simp -implicitDefEqProofs (disch := omega) [wrap_id]
    rw [hK0]
    refine next_eq (i + 1, .ms H.length 0 (i + 1) 1, writeL H ws) ⟨by simp only; omega, .inr ⟨H.length, ?_, ?_, ?_⟩, ?_, by simp only; omega, fun j hj => ?_⟩ (by simp only; omega) (by simp only [ix, tl])
    · rw [List.length_take, Nat.min_eq_left (by omega)]
    · simp only [tk]; simp
    · simp only [tk]; exact w3
    · simp only [rid]; intro j hj; injection hj with hj; omega
    · exact (w1 j (by omega) (fun e => by have := c3 j e; omega)).trans (c5 j hj)
  · have hir : i = r.length := by simp at h; omega
    subst hir
    subst hK0
    have tk : (trnG r t).take r.length = trnG r t := List.take_of_length_le (by omega)
    rw [tk] at c2
    simp -implicitDefEqProofs (disch := omega) [wrap_id]
    exact hK H x c2 c3 c5
theorem l_turned_ok (f : Bool) (r : List Int) (t : Int) (hr : r.length ≤ 1000) (h0 : 0 ≤ t) (h1 : t ≤ 255) : PureOK Tryz.prog n_l_turned [Ls f r, U t] (Ls (trnG r t).isEmpty (trnG r t)) :=
  pure_of (l_turned_w f r t hr h0 h1 fun H y c _ _ => out_acc c)
abbrev UUs (f : Bool) (ls : List (Bool × List Int)) : AV := .sl f ls.length (ls.map fun p => Us p.1 p.2)
theorem cells_uus {ls : List (Bool × List Int)} {j : Nat} {K : AV → List (Nat × HObj) → Prop} (h : j < ls.length) : CellsW (ls.map fun p => Us p.1 p.2) j 1 false K = K (Us ls[j].1 ls[j].2) [] := by
  simp [CellsW, h]
theorem l_short_ok (f : Bool) (ls : List (Bool × List Int)) (hl : ls.length ≤ 1000000) (hz : ∀ p ∈ ls, p.2.length ≤ 9223372036854775807) : PureOK Tryz.prog n_l_short [UUs f ls] (B (ls.all fun p => decide (p.2.length ≤ 40))) := by
  refine pure_of (walk func_l_short form_l_short res_l_short (by show 1 ≤ _; decide) ?_)
  generalize hE : (ls.all fun p => decide (p.2.length ≤ 40)) = E
  simp -implicitDefEqProofs (disch := omega) [G_l_short, wrap_id]
  refine loop_eq (fun i : Nat => ⟨[(0, UUs f ls), (3, I (i : Int))], []⟩) (fun i => i ≤ ls.length ∧ ∀ k (hk : k < ls.length), k < i → ls[k].2.length ≤ 40) (fun i => ls.length - i) 0 ⟨Nat.zero_le _, fun k hk h => by omega⟩ rfl ?_
  rintro i ⟨c1, c2⟩
  refine hideK' fun K0 hK0 => ?_
  simp -implicitDefEqProofs (disch := omega) [wrap_id]
  refine c_split (fun h => ?_) (fun h => ?_)
  · have hi : i < ls.length := by simp at h; omega
    have ix : ((i : Int) + 1) = ((i + 1 : Nat) : Int) := by omega
    have z1 := hz _ (List.getElem_mem hi)
    by_cases e : ls[i].2.length ≤ 40
    · have e' : ¬ (40 : Int) < ls[i].2.length := by omega
      simp -implicitDefEqProofs (disch := omega) [wrap_id, cells_uus, hi, e']
      rw [hK0]
      refine next_eq (i + 1) ⟨by omega, fun k hk h2 => ?_⟩ (by omega) (by simp only [ix])
      by_cases ek : k = i
      · subst ek; exact e
      · exact c2 k hk (by omega)
    · have e' : (40 : Int) < ls[i].2.length := by omega
      have : (ls.all fun p => decide (p.2.length ≤ 40)) = false := by
        rw [List.all_eq_false]
        exact ⟨_, List.getElem_mem hi, by simpa using e⟩
      rw [this] at hE
      subst hE
      subst hK0
      simp -implicitDefEqProofs (disch := omega) [wrap_id, cells_uus, hi, e']
  · have hi : i = ls.length := by simp at h; omega
    have : (ls.all fun p => decide (p.2.length ≤ 40)) = true := by
      rw [List.all_eq_true]
      intro p hp
      obtain ⟨k, hk, rfl⟩ := List.getElem_of_mem hp
      simpa using c2 k hk (by omega)
    rw [this] at hE
    subst hE
    subst hK0
    simp -implicitDefEqProofs (disch := omega) [wrap_id]
theorem l_other_ok (c t : Int) (h0 : 0 ≤ c) (h1 : c ≤ 5) (h2 : 0 ≤ t) (h3 : t ≤ 255) : PureOK Tryz.prog n_l_other [I c, U t] (I ((c + t) % 6)) := by
  refine pure_of (walk func_l_other form_l_other res_l_other (by show 2 ≤ _; decide) ?_)
  have e : (c + t).tmod 6 = (c + t) % 6 := Int.tmod_eq_emod_of_nonneg (by omega)
  simp -implicitDefEqProofs (disch := omega) [G_l_other, wrap_id, e]
end Go.AM

set_option linter.unusedSimpArgs false
set_option linter.unusedVariables false
namespace Go.AM
open Go.RowKit Go.Proofs
theorem plc_of {b : OB} {n : Nat} (hb : Okb b n) : b.P.toNat = n := by have := hb.P; omega
theorem allI_aft {b : OB} {n : Nat} (hb : Okb b n) : ∀ {l r : List Int}, LsO b l → r.length = n → allI b l r = aft (allI b l (plcL n)) r
  | [], r, _, hr => (aft_plc hr).symm
  | s :: l, r, hl, hr => by
    have hl' : LsO b l := fun t ht => hl t (by simp [ht])
    have h1 := hl s (by simp)
    have ps : Pm n (b.S.getD s.toNat []) := hb.pmS.at (by rw [S_len]; omega)
    show allI b l (aft (b.S.getD s.toNat []) r) = aft (allI b l (aft (b.S.getD s.toNat []) (plcL n))) r
    rw [allI_aft hb hl' (by rw [aft_len]; exact ps.len), allI_aft (r := aft (b.S.getD s.toNat []) (plcL n)) hb hl' (by rw [aft_len]; exact ps.len), aft_plc' ps.rng]
    exact aft_aft ps.len (allI_pm hb hl' .plc).rng
theorem chk_of {b : OB} {n : Nat} (hb : Okb b n) : chkO b = 0 := by
  have hP := hb.P
  have h2 := hb.lo
  have h6 := hb.hi
  have hm := hb.many
  unfold chkO
  rw [if_neg (by omega), if_neg (by omega), if_pos]
  rw [List.all_eq_true]
  intro p hp
  have pm := hb.pm p hp
  unfold strO
  rw [Bool.and_eq_true, decide_eq_true_iff, List.all_eq_true]
  refine ⟨by rw [pm.len, hP], fun k hk => ?_⟩
  have hk := List.mem_range.1 hk
  rw [beq_iff_eq]
  have m1 := pm.mem (k := k) (by rw [← pm.len]; exact hk)
  have c1 := List.count_pos_iff.2 m1
  have c2 := List.nodup_iff_count.1 pm.nd (k : Int)
  omega
theorem rowO_aft {b : OB} {n : Nat} (hb : Okb b n) {s r : List Int} (hs : Pm n s) (h : rowO b r = true) : rowO b (aft s r) = true := by
  have hr := rowO_len hb h
  refine rowO_of hb (by rw [aft_len]; exact hs.len) fun x hx => ?_
  have := aft_col hs.rng hr (C := plcL 6) (fun y hy => plc_mem.2 (by have := rowO_col h y hy; omega)) x hx
  have := plc_mem.1 this
  omega
theorem rowO_allI {b : OB} {n : Nat} (hb : Okb b n) {l r : List Int} (hl : LsO b l) (h : rowO b r = true) : rowO b (allI b l r) = true := by
  rw [allI_aft hb hl (rowO_len hb h)]
  exact rowO_aft hb (allI_pm hb hl .plc) h
theorem rws_of {b : OB} {n : Nat} (hb : Okb b n) {r x : List Int} (h1 : rowO b r = true) (h2 : rowO b x = true) : rwsE b r x = 0 := by
  unfold rwsE
  rw [if_neg (by rw [chk_of hb]; decide), if_neg (by rw [h1, h2]; decide)]
end Go.AM

set_option linter.unusedSimpArgs false
set_option linter.unusedVariables false
namespace Go.AM
open Go.RowKit Go.Proofs
theorem aft_sg {n : Nat} {s r : List Int} (hs : Pm n s) {i : Nat} (hi : i < n) : (aft s r).getD i 0 = r.getD (sg s i) 0 := by
  have hl : i < s.length := by rw [hs.len]; exact hi
  rw [aft_getD hl, sg_at hl]
theorem pm_sg_inj {n : Nat} {s : List Int} (hs : Pm n s) {i k : Nat} (hi : i < n) (hk : k < n) (e : sg s i = sg s k) : i = k := by
  rw [← hs.sg_inv hi, ← hs.sg_inv hk, e]
theorem tim_aft {b : OB} {n : Nat} (hb : Okb b n) {pp : Nat × Nat → Nat × Nat → Bool} (hp : PPok b pp) {one two : Int} (ha : aplO b one two = true) {s r : List Int} (hs : s ∈ b.S) (c d : Int) :
    timS (prsV b one two pp) (aft s r) c d = timS (prsV b one two pp) r c d := by
  have hP := hb.P
  have ha := of_decide_eq_true ha
  have ps := hb.pmS s hs
  unfold timS prsV prsL
  rw [plc_of hb, List.countP_map, List.countP_map, List.countP_filter, List.countP_filter]
  have a1 : one.toNat < n := by omega
  have a2 : two.toNat < n := by omega
  generalize hA : (one.toNat, two.toNat) = a
  have b1 : a.1 < n := by rw [← hA]; exact a1
  have b2 : a.2 < n := by rw [← hA]; exact a2
  let σ : Nat × Nat → Nat × Nat := fun q => (sg s q.1, sg s q.2)
  have hσ : ∀ q ∈ prsN n, σ q ∈ prsN n := fun q hq => by
    have := mem_prsN.1 hq
    exact mem_prsN.2 ⟨ps.sg_lt this.1, ps.sg_lt this.2⟩
  have hi : ∀ q ∈ prsN n, ∀ q' ∈ prsN n, σ q = σ q' → q = q' := fun q hq q' hq' e => by
    have h1 := mem_prsN.1 hq
    have h2 := mem_prsN.1 hq'
    injection e with e1 e2
    exact Prod.ext (pm_sg_inj ps h1.1 h2.1 e1) (pm_sg_inj ps h1.2 h2.2 e2)
  have perm : ((prsN n).map σ).Perm (prsN n) := by
    refine (List.perm_ext_iff_of_nodup ?_ prsN_nodup).2 fun q => ?_
    · rw [List.Nodup, List.pairwise_map]
      exact List.Pairwise.imp_of_mem (fun {x y} hx hy hne e => hne (hi x hx y hy e)) prsN_nodup
    · constructor
      · intro h
        obtain ⟨q', h1, rfl⟩ := List.mem_map.1 h
        exact hσ q' h1
      · intro h
        obtain ⟨q', h1, h2⟩ := surj_of prsN_nodup hσ hi h
        exact List.mem_map.2 ⟨q', h1, h2⟩
  rw [← perm.countP_eq (p := fun q => (timP r c d ∘ inI) q && pp a q), List.countP_map]
  refine List.countP_congr fun q hq => ?_
  have hq := mem_prsN.1 hq
  have e1 : pp a q = pp a (σ q) := by
    rw [Bool.eq_iff_iff, hp n hb a q b1 b2 hq.1 hq.2, hp n hb a (σ q) b1 b2 (ps.sg_lt hq.1) (ps.sg_lt hq.2)]
    exact ⟨fun h => Rch.back hb.pmS ⟨b1, b2⟩ hs (i := q.1) (k := q.2) h, fun h => .step hs hq.1 hq.2 h⟩
  have e2 : timP (aft s r) c d (inI q) = timP r c d (inI (σ q)) := by
    unfold timP inI
    simp only [Int.toNat_natCast, aft_sg ps hq.1, aft_sg ps hq.2]
    rfl
  simp only [Function.comp, e1, e2]
theorem tim_wd {b : OB} {n : Nat} (hb : Okb b n) {pp : Nat × Nat → Nat × Nat → Bool} (hp : PPok b pp) {one two : Int} (ha : aplO b one two = true) (c d : Int) : ∀ {w : List Nat} {r x : List Int}, Wd b.S r x w →
    timS (prsV b one two pp) x c d = timS (prsV b one two pp) r c d
  | [], r, x, h => by rw [show x = r from h.2.symm]
  | s :: w, r, x, h => by
    rw [Wd.cons] at h
    rw [tim_wd hb hp ha c d h.2, tim_aft hb hp ha (getD_mem h.1)]
theorem ckp_now {b : OB} {n : Nat} (hb : Okb b n) {pp : Nat × Nat → Nat × Nat → Bool} (hp : PPok b pp) {r x : List Int} {one two c d : Int} (h : ckpE b r x one two c d pp = 0) : NoW b.S r x := fun w hw => by
  unfold ckpE at h
  by_cases h0 : rwsE b r x = 0
  · rw [if_neg (by omega)] at h
    by_cases h1 : aplO b one two = false ∨ colO c d = false
    · rw [if_pos h1] at h; cases h
    · rw [if_neg h1] at h
      have ha : aplO b one two = true := by
        cases e : aplO b one two with
        | true => rfl
        | false => exact absurd (.inl e) h1
      rw [if_pos (tim_wd hb hp ha c d hw).symm] at h
      cases h
  · rw [if_pos h0] at h; exact absurd h h0
def colX (t c : Int) : Int := (c + t) % 6
theorem colX_inj {t c d : Int} (h1 : 0 ≤ c ∧ c ≤ 5) (h2 : 0 ≤ d ∧ d ≤ 5) (e : colX t c = colX t d) : c = d := by
  unfold colX at e; omega
theorem colX_rng (t c : Int) : 0 ≤ colX t c ∧ colX t c ≤ 5 := by unfold colX; omega
def recX (t : Int) (r : List Int) : List Int := r.map (colX t)
theorem recX_len {t : Int} {r : List Int} : (recX t r).length = r.length := by simp [recX]
theorem recX_get {t : Int} {r : List Int} {i : Nat} (h : i < r.length) : (recX t r).getD i 0 = colX t (r.getD i 0) := by
  rw [getD_I (by rw [recX_len]; exact h), getD_I h]; simp [recX]
theorem recX_inj {t : Int} : ∀ {r x : List Int}, (∀ c ∈ r, 0 ≤ c ∧ c ≤ 5) → (∀ c ∈ x, 0 ≤ c ∧ c ≤ 5) → recX t r = recX t x → r = x
  | [], [], _, _, _ => rfl
  | [], _ :: _, _, _, h => by simp [recX] at h
  | _ :: _, [], _, _, h => by simp [recX] at h
  | c :: r, d :: x, h1, h2, h => by
    simp only [recX, List.map_cons, List.cons.injEq] at h
    have e := colX_inj (h1 c (by simp)) (h2 d (by simp)) h.1
    subst e
    rw [recX_inj (fun c hc => h1 c (by simp [hc])) (fun c hc => h2 c (by simp [hc])) h.2]
theorem recX_aft {n : Nat} {t : Int} {s r : List Int} (hs : Pm n s) (hr : r.length = n) : aft s (recX t r) = recX t (aft s r) := by
  refine ext_getD (by rw [aft_len, recX_len, aft_len]) fun i hi => ?_
  rw [aft_len, hs.len] at hi
  rw [aft_sg hs hi, recX_get (by rw [hr]; exact hs.sg_lt hi), recX_get (by rw [aft_len, hs.len]; exact hi), aft_sg hs hi]
theorem rowO_recX {b : OB} {n : Nat} (hb : Okb b n) {t : Int} {r : List Int} (h : rowO b r = true) : rowO b (recX t r) = true :=
  rowO_of hb (by rw [recX_len]; exact rowO_len hb h) fun x hx => by
    obtain ⟨c, _, rfl⟩ := List.mem_map.1 hx
    exact colX_rng t c
section
variable {n : Nat} {t : Int} {S : List (List Int)}
theorem recX_allS (hS : PmS n S) : ∀ {w : List Nat} {r : List Int}, (∀ s ∈ w, s < S.length) → r.length = n → allS S w (recX t r) = recX t (allS S w r)
  | [], _, _, _ => rfl
  | s :: w, r, hw, hr => by
    have ps := hS.at (hw s (by simp))
    show allS S w (aft (S.getD s []) (recX t r)) = recX t (allS S w (aft (S.getD s []) r))
    rw [recX_aft ps hr]
    exact recX_allS hS (fun u hu => hw u (by simp [hu])) (by rw [aft_len]; exact ps.len)
def Col5 (r : List Int) : Prop := ∀ c ∈ r, 0 ≤ c ∧ c ≤ 5
theorem Col5.aft (hS : PmS n S) {r : List Int} (hr : r.length = n) (h : Col5 r) {s : Nat} (hs : s < S.length) : Col5 (aft (S.getD s []) r) := fun x hx => by
  have := aft_col (hS.at hs).rng hr (C := plcL 6) (fun y hy => plc_mem.2 (by have := h y hy; omega)) x hx
  have := plc_mem.1 this
  omega
theorem Col5.allS (hS : PmS n S) {r : List Int} (hr : r.length = n) (h : Col5 r) {w : List Nat} (hw : ∀ s ∈ w, s < S.length) : Col5 (allS S w r) := fun x hx => by
  have := allS_col hS hw hr (C := plcL 6) (fun y hy => plc_mem.2 (by have := h y hy; omega)) x hx
  have := plc_mem.1 this
  omega
theorem recX_wd (hS : PmS n S) {r x : List Int} (hr : r.length = n) (h1 : Col5 r) (h2 : Col5 x) {w : List Nat} : Wd S (recX t r) (recX t x) w ↔ Wd S r x w := by
  constructor
  · rintro ⟨a1, a2⟩
    rw [recX_allS hS a1 hr] at a2
    exact ⟨a1, recX_inj (h1.allS hS hr a1) h2 a2⟩
  · rintro ⟨a1, a2⟩
    exact ⟨a1, by rw [recX_allS hS a1 hr, a2]⟩
theorem recX_now (hS : PmS n S) {r x : List Int} (hr : r.length = n) (h1 : Col5 r) (h2 : Col5 x) : NoW S (recX t r) (recX t x) ↔ NoW S r x :=
  forall_congr' fun w => not_congr (recX_wd hS hr h1 h2)
theorem recX_dist (hS : PmS n S) {r x : List Int} (hr : r.length = n) (h1 : Col5 r) (h2 : Col5 x) {d : Nat} : Dist S (recX t r) (recX t x) d ↔ Dist S r x d := by
  unfold Dist
  simp only [recX_wd hS hr h1 h2]
theorem recX_best (hS : PmS n S) {r x : List Int} (hr : r.length = n) (h1 : Col5 r) (h2 : Col5 x) {d : Nat} {w : List Nat} : IsBest S d (recX t r) (recX t x) w ↔ IsBest S d r x w := by
  unfold IsBest
  simp only [recX_wd hS hr h1 h2]
theorem recX_cnt (hS : PmS n S) {x : List Int} (h2 : Col5 x) : ∀ (d : Nat) {r : List Int}, r.length = n → Col5 r → cntW S d (recX t r) (recX t x) = cntW S d r x
  | 0, r, hr, h1 => by
    simp only [cntW]
    by_cases e : r = x
    · rw [if_pos e, if_pos (by rw [e])]
    · rw [if_neg e, if_neg (fun h => e (recX_inj h1 h2 h))]
  | d + 1, r, hr, h1 => by
    simp only [cntW]
    have key : ∀ L : List (List Int), (∀ s ∈ L, s ∈ S) → sumL (fun s => cntW S d (aft s (recX t r)) (recX t x)) L = sumL (fun s => cntW S d (aft s r) x) L := by
      intro L
      induction L with
      | nil => intro _; rfl
      | cons s L ih =>
        intro hL
        have ps := hS s (hL s (by simp))
        simp only [sumL]
        rw [ih (fun u hu => hL u (by simp [hu])), recX_aft ps hr]
        have c5 : Col5 (aft s r) := fun y hy => by
          have := aft_col ps.rng hr (C := plcL 6) (fun y hy => plc_mem.2 (by have := h1 y hy; omega)) y hy
          have := plc_mem.1 this
          omega
        rw [recX_cnt hS h2 d (by rw [aft_len]; exact ps.len) c5]
    exact key S fun s hs => hs
theorem recX_over (hS : PmS n S) {r x : List Int} (hr : r.length = n) (h1 : Col5 r) (h2 : Col5 x) {d s : Nat} (hs : s < S.length) : Over S (recX t r) (recX t x) d s ↔ Over S r x d s := by
  have ps := hS.at hs
  constructor
  · rintro ⟨y', m, m', a1, a2, a3⟩
    obtain ⟨⟨w, hw, _⟩, _⟩ := id a1
    have ey : y' = recX t (allS S w r) := by rw [← hw.2, recX_allS hS hw.1 hr]
    have ly := allS_len hS hw.1 hr
    have cy := h1.allS hS hr hw.1
    subst ey
    rw [recX_aft ps ly] at a2
    exact ⟨allS S w r, m, m', (recX_dist hS hr h1 cy).1 a1, (recX_dist hS (by rw [aft_len]; exact ps.len) (cy.aft hS ly hs) h2).1 a2, a3⟩
  · rintro ⟨y, m, m', a1, a2, a3⟩
    obtain ⟨⟨w, hw, _⟩, _⟩ := id a1
    have ly : y.length = n := by rw [← hw.2]; exact allS_len hS hw.1 hr
    have cy : Col5 y := by rw [← hw.2]; exact h1.allS hS hr hw.1
    refine ⟨recX t y, m, m', (recX_dist hS hr h1 cy).2 a1, ?_, a3⟩
    rw [recX_aft ps ly]
    exact (recX_dist hS (by rw [aft_len]; exact ps.len) (cy.aft hS ly hs) h2).2 a2
end
theorem wtO_pm {b : OB} {n : Nat} (hb : Okb b n) (s : Nat) : PmS n (wtO b s).S := fun l hl => by
  unfold OB.S wtO at hl
  obtain ⟨p, hp, rfl⟩ := List.mem_map.1 hl
  exact hb.pm p (List.mem_of_mem_eraseIdx hp)
section
variable {b : OB} {n : Nat} {t : Int} {r x : List Int}
theorem ansB_rec (hb : Okb b n) (h1 : rowO b r = true) (h2 : rowO b x = true) {l : List Int} {e : Int} (h : AnsB b r x l e) : AnsB b (recX t r) (recX t x) l e := by
  have lr := rowO_len hb h1
  have c1 : Col5 r := rowO_col h1
  have c2 : Col5 x := rowO_col h2
  rcases h with ⟨h0, _⟩ | ⟨_, ⟨nw, rfl, rfl⟩ | ⟨d, w, hd, hw, rfl, rfl⟩⟩
  · exact absurd (rws_of hb h1 h2) h0
  · exact .inr ⟨rws_of hb (rowO_recX hb h1) (rowO_recX hb h2), .inl ⟨(recX_now hb.pmS lr c1 c2).2 nw, rfl, rfl⟩⟩
  · exact .inr ⟨rws_of hb (rowO_recX hb h1) (rowO_recX hb h2), .inr ⟨d, w, (recX_dist hb.pmS lr c1 c2).2 hd, (recX_best hb.pmS lr c1 c2).2 hw, rfl, rfl⟩⟩
theorem ansC_rec (hb : Okb b n) (h1 : rowO b r = true) (h2 : rowO b x = true) {v e : Int} (h : AnsC b r x v e) : AnsC b (recX t r) (recX t x) v e := by
  have lr := rowO_len hb h1
  have c1 : Col5 r := rowO_col h1
  have c2 : Col5 x := rowO_col h2
  have rw0 := rws_of hb (rowO_recX (t := t) hb h1) (rowO_recX (t := t) hb h2)
  rcases h with ⟨h0, _⟩ | ⟨_, ⟨nw, rfl, rfl⟩ | ⟨d, hd, h⟩⟩
  · exact absurd (rws_of hb h1 h2) h0
  · exact .inr ⟨rw0, .inl ⟨(recX_now hb.pmS lr c1 c2).2 nw, rfl, rfl⟩⟩
  · refine .inr ⟨rw0, .inr ⟨d, (recX_dist hb.pmS lr c1 c2).2 hd, ?_⟩⟩
    rw [recX_cnt hb.pmS c2 d lr c1]
    exact h
theorem ansK_rec (hb : Okb b n) (h1 : rowO b r = true) (h2 : rowO b x = true) {s k e : Int} (h : AnsK b r x s k e) : AnsK b (recX t r) (recX t x) s k e := by
  have lr := rowO_len hb h1
  have c1 : Col5 r := rowO_col h1
  have c2 : Col5 x := rowO_col h2
  have rw0 := rws_of hb (rowO_recX (t := t) hb h1) (rowO_recX (t := t) hb h2)
  rcases h with ⟨h0, _⟩ | ⟨_, h | ⟨hs, ⟨nw, rfl, rfl⟩ | ⟨d, hd, rfl, h⟩⟩⟩
  · exact absurd (rws_of hb h1 h2) h0
  · exact .inr ⟨rw0, .inl h⟩
  · exact .inr ⟨rw0, .inr ⟨hs, .inl ⟨(recX_now hb.pmS lr c1 c2).2 nw, rfl, rfl⟩⟩⟩
  · refine .inr ⟨rw0, .inr ⟨hs, .inr ⟨d, (recX_dist hb.pmS lr c1 c2).2 hd, rfl, ?_⟩⟩⟩
    rw [recX_dist (wtO_pm hb s.toNat) lr c1 c2, recX_over hb.pmS lr c1 c2 (by rw [S_len]; omega)]
    exact h
theorem ckp_rec (hb : Okb b n) (h1 : rowO b r = true) (h2 : rowO b x = true) {one two c d : Int} {pp : Nat × Nat → Nat × Nat → Bool} (hc : 0 ≤ c ∧ c ≤ 5) (hd : 0 ≤ d ∧ d ≤ 5) :
    ckpE b (recX t r) (recX t x) one two (colX t c) (colX t d) pp = ckpE b r x one two c d pp := by
  have r1 := rws_of hb h1 h2
  have r2 := rws_of hb (rowO_recX (t := t) hb h1) (rowO_recX (t := t) hb h2)
  have k1 : colO c d = true := decide_eq_true ⟨hc.1, hc.2, hd.1, hd.2⟩
  have k2 : colO (colX t c) (colX t d) = true := decide_eq_true ⟨(colX_rng t c).1, (colX_rng t c).2, (colX_rng t d).1, (colX_rng t d).2⟩
  have tim : ∀ {y : List Int}, rowO b y = true → timS (prsV b one two pp) (recX t y) (colX t c) (colX t d) = timS (prsV b one two pp) y c d := fun {y} hy => by
    have ly := rowO_len hb hy
    have cy := rowO_col hy
    unfold timS
    refine List.countP_congr fun q hq => ?_
    unfold prsV prsL at hq
    obtain ⟨p, hp, rfl⟩ := List.mem_map.1 hq
    have hp := mem_prsN.1 (List.mem_filter.1 hp).1
    rw [plc_of hb] at hp
    have g : ∀ (i : Nat) (v : Int), i < n → (0 ≤ v ∧ v ≤ 5) → ((recX t y).getD i 0 = colX t v ↔ y.getD i 0 = v) := fun i v hi hv => by
      rw [recX_get (by omega)]
      exact ⟨fun e => colX_inj (cy _ (getD_mem (by omega))) hv e, fun e => by rw [e]⟩
    unfold timP inI
    simp only [Int.toNat_natCast, Bool.and_eq_true, decide_eq_true_iff]
    rw [g p.1 c hp.1 hc, g p.2 d hp.2 hd]
  unfold ckpE
  rw [if_neg (show ¬ rwsE b (recX t r) (recX t x) ≠ 0 by omega), if_neg (show ¬ rwsE b r x ≠ 0 by omega), k1, k2, tim h1, tim h2]
end
end Go.AM

set_option linter.unusedSimpArgs false
set_option linter.unusedVariables false
namespace Go.AM
open Go.RowKit Go.Proofs
theorem trn_row {b : OB} {n : Nat} (hb : Okb b n) {r : List Int} (h : rowO b r = true) (t : Int) : rowO b (trnG r t) = true := by
  have lr := rowO_len hb h
  refine rowO_of hb (by rw [trnG_len]; exact lr) fun x hx => ?_
  obtain ⟨i, hi, rfl⟩ := List.mem_map.1 hx
  have hi := List.mem_range.1 hi
  exact rowO_col h _ (getD_mem (Nat.mod_lt _ (by omega)))
theorem AccR.purI {hp x l} (h : AccR hp x l) : ∃ ids, purify (hpf hp) x = some (Ls l.isEmpty l, ids) ∧ ∀ i ∈ ids, rid x = some i := by
  rcases h with ⟨rfl, rfl⟩ | ⟨id, rfl, h1, h2⟩
  · exact ⟨[], rfl, by simp⟩
  · refine ⟨[id], ?_, by simp [rid]⟩
    have e : l.isEmpty = false := by simpa using h1
    rw [e]; exact ms_pur h2 rfl
set_option maxHeartbeats 8000000 in
theorem lawOrderRecoloured (b : OB) (u v : List Int) (t c s p0 p1 p2 p3 : Int) (hb : OBK b) (hu : UOK u) (hv : UOK v) (ht : 0 ≤ t ∧ t ≤ 255) (hc : 0 ≤ c ∧ c ≤ 255) (hsk : 0 ≤ s ∧ s ≤ 255) (hp : Q4OK p0 p1 p2 p3) :
    PureOK Tryz.prog n_l_OrderRecoloured [On false b, Us false u, Us false v, U t, U c, U s, .agg [U p0, U p1, U p2, U p3]] (B true) := by
  refine pure_of (callW_aws func_l_OrderRecoloured form_l_OrderRecoloured res_l_OrderRecoloured (by show 7 ≤ _; decide) ?_)
  simp only [G_l_OrderRecoloured]
  refine aws_step ?_
  simp -implicitDefEqProofs (disch := omega) [wrap_id]
  refine aws_step ?_
  simp -implicitDefEqProofs (disch := omega) [wrap_id]
  refine callW_pure rfl (l_fine_ok false b hb) ?_
  cases hf : finO b with
  | false =>
    simp -implicitDefEqProofs (disch := omega) [wrap_id]
    exact callW_pure rfl works_ok (by simp)
  | true =>
  obtain ⟨n, ok, z1, z2⟩ := fin_ok hf
  simp -implicitDefEqProofs (disch := omega) [wrap_id]
  refine bsl_of (ys := [Us false u, Us false v]) rfl rfl ?_
  simp -implicitDefEqProofs (disch := omega) [wrap_id, zrep]
  refine callW_pure (ys := [UUs true [(false, u), (false, v)]]) (ids := []) rfl (l_short_ok true [(false, u), (false, v)] (by simp) (by simp; exact ⟨hu.1, hv.1⟩)) ?_
  cases hs : ([(false, u), (false, v)].all fun p : Bool × List Int => decide (p.2.length ≤ 40)) with
  | false =>
    simp -implicitDefEqProofs (disch := omega) [wrap_id]
    exact callW_pure rfl works_ok (by simp)
  | true =>
  simp -implicitDefEqProofs (disch := omega) [wrap_id]
  have hl : u.length ≤ 40 ∧ v.length ≤ 40 := by simpa using hs
  have h2 := ok.lo
  have h6 := ok.hi
  have lf : (rowG n u).length = n := rowG_len
  have of : rowO b (rowG n u) = true := rowO_of ok lf (rowG_col hu.2)
  have lL := strG_LsO (b := b) hv.2
  have ll : (strG b.s.length v).length ≤ 40 := Nat.le_trans strG_len hl.2
  have R1 := l_Row_ok false false ok u (by omega) hu.2
  have R2 := l_Strokes_ok false false ok v (by omega) hv.2
  generalize rowG n u = r at lf of R1
  generalize strG b.s.length v = l at lL ll R2
  refine aws_step ?_
  simp -implicitDefEqProofs (disch := omega) [wrap_id]
  refine callW_pure rfl R1 ?_
  simp -implicitDefEqProofs (disch := omega) [wrap_id]
  refine aws_step ?_
  simp -implicitDefEqProofs (disch := omega) [wrap_id]
  refine pureW_of rfl R2 ?_
  simp -implicitDefEqProofs (disch := omega) [wrap_id, cmp2, nthT]
  have lX := allI_len ok lL lf
  have oX := rowO_allI ok lL of
  refine pureW_of rfl (r_All_ok false _ _ ok r l lf lL (by omega)) ?_
  simp -implicitDefEqProofs (disch := omega) [wrap_id, cmp2, nthT]
  have oY := trn_row ok oX t
  refine pureW_of rfl (l_turned_ok false (allI b l r) t (by omega) ht.1 ht.2) ?_
  generalize trnG (allI b l r) t = y at oY
  have lY := rowO_len ok oY
  simp -implicitDefEqProofs (disch := omega) [wrap_id, cmp2, nthT]
  have ir : r.isEmpty = false := ne_emp lf (by omega)
  have iy : y.isEmpty = false := ne_emp lY (by omega)
  simp only [ir, iy]
  refine aws_step ?_
  simp -implicitDefEqProofs (disch := omega) [wrap_id]
  refine aws_step ?_
  simp -implicitDefEqProofs (disch := omega) [wrap_id]
  have X1 : (recX c r).length = n := by rw [recX_len]; exact lf
  have Y1 : (recX c y).length = n := by rw [recX_len]; exact lY
  have hP := ok.P
  refine loop_eq (fun q : Nat × AV × AV × List HObj => ⟨[(4, U c), (5, U s), (7, .ref 0 0), (13, .ref 1 0), (15, Ls false r), (16, Ls false y), (17, q.2.1), (18, q.2.2.1), (19, I (q.1 : Int))], q.2.2.2⟩)
    (fun q => q.1 ≤ n ∧ AccR q.2.2.2 q.2.1 ((recX c r).take q.1) ∧ AccR q.2.2.2 q.2.2.1 ((recX c y).take q.1) ∧ nthH q.2.2.2 0 = some (.cells [I b.P, LLs false b.s]) ∧ nthH q.2.2.2 1 = some (.cells [U p0, U p1, U p2, U p3]) ∧ (∀ j, rid q.2.1 = some j → 1 < j ∧ j < q.2.2.2.length) ∧ (∀ j, rid q.2.2.1 = some j → 1 < j ∧ j < q.2.2.2.length) ∧ ∀ j, rid q.2.1 = some j → rid q.2.2.1 ≠ some j) (fun q => n - q.1)
    (0, .sl true 0 [], .sl true 0 [], [.cells [I b.P, LLs false b.s], .cells [U p0, U p1, U p2, U p3]]) ⟨Nat.zero_le _, .inl ⟨rfl, by simp⟩, .inl ⟨rfl, by simp⟩, rfl, rfl, fun j h => (by cases h), fun j h => (by cases h), fun j h => (by cases h)⟩ rfl ?_
  rintro ⟨i, xa, ya, H⟩ ⟨c1, c2, c3, c4, c5, c6, c7, c8⟩
  simp only at c1 c2 c3 c4 c5 c6 c7 c8 ⊢
  have l0 := nthH_lt c4
  have l1 := nthH_lt c5
  refine hideK' fun K0 hK0 => ?_
  simp -implicitDefEqProofs (disch := omega) [wrap_id, c4, ldr_some, hP]
  refine c_split (fun hcc => ?_) (fun hcc => ?_)
  · have hi : i < n := by simpa using hcc
    have ix : ((i : Int) + 1) = ((i + 1 : Nat) : Int) := by omega
    have ri : i < r.length := by omega
    have yi : i < y.length := by omega
    have rc := rowO_col of _ (List.getElem_mem ri)
    have yc := rowO_col oY _ (List.getElem_mem yi)
    have tx : (recX c r).take (i + 1) = (recX c r).take i ++ [(r[i] + c) % 6] := by
      rw [List.take_succ_eq_append_getElem (by omega)]; simp [recX, colX]
    have ty : (recX c y).take (i + 1) = (recX c y).take i ++ [(y[i] + c) % 6] := by
      rw [List.take_succ_eq_append_getElem (by omega)]; simp [recX, colX]
    have lx : ((recX c r).take i).length = i := by rw [List.length_take]; omega
    have ly : ((recX c y).take i).length = i := by rw [List.length_take]; omega
    simp -implicitDefEqProofs (disch := omega) [wrap_id, cells_ls, ri, yi]
    refine callW_pure rfl (l_other_ok r[i] c rc.1 rc.2 hc.1 hc.2) ?_
    simp -implicitDefEqProofs (disch := omega) [wrap_id]
    refine bsl_of (ys := [I ((r[i] + c) % 6)]) rfl rfl ?_
    simp -implicitDefEqProofs (disch := omega) [wrap_id, zrep]
    refine app_row c2.row (by omega) fun ws w1 w2 w3 => ?_
    have a4 := (w1 0 l0 (fun e => by have := c6 0 e; omega)).trans c4
    have a5 := (w1 1 l1 (fun e => by have := c6 1 e; omega)).trans c5
    have a3 : AccR (writeL H ws) ya ((recX c y).take i) := c3.mono fun j hj => w1 j (c7 j hj).2 (fun e => c8 j e hj)
    generalize hH1 : writeL H ws = H1 at *
    simp -implicitDefEqProofs (disch := omega) [wrap_id, cells_ls, ri, yi, lx, hH1]
    refine callW_pure rfl (l_other_ok y[i] c yc.1 yc.2 hc.1 hc.2) ?_
    simp -implicitDefEqProofs (disch := omega) [wrap_id]
    refine bsl_of (ys := [I ((y[i] + c) % 6)]) rfl rfl ?_
    simp -implicitDefEqProofs (disch := omega) [wrap_id, zrep]
    refine app_row a3.row (by omega) fun ws2 v1 v2 v3 => ?_
    have b4 := (v1 0 (by omega) (fun e => by have := c7 0 e; omega)).trans a4
    have b5 := (v1 1 (by omega) (fun e => by have := c7 1 e; omega)).trans a5
    have b3 := (v1 H.length w2 (fun e => by have := (c7 _ e).2; omega)).trans w3
    generalize hH2 : writeL H1 ws2 = H2 at *
    simp -implicitDefEqProofs (disch := omega) [wrap_id, ly, hH2]
    rw [hK0]
    refine next_eq (i + 1, .ms H.length 0 (i + 1) 1, .ms H1.length 0 (i + 1) 1, H2) ⟨by simp only; omega, .inr ⟨H.length, ?_, ?_, ?_⟩, .inr ⟨H1.length, ?_, ?_, ?_⟩, b4, b5, ?_, ?_, ?_⟩ (by simp only; omega) (by simp only [ix])
    · rw [List.length_take, Nat.min_eq_left (by omega)]
    · simp only [tx]; simp
    · simp only [tx]; exact b3
    · rw [List.length_take, Nat.min_eq_left (by omega)]
    · simp only [ty]; simp
    · simp only [ty]; exact v3
    · simp only [rid]; intro j hj; injection hj with hj; omega
    · simp only [rid]; intro j hj; injection hj with hj; omega
    · simp only [rid]; intro j hj hj2; injection hj with hj; injection hj2 with hj2; omega
  · have hi : i = n := by simp at hcc; omega
    subst hi
    subst hK0
    rw [List.take_of_length_le (by omega)] at c2 c3
    simp -implicitDefEqProofs (disch := omega) [wrap_id]
    obtain ⟨ix, px, qx⟩ := c2.purI
    obtain ⟨iy2, py, qy⟩ := c3.purI
    rw [ne_emp X1 (by omega)] at px
    rw [ne_emp Y1 (by omega)] at py
    have idlt : ∀ j ∈ ix ++ iy2, 1 < j ∧ j < H.length := fun j hj => by
      rcases List.mem_append.1 hj with hj | hj
      · exact c6 j (qx j hj)
      · exact c7 j (qy j hj)
    refine aws_le (le_freeze (ids := ix ++ iy2) (fr' := [(4, U c), (5, U s), (7, .ref 0 0), (13, .ref 1 0), (15, Ls false r), (16, Ls false y), (17, Ls false (recX c r)), (18, Ls false (recX c y)), (19, I (i : Int)), (61, B false)]) ?_ ?_) ?_
    · exact .keep (.keep (.keep (.keep (.keep (.keep (.new px (fun j hj => List.mem_append_left _ hj) (.new py (fun j hj => List.mem_append_right _ hj) .refl)))))))
    · intro j hj
      rcases List.mem_append.1 hj with hj | hj
      · rcases c2 with ⟨rfl, _⟩ | ⟨k, rfl, _, hk⟩
        · have := qx j hj; cases this
        · have := qx j hj; injection this with e; subst e; exact ⟨_, by rw [hpf_nthH]; exact hk⟩
      · rcases c3 with ⟨rfl, _⟩ | ⟨k, rfl, _, hk⟩
        · have := qy j hj; cases this
        · have := qy j hj; injection this with e; subst e; exact ⟨_, by rw [hpf_nthH]; exact hk⟩
    have d4 := (nthH_gone (j := 0) (fun j hj => (idlt j hj).2) (fun hj => by have := (idlt 0 hj).1; omega)).trans c4
    have d5 := (nthH_gone (j := 1) (fun j hj => (idlt j hj).2) (fun hj => by have := (idlt 1 hj).1; omega)).trans c5
    generalize writeL H (gones (ix ++ iy2)) = G at d4 d5 ⊢
    have l0 := nthH_lt d4
    have l1 := nthH_lt d5
    have oxr := rowO_recX (t := c) ok of
    have oxy := rowO_recX (t := c) ok oY
    obtain ⟨pp, hpp⟩ := pp_ex b
    obtain ⟨bl, be, hB, hBl⟩ := ansB_ex b r y
    obtain ⟨cv, ce, hC⟩ := ansC_ex b r y
    have hB2 := ansB_rec (t := c) ok of oY hB
    have hC2 := ansC_rec (t := c) ok of oY hC
    generalize hxr : recX c r = xr at *
    generalize hxy : recX c y = xy at *
    obtain ⟨⟨g0, g1⟩, g2, g3⟩ := hp
    have n0 : (i : Int) ≠ 0 := by omega
    refine aws_of ?_
    simp -implicitDefEqProofs (disch := omega) [wrap_id, d4]
    have P1 := fun (q0 q1 q2 q3 : Int) => o_CheckPair_ok false false false b z1 r y (by omega) (by omega) q0 q1 q2 q3 hpp
    have lxr : xr.length = i := X1
    have lxy : xy.length = i := Y1
    have P2 := fun (q0 q1 q2 q3 : Int) => o_CheckPair_ok false false false b z1 xr xy (by omega) (by omega) q0 q1 q2 q3 hpp
    have em : ∀ q : Int, 0 ≤ q → 0 ≤ q.tmod 6 ∧ q.tmod 6 ≤ 5 := fun q hq => tmod6 hq
    obtain ⟨m2, m3⟩ := And.intro (em p2 g2.1) (em p3 g3.1)
    have hkc := ckp_rec (t := c) ok of oY (one := p0.tmod i) (two := p1.tmod i) (c := p2.tmod 6) (d := p3.tmod 6) (pp := pp) m2 m3
    rw [hxr, hxy] at hkc
    unfold colX at hkc
    have hkn : ckpE b r y (p0.tmod i) (p1.tmod i) (p2.tmod 6) (p3.tmod 6) pp = 0 → be = 13 := fun h0 => by
      have nw := ckp_now ok hpp h0
      rcases hB with ⟨h1, _⟩ | ⟨_, ⟨_, _, h1⟩ | ⟨d, w, ⟨⟨w', hw', _⟩, _⟩, _⟩⟩
      · exact absurd (rws_of ok of oY) h1
      · exact h1
      · exact absurd hw' (nw w')
    refine c_split (fun hk => ?_) (fun hk => ?_)
    · have hk0 : (b.s.length : Int) ≠ 0 := by simp at hk; omega
      obtain ⟨kd, ke, hK⟩ := ansK_ex b r y (s.tmod b.s.length)
      have hK2 := ansK_rec (t := c) ok of oY hK
      rw [hxr, hxy] at hK2
      simp -implicitDefEqProofs (disch := omega) [wrap_id, d4]
      refine callW_pure rfl (o_Best_ok false false false b z1 r y (by omega) (by omega) hB) ?_
      simp -implicitDefEqProofs (disch := omega) [wrap_id, d4]
      refine callW_pure rfl (o_Best_ok false false false b z1 xr xy (by omega) (by omega) hB2) ?_
      simp -implicitDefEqProofs (disch := omega) [wrap_id, d4]
      refine callW_pure rfl (o_Count_ok false false false b z1 r y (by omega) (by omega) hC) ?_
      simp -implicitDefEqProofs (disch := omega) [wrap_id, d4]
      refine callW_pure rfl (o_Count_ok false false false b z1 xr xy (by omega) (by omega) hC2) ?_
      simp -implicitDefEqProofs (disch := omega) [wrap_id, d4]
      refine callW_pure rfl (o_Kind_ok false false false b z1 r y (by omega) (by omega) (s.tmod b.s.length) hK) ?_
      simp -implicitDefEqProofs (disch := omega) [wrap_id, d4]
      refine callW_pure rfl (o_Kind_ok false false false b z1 xr xy (by omega) (by omega) (s.tmod b.s.length) hK2) ?_
      simp -implicitDefEqProofs (disch := omega) [wrap_id, d4]
      refine callW_pure rfl (l_ints_ok false false bl bl (by omega) (by omega)) ?_
      rw [decide_eq_true rfl]
      simp -implicitDefEqProofs (disch := omega) [wrap_id, d4]
      simp -implicitDefEqProofs (disch := omega) [wrap_id, d4, d5, hP, cmp2, nthT]
      refine pureW_of rfl (l_pair_ok (p0.tmod i) (p1.tmod i) (p2.tmod 6) (p3.tmod 6)) ?_
      simp -implicitDefEqProofs (disch := omega) [wrap_id, d4, d5, hP, cmp2, nthT]
      have gn1 : ¬ G.length = 1 := by omega
      have gn0 : ¬ G = [] := fun e => by rw [e] at l0; simp at l0
      refine ⟨⟨gn1, gn0, gn1, gn0, gn1⟩, ?_⟩
      obtain ⟨a1, a2, a3⟩ := app_new (H := G) (o := HObj.cells [I (p0.tmod i), I (p1.tmod i), I (p2.tmod 6), I (p3.tmod 6)])
      have e4 := (a1 0 l0).trans d4
      generalize G ++ [HObj.cells [I (p0.tmod i), I (p1.tmod i), I (p2.tmod 6), I (p3.tmod 6)]] = G1 at a2 a3 e4 ⊢
      refine pureW_of rfl (l_other_ok (p2.tmod 6) c m2.1 m2.2 hc.1 hc.2) ?_
      simp -implicitDefEqProofs (disch := omega) [wrap_id, a2, cmp2, nthT]
      refine pureW_of rfl (l_other_ok (p3.tmod 6) c m3.1 m3.2 hc.1 hc.2) ?_
      simp -implicitDefEqProofs (disch := omega) [wrap_id, a2, cmp2, nthT]
      refine pureW_of rfl (l_pair_ok (p0.tmod i) (p1.tmod i) ((p2.tmod 6 + c) % 6) ((p3.tmod 6 + c) % 6)) ?_
      simp -implicitDefEqProofs (disch := omega) [wrap_id, a2, cmp2, nthT]
      obtain ⟨b1, b2, b3⟩ := app_new (H := G1) (o := HObj.cells [I (p0.tmod i), I (p1.tmod i), I ((p2.tmod 6 + c) % 6), I ((p3.tmod 6 + c) % 6)])
      have f4 := (b1 0 (by omega)).trans e4
      have f2 := (b1 G.length (by omega)).trans a2
      refine ⟨by omega, ?_⟩
      generalize G1 ++ [HObj.cells [I (p0.tmod i), I (p1.tmod i), I ((p2.tmod 6 + c) % 6), I ((p3.tmod 6 + c) % 6)]] = G2 at b2 b3 f4 f2 ⊢
      simp -implicitDefEqProofs (disch := omega) [wrap_id, f4, f2, b2, ldr_some]
      refine callW_pure rfl (P1 (p0.tmod i) (p1.tmod i) (p2.tmod 6) (p3.tmod 6)) ?_
      simp -implicitDefEqProofs (disch := omega) [wrap_id, f4, f2, b2, ldr_some]
      refine callW_pure rfl (P2 (p0.tmod i) (p1.tmod i) ((p2.tmod 6 + c) % 6) ((p3.tmod 6 + c) % 6)) ?_
      rw [hkc]
      generalize ckpE b r y (p0.tmod i) (p1.tmod i) (p2.tmod 6) (p3.tmod 6) pp = kk at hkn ⊢
      simp -implicitDefEqProofs (disch := omega) [wrap_id, f4, f2, b2, ldr_some]
      by_cases hq : kk = 0
      · have k0 := hkn hq
        subst k0
        have hq' : (kk != 0) = false := by simp [hq]
        simp -implicitDefEqProofs (disch := omega) [wrap_id, hq']
        exact callW_pure rfl works_ok (by simp -implicitDefEqProofs (disch := omega) [wrap_id])
      · have hq' : (kk != 0) = true := by simp [hq]
        simp -implicitDefEqProofs (disch := omega) [wrap_id, hq']
        exact callW_pure rfl works_ok (by simp -implicitDefEqProofs (disch := omega) [wrap_id])
    · skip
      obtain ⟨kd, ke, hK⟩ := ansK_ex b r y (s)
      have hK2 := ansK_rec (t := c) ok of oY hK
      rw [hxr, hxy] at hK2
      simp -implicitDefEqProofs (disch := omega) [wrap_id, d4]
      refine callW_pure rfl (o_Best_ok false false false b z1 r y (by omega) (by omega) hB) ?_
      simp -implicitDefEqProofs (disch := omega) [wrap_id, d4]
      refine callW_pure rfl (o_Best_ok false false false b z1 xr xy (by omega) (by omega) hB2) ?_
      simp -implicitDefEqProofs (disch := omega) [wrap_id, d4]
      refine callW_pure rfl (o_Count_ok false false false b z1 r y (by omega) (by omega) hC) ?_
      simp -implicitDefEqProofs (disch := omega) [wrap_id, d4]
      refine callW_pure rfl (o_Count_ok false false false b z1 xr xy (by omega) (by omega) hC2) ?_
      simp -implicitDefEqProofs (disch := omega) [wrap_id, d4]
      refine callW_pure rfl (o_Kind_ok false false false b z1 r y (by omega) (by omega) (s) hK) ?_
      simp -implicitDefEqProofs (disch := omega) [wrap_id, d4]
      refine callW_pure rfl (o_Kind_ok false false false b z1 xr xy (by omega) (by omega) (s) hK2) ?_
      simp -implicitDefEqProofs (disch := omega) [wrap_id, d4]
      refine callW_pure rfl (l_ints_ok false false bl bl (by omega) (by omega)) ?_
      rw [decide_eq_true rfl]
      simp -implicitDefEqProofs (disch := omega) [wrap_id, d4]
      simp -implicitDefEqProofs (disch := omega) [wrap_id, d4, d5, hP, cmp2, nthT]
      refine pureW_of rfl (l_pair_ok (p0.tmod i) (p1.tmod i) (p2.tmod 6) (p3.tmod 6)) ?_
      simp -implicitDefEqProofs (disch := omega) [wrap_id, d4, d5, hP, cmp2, nthT]
      have gn1 : ¬ G.length = 1 := by omega
      have gn0 : ¬ G = [] := fun e => by rw [e] at l0; simp at l0
      refine ⟨⟨gn1, gn0, gn1, gn0, gn1⟩, ?_⟩
      obtain ⟨a1, a2, a3⟩ := app_new (H := G) (o := HObj.cells [I (p0.tmod i), I (p1.tmod i), I (p2.tmod 6), I (p3.tmod 6)])
      have e4 := (a1 0 l0).trans d4
      generalize G ++ [HObj.cells [I (p0.tmod i), I (p1.tmod i), I (p2.tmod 6), I (p3.tmod 6)]] = G1 at a2 a3 e4 ⊢
      refine pureW_of rfl (l_other_ok (p2.tmod 6) c m2.1 m2.2 hc.1 hc.2) ?_
      simp -implicitDefEqProofs (disch := omega) [wrap_id, a2, cmp2, nthT]
      refine pureW_of rfl (l_other_ok (p3.tmod 6) c m3.1 m3.2 hc.1 hc.2) ?_
      simp -implicitDefEqProofs (disch := omega) [wrap_id, a2, cmp2, nthT]
      refine pureW_of rfl (l_pair_ok (p0.tmod i) (p1.tmod i) ((p2.tmod 6 + c) % 6) ((p3.tmod 6 + c) % 6)) ?_
      simp -implicitDefEqProofs (disch := omega) [wrap_id, a2, cmp2, nthT]
      obtain ⟨b1, b2, b3⟩ := app_new (H := G1) (o := HObj.cells [I (p0.tmod i), I (p1.tmod i), I ((p2.tmod 6 + c) % 6), I ((p3.tmod 6 + c) % 6)])
      have f4 := (b1 0 (by omega)).trans e4
      have f2 := (b1 G.length (by omega)).trans a2
      refine ⟨by omega, ?_⟩
      generalize G1 ++ [HObj.cells [I (p0.tmod i), I (p1.tmod i), I ((p2.tmod 6 + c) % 6), I ((p3.tmod 6 + c) % 6)]] = G2 at b2 b3 f4 f2 ⊢
      simp -implicitDefEqProofs (disch := omega) [wrap_id, f4, f2, b2, ldr_some]
      refine callW_pure rfl (P1 (p0.tmod i) (p1.tmod i) (p2.tmod 6) (p3.tmod 6)) ?_
      simp -implicitDefEqProofs (disch := omega) [wrap_id, f4, f2, b2, ldr_some]
      refine callW_pure rfl (P2 (p0.tmod i) (p1.tmod i) ((p2.tmod 6 + c) % 6) ((p3.tmod 6 + c) % 6)) ?_
      rw [hkc]
      generalize ckpE b r y (p0.tmod i) (p1.tmod i) (p2.tmod 6) (p3.tmod 6) pp = kk at hkn ⊢
      simp -implicitDefEqProofs (disch := omega) [wrap_id, f4, f2, b2, ldr_some]
      by_cases hq : kk = 0
      · have k0 := hkn hq
        subst k0
        have hq' : (kk != 0) = false := by simp [hq]
        simp -implicitDefEqProofs (disch := omega) [wrap_id, hq']
        exact callW_pure rfl works_ok (by simp -implicitDefEqProofs (disch := omega) [wrap_id])
      · have hq' : (kk != 0) = true := by simp [hq]
        simp -implicitDefEqProofs (disch := omega) [wrap_id, hq']
        exact callW_pure rfl works_ok (by simp -implicitDefEqProofs (disch := omega) [wrap_id])
end Go.AM
