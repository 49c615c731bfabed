/-
  KxCo2: texts joined: FmOF Co1 Co2 Co3 Co6 Co15 FmOL Lo1 Lo5 Lo9 Lo10 Lo14 Lo18 Lo13 Lo19. Own work.
-/
import Derived.Test.YtelokgilhpjbhaaGreatKxCo1
import Derived.Test.YtelokgilhpjbhaaGreatProg

set_option maxRecDepth 100000
namespace Go.AM
open Go.RowKit Go.Proofs
abbrev n_r_CheckBench : Nat := 24
def G_r_CheckBench : AC := (.seq (.rgn [⟨none, [(.box 1 2 (.t 0)), (.mv 2 (.k (I 0)))]⟩] [1]) (.seq (.seq (.rgn [⟨none, [(.fa 4 (.t 1) 0), (.ld 5 false 1 (.t 4)), (.bin 6 .lss (.t 5) (.k (I 2))), (.mv 7 (.t 6))]⟩, ⟨(some (7, false)), [(.fa 8 (.t 1) 0), (.ld 9 false 1 (.t 8)), (.bin 10 .gtr (.t 9) (.k (I 6)))]⟩, ⟨none, [(.pick 11 (.t 7) (.k (B true)) (.t 10))]⟩] [1, 11]) (.cond (.t 11) (.seq (.rgn [⟨none, [(.mv 2 (.k (I 2)))]⟩] [2]) .ret) .skip)) (.seq (.seq (.rgn [⟨none, [(.fa 12 (.t 1) 1), (.ld 13 false 1 (.t 12)), (.len 14 (.t 13)), (.bin 15 .gtr (.t 14) (.k (I 6)))]⟩] [1, 15]) (.cond (.t 15) (.seq (.rgn [⟨none, [(.mv 2 (.k (I 6)))]⟩] [2]) .ret) .skip)) (.seq (.seq (.rgn [⟨none, [(.mv 3 (.k (I 0)))]⟩] [1, 3]) (.block 0 (.loop (.seq (.seq (.rgn [⟨none, [(.mv 16 (.t 3)), (.fa 17 (.t 1) 1), (.ld 18 false 1 (.t 17)), (.len 19 (.t 18)), (.bin 20 .lss (.t 16) (.t 19))]⟩] [1, 3, 20]) (.cond (.t 20) .skip (.exit 0))) (.seq (.block 1 (.seq (.drw [⟨none, [(.fa 23 (.t 1) 1), (.ld 24 false 1 (.t 23)), (.mv 25 (.t 3)), (.ia 26 1 (.t 24) (.t 25)), (.ld 27 false 1 (.t 26)), (.fa 28 (.t 1) 0), (.ld 29 false 1 (.t 28)), (.call 30 77 [(.t 27), (.t 29)]), (.un 31 .not (.t 30))]⟩] [(1, 6), (4, 6)] [1, 3, 31]) (.cond (.t 31) (.seq (.rgn [⟨none, [(.mv 2 (.k (I 15)))]⟩] [2]) .ret) .skip))) (.rgn [⟨none, [(.mv 21 (.t 3)), (.bin 22 .add (.t 21) (.k (I 1))), (.mv 3 (.t 22))]⟩] [1, 3])))))) (.seq (.rgn [⟨none, [(.mv 2 (.k (I 0)))]⟩] [2]) .ret)))))
theorem func_r_CheckBench : Tryz.prog.funcs[n_r_CheckBench]? = some Tryz.f24 := Tryz.func24
theorem form_r_CheckBench : formOf Tryz.prog Tryz.f24 [2] = some G_r_CheckBench := by kernel_rfl
theorem res_r_CheckBench : resTmps Tryz.f24.results.toList = some [2] := by kernel_rfl
abbrev n_r_All : Nat := 51
def G_r_All : AC := (.seq (.rgn [⟨none, [(.box 3 2 (.t 0)), (.mv 6 (.k (.sl true 0 [])))]⟩] [1, 2, 3]) (.seq (.rgn [⟨none, [(.bsl 9 0 1 [(I 0)] []), (.mv 10 (.t 1)), (.app 11 1 8 (.t 9) (.t 10)), (.mv 7 (.t 11))]⟩] [2, 3, 7]) (.seq (.seq (.rgn [⟨none, [(.mv 8 (.k (I 0)))]⟩] [2, 3, 7, 8]) (.block 0 (.loop (.seq (.seq (.rgn [⟨none, [(.mv 12 (.t 8)), (.mv 13 (.t 2)), (.len 14 (.t 13)), (.bin 15 .lss (.t 12) (.t 14))]⟩] [2, 3, 7, 8, 15]) (.cond (.t 15) .skip (.exit 0))) (.seq (.block 1 (.drw [⟨none, [(.fa 18 (.t 3) 1), (.ld 19 false 1 (.t 18)), (.mv 20 (.t 2)), (.mv 21 (.t 8)), (.ia 22 1 (.t 20) (.t 21)), (.ld 23 false 1 (.t 22)), (.ia 24 1 (.t 19) (.t 23)), (.ld 25 false 1 (.t 24)), (.mv 26 (.t 7)), (.call 27 55 [(.t 25), (.t 26)]), (.mv 7 (.t 27))]⟩] [(1, 5)] [2, 3, 7, 8])) (.rgn [⟨none, [(.mv 16 (.t 8)), (.bin 17 .add (.t 16) (.k (I 1))), (.mv 8 (.t 17))]⟩] [2, 3, 7, 8])))))) (.seq (.rgn [⟨none, [(.mv 28 (.t 7)), (.mv 6 (.t 28))]⟩] [6]) .ret))))
theorem func_r_All : Tryz.prog.funcs[n_r_All]? = some Tryz.f51 := Tryz.func51
theorem form_r_All : formOf Tryz.prog Tryz.f51 [6] = some G_r_All := by kernel_rfl
theorem res_r_All : resTmps Tryz.f51.results.toList = some [6] := by kernel_rfl
abbrev n_r_After : Nat := 55
def G_r_After : AC := (.seq (.rgn [⟨none, [(.mv 4 (.k (.sl true 0 [])))]⟩] [0, 1]) (.seq (.rgn [⟨none, [(.mv 5 (.k (.sl true 0 [])))]⟩] [0, 1, 5]) (.seq (.seq (.rgn [⟨none, [(.mv 6 (.k (I 0)))]⟩] [0, 1, 5, 6]) (.block 0 (.loop (.seq (.seq (.rgn [⟨none, [(.mv 7 (.t 6)), (.mv 8 (.t 1)), (.len 9 (.t 8)), (.bin 10 .lss (.t 7) (.t 9))]⟩] [0, 1, 5, 6, 10]) (.cond (.t 10) .skip (.exit 0))) (.seq (.block 1 (.rgn [⟨none, [(.mv 13 (.t 5)), (.mv 14 (.t 1)), (.mv 15 (.t 0)), (.mv 16 (.t 6)), (.ia 17 1 (.t 15) (.t 16)), (.ld 18 false 1 (.t 17)), (.ia 19 1 (.t 14) (.t 18)), (.ld 20 false 1 (.t 19)), (.bsl 21 1 1 [(I 0)] [(0, (.t 20))]), (.app 22 1 8 (.t 13) (.t 21)), (.mv 5 (.t 22))]⟩] [0, 1, 5, 6])) (.rgn [⟨none, [(.mv 11 (.t 6)), (.bin 12 .add (.t 11) (.k (I 1))), (.mv 6 (.t 12))]⟩] [0, 1, 5, 6])))))) (.seq (.rgn [⟨none, [(.mv 23 (.t 5)), (.mv 4 (.t 23))]⟩] [4]) .ret))))
theorem func_r_After : Tryz.prog.funcs[n_r_After]? = some Tryz.f55 := Tryz.func55
theorem form_r_After : formOf Tryz.prog Tryz.f55 [4] = some G_r_After := by kernel_rfl
theorem res_r_After : resTmps Tryz.f55.results.toList = some [4] := by kernel_rfl
abbrev n_r_isStroke : Nat := 77
def G_r_isStroke : AC := (.seq (.rgn [⟨none, [(.mv 4 (.k (B false)))]⟩] [0, 1]) (.seq (.seq (.rgn [⟨none, [(.mv 8 (.t 0)), (.len 9 (.t 8)), (.mv 10 (.t 1)), (.bin 11 .neq (.t 9) (.t 10))]⟩] [0, 1, 11]) (.cond (.t 11) (.seq (.rgn [⟨none, [(.mv 4 (.k (B false)))]⟩] [4]) .ret) .skip)) (.seq (.seq (.rgn [⟨none, [(.mv 5 (.k (I 0)))]⟩] [0, 1, 5]) (.block 0 (.loop (.seq (.seq (.rgn [⟨none, [(.mv 12 (.t 5)), (.mv 13 (.t 1)), (.bin 14 .lss (.t 12) (.t 13))]⟩] [0, 1, 5, 14]) (.cond (.t 14) .skip (.exit 0))) (.seq (.block 1 (.seq (.rgn [⟨none, [(.mv 6 (.k (I 0)))]⟩] [0, 1, 5, 6]) (.seq (.seq (.rgn [⟨none, [(.mv 7 (.k (I 0)))]⟩] [0, 1, 5, 6, 7]) (.block 2 (.loop (.seq (.seq (.rgn [⟨none, [(.mv 17 (.t 7)), (.mv 18 (.t 0)), (.len 19 (.t 18)), (.bin 20 .lss (.t 17) (.t 19))]⟩] [0, 1, 5, 6, 7, 20]) (.cond (.t 20) .skip (.exit 2))) (.seq (.block 3 (.seq (.rgn [⟨none, [(.mv 23 (.t 0)), (.mv 24 (.t 7)), (.ia 25 1 (.t 23) (.t 24)), (.ld 26 false 1 (.t 25)), (.mv 27 (.t 5)), (.bin 28 .eql (.t 26) (.t 27))]⟩] [0, 1, 5, 6, 7, 28]) (.cond (.t 28) (.rgn [⟨none, [(.mv 29 (.t 6)), (.bin 30 .add (.t 29) (.k (I 1))), (.mv 6 (.t 30))]⟩] [0, 1, 5, 6, 7]) .skip))) (.rgn [⟨none, [(.mv 21 (.t 7)), (.bin 22 .add (.t 21) (.k (I 1))), (.mv 7 (.t 22))]⟩] [0, 1, 5, 6, 7])))))) (.seq (.rgn [⟨none, [(.mv 31 (.t 6)), (.bin 32 .neq (.t 31) (.k (I 1)))]⟩] [0, 1, 5, 32]) (.cond (.t 32) (.seq (.rgn [⟨none, [(.mv 4 (.k (B false)))]⟩] [4]) .ret) .skip))))) (.rgn [⟨none, [(.mv 15 (.t 5)), (.bin 16 .add (.t 15) (.k (I 1))), (.mv 5 (.t 16))]⟩] [0, 1, 5])))))) (.seq (.rgn [⟨none, [(.mv 4 (.k (B true)))]⟩] [4]) .ret))))
theorem func_r_isStroke : Tryz.prog.funcs[n_r_isStroke]? = some Tryz.f77 := Tryz.func77
theorem form_r_isStroke : formOf Tryz.prog Tryz.f77 [4] = some G_r_isStroke := by kernel_rfl
theorem res_r_isStroke : resTmps Tryz.f77.results.toList = some [4] := by kernel_rfl
end Go.AM

set_option linter.unusedSimpArgs false
set_option linter.unusedVariables false
namespace Go.AM
open Go.RowKit Go.Proofs
theorem count_take {l : List Int} {i : Nat} {p : Int} (h : i < l.length) : (l.take (i + 1)).count p = (l.take i).count p + if l[i] = p then 1 else 0 := by
  rw [List.take_succ_eq_append_getElem h, List.count_append, List.count_singleton]
  by_cases e : l[i] = p
  · simp [e]
  · simp [e]
set_option maxHeartbeats 1000000 in
theorem r_isStroke_ok (f : Bool) (l : List Int) (P : Int) (hl : l.length ≤ 1000000) : PureOK Tryz.prog n_r_isStroke [Ls f l, I P] (B (strO P l)) := by
  refine pure_of (walk func_r_isStroke form_r_isStroke res_r_isStroke (by show 2 ≤ _; decide) ?_)
  simp -implicitDefEqProofs (disch := omega) [G_r_isStroke, wrap_id]
  by_cases hP : (l.length : Int) = P
  · subst hP
    simp -implicitDefEqProofs (disch := omega) [wrap_id]
    refine loop_eq (fun p : Nat => ⟨[(0, Ls f l), (1, I (l.length : Int)), (5, I (p : Int))], []⟩) (fun p => p ≤ l.length ∧ ((List.range p).all fun p => l.count (p : Int) == 1) = true) (fun p => l.length - p) 0 ⟨Nat.zero_le _, rfl⟩ rfl ?_
    rintro p ⟨hp, ha⟩
    refine hideK' fun K0 hK0 => ?_
    simp -implicitDefEqProofs (disch := omega) [wrap_id]
    refine c_split (fun h => ?_) (fun h => ?_)
    · have hp : p < l.length := by simp at h; omega
      have px : ((p : Int) + 1) = ((p + 1 : Nat) : Int) := by omega
      simp -implicitDefEqProofs (disch := omega) [wrap_id]
      refine loop_eq (fun i : Nat => ⟨[(0, Ls f l), (1, I (l.length : Int)), (5, I (p : Int)), (6, I ((l.take i).count (p : Int) : Nat)), (7, I (i : Int))], []⟩) (fun i => i ≤ l.length) (fun i => l.length - i) 0 (Nat.zero_le _) rfl ?_
      intro i hi
      refine hideK' fun K1 hK1 => ?_
      simp -implicitDefEqProofs (disch := omega) [wrap_id]
      refine c_split (fun h => ?_) (fun h => ?_)
      · have hi : i < l.length := by simp at h; omega
        have ix : ((i : Int) + 1) = ((i + 1 : Nat) : Int) := by omega
        have ct := count_take (p := (p : Int)) hi
        have cl : (l.take i).count (p : Int) ≤ l.length := Nat.le_trans List.count_le_length (by rw [List.length_take]; omega)
        generalize hc : (l.take i).count (p : Int) = c at *
        have cx : ((c : Int) + 1) = ((c + 1 : Nat) : Int) := by omega
        by_cases e : l[i] = (p : Int)
        · rw [if_pos e] at ct
          simp -implicitDefEqProofs (disch := omega) [wrap_id, cells_ls, hi, e]
          rw [hK1]
          exact next_eq (i + 1) (by omega) (by omega) (by simp only [ix, cx, ct])
        · rw [if_neg e] at ct
          have e' : (l[i] == (p : Int)) = false := by simpa using e
          simp -implicitDefEqProofs (disch := omega) [wrap_id, cells_ls, hi, e, e']
          rw [hK1]
          exact next_eq (i + 1) (by omega) (by omega) (by simp only [ix, ct]; rfl)
      · have hi : i = l.length := by simp at h; omega
        subst hi
        subst hK1
        have cl := List.count_le_length (a := (p : Int)) (l := l)
        have tk : l.take l.length = l := List.take_of_length_le (Nat.le_refl _)
        by_cases e : l.count (p : Int) = 1
        · simp -implicitDefEqProofs (disch := omega) [wrap_id, e, tk]
          rw [hK0]
          refine next_eq (p + 1) ⟨by omega, ?_⟩ (by omega) (by simp only [px])
          rw [range_all_succ, ha, e]; rfl
        · have e' : ((l.count (p : Int) : Int) != 1) = true := by simp only [bne_iff_ne, ne_eq]; omega
          have hf : strO (l.length : Int) l = false := by
            unfold strO
            have : ((List.range l.length).all fun p => l.count (p : Int) == 1) = false := by
              rw [List.all_eq_false]
              exact ⟨p, List.mem_range.2 hp, by simp [e]⟩
            rw [this, Bool.and_false]
          simp -implicitDefEqProofs (disch := omega) [wrap_id, e', tk]
          rw [hf] at hK0
          subst hK0
          simp -implicitDefEqProofs (disch := omega) [wrap_id]
    · have hp : p = l.length := by simp at h; omega
      subst hp
      have ht : strO (l.length : Int) l = true := by unfold strO; rw [ha]; simp
      rw [ht] at hK0
      subst hK0
      simp -implicitDefEqProofs (disch := omega) [wrap_id]
  · have hP' : ((l.length : Int) != P) = true := by simpa using hP
    have hf : strO P l = false := by unfold strO; rw [decide_eq_false hP]; rfl
    simp -implicitDefEqProofs (disch := omega) [wrap_id, hP', hf]
end Go.AM

set_option linter.unusedSimpArgs false
set_option linter.unusedVariables false
namespace Go.AM
open Go.RowKit Go.Proofs
set_option maxHeartbeats 1000000 in
theorem r_CheckBench_ok (g : Bool) (b : OB) (hb : b.s.length ≤ 1000000) (hs : ∀ p ∈ b.s, p.2.length ≤ 1000000) : PureOK Tryz.prog n_r_CheckBench [On g b] (I (chkO b)) := by
  refine pure_of (walk func_r_CheckBench form_r_CheckBench res_r_CheckBench (by show 1 ≤ _; decide) ?_)
  simp -implicitDefEqProofs (disch := omega) [G_r_CheckBench, wrap_id]
  by_cases h1 : b.P < 2
  · have e : chkO b = 2 := by unfold chkO; rw [if_pos (.inl h1)]
    simp -implicitDefEqProofs (disch := omega) [wrap_id, h1, e]
  by_cases h2 : 6 < b.P
  · have e : chkO b = 2 := by unfold chkO; rw [if_pos (.inr h2)]
    simp -implicitDefEqProofs (disch := omega) [wrap_id, h1, h2, e]
  by_cases h3 : 6 < b.s.length
  · have h3' : (6 : Int) < b.s.length := by omega
    have e : chkO b = 6 := by unfold chkO; rw [if_neg (by omega), if_pos h3]
    simp -implicitDefEqProofs (disch := omega) [wrap_id, h1, h2, h3', e]
  have h3' : ¬ (6 : Int) < b.s.length := by omega
  have e : chkO b = if b.s.all (fun p => strO b.P p.2) then 0 else 15 := by unfold chkO; rw [if_neg (by omega), if_neg h3]
  rw [e]
  simp -implicitDefEqProofs (disch := omega) [wrap_id, h1, h2, h3']
  refine loop_eq (fun i : Nat => ⟨[(1, .ref 0 0), (3, I (i : Int))], [.cells [I b.P, LLs g b.s]]⟩) (fun i => i ≤ b.s.length ∧ ∀ k (hk : k < b.s.length), k < i → strO b.P b.s[k].2 = true) (fun i => b.s.length - i) 0 ⟨Nat.zero_le _, fun k _ h => by omega⟩ rfl ?_
  rintro i ⟨hi, ha⟩
  refine hideK' fun K0 hK0 => ?_
  simp -implicitDefEqProofs (disch := omega) [wrap_id]
  refine c_split (fun h => ?_) (fun h => ?_)
  · have hi : i < b.s.length := by simp at h; omega
    have ix : ((i : Int) + 1) = ((i + 1 : Nat) : Int) := by omega
    simp -implicitDefEqProofs (disch := omega) [wrap_id, cells_lls, hi]
    refine pureW_of rfl (r_isStroke_ok _ _ b.P (hs _ (List.getElem_mem hi))) ?_
    cases hst : strO b.P b.s[i].2 with
    | true =>
      simp -implicitDefEqProofs (disch := omega) [wrap_id, cmp2, nthT]
      rw [hK0]
      refine next_eq (i + 1) ⟨by omega, fun k hk hki => ?_⟩ (by omega) (by simp only [ix])
      by_cases hk2 : k = i
      · subst hk2; exact hst
      · exact ha k hk (by omega)
    | false =>
      have hf : b.s.all (fun p => strO b.P p.2) = false := by
        rw [List.all_eq_false]
        exact ⟨b.s[i], List.getElem_mem hi, by simp [hst]⟩
      rw [hf] at hK0
      subst hK0
      simp -implicitDefEqProofs (disch := omega) [wrap_id, cmp2, nthT]
  · have hi : i = b.s.length := by simp at h; omega
    subst hi
    have ht : b.s.all (fun p => strO b.P p.2) = true := by
      rw [List.all_eq_true]
      intro p hp
      obtain ⟨k, hk, rfl⟩ := List.getElem_of_mem hp
      exact ha k hk hk
    rw [ht] at hK0
    subst hK0
    simp -implicitDefEqProofs (disch := omega) [wrap_id]
end Go.AM

set_option linter.unusedSimpArgs false
set_option linter.unusedVariables false
namespace Go.AM
open Go.RowKit Go.Proofs
set_option maxHeartbeats 1000000 in
theorem r_After_ok (f g : Bool) (s r : List Int) (hl : r.length ≤ 1000) (hs : s.length = r.length) (hi : ∀ x ∈ s, 0 ≤ x ∧ x < r.length) : PureOK Tryz.prog n_r_After [Ls f s, Ls g r] (Ls (aft s r).isEmpty (aft s r)) := by
  refine pure_of (walk func_r_After form_r_After res_r_After (by show 2 ≤ _; decide) ?_)
  simp -implicitDefEqProofs (disch := omega) [G_r_After, wrap_id]
  have al : (aft s r).length = s.length := aft_len
  refine loop_eq (fun q : Nat × AV × List HObj => ⟨[(0, Ls f s), (1, Ls g r), (5, q.2.1), (6, I (q.1 : Int))], q.2.2⟩) (fun q => q.1 ≤ r.length ∧ AccR q.2.2 q.2.1 ((aft s r).take q.1)) (fun q => r.length - q.1) (0, .sl true 0 [], []) ⟨Nat.zero_le _, .inl ⟨rfl, by simp⟩⟩ rfl ?_
  rintro ⟨i, x, H⟩ ⟨c1, c2⟩
  simp only at c1 c2 ⊢
  refine hideK' fun K0 hK0 => ?_
  simp -implicitDefEqProofs (disch := omega) [wrap_id]
  refine c_split (fun h => ?_) (fun h => ?_)
  · have hir : i < r.length := by simp at h; omega
    have his : i < s.length := by omega
    have ix : ((i : Int) + 1) = ((i + 1 : Nat) : Int) := by omega
    obtain ⟨b1, b2⟩ := hi s[i] (List.getElem_mem his)
    obtain ⟨n, hn⟩ : ∃ n : Nat, s[i] = n := ⟨s[i].toNat, by omega⟩
    have hnr : n < r.length := by omega
    have tk : (aft s r).take (i + 1) = (aft s r).take i ++ [r[n]] := by
      rw [List.take_succ_eq_append_getElem (by omega), aft_get (by omega)]
      simp [hn, hnr]
    have tl : ((aft s r).take i).length = i := by rw [List.length_take]; omega
    simp -implicitDefEqProofs (disch := omega) [wrap_id, cells_ls, hir, his, hn, hnr]
    refine bsl_of (ys := [I r[n]]) rfl rfl ?_
    simp -implicitDefEqProofs (disch := omega) [wrap_id, zrep]
    refine app_row c2.row (by omega) fun ws w1 w2 w3 => ?_
    simp -implicitDefEqProofs (disch := omega) [wrap_id]
    rw [hK0]
    refine next_eq (i + 1, .ms H.length 0 (i + 1) 1, writeL H ws) ⟨by simp only; omega, .inr ⟨H.length, ?_, ?_, ?_⟩⟩ (by simp only; omega) (by simp only [ix, tl])
    · rw [List.length_take, Nat.min_eq_left (by omega)]
    · simp only [tk]; simp
    · simp only [tk]; exact w3
  · have hir : i = r.length := by simp at h; omega
    subst hir
    subst hK0
    have tk : (aft s r).take r.length = aft s r := List.take_of_length_le (by omega)
    rw [tk] at c2
    simp -implicitDefEqProofs (disch := omega) [wrap_id]
    exact out_acc c2
end Go.AM

set_option linter.unusedSimpArgs false
set_option linter.unusedVariables false
namespace Go.AM
open Go.RowKit Go.Proofs
def Cur (hp : List HObj) (x : AV) (l : List Int) : Prop := (∃ id, 0 < id ∧ x = .ms id 0 l.length 1 ∧ nthH hp id = some (.cells (l.map fun n => I n))) ∨ x = Ls false l
set_option maxHeartbeats 1000000 in
theorem r_All_ok (g f h : Bool) {b : OB} {n : Nat} (hb : Okb b n) (r l : List Int) (hr : r.length = n) (hl : LsO b l) (hll : l.length ≤ 1000000) : PureOK Tryz.prog n_r_All [On g b, Ls f r, Ls h l] (Ls false (allI b l r)) := by
  have h6 := hb.hi
  have h2 := hb.lo
  refine pure_of (walk func_r_All form_r_All res_r_All (by show 3 ≤ _; decide) ?_)
  simp -implicitDefEqProofs (disch := omega) [G_r_All, wrap_id]
  refine bsl_of rfl rfl ?_
  simp -implicitDefEqProofs (disch := omega) [wrap_id, zrep]
  refine ⟨⟨by omega, by omega⟩, ?_⟩
  refine loop_eq (fun q : Nat × AV × List HObj => ⟨[(2, Ls h l), (3, .ref 0 0), (7, q.2.1), (8, I (q.1 : Int))], q.2.2⟩) (fun q => q.1 ≤ l.length ∧ nthH q.2.2 0 = some (.cells [I b.P, LLs g b.s]) ∧ Cur q.2.2 q.2.1 (allI b (l.take q.1) r)) (fun q => l.length - q.1) (0, .ms 1 0 r.length 1, [.cells [I b.P, LLs g b.s], .cells (r.map fun n => I n)]) ⟨Nat.zero_le _, rfl, .inl ⟨1, by omega, rfl, rfl⟩⟩ rfl ?_
  rintro ⟨i, x, H⟩ ⟨c1, c2, c3⟩
  simp only at c1 c2 c3 ⊢
  have l0 := nthH_lt c2
  refine hideK' fun K0 hK0 => ?_
  simp -implicitDefEqProofs (disch := omega) [wrap_id]
  refine c_split (fun hc => ?_) (fun hc => ?_)
  · have hi : i < l.length := by simp at hc; omega
    have ix : ((i : Int) + 1) = ((i + 1 : Nat) : Int) := by omega
    obtain ⟨b1, b2⟩ := hl l[i] (List.getElem_mem hi)
    obtain ⟨k, hk⟩ : ∃ k : Nat, l[i] = k := ⟨l[i].toNat, by omega⟩
    have hks : k < b.s.length := by omega
    have pk := hb.at hks
    have cl : (allI b (l.take i) r).length = n := allI_len hb (fun s hs => hl s (List.mem_of_mem_take hs)) hr
    have sn := allI_snoc (b := b) (r := r) hi
    rw [hk, Int.toNat_natCast, S_getD hks] at sn
    have af := r_After_ok b.s[k].1 false b.s[k].2 (allI b (l.take i) r) (by omega) (by rw [cl]; exact pk.len) (fun x hx => by rw [cl]; exact pk.rng x hx)
    rw [← sn] at af
    have cl2 : (allI b (l.take (i + 1)) r).length = n := by rw [sn, aft_len]; exact pk.len
    have ne : (allI b (l.take (i + 1)) r).isEmpty = false := by
      cases hq : allI b (l.take (i + 1)) r with
      | nil => rw [hq] at cl2; simp at cl2; omega
      | cons => rfl
    rw [ne] at af
    rcases c3 with ⟨id, hid, rfl, hm⟩ | rfl
    · have lid := nthH_lt hm
      simp -implicitDefEqProofs (disch := omega) [wrap_id, c2, hi, hk, hks, cells_ls, cells_lls]
      refine pureW_of (purifyAll2 ls_pur (ms_pur hm rfl)) af ?_
      simp -implicitDefEqProofs (disch := omega) [wrap_id, cmp2, nthT]
      have e : ¬ id = 0 := by omega
      simp only [lid, if_true]
      rw [hK0]
      refine next_eq (i + 1, Ls false (allI b (l.take (i + 1)) r), H.set id .gone) ⟨by simp only; omega, (by simp only; rw [nthH_set_ne e]; exact c2), .inr rfl⟩ (by simp only; omega) (by simp only [ix])
    · simp -implicitDefEqProofs (disch := omega) [wrap_id, c2, hi, hk, hks, cells_ls, cells_lls]
      refine pureW_of (purifyAll2 ls_pur ls_pur) af ?_
      simp -implicitDefEqProofs (disch := omega) [wrap_id, cmp2, nthT]
      rw [hK0]
      exact next_eq (i + 1, Ls false (allI b (l.take (i + 1)) r), H) ⟨by simp only; omega, c2, .inr rfl⟩ (by simp only; omega) (by simp only [ix])
  · have hi : i = l.length := by simp at hc; omega
    subst hi
    subst hK0
    rw [List.take_length] at c3
    simp -implicitDefEqProofs (disch := omega) [wrap_id]
    rcases c3 with ⟨id, hid, rfl, hm⟩ | rfl
    · exact out_of (ms_pur hm rfl)
    · exact out_of ls_pur
end Go.AM

set_option linter.unusedSimpArgs false
set_option linter.unusedVariables false
namespace Go.AM
open Go.RowKit Go.Proofs
theorem getD_snd {l : List (Bool × List Int)} {k : Nat} (h : k < l.length) : (l.map (·.2)).getD k [] = l[k].2 := by
  rw [List.getD_eq_getElem?_getD, List.getElem?_map, List.getElem?_eq_getElem h]; rfl
end Go.AM

set_option maxRecDepth 100000
namespace Go.AM
open Go.RowKit Go.Proofs
abbrev n_l_OrderCounted : Nat := 12
def G_l_OrderCounted : AC := (.seq (.rgn [⟨none, [(.box 4 2 (.t 0)), (.mv 8 (.k (B false)))]⟩] [1, 2, 3, 4]) (.seq (.seq (.rgn [⟨none, [(.ld 29 true 2 (.t 4)), (.call 30 47 [(.t 29)]), (.un 31 .not (.t 30)), (.mv 32 (.t 31))]⟩, ⟨(some (32, false)), [(.mv 33 (.t 1)), (.mv 34 (.t 2)), (.bsl 35 2 1 [(.sl true 0 [])] [(0, (.t 33)), (1, (.t 34))]), (.call 36 48 [(.t 35)]), (.un 37 .not (.t 36))]⟩, ⟨none, [(.pick 38 (.t 32) (.k (B true)) (.t 37)), (.mv 39 (.t 38))]⟩, ⟨(some (39, false)), [(.fa 40 (.t 4) 1), (.ld 41 false 1 (.t 40)), (.len 42 (.t 41)), (.bin 43 .eql (.t 42) (.k (I 0)))]⟩, ⟨none, [(.pick 44 (.t 39) (.k (B true)) (.t 43))]⟩] [1, 2, 3, 4, 44]) (.cond (.t 44) (.seq (.rgn [⟨none, [(.call 45 16 []), (.mv 8 (.t 45))]⟩] [8]) .ret) .skip)) (.seq (.rgn [⟨none, [(.ld 46 true 2 (.t 4)), (.mv 47 (.t 1)), (.call 48 49 [(.t 46), (.t 47)]), (.mv 9 (.t 48))]⟩] [2, 3, 4, 9]) (.seq (.drw [⟨none, [(.ld 49 true 2 (.t 4)), (.mv 50 (.t 9)), (.ld 51 true 2 (.t 4)), (.mv 52 (.t 2)), (.call 53 50 [(.t 51), (.t 52)]), (.call 54 51 [(.t 49), (.t 50), (.t 53)]), (.mv 10 (.t 54))]⟩] [(0, 2), (0, 4)] [3, 4, 9, 10]) (.seq (.rgn [⟨none, [(.ld 56 true 2 (.t 4)), (.mv 57 (.t 9)), (.mv 58 (.t 10)), (.call 59 29 [(.t 56), (.t 57), (.t 58)]), (.mv 55 (.t 59)), (.ext 60 (.t 55) 0), (.ext 61 (.t 55) 1), (.mv 11 (.t 60)), (.mv 12 (.t 61))]⟩] [3, 4, 9, 10, 11, 12]) (.seq (.rgn [⟨none, [(.ld 63 true 2 (.t 4)), (.mv 64 (.t 9)), (.mv 65 (.t 10)), (.call 66 33 [(.t 63), (.t 64), (.t 65)]), (.mv 62 (.t 66)), (.ext 67 (.t 62) 0), (.ext 68 (.t 62) 1), (.mv 13 (.t 67)), (.mv 14 (.t 68))]⟩] [3, 4, 9, 10, 11, 12, 13, 14]) (.seq (.seq (.rgn [⟨none, [(.mv 69 (.t 12)), (.bin 70 .neq (.t 69) (.k (I 0))), (.mv 71 (.t 70))]⟩, ⟨(some (71, false)), [(.mv 72 (.t 14)), (.bin 73 .neq (.t 72) (.k (I 0))), (.mv 74 (.t 73))]⟩, ⟨(some (74, true)), [(.mv 75 (.t 14)), (.bin 76 .neq (.t 75) (.k (I 4)))]⟩, ⟨(some (71, false)), [(.pick 77 (.t 74) (.t 76) (.k (B false)))]⟩, ⟨none, [(.pick 78 (.t 71) (.k (B true)) (.t 77))]⟩] [3, 4, 9, 10, 11, 13, 14, 78]) (.cond (.t 78) (.seq (.rgn [⟨none, [(.mv 8 (.k (B false)))]⟩] [8]) .ret) .skip)) (.seq (.rgn [⟨none, [(.mv 15 (.k (I 0))), (.mv 16 (.k (B false)))]⟩] [3, 4, 9, 10, 11, 13, 14, 15, 16]) (.seq (.seq (.rgn [⟨none, [(.mv 17 (.k (I 0)))]⟩] [3, 4, 9, 10, 11, 13, 14, 15, 16, 17]) (.block 0 (.loop (.seq (.seq (.rgn [⟨none, [(.mv 79 (.t 17)), (.fa 80 (.t 4) 1), (.ld 81 false 1 (.t 80)), (.len 82 (.t 81)), (.bin 83 .lss (.t 79) (.t 82)), (.mv 84 (.t 83))]⟩, ⟨(some (84, true)), [(.mv 85 (.t 11)), (.len 86 (.t 85)), (.bin 87 .gtr (.t 86) (.k (I 0)))]⟩, ⟨none, [(.pick 88 (.t 84) (.t 87) (.k (B false)))]⟩] [3, 4, 9, 10, 11, 13, 14, 15, 16, 17, 88]) (.cond (.t 88) .skip (.exit 0))) (.seq (.block 1 (.seq (.rgn [⟨none, [(.fa 91 (.t 4) 1), (.ld 92 false 1 (.t 91)), (.mv 93 (.t 17)), (.ia 94 1 (.t 92) (.t 93)), (.ld 95 false 1 (.t 94)), (.mv 96 (.t 9)), (.call 97 55 [(.t 95), (.t 96)]), (.mv 18 (.t 97))]⟩] [3, 4, 9, 10, 11, 13, 14, 15, 16, 17, 18]) (.seq (.rgn [⟨none, [(.ld 99 true 2 (.t 4)), (.mv 100 (.t 18)), (.mv 101 (.t 10)), (.call 102 29 [(.t 99), (.t 100), (.t 101)]), (.mv 98 (.t 102)), (.ext 103 (.t 98) 0), (.ext 104 (.t 98) 1), (.mv 19 (.t 103)), (.mv 20 (.t 104))]⟩] [3, 4, 9, 10, 11, 13, 14, 15, 16, 17, 18, 19, 20]) (.seq (.rgn [⟨none, [(.ld 106 true 2 (.t 4)), (.mv 107 (.t 18)), (.mv 108 (.t 10)), (.call 109 33 [(.t 106), (.t 107), (.t 108)]), (.mv 105 (.t 109)), (.ext 110 (.t 105) 0), (.ext 111 (.t 105) 1), (.mv 21 (.t 110)), (.mv 22 (.t 111))]⟩] [3, 4, 9, 10, 11, 13, 14, 15, 16, 17, 19, 20, 21, 22]) (.seq (.seq (.rgn [⟨none, [(.mv 112 (.t 20)), (.bin 113 .neq (.t 112) (.k (I 0))), (.mv 114 (.t 113))]⟩, ⟨(some (114, false)), [(.mv 115 (.t 22)), (.bin 116 .neq (.t 115) (.k (I 0))), (.mv 117 (.t 116))]⟩, ⟨(some (117, true)), [(.mv 118 (.t 22)), (.bin 119 .neq (.t 118) (.k (I 4)))]⟩, ⟨(some (114, false)), [(.pick 120 (.t 117) (.t 119) (.k (B false)))]⟩, ⟨none, [(.pick 121 (.t 114) (.k (B true)) (.t 120)), (.mv 122 (.t 121))]⟩, ⟨(some (122, false)), [(.mv 123 (.t 19)), (.len 124 (.t 123)), (.mv 125 (.t 11)), (.len 126 (.t 125)), (.bin 127 .sub (.t 126) (.k (I 1))), (.bin 128 .lss (.t 124) (.t 127))]⟩, ⟨none, [(.pick 129 (.t 122) (.k (B true)) (.t 128))]⟩] [3, 4, 9, 10, 11, 13, 14, 15, 16, 17, 19, 21, 22, 129]) (.cond (.t 129) (.seq (.rgn [⟨none, [(.mv 8 (.k (B false)))]⟩] [8]) .ret) .skip)) (.seq (.rgn [⟨none, [(.mv 130 (.t 19)), (.len 131 (.t 130)), (.mv 132 (.t 11)), (.len 133 (.t 132)), (.bin 134 .sub (.t 133) (.k (I 1))), (.bin 135 .eql (.t 131) (.t 134))]⟩] [3, 4, 9, 10, 11, 13, 14, 15, 16, 17, 21, 22, 135]) (.cond (.t 135) (.seq (.rgn [⟨none, [(.mv 136 (.t 15)), (.mv 137 (.t 21)), (.bin 138 .add (.t 136) (.t 137)), (.mv 139 (.t 16)), (.mv 140 (.t 139))]⟩, ⟨(some (140, false)), [(.mv 141 (.t 22)), (.bin 142 .eql (.t 141) (.k (I 4)))]⟩, ⟨none, [(.pick 143 (.t 140) (.k (B true)) (.t 142)), (.mv 15 (.t 138)), (.mv 16 (.t 143))]⟩] [3, 4, 9, 10, 11, 13, 14, 15, 16, 17]) (.seq (.rgn [⟨none, [(.mv 144 (.t 17)), (.mv 145 (.t 11)), (.ia 146 1 (.t 145) (.k (I 0))), (.ld 147 false 1 (.t 146)), (.bin 148 .lss (.t 144) (.t 147))]⟩] [3, 4, 9, 10, 11, 13, 14, 15, 16, 17, 148]) (.cond (.t 148) (.seq (.rgn [⟨none, [(.mv 8 (.k (B false)))]⟩] [8]) .ret) .skip))) .skip))))))) (.rgn [⟨none, [(.mv 89 (.t 17)), (.bin 90 .add (.t 89) (.k (I 1))), (.mv 17 (.t 90))]⟩] [3, 4, 9, 10, 11, 13, 14, 15, 16, 17])))))) (.seq (.seq (.rgn [⟨none, [(.mv 149 (.t 14)), (.bin 150 .eql (.t 149) (.k (I 0))), (.mv 151 (.t 150))]⟩, ⟨(some (151, true)), [(.mv 152 (.t 16)), (.mv 153 (.t 152))]⟩, ⟨(some (153, false)), [(.mv 154 (.t 11)), (.len 155 (.t 154)), (.bin 156 .eql (.t 155) (.k (I 0))), (.mv 157 (.t 156))]⟩, ⟨(some (157, true)), [(.mv 158 (.t 13)), (.bin 159 .neq (.t 158) (.k (I 1)))]⟩, ⟨(some (153, false)), [(.pick 160 (.t 157) (.t 159) (.k (B false)))]⟩, ⟨(some (151, true)), [(.pick 161 (.t 153) (.k (B true)) (.t 160)), (.mv 162 (.t 161))]⟩, ⟨(some (162, false)), [(.mv 163 (.t 11)), (.len 164 (.t 163)), (.bin 165 .gtr (.t 164) (.k (I 0))), (.mv 166 (.t 165))]⟩, ⟨(some (166, true)), [(.mv 167 (.t 15)), (.mv 168 (.t 13)), (.bin 169 .neq (.t 167) (.t 168))]⟩, ⟨(some (162, false)), [(.pick 170 (.t 166) (.t 169) (.k (B false)))]⟩, ⟨(some (151, true)), [(.pick 171 (.t 162) (.k (B true)) (.t 170))]⟩, ⟨none, [(.pick 172 (.t 151) (.t 171) (.k (B false))), (.mv 173 (.t 172))]⟩, ⟨(some (173, false)), [(.mv 174 (.t 14)), (.bin 175 .eql (.t 174) (.k (I 4))), (.mv 176 (.t 175))]⟩, ⟨(some (176, true)), [(.mv 177 (.t 16)), (.un 178 .not (.t 177))]⟩, ⟨(some (173, false)), [(.pick 179 (.t 176) (.t 178) (.k (B false))), (.mv 180 (.t 179))]⟩, ⟨(some (180, true)), [(.mv 181 (.t 15)), (.bin 182 .leq (.t 181) (.k (I 1099511627776)))]⟩, ⟨(some (173, false)), [(.pick 183 (.t 180) (.t 182) (.k (B false)))]⟩, ⟨none, [(.pick 184 (.t 173) (.k (B true)) (.t 183))]⟩] [3, 4, 9, 10, 11, 184]) (.cond (.t 184) (.seq (.rgn [⟨none, [(.mv 8 (.k (B false)))]⟩] [8]) .ret) .skip)) (.seq (.rgn [⟨none, [(.mv 185 (.t 3)), (.cnv 186 .i64 (.t 185)), (.fa 187 (.t 4) 1), (.ld 188 false 1 (.t 187)), (.len 189 (.t 188)), (.bin 190 .rem (.t 186) (.t 189)), (.mv 23 (.t 190))]⟩] [4, 9, 10, 11, 23]) (.seq (.rgn [⟨none, [(.ld 192 true 2 (.t 4)), (.mv 193 (.t 9)), (.mv 194 (.t 10)), (.mv 195 (.t 23)), (.call 196 31 [(.t 192), (.t 193), (.t 194), (.t 195)]), (.mv 191 (.t 196)), (.ext 197 (.t 191) 0), (.ext 198 (.t 191) 1), (.mv 24 (.t 197)), (.mv 25 (.t 198))]⟩] [4, 9, 10, 11, 23, 24, 25]) (.seq (.seq (.rgn [⟨none, [(.mv 199 (.t 25)), (.bin 200 .neq (.t 199) (.k (I 0))), (.mv 201 (.t 200))]⟩, ⟨(some (201, false)), [(.mv 202 (.t 24)), (.bin 203 .eql (.t 202) (.k (I 0))), (.mv 204 (.t 203))]⟩, ⟨(some (204, true)), [(.mv 205 (.t 11)), (.mv 206 (.t 23)), (.call 207 58 [(.t 205), (.t 206)])]⟩, ⟨(some (201, false)), [(.pick 208 (.t 204) (.t 207) (.k (B false)))]⟩, ⟨none, [(.pick 209 (.t 201) (.k (B true)) (.t 208)), (.mv 210 (.t 209))]⟩, ⟨(some (210, false)), [(.mv 211 (.t 24)), (.bin 212 .eql (.t 211) (.k (I 2))), (.mv 213 (.t 212))]⟩, ⟨(some (213, true)), [(.mv 214 (.t 11)), (.mv 215 (.t 23)), (.call 216 58 [(.t 214), (.t 215)]), (.un 217 .not (.t 216))]⟩, ⟨(some (210, false)), [(.pick 218 (.t 213) (.t 217) (.k (B false)))]⟩, ⟨none, [(.pick 219 (.t 210) (.k (B true)) (.t 218))]⟩] [4, 9, 10, 11, 23, 24, 219]) (.cond (.t 219) (.seq (.rgn [⟨none, [(.mv 8 (.k (B false)))]⟩] [8]) .ret) .skip)) (.seq (.drw [⟨none, [(.fa 220 (.t 4) 0), (.ld 221 false 1 (.t 220)), (.bsl 222 0 1 [(.sl true 0 [])] []), (.fa 223 (.t 4) 1), (.ld 224 false 1 (.t 223)), (.mv 225 (.t 23)), (.slc 226 1 (.t 224) none (some (.t 225)) none), (.app 227 1 24 (.t 222) (.t 226)), (.fa 228 (.t 4) 1), (.ld 229 false 1 (.t 228)), (.mv 230 (.t 23)), (.bin 231 .add (.t 230) (.k (I 1))), (.slc 232 1 (.t 229) (some (.t 231)) none none), (.app 233 1 24 (.t 227) (.t 232)), (.bld 234 [(I 0), (.sl true 0 [])] [(0, 1, (.t 221)), (1, 1, (.t 233))]), (.al 26 [(I 0), (.sl true 0 [])]), (.st 2 (.t 26) (.t 234))]⟩] [(1, 2), (1, 4), (2, 4), (1, 7), (1, 9), (2, 9), (4, 9), (7, 9), (1, 13), (1, 15), (2, 15), (4, 15), (7, 15), (9, 15), (13, 15)] [9, 10, 11, 24, 26]) (.seq (.rgn [⟨none, [(.ld 236 true 2 (.t 26)), (.mv 237 (.t 9)), (.mv 238 (.t 10)), (.call 239 29 [(.t 236), (.t 237), (.t 238)]), (.mv 235 (.t 239)), (.ext 240 (.t 235) 0), (.ext 241 (.t 235) 1), (.mv 27 (.t 240)), (.mv 28 (.t 241))]⟩] [11, 24, 27, 28]) (.seq (.rgn [⟨none, [(.mv 242 (.t 24)), (.bin 243 .eql (.t 242) (.k (I 2))), (.mv 244 (.t 28)), (.bin 245 .neq (.t 244) (.k (I 0))), (.mv 246 (.t 245))]⟩, ⟨(some (246, false)), [(.mv 247 (.t 27)), (.len 248 (.t 247)), (.mv 249 (.t 11)), (.len 250 (.t 249)), (.bin 251 .gtr (.t 248) (.t 250))]⟩, ⟨none, [(.pick 252 (.t 246) (.k (B true)) (.t 251)), (.eqk 253 false (false, [.bool]) (.t 243) (.t 252)), (.mv 254 (.t 253))]⟩, ⟨(some (254, true)), [(.mv 255 (.t 28)), (.bin 256 .neq (.t 255) (.k (I 0))), (.mv 257 (.t 256))]⟩, ⟨(some (257, false)), [(.mv 258 (.t 27)), (.len 259 (.t 258)), (.mv 260 (.t 11)), (.len 261 (.t 260)), (.bin 262 .geq (.t 259) (.t 261))]⟩, ⟨(some (254, true)), [(.pick 263 (.t 257) (.k (B true)) (.t 262))]⟩, ⟨none, [(.pick 264 (.t 254) (.t 263) (.k (B false))), (.mv 265 (.t 264))]⟩, ⟨(some (265, true)), [(.call 266 16 [])]⟩, ⟨none, [(.pick 267 (.t 265) (.t 266) (.k (B false))), (.mv 8 (.t 267))]⟩] [8]) .ret))))))))))))))))
theorem func_l_OrderCounted : Tryz.prog.funcs[n_l_OrderCounted]? = some Tryz.f12 := Tryz.func12
theorem form_l_OrderCounted : formOf Tryz.prog Tryz.f12 [8] = some G_l_OrderCounted := by kernel_rfl
theorem res_l_OrderCounted : resTmps Tryz.f12.results.toList = some [8] := by kernel_rfl
abbrev n_l_great : Nat := 13
def G_l_great : AC := (.seq (.rgn [⟨none, [(.box 1 2 (.t 0)), (.mv 2 (.k (B false)))]⟩] [1]) (.seq (.seq (.rgn [⟨none, [(.fa 4 (.t 1) 1), (.ld 5 false 1 (.t 4)), (.len 6 (.t 5)), (.bin 7 .gtr (.t 6) (.k (I 10)))]⟩] [1, 7]) (.cond (.t 7) (.seq (.rgn [⟨none, [(.mv 2 (.k (B true)))]⟩] [2]) .ret) .skip)) (.seq (.seq (.rgn [⟨none, [(.mv 3 (.k (I 0)))]⟩] [1, 3]) (.block 0 (.loop (.seq (.seq (.rgn [⟨none, [(.mv 8 (.t 3)), (.fa 9 (.t 1) 1), (.ld 10 false 1 (.t 9)), (.len 11 (.t 10)), (.bin 12 .lss (.t 8) (.t 11))]⟩] [1, 3, 12]) (.cond (.t 12) .skip (.exit 0))) (.seq (.block 1 (.seq (.rgn [⟨none, [(.fa 15 (.t 1) 1), (.ld 16 false 1 (.t 15)), (.mv 17 (.t 3)), (.ia 18 1 (.t 16) (.t 17)), (.ld 19 false 1 (.t 18)), (.len 20 (.t 19)), (.bin 21 .gtr (.t 20) (.k (I 10)))]⟩] [1, 3, 21]) (.cond (.t 21) (.seq (.rgn [⟨none, [(.mv 2 (.k (B true)))]⟩] [2]) .ret) .skip))) (.rgn [⟨none, [(.mv 13 (.t 3)), (.bin 14 .add (.t 13) (.k (I 1))), (.mv 3 (.t 14))]⟩] [1, 3])))))) (.seq (.rgn [⟨none, [(.mv 2 (.k (B false)))]⟩] [2]) .ret))))
theorem func_l_great : Tryz.prog.funcs[n_l_great]? = some Tryz.f13 := Tryz.func13
theorem form_l_great : formOf Tryz.prog Tryz.f13 [2] = some G_l_great := by kernel_rfl
theorem res_l_great : resTmps Tryz.f13.results.toList = some [2] := by kernel_rfl
abbrev n_l_fine : Nat := 47
def G_l_fine : AC := (.seq (.rgn [⟨none, [(.box 1 2 (.t 0)), (.mv 2 (.k (B false)))]⟩] [1]) (.seq (.rgn [⟨none, [(.ld 3 true 2 (.t 1)), (.call 4 13 [(.t 3)]), (.un 5 .not (.t 4)), (.mv 6 (.t 5))]⟩, ⟨(some (6, true)), [(.ld 7 true 2 (.t 1)), (.call 8 24 [(.t 7)]), (.bin 9 .eql (.t 8) (.k (I 0)))]⟩, ⟨none, [(.pick 10 (.t 6) (.t 9) (.k (B false))), (.mv 2 (.t 10))]⟩] [2]) .ret))
theorem func_l_fine : Tryz.prog.funcs[n_l_fine]? = some Tryz.f47 := Tryz.func47
theorem form_l_fine : formOf Tryz.prog Tryz.f47 [2] = some G_l_fine := by kernel_rfl
theorem res_l_fine : resTmps Tryz.f47.results.toList = some [2] := by kernel_rfl
abbrev n_l_short : Nat := 48
def G_l_short : AC := (.seq (.rgn [⟨none, [(.mv 2 (.k (B false)))]⟩] [0]) (.seq (.seq (.rgn [⟨none, [(.mv 3 (.k (I 0)))]⟩] [0, 3]) (.block 0 (.loop (.seq (.seq (.rgn [⟨none, [(.mv 4 (.t 3)), (.mv 5 (.t 0)), (.len 6 (.t 5)), (.bin 7 .lss (.t 4) (.t 6))]⟩] [0, 3, 7]) (.cond (.t 7) .skip (.exit 0))) (.seq (.block 1 (.seq (.rgn [⟨none, [(.mv 10 (.t 0)), (.mv 11 (.t 3)), (.ia 12 1 (.t 10) (.t 11)), (.ld 13 false 1 (.t 12)), (.len 14 (.t 13)), (.bin 15 .gtr (.t 14) (.k (I 40)))]⟩] [0, 3, 15]) (.cond (.t 15) (.seq (.rgn [⟨none, [(.mv 2 (.k (B false)))]⟩] [2]) .ret) .skip))) (.rgn [⟨none, [(.mv 8 (.t 3)), (.bin 9 .add (.t 8) (.k (I 1))), (.mv 3 (.t 9))]⟩] [0, 3])))))) (.seq (.rgn [⟨none, [(.mv 2 (.k (B true)))]⟩] [2]) .ret)))
theorem func_l_short : Tryz.prog.funcs[n_l_short]? = some Tryz.f48 := Tryz.func48
theorem form_l_short : formOf Tryz.prog Tryz.f48 [2] = some G_l_short := by kernel_rfl
theorem res_l_short : resTmps Tryz.f48.results.toList = some [2] := by kernel_rfl
abbrev n_l_Row : Nat := 49
def G_l_Row : AC := (.seq (.rgn [⟨none, [(.box 2 2 (.t 0)), (.mv 4 (.k (.sl true 0 [])))]⟩] [1, 2]) (.seq (.rgn [⟨none, [(.mv 5 (.k (.sl true 0 [])))]⟩] [1, 2, 5]) (.seq (.seq (.rgn [⟨none, [(.mv 6 (.k (I 0)))]⟩] [1, 2, 5, 6]) (.block 0 (.loop (.seq (.seq (.rgn [⟨none, [(.mv 8 (.t 6)), (.fa 9 (.t 2) 0), (.ld 10 false 1 (.t 9)), (.bin 11 .lss (.t 8) (.t 10))]⟩] [1, 2, 5, 6, 11]) (.cond (.t 11) .skip (.exit 0))) (.seq (.block 1 (.seq (.rgn [⟨none, [(.mv 7 (.k (I 0)))]⟩] [1, 2, 5, 6, 7]) (.seq (.seq (.rgn [⟨none, [(.mv 14 (.t 1)), (.len 15 (.t 14)), (.bin 16 .gtr (.t 15) (.k (I 0)))]⟩] [1, 2, 5, 6, 7, 16]) (.cond (.t 16) (.rgn [⟨none, [(.mv 17 (.t 1)), (.mv 18 (.t 6)), (.mv 19 (.t 1)), (.len 20 (.t 19)), (.bin 21 .rem (.t 18) (.t 20)), (.ia 22 1 (.t 17) (.t 21)), (.ld 23 false 1 (.t 22)), (.cnv 24 .i64 (.t 23)), (.bin 25 .rem (.t 24) (.k (I 6))), (.mv 7 (.t 25))]⟩] [1, 2, 5, 6, 7]) .skip)) (.rgn [⟨none, [(.mv 26 (.t 5)), (.mv 27 (.t 7)), (.bsl 28 1 1 [(I 0)] [(0, (.t 27))]), (.app 29 1 8 (.t 26) (.t 28)), (.mv 5 (.t 29))]⟩] [1, 2, 5, 6])))) (.rgn [⟨none, [(.mv 12 (.t 6)), (.bin 13 .add (.t 12) (.k (I 1))), (.mv 6 (.t 13))]⟩] [1, 2, 5, 6])))))) (.seq (.rgn [⟨none, [(.mv 30 (.t 5)), (.mv 4 (.t 30))]⟩] [4]) .ret))))
theorem func_l_Row : Tryz.prog.funcs[n_l_Row]? = some Tryz.f49 := Tryz.func49
theorem form_l_Row : formOf Tryz.prog Tryz.f49 [4] = some G_l_Row := by kernel_rfl
theorem res_l_Row : resTmps Tryz.f49.results.toList = some [4] := by kernel_rfl
abbrev n_l_Strokes : Nat := 50
def G_l_Strokes : AC := (.seq (.rgn [⟨none, [(.box 2 2 (.t 0)), (.mv 4 (.k (.sl true 0 [])))]⟩] [1, 2]) (.seq (.rgn [⟨none, [(.mv 5 (.k (.sl true 0 [])))]⟩] [1, 2, 5]) (.seq (.seq (.rgn [⟨none, [(.mv 6 (.k (I 0)))]⟩] [1, 2, 5, 6]) (.block 0 (.loop (.seq (.seq (.rgn [⟨none, [(.mv 7 (.t 6)), (.mv 8 (.t 1)), (.len 9 (.t 8)), (.bin 10 .lss (.t 7) (.t 9)), (.mv 11 (.t 10))]⟩, ⟨(some (11, true)), [(.fa 12 (.t 2) 1), (.ld 13 false 1 (.t 12)), (.len 14 (.t 13)), (.bin 15 .gtr (.t 14) (.k (I 0)))]⟩, ⟨none, [(.pick 16 (.t 11) (.t 15) (.k (B false)))]⟩] [1, 2, 5, 6, 16]) (.cond (.t 16) .skip (.exit 0))) (.seq (.block 1 (.drw [⟨none, [(.mv 19 (.t 5)), (.mv 20 (.t 1)), (.mv 21 (.t 6)), (.ia 22 1 (.t 20) (.t 21)), (.ld 23 false 1 (.t 22)), (.cnv 24 .i64 (.t 23)), (.fa 25 (.t 2) 1), (.ld 26 false 1 (.t 25)), (.len 27 (.t 26)), (.bin 28 .rem (.t 24) (.t 27)), (.bsl 29 1 1 [(I 0)] [(0, (.t 28))]), (.app 30 1 8 (.t 19) (.t 29)), (.mv 5 (.t 30))]⟩] [(4, 7)] [1, 2, 5, 6])) (.rgn [⟨none, [(.mv 17 (.t 6)), (.bin 18 .add (.t 17) (.k (I 1))), (.mv 6 (.t 18))]⟩] [1, 2, 5, 6])))))) (.seq (.rgn [⟨none, [(.mv 31 (.t 5)), (.mv 4 (.t 31))]⟩] [4]) .ret))))
theorem func_l_Strokes : Tryz.prog.funcs[n_l_Strokes]? = some Tryz.f50 := Tryz.func50
theorem form_l_Strokes : formOf Tryz.prog Tryz.f50 [4] = some G_l_Strokes := by kernel_rfl
theorem res_l_Strokes : resTmps Tryz.f50.results.toList = some [4] := by kernel_rfl
abbrev n_l_in : Nat := 58
def G_l_in : AC := (.seq (.rgn [⟨none, [(.mv 4 (.k (B false)))]⟩] [0, 1]) (.seq (.seq (.rgn [⟨none, [(.mv 5 (.k (I 0)))]⟩] [0, 1, 5]) (.block 0 (.loop (.seq (.seq (.rgn [⟨none, [(.mv 6 (.t 5)), (.mv 7 (.t 0)), (.len 8 (.t 7)), (.bin 9 .lss (.t 6) (.t 8))]⟩] [0, 1, 5, 9]) (.cond (.t 9) .skip (.exit 0))) (.seq (.block 1 (.seq (.rgn [⟨none, [(.mv 12 (.t 0)), (.mv 13 (.t 5)), (.ia 14 1 (.t 12) (.t 13)), (.ld 15 false 1 (.t 14)), (.mv 16 (.t 1)), (.bin 17 .eql (.t 15) (.t 16))]⟩] [0, 1, 5, 17]) (.cond (.t 17) (.seq (.rgn [⟨none, [(.mv 4 (.k (B true)))]⟩] [4]) .ret) .skip))) (.rgn [⟨none, [(.mv 10 (.t 5)), (.bin 11 .add (.t 10) (.k (I 1))), (.mv 5 (.t 11))]⟩] [0, 1, 5])))))) (.seq (.rgn [⟨none, [(.mv 4 (.k (B false)))]⟩] [4]) .ret)))
theorem func_l_in : Tryz.prog.funcs[n_l_in]? = some Tryz.f58 := Tryz.func58
theorem form_l_in : formOf Tryz.prog Tryz.f58 [4] = some G_l_in := by kernel_rfl
theorem res_l_in : resTmps Tryz.f58.results.toList = some [4] := by kernel_rfl
end Go.AM

set_option linter.unusedSimpArgs false
set_option linter.unusedVariables false
namespace Go.AM
open Go.RowKit Go.Proofs
def grtO (b : OB) : Bool := decide (10 < b.s.length) || b.s.any fun p => decide (10 < p.2.length)
theorem l_great_ok (g : Bool) (b : OB) (hb : b.s.length ≤ 9223372036854775807) (hz : ∀ p ∈ b.s, p.2.length ≤ 9223372036854775807) : PureOK Tryz.prog n_l_great [On g b] (B (grtO b)) := by
  refine pure_of (walk func_l_great form_l_great res_l_great (by show 1 ≤ _; decide) ?_)
  simp -implicitDefEqProofs (disch := omega) [G_l_great, wrap_id]
  by_cases h : 10 < b.s.length
  · have h' : (10 : Int) < b.s.length := by omega
    have e : grtO b = true := by simp [grtO, h]
    rw [e]
    simp -implicitDefEqProofs (disch := omega) [wrap_id, h']
  · have h' : ¬ (10 : Int) < b.s.length := by omega
    have e0 : grtO b = b.s.any fun p => decide (10 < p.2.length) := by simp [grtO, h]
    generalize grtO b = E at e0 ⊢
    simp -implicitDefEqProofs (disch := omega) [wrap_id, h']
    refine loop_eq (fun i : Nat => ⟨[(1, .ref 0 0), (3, I (i : Int))], [.cells [I b.P, LLs g b.s]]⟩) (fun i => i ≤ b.s.length ∧ ∀ k (hk : k < b.s.length), k < i → ¬ 10 < b.s[k].2.length) (fun i => b.s.length - i) 0 ⟨by omega, fun k hk h => by omega⟩ rfl ?_
    rintro i ⟨hi, he⟩
    refine hideK' fun K0 hK0 => ?_
    simp -implicitDefEqProofs (disch := omega) [wrap_id]
    refine c_split (fun hc => ?_) (fun hc => ?_)
    · have h1 : i < b.s.length := by simp at hc; omega
      have ix : ((i : Int) + 1) = ((i + 1 : Nat) : Int) := by omega
      have z1 := hz _ (List.getElem_mem h1)
      by_cases e : 10 < b.s[i].2.length
      · have e' : (10 : Int) < b.s[i].2.length := by omega
        have : (b.s.any fun p => decide (10 < p.2.length)) = true := List.any_eq_true.2 ⟨_, List.getElem_mem h1, by simpa using e⟩
        rw [this] at e0
        subst e0
        subst hK0
        simp -implicitDefEqProofs (disch := omega) [wrap_id, cells_lls, h1, e']
      · have e' : ¬ (10 : Int) < b.s[i].2.length := by omega
        simp -implicitDefEqProofs (disch := omega) [wrap_id, cells_lls, h1, e']
        rw [hK0]
        refine next_eq (i + 1) ⟨by omega, fun k hk h2 => ?_⟩ (by omega) (by simp only [ix])
        by_cases ek : k = i
        · subst ek; exact e
        · exact he k hk (by omega)
    · have h1 : i = b.s.length := by simp at hc; omega
      have : (b.s.any fun p => decide (10 < p.2.length)) = false := by
        rw [List.any_eq_false]
        intro p hp
        obtain ⟨k, hk, rfl⟩ := List.getElem_of_mem hp
        simpa using he k hk (by omega)
      rw [this] at e0
      subst e0
      subst hK0
      simp -implicitDefEqProofs (disch := omega) [wrap_id]
theorem grt_sz {b : OB} (h : grtO b = false) : Sz12 b ∧ SzO b := by
  unfold grtO at h
  rw [Bool.or_eq_false_iff] at h
  have h1 : ¬ 10 < b.s.length := by simpa using h.1
  have h2 : ∀ p ∈ b.s, ¬ 10 < p.2.length := fun p hp => by simpa using List.any_eq_false.1 h.2 p hp
  exact ⟨⟨by omega, fun p hp => by have := h2 p hp; omega⟩, ⟨by omega, fun p hp => by have := h2 p hp; omega⟩⟩
end Go.AM

set_option linter.unusedSimpArgs false
set_option linter.unusedVariables false
namespace Go.AM
open Go.RowKit Go.Proofs
theorem least_ex {d : Nat} : ∀ {L : List (List Nat)}, L ≠ [] → (∀ w ∈ L, w.length = d) → ∃ w ∈ L, ∀ m ∈ L, frst (wI m) (wI w) = false
  | [a], _, _ => ⟨a, by simp, fun m hm => by rw [List.mem_singleton] at hm; subst hm; exact frst_self _⟩
  | a :: b :: L, _, hl => by
    obtain ⟨w, hw, hm⟩ := least_ex (L := b :: L) (by simp) (fun w hw => hl w (by simp [List.mem_cons.1 hw]))
    have la := hl a (by simp)
    have lw := hl w (List.mem_cons_of_mem _ hw)
    cases hf : frst (wI a) (wI w) with
    | true =>
      refine ⟨a, by simp, fun m hm2 => ?_⟩
      rcases List.mem_cons.1 hm2 with rfl | hm3
      · exact frst_self _
      · have lm := hl m hm2
        exact frst_le_trans (a := wI a) (b := wI w) (c := wI m) (by rw [wI_len, wI_len]; omega) (by rw [wI_len, wI_len]; omega) (frst_asymm hf) (hm m hm3)
    | false =>
      refine ⟨w, List.mem_cons_of_mem _ hw, fun m hm2 => ?_⟩
      rcases List.mem_cons.1 hm2 with rfl | hm3
      · exact hf
      · exact hm m hm3
theorem best_ex {S : List (List Int)} {r x : List Int} {d : Nat} (h : Dist S r x d) : ∃ w, IsBest S d r x w := by
  obtain ⟨⟨w0, hw, hl⟩, _⟩ := h
  have hm := mem_wordsL.2 ⟨hw, hl⟩
  obtain ⟨w, h1, h2⟩ := least_ex (d := d) (L := wordsL S d r x) (fun e => by rw [e] at hm; cases hm) (fun w hw => (mem_wordsL.1 hw).2)
  exact ⟨w, best_words h1 h2⟩
theorem dist_ex {S : List (List Int)} {r x : List Int} (h : ¬ NoW S r x) : ∃ d, Dist S r x d := by
  obtain ⟨w, hw⟩ := not_noW.1 h
  obtain ⟨d, hd, _⟩ := Dist.of hw
  exact ⟨d, hd⟩
theorem dist_le {b : OB} {n : Nat} (hb : Okb b n) {r x : List Int} (lr : r.length = n) (hc : ∀ y ∈ r, 0 ≤ y ∧ y ≤ 5) {d : Nat} (h : Dist b.S r x d) : d < 46656 := far_lt hb.pmS lr hb.hi hc h
theorem ansB_ex (b : OB) (r x : List Int) : ∃ l e, AnsB b r x l e ∧ l.length ≤ 46656 := by
  by_cases h0 : rwsE b r x = 0
  · obtain ⟨n, hb, lr, lx, o1, o2⟩ := rws_ok h0
    by_cases h1 : NoW b.S r x
    · exact ⟨[], 13, .inr ⟨h0, .inl ⟨h1, rfl, rfl⟩⟩, by simp⟩
    · obtain ⟨d, hd⟩ := dist_ex h1
      obtain ⟨w, hw⟩ := best_ex hd
      have := dist_le hb lr (rowO_col o1) hd
      exact ⟨wI w, 0, .inr ⟨h0, .inr ⟨d, w, hd, hw, rfl, rfl⟩⟩, by rw [wI_len, hw.2.1]; omega⟩
  · exact ⟨[], rwsE b r x, .inl ⟨h0, rfl, rfl⟩, by simp⟩
theorem ansC_ex (b : OB) (r x : List Int) : ∃ v e, AnsC b r x v e := by
  by_cases h0 : rwsE b r x = 0
  · by_cases h1 : NoW b.S r x
    · exact ⟨0, 13, .inr ⟨h0, .inl ⟨h1, rfl, rfl⟩⟩⟩
    · obtain ⟨d, hd⟩ := dist_ex h1
      by_cases h2 : mostN ≤ cntW b.S d r x
      · exact ⟨0, 4, .inr ⟨h0, .inr ⟨d, hd, .inl ⟨h2, rfl, rfl⟩⟩⟩⟩
      · exact ⟨_, 0, .inr ⟨h0, .inr ⟨d, hd, .inr ⟨by omega, rfl, rfl⟩⟩⟩⟩
  · exact ⟨0, rwsE b r x, .inl ⟨h0, rfl, rfl⟩⟩
theorem ansK_ex (b : OB) (r x : List Int) (s : Int) : ∃ k e, AnsK b r x s k e := by
  by_cases h0 : rwsE b r x = 0
  · by_cases h2 : 0 ≤ s ∧ s < b.s.length
    · by_cases h1 : NoW b.S r x
      · exact ⟨0, 13, .inr ⟨h0, .inr ⟨h2, .inl ⟨h1, rfl, rfl⟩⟩⟩⟩
      · obtain ⟨d, hd⟩ := dist_ex h1
        by_cases h3 : Dist (wtO b s.toNat).S r x d
        · by_cases h4 : Over b.S r x d s.toNat
          · exact ⟨1, 0, .inr ⟨h0, .inr ⟨h2, .inr ⟨d, hd, rfl, .inr (.inl ⟨h3, h4, rfl⟩)⟩⟩⟩⟩
          · exact ⟨0, 0, .inr ⟨h0, .inr ⟨h2, .inr ⟨d, hd, rfl, .inr (.inr ⟨h3, h4, rfl⟩)⟩⟩⟩⟩
        · exact ⟨2, 0, .inr ⟨h0, .inr ⟨h2, .inr ⟨d, hd, rfl, .inl ⟨h3, rfl⟩⟩⟩⟩⟩
    · exact ⟨0, 3, .inr ⟨h0, .inl ⟨h2, rfl, rfl⟩⟩⟩
  · exact ⟨0, rwsE b r x, .inl ⟨h0, rfl, rfl⟩⟩
end Go.AM

set_option linter.unusedSimpArgs false
set_option linter.unusedVariables false
namespace Go.AM
open Go.RowKit Go.Proofs
def finO (b : OB) : Bool := !grtO b && decide (chkO b = 0)
theorem l_fine_ok (g : Bool) (b : OB) (hb : OBK b) : PureOK Tryz.prog n_l_fine [On g b] (B (finO b)) := by
  refine pure_of (walk func_l_fine form_l_fine res_l_fine (by show 1 ≤ _; decide) ?_)
  simp -implicitDefEqProofs (disch := omega) [G_l_fine, wrap_id]
  refine callW_pure rfl (l_great_ok g b hb.many hb.len) ?_
  cases hg : grtO b with
  | true => simp -implicitDefEqProofs (disch := omega) [wrap_id, finO, hg]
  | false =>
    obtain ⟨z1, z2⟩ := grt_sz hg
    simp -implicitDefEqProofs (disch := omega) [wrap_id]
    refine callW_pure rfl (r_CheckBench_ok g b z2.many z2.len) ?_
    by_cases h : chkO b = 0
    · simp -implicitDefEqProofs (disch := omega) [wrap_id, h, finO, hg]
    · have h' : (chkO b == 0) = false := by simpa using h
      simp -implicitDefEqProofs (disch := omega) [wrap_id, h', h, finO, hg]
theorem fin_ok {b : OB} (h : finO b = true) : ∃ n, Okb b n ∧ Sz12 b ∧ SzO b := by
  unfold finO at h
  rw [Bool.and_eq_true, decide_eq_true_iff] at h
  obtain ⟨n, hb⟩ := okb_of h.2
  have hg : grtO b = false := by simpa using h.1
  obtain ⟨z1, z2⟩ := grt_sz hg
  exact ⟨n, hb, z1, z2⟩
theorem cells_us {l : List Int} {j : Nat} {K : AV → List (Nat × HObj) → Prop} (h : j < l.length) : CellsW (l.map fun n => U n) j 1 false K = K (U (l.getD j 0)) [] := by
  simp [CellsW, h]
def rowG (n : Nat) (u : List Int) : List Int := (List.range n).map fun i => if u = [] then 0 else (u.getD (i % u.length) 0).tmod 6
theorem rowG_len {n : Nat} {u : List Int} : (rowG n u).length = n := by simp [rowG]
theorem rowG_snoc {n : Nat} {u : List Int} : rowG (n + 1) u = rowG n u ++ [if u = [] then 0 else (u.getD (n % u.length) 0).tmod 6] := by simp [rowG, List.range_succ]
theorem tmod6 {x : Int} (h : 0 ≤ x) : 0 ≤ x.tmod 6 ∧ x.tmod 6 ≤ 5 := by
  rw [Int.tmod_eq_emod_of_nonneg h]; omega
theorem getD_u {u : List Int} (hu : ∀ n ∈ u, 0 ≤ n ∧ n ≤ 255) (k : Nat) : 0 ≤ u.getD k 0 ∧ u.getD k 0 ≤ 255 := by
  by_cases h : k < u.length
  · exact hu _ (getD_mem h)
  · rw [List.getD_eq_getElem?_getD, List.getElem?_eq_none (by omega)]; exact ⟨Int.le_refl _, by decide⟩
theorem rowG_col {n : Nat} {u : List Int} (hu : ∀ n ∈ u, 0 ≤ n ∧ n ≤ 255) : ∀ x ∈ rowG n u, 0 ≤ x ∧ x ≤ 5 := fun x hx => by
  obtain ⟨i, _, rfl⟩ := List.mem_map.1 hx
  by_cases h : u = []
  · rw [if_pos h]; decide
  · rw [if_neg h]; exact tmod6 (getD_u hu _).1
theorem rowO_of {b : OB} {n : Nat} (hb : Okb b n) {r : List Int} (h1 : r.length = n) (h2 : ∀ x ∈ r, 0 ≤ x ∧ x ≤ 5) : rowO b r = true := by
  unfold rowO
  rw [Bool.and_eq_true, decide_eq_true_iff, List.all_eq_true]
  exact ⟨by rw [hb.P, h1], fun x hx => by have := h2 x hx; simp; omega⟩
set_option maxHeartbeats 1000000 in
theorem l_Row_ok (g f : Bool) {b : OB} {n : Nat} (hb : Okb b n) (u : List Int) (hl : u.length ≤ 1000000) (hu : ∀ n ∈ u, 0 ≤ n ∧ n ≤ 255) : PureOK Tryz.prog n_l_Row [On g b, Us f u] (Ls (rowG n u).isEmpty (rowG n u)) := by
  have h6 := hb.hi
  have hn := hb.P
  refine pure_of (walk func_l_Row form_l_Row res_l_Row (by show 2 ≤ _; decide) ?_)
  simp -implicitDefEqProofs (disch := omega) [G_l_Row, wrap_id]
  refine loop_eq (fun q : Nat × AV × List HObj => ⟨[(1, Us f u), (2, .ref 0 0), (5, q.2.1), (6, I (q.1 : Int))], q.2.2⟩) (fun q => q.1 ≤ n ∧ AccR q.2.2 q.2.1 (rowG q.1 u) ∧ nthH q.2.2 0 = some (.cells [I b.P, LLs g b.s]) ∧ rid q.2.1 ≠ some 0) (fun q => n - q.1) (0, .sl true 0 [], [.cells [I b.P, LLs g b.s]]) ⟨Nat.zero_le _, .inl ⟨rfl, rfl⟩, rfl, by simp [rid]⟩ rfl ?_
  rintro ⟨i, x, H⟩ ⟨c1, c2, c3, c4⟩
  simp only at c1 c2 c3 c4 ⊢
  have l0 := nthH_lt c3
  refine hideK' fun K0 hK0 => ?_
  simp -implicitDefEqProofs (disch := omega) [wrap_id, c3, ldr_some, hn]
  refine c_split (fun h => ?_) (fun h => ?_)
  · have hir : i < n := by simp at h; omega
    have ix : ((i : Int) + 1) = ((i + 1 : Nat) : Int) := by omega
    have tk := rowG_snoc (n := i) (u := u)
    have tl := rowG_len (n := i) (u := u)
    have fin : ∀ (v : Int) (fr : List (Nat × AV)), v = (if u = [] then 0 else (u.getD (i % u.length) 0).tmod 6) →
        ∀ KK, (∀ ws, (∀ j, j < H.length → rid x ≠ some j → nthH (writeL H ws) j = nthH H j) → nthH (writeL H ws) H.length = some (.cells ((rowG i u ++ [v]).map fun n => I n)) → KK (.ms H.length 0 (i + 1) 1) ws) → AppW H 1 8 x (.sl true 1 [I v]) KK := fun v fr _ KK hKK => by
      refine app_row c2.row (by omega) fun ws w1 w2 w3 => ?_
      rw [tl]
      exact hKK ws w1 w3
    by_cases hu0 : u = []
    · subst hu0
      simp -implicitDefEqProofs (disch := omega) [wrap_id]
      refine bsl_of (ys := [I 0]) rfl rfl ?_
      simp -implicitDefEqProofs (disch := omega) [wrap_id, zrep]
      refine fin 0 [] (by simp) _ fun ws w1 w3 => ?_
      simp -implicitDefEqProofs (disch := omega) [wrap_id]
      rw [hK0]
      rw [if_pos rfl] at tk
      refine next_eq (i + 1, .ms H.length 0 (i + 1) 1, writeL H ws) ⟨by simp only; omega, .inr ⟨H.length, ?_, ?_, ?_⟩, ?_, ?_⟩ (by simp only; omega) (by simp only [ix])
      · rw [rowG_len]
      · simp only [tk]; simp
      · simp only [tk]; exact w3
      · rw [w1 0 l0 c4]; exact c3
      · simp only [rid]; intro e; injection e; omega
    · have hp : 0 < u.length := List.length_pos_iff.2 hu0
      have hp' : ((0 : Int) < u.length) = True := by simp only [eq_iff_iff, iff_true]; omega
      have em : (i : Int).tmod u.length = ((i % u.length : Nat) : Int) := by rw [Int.tmod_eq_emod_of_nonneg (by omega)]; simp
      have lt := Nat.mod_lt i hp
      obtain ⟨b1, b2⟩ := getD_u hu (i % u.length)
      obtain ⟨v1, v2⟩ := tmod6 b1
      rw [if_neg hu0] at tk
      obtain ⟨w, hw⟩ : ∃ w, u.getD (i % u.length) 0 = w := ⟨_, rfl⟩
      have cu : ∀ K, CellsW (u.map fun n => U n) (i % u.length) 1 false K = K (U w) [] := fun K => by rw [cells_us lt, hw]
      rw [hw] at b1 b2 v1 v2 tk
      obtain ⟨m, hm⟩ : ∃ m : Nat, i % u.length = m := ⟨_, rfl⟩
      rw [hm] at em lt
      simp only [hm] at cu
      simp -implicitDefEqProofs (disch := omega) [wrap_id, hp, hp', em, lt, cu]
      refine bsl_of (ys := [I (w.tmod 6)]) rfl rfl ?_
      simp -implicitDefEqProofs (disch := omega) [wrap_id, zrep]
      refine fin (w.tmod 6) [] (by rw [if_neg hu0, hm]; rw [hm] at hw; rw [hw]) _ fun ws w1 w3 => ?_
      simp -implicitDefEqProofs (disch := omega) [wrap_id]
      rw [hK0]
      refine next_eq (i + 1, .ms H.length 0 (i + 1) 1, writeL H ws) ⟨by simp only; omega, .inr ⟨H.length, ?_, ?_, ?_⟩, ?_, ?_⟩ (by simp only; omega) (by simp only [ix])
      · rw [rowG_len]
      · simp only [tk]; simp
      · simp only [tk]; exact w3
      · rw [w1 0 l0 c4]; exact c3
      · simp only [rid]; intro e; injection e; omega
  · have hir : i = n := by simp at h; omega
    subst hir
    subst hK0
    simp -implicitDefEqProofs (disch := omega) [wrap_id]
    exact out_acc c2
def strG (k : Nat) (u : List Int) : List Int := if k = 0 then [] else u.map fun x => x.tmod k
theorem strG_len {k : Nat} {u : List Int} : (strG k u).length ≤ u.length := by unfold strG; split <;> simp
theorem strG_LsO {b : OB} {u : List Int} (hu : ∀ n ∈ u, 0 ≤ n ∧ n ≤ 255) : LsO b (strG b.s.length u) := fun s hs => by
  unfold strG at hs
  split at hs
  · cases hs
  · obtain ⟨x, hx, rfl⟩ := List.mem_map.1 hs
    rw [Int.tmod_eq_emod_of_nonneg (hu x hx).1]
    rename_i h0
    have h1 : (0 : Int) < b.s.length := by omega
    exact ⟨Int.emod_nonneg _ (by omega), Int.emod_lt_of_pos _ h1⟩
set_option maxHeartbeats 1000000 in
theorem l_Strokes_ok (g f : Bool) {b : OB} {n : Nat} (hb : Okb b n) (u : List Int) (hl : u.length ≤ 1000000) (hu : ∀ n ∈ u, 0 ≤ n ∧ n ≤ 255) : PureOK Tryz.prog n_l_Strokes [On g b, Us f u] (Ls (strG b.s.length u).isEmpty (strG b.s.length u)) := by
  have hm := hb.many
  refine pure_of (walk func_l_Strokes form_l_Strokes res_l_Strokes (by show 2 ≤ _; decide) ?_)
  simp -implicitDefEqProofs (disch := omega) [G_l_Strokes, wrap_id]
  refine loop_eq (fun q : Nat × AV × List HObj => ⟨[(1, Us f u), (2, .ref 0 0), (5, q.2.1), (6, I (q.1 : Int))], q.2.2⟩) (fun q => q.1 ≤ (strG b.s.length u).length ∧ AccR q.2.2 q.2.1 ((strG b.s.length u).take q.1) ∧ nthH q.2.2 0 = some (.cells [I b.P, LLs g b.s]) ∧ rid q.2.1 ≠ some 0) (fun q => (strG b.s.length u).length - q.1) (0, .sl true 0 [], [.cells [I b.P, LLs g b.s]]) ⟨Nat.zero_le _, .inl ⟨rfl, rfl⟩, rfl, by simp [rid]⟩ rfl ?_
  rintro ⟨i, x, H⟩ ⟨c1, c2, c3, c4⟩
  simp only at c1 c2 c3 c4 ⊢
  have l0 := nthH_lt c3
  refine hideK' fun K0 hK0 => ?_
  by_cases hk : b.s.length = 0
  · have e0 : strG b.s.length u = [] := by unfold strG; rw [if_pos hk]
    rw [e0] at c1 c2
    have hi : i = 0 := by simpa using c1
    subst hi
    subst hK0
    have hk' : ¬ ((0 : Int) < b.s.length) := by omega
    have hk2 : ¬ (0 < b.s.length) := by omega
    by_cases hu0 : u = []
    · subst hu0
      simp -implicitDefEqProofs (disch := omega) [wrap_id, c3, ldr_some, hk', hk2]
      rw [e0]
      exact out_acc c2
    · have hp : 0 < u.length := List.length_pos_iff.2 hu0
      simp -implicitDefEqProofs (disch := omega) [wrap_id, c3, ldr_some, hk', hk2, hp]
      rw [e0]
      exact out_acc c2
  · have e0 : strG b.s.length u = u.map fun x => x.tmod b.s.length := by unfold strG; rw [if_neg hk]
    have el : (strG b.s.length u).length = u.length := by rw [e0, List.length_map]
    have hk2 : 0 < b.s.length := by omega
    by_cases hi : i < u.length
    · have ix : ((i : Int) + 1) = ((i + 1 : Nat) : Int) := by omega
      obtain ⟨b1, b2⟩ := hu u[i] (List.getElem_mem hi)
      obtain ⟨w, hw⟩ : ∃ w, u[i] = w := ⟨_, rfl⟩
      have cu : ∀ K, CellsW (u.map fun n => U n) i 1 false K = K (U w) [] := fun K => by
        rw [cells_us hi, List.getD_eq_getElem?_getD, List.getElem?_eq_getElem hi, ← hw]; rfl
      have tk : (strG b.s.length u).take (i + 1) = (strG b.s.length u).take i ++ [w.tmod b.s.length] := by
        rw [List.take_succ_eq_append_getElem (by omega)]
        simp [e0, hw]
      have tl : ((strG b.s.length u).take i).length = i := by rw [List.length_take]; omega
      rw [hw] at b1 b2
      simp -implicitDefEqProofs (disch := omega) [wrap_id, c3, ldr_some, hk2, hi, cu, cmp2, nthT]
      refine bsl_of (ys := [I (w.tmod b.s.length)]) rfl rfl ?_
      simp -implicitDefEqProofs (disch := omega) [wrap_id, zrep, cmp2, nthT]
      refine app_row c2.row (by omega) fun ws w1 w2 w3 => ?_
      simp -implicitDefEqProofs (disch := omega) [wrap_id, cmp2, nthT, tl]
      rw [hK0]
      refine next_eq (i + 1, .ms H.length 0 (i + 1) 1, writeL H ws) ⟨by simp only; omega, .inr ⟨H.length, ?_, ?_, ?_⟩, ?_, ?_⟩ (by simp only; omega) (by simp only [ix])
      · rw [List.length_take, Nat.min_eq_left (by omega)]
      · simp only [tk]; simp
      · simp only [tk]; exact w3
      · rw [w1 0 l0 c4]; exact c3
      · simp only [rid]; intro e; injection e; omega
    · have tk : (strG b.s.length u).take i = strG b.s.length u := List.take_of_length_le (by omega)
      rw [tk] at c2
      subst hK0
      simp -implicitDefEqProofs (disch := omega) [wrap_id, c3, ldr_some, hi]
      exact out_acc c2
abbrev UUs (f : Bool) (ls : List (Bool × List Int)) : AV := .sl f ls.length (ls.map fun p => Us p.1 p.2)
theorem cells_uus {ls : List (Bool × List Int)} {j : Nat} {K : AV → List (Nat × HObj) → Prop} (h : j < ls.length) : CellsW (ls.map fun p => Us p.1 p.2) j 1 false K = K (Us ls[j].1 ls[j].2) [] := by
  simp [CellsW, h]
theorem l_short_ok (f : Bool) (ls : List (Bool × List Int)) (hl : ls.length ≤ 1000000) (hz : ∀ p ∈ ls, p.2.length ≤ 9223372036854775807) : PureOK Tryz.prog n_l_short [UUs f ls] (B (ls.all fun p => decide (p.2.length ≤ 40))) := by
  refine pure_of (walk func_l_short form_l_short res_l_short (by show 1 ≤ _; decide) ?_)
  generalize hE : (ls.all fun p => decide (p.2.length ≤ 40)) = E
  simp -implicitDefEqProofs (disch := omega) [G_l_short, wrap_id]
  refine loop_eq (fun i : Nat => ⟨[(0, UUs f ls), (3, I (i : Int))], []⟩) (fun i => i ≤ ls.length ∧ ∀ k (hk : k < ls.length), k < i → ls[k].2.length ≤ 40) (fun i => ls.length - i) 0 ⟨Nat.zero_le _, fun k hk h => by omega⟩ rfl ?_
  rintro i ⟨c1, c2⟩
  refine hideK' fun K0 hK0 => ?_
  simp -implicitDefEqProofs (disch := omega) [wrap_id]
  refine c_split (fun h => ?_) (fun h => ?_)
  · have hi : i < ls.length := by simp at h; omega
    have ix : ((i : Int) + 1) = ((i + 1 : Nat) : Int) := by omega
    have z1 := hz _ (List.getElem_mem hi)
    by_cases e : ls[i].2.length ≤ 40
    · have e' : ¬ (40 : Int) < ls[i].2.length := by omega
      simp -implicitDefEqProofs (disch := omega) [wrap_id, cells_uus, hi, e']
      rw [hK0]
      refine next_eq (i + 1) ⟨by omega, fun k hk h2 => ?_⟩ (by omega) (by simp only [ix])
      by_cases ek : k = i
      · subst ek; exact e
      · exact c2 k hk (by omega)
    · have e' : (40 : Int) < ls[i].2.length := by omega
      have : (ls.all fun p => decide (p.2.length ≤ 40)) = false := by
        rw [List.all_eq_false]
        exact ⟨_, List.getElem_mem hi, by simpa using e⟩
      rw [this] at hE
      subst hE
      subst hK0
      simp -implicitDefEqProofs (disch := omega) [wrap_id, cells_uus, hi, e']
  · have hi : i = ls.length := by simp at h; omega
    have : (ls.all fun p => decide (p.2.length ≤ 40)) = true := by
      rw [List.all_eq_true]
      intro p hp
      obtain ⟨k, hk, rfl⟩ := List.getElem_of_mem hp
      simpa using c2 k hk (by omega)
    rw [this] at hE
    subst hE
    subst hK0
    simp -implicitDefEqProofs (disch := omega) [wrap_id]
theorem l_in_ok (f : Bool) (l : List Int) (n : Int) (hl : l.length ≤ 1000000) : PureOK Tryz.prog n_l_in [Ls f l, I n] (B (l.contains n)) := by
  refine pure_of (walk func_l_in form_l_in res_l_in (by show 2 ≤ _; decide) ?_)
  generalize hE : l.contains n = E
  simp -implicitDefEqProofs (disch := omega) [G_l_in, wrap_id]
  refine loop_eq (fun i : Nat => ⟨[(0, Ls f l), (1, I n), (5, I (i : Int))], []⟩) (fun i => i ≤ l.length ∧ ∀ k (hk : k < l.length), k < i → l[k] ≠ n) (fun i => l.length - i) 0 ⟨Nat.zero_le _, fun k hk h => by omega⟩ rfl ?_
  rintro i ⟨c1, c2⟩
  refine hideK' fun K0 hK0 => ?_
  simp -implicitDefEqProofs (disch := omega) [wrap_id]
  refine c_split (fun h => ?_) (fun h => ?_)
  · have hi : i < l.length := by simp at h; omega
    have ix : ((i : Int) + 1) = ((i + 1 : Nat) : Int) := by omega
    by_cases e : l[i] = n
    · have : l.contains n = true := by
        rw [List.contains_iff_mem, ← e]; exact List.getElem_mem hi
      rw [this] at hE
      subst hE
      subst hK0
      simp -implicitDefEqProofs (disch := omega) [wrap_id, cells_ls, hi, e]
    · have e' : (l[i] == n) = false := by simpa using e
      simp -implicitDefEqProofs (disch := omega) [wrap_id, cells_ls, hi, e']
      rw [hK0]
      refine next_eq (i + 1) ⟨by omega, fun k hk h2 => ?_⟩ (by omega) (by simp only [ix])
      by_cases ek : k = i
      · subst ek; exact e
      · exact c2 k hk (by omega)
  · have hi : i = l.length := by simp at h; omega
    have : l.contains n = false := by
      rw [Bool.eq_false_iff]
      intro hc
      rw [List.contains_iff_mem] at hc
      obtain ⟨k, hk, e⟩ := List.getElem_of_mem hc
      exact c2 k hk (by omega) e
    rw [this] at hE
    subst hE
    subst hK0
    simp -implicitDefEqProofs (disch := omega) [wrap_id]
end Go.AM

set_option linter.unusedSimpArgs false
set_option linter.unusedVariables false
namespace Go.AM
open Go.RowKit Go.Proofs
theorem allI_aft {b : OB} {n : Nat} (hb : Okb b n) : ∀ {l r : List Int}, LsO b l → r.length = n → allI b l r = aft (allI b l (plcL n)) r
  | [], r, _, hr => (aft_plc hr).symm
  | s :: l, r, hl, hr => by
    have hl' : LsO b l := fun t ht => hl t (by simp [ht])
    have h1 := hl s (by simp)
    have ps : Pm n (b.S.getD s.toNat []) := hb.pmS.at (by rw [S_len]; omega)
    show allI b l (aft (b.S.getD s.toNat []) r) = aft (allI b l (aft (b.S.getD s.toNat []) (plcL n))) r
    rw [allI_aft hb hl' (by rw [aft_len]; exact ps.len), allI_aft (r := aft (b.S.getD s.toNat []) (plcL n)) hb hl' (by rw [aft_len]; exact ps.len), aft_plc' ps.rng]
    exact aft_aft ps.len (allI_pm hb hl' .plc).rng
theorem allI_wI {b : OB} {w : List Nat} {r : List Int} : allI b (wI w) r = allS b.S w r := by unfold allI; rw [wI_nat]
theorem wd_allI {b : OB} {l r : List Int} (hl : LsO b l) : Wd b.S r (allI b l r) (l.map Int.toNat) :=
  ⟨fun s hs => by
    obtain ⟨x, hx, rfl⟩ := List.mem_map.1 hs
    have := hl x hx
    rw [S_len]; omega, rfl⟩
theorem wI_LsO {b : OB} {w : List Nat} (h : ∀ s ∈ w, s < b.S.length) : LsO b (wI w) := fun s hs => by
  obtain ⟨t, ht, rfl⟩ := List.mem_map.1 hs
  have := h t ht
  rw [S_len] at this
  omega
theorem pwr_pm {n : Nat} {j : List Int} (h : Pm n j) : ∀ m, Pm n (pwr j m)
  | 0 => by show Pm n (plcL j.length); rw [h.len]; exact .plc
  | m + 1 => h.comp (pwr_pm h m)
theorem pwr_step {n : Nat} {j r : List Int} (h : Pm n j) (m : Nat) : aft j (aft (pwr j m) r) = aft (pwr j (m + 1)) r := aft_aft (pwr_pm h m).len h.rng
theorem pwr_zero {n : Nat} {j r : List Int} (h : Pm n j) (hr : r.length = n) : aft (pwr j 0) r = r := by show aft (plcL j.length) r = r; rw [h.len]; exact aft_plc hr
theorem pwr_one {n : Nat} {j r : List Int} (h : Pm n j) (hr : r.length = n) : aft (pwr j 1) r = aft j r := by
  rw [← pwr_step h 0, pwr_zero h hr]
theorem pwr_ord {n : Nat} {j r : List Int} (h2 : 2 ≤ n) (h6 : n ≤ 6) (h : Pm n j) (hr : r.length = n) : aft (pwr j (ordN j)) r = r := by
  rw [(ord_ok h2 h6 h).id, h.len]; exact aft_plc hr
theorem pwr_add {n : Nat} {j : List Int} (h : Pm n j) (a : Nat) : ∀ c, pwr j (a + c) = aft (pwr j c) (pwr j a)
  | 0 => by show pwr j a = aft (plcL j.length) (pwr j a); rw [h.len, aft_plc (pwr_pm h a).len]
  | c + 1 => by
    show aft j (pwr j (a + c)) = aft (aft j (pwr j c)) (pwr j a)
    rw [pwr_add h a c]
    exact aft_aft (pwr_pm h c).len h.rng
theorem reach_pwr {b : OB} {n : Nat} (hb : Okb b n) {l : List Int} (hl : LsO b l) {y : List Int} (hy : y.length = n) : ∀ k, ∃ w, Wd b.S y (aft (pwr (allI b l (plcL n)) k) y) w
  | 0 => ⟨[], by rw [pwr_zero (allI_pm hb hl .plc) hy]; exact .nil⟩
  | k + 1 => by
    obtain ⟨w, hw⟩ := reach_pwr hb hl hy k
    have pj := allI_pm hb hl (.plc (n := n))
    refine ⟨w ++ l.map Int.toNat, hw.append ?_⟩
    rw [← pwr_step pj k, ← allI_aft hb hl (by rw [aft_len]; exact (pwr_pm pj k).len)]
    exact wd_allI hl
theorem reach_back {b : OB} {n : Nat} (hb : Okb b n) {r x : List Int} (hr : r.length = n) {w : List Nat} (h : Wd b.S r x w) : ∃ v, Wd b.S x r v := by
  have hl := wI_LsO h.1
  have e : allI b (wI w) r = x := by rw [allI_wI]; exact h.2
  have pj := allI_pm hb hl (.plc (n := n))
  have lx : x.length = n := by rw [← e]; exact allI_len hb hl hr
  obtain ⟨v, hv⟩ := reach_pwr hb hl lx (ordN (allI b (wI w) (plcL n)) - 1)
  refine ⟨v, ?_⟩
  have ex : x = aft (pwr (allI b (wI w) (plcL n)) 1) r := by rw [pwr_one pj hr, ← allI_aft hb hl hr, e]
  have lo := (ord_ok hb.lo hb.hi pj).lo
  have : aft (pwr (allI b (wI w) (plcL n)) (ordN (allI b (wI w) (plcL n)) - 1)) x = r := by
    rw [ex, aft_aft (pwr_pm pj 1).len (pwr_pm pj _).rng, ← pwr_add pj 1]
    have : 1 + (ordN (allI b (wI w) (plcL n)) - 1) = ordN (allI b (wI w) (plcL n)) := by omega
    rw [this]
    exact pwr_ord hb.lo hb.hi pj hr
  rw [this] at hv
  exact hv
theorem perm_le : (permK 2 2 []).length ≤ 720 ∧ (permK 3 3 []).length ≤ 720 ∧ (permK 4 4 []).length ≤ 720 ∧ (permK 5 5 []).length ≤ 720 ∧ (permK 6 6 []).length ≤ 720 := by decide +kernel
theorem perm_len {n : Nat} (h2 : 2 ≤ n) (h6 : n ≤ 6) : (permK n n []).length ≤ 720 := by
  obtain ⟨p2, p3, p4, p5, p6⟩ := perm_le
  match n, h2, h6 with
  | 2, _, _ => exact p2
  | 3, _, _ => exact p3
  | 4, _, _ => exact p4
  | 5, _, _ => exact p5
  | 6, _, _ => exact p6
theorem reach_perm {b : OB} {n : Nat} (hb : Okb b n) {r : List Int} (hr : r.length = n) {w : List Nat} (hw : ∀ s ∈ w, s < b.S.length) : allS b.S w r ∈ (permK n n []).map fun p => aft p r := by
  have hl := wI_LsO hw
  rw [← allI_wI, allI_aft hb hl hr]
  exact List.mem_map_of_mem (pm_mem (allI_pm hb hl .plc))
theorem few {b : OB} {n : Nat} (hb : Okb b n) {r : List Int} (hr : r.length = n) {L : List (List Int)} (nd : L.Nodup) (h : ∀ y ∈ L, ¬ NoW b.S r y) : L.length ≤ 720 := by
  have sub : L ⊆ (permK n n []).map fun p => aft p r := fun y hy => by
    obtain ⟨w, hw, e⟩ := not_noW.1 (h y hy)
    rw [← e]; exact reach_perm hb hr hw
  have := nd.length_le_of_subset sub
  rw [List.length_map] at this
  exact Nat.le_trans this (perm_len hb.lo hb.hi)
theorem dist_720 {b : OB} {n : Nat} (hb : Okb b n) {r x : List Int} (hr : r.length = n) {m : Nat} (hd : Dist b.S r x m) : m < 720 := by
  obtain ⟨⟨l, h1, h2⟩, h3⟩ := hd
  have nd : ((List.range (m + 1)).map fun i => allS b.S (l.take i) r).Nodup := by
    rw [List.Nodup, List.pairwise_map]
    refine List.Pairwise.imp_of_mem (fun {a c} ha hc hab e => ?_) (List.pairwise_lt_range)
    have ha := List.mem_range.1 ha
    have hc := List.mem_range.1 hc
    have w1 : Wd b.S r (allS b.S (l.take a) r) (l.take a) := (Wd.split (m := l.drop a) (by rw [List.take_append_drop]; exact h1)).1
    have w2 : Wd b.S (allS b.S (l.take c) r) x (l.drop c) := (Wd.split (m := l.drop c) (by rw [List.take_append_drop]; exact h1)).2
    have := h3 _ ((e ▸ w1).append w2)
    rw [List.length_append, List.length_take, List.length_drop] at this
    omega
  have := few hb hr nd fun y hy => by
    obtain ⟨i, hi, rfl⟩ := List.mem_map.1 hy
    exact not_noW.2 ⟨l.take i, fun s hs => h1.1 s (List.mem_of_mem_take hs), rfl⟩
  rw [List.length_map, List.length_range] at this
  omega
theorem chk_of {b : OB} {n : Nat} (hb : Okb b n) : chkO b = 0 := by
  have hP := hb.P
  have h2 := hb.lo
  have h6 := hb.hi
  have hm := hb.many
  unfold chkO
  rw [if_neg (by omega), if_neg (by omega), if_pos]
  rw [List.all_eq_true]
  intro p hp
  have pm := hb.pm p hp
  unfold strO
  rw [Bool.and_eq_true, decide_eq_true_iff, List.all_eq_true]
  refine ⟨by rw [pm.len, hP], fun k hk => ?_⟩
  have hk := List.mem_range.1 hk
  rw [beq_iff_eq]
  have m1 := pm.mem (k := k) (by rw [← pm.len]; exact hk)
  have c1 := List.count_pos_iff.2 m1
  have c2 := List.nodup_iff_count.1 pm.nd (k : Int)
  omega
theorem rowO_aft {b : OB} {n : Nat} (hb : Okb b n) {s r : List Int} (hs : Pm n s) (h : rowO b r = true) : rowO b (aft s r) = true := by
  have hr := rowO_len hb h
  refine rowO_of hb (by rw [aft_len]; exact hs.len) fun x hx => ?_
  have := aft_col hs.rng hr (C := plcL 6) (fun y hy => plc_mem.2 (by have := rowO_col h y hy; omega)) x hx
  have := plc_mem.1 this
  omega
theorem rowO_allI {b : OB} {n : Nat} (hb : Okb b n) {l r : List Int} (hl : LsO b l) (h : rowO b r = true) : rowO b (allI b l r) = true := by
  rw [allI_aft hb hl (rowO_len hb h)]
  exact rowO_aft hb (allI_pm hb hl .plc) h
theorem rws_of {b : OB} {n : Nat} (hb : Okb b n) {r x : List Int} (h1 : rowO b r = true) (h2 : rowO b x = true) : rwsE b r x = 0 := by
  unfold rwsE
  rw [if_neg (by rw [chk_of hb]; decide), if_neg (by rw [h1, h2]; decide)]
theorem best_of {b : OB} {n : Nat} (hb : Okb b n) {r x : List Int} (h1 : rowO b r = true) (h2 : rowO b x = true) {v : List Nat} (h : Wd b.S r x v) :
    ∃ d w, Dist b.S r x d ∧ IsBest b.S d r x w ∧ AnsB b r x (wI w) 0 ∧ LsO b (wI w) ∧ (wI w).length ≤ 720 ∧ allI b (wI w) r = x ∧ (wI w).length = d ∧ d ≤ v.length := by
  obtain ⟨d, hd, hdv⟩ := Dist.of h
  obtain ⟨w, hw⟩ := best_ex hd
  have := dist_720 hb (rowO_len hb h1) hd
  obtain ⟨a1, a2, a3⟩ := hw
  exact ⟨d, w, hd, ⟨a1, a2, a3⟩, .inr ⟨rws_of hb h1 h2, .inr ⟨d, w, hd, ⟨a1, a2, a3⟩, rfl, rfl⟩⟩, wI_LsO a1.1, by rw [wI_len]; omega, by rw [allI_wI]; exact a1.2, by rw [wI_len]; exact a2, hdv⟩
end Go.AM

set_option linter.unusedSimpArgs false
set_option linter.unusedVariables false
namespace Go.AM
open Go.RowKit Go.Proofs
section
variable {n : Nat} {t : Int} {S : List (List Int)}
def Col5 (r : List Int) : Prop := ∀ c ∈ r, 0 ≤ c ∧ c ≤ 5
theorem Col5.aft (hS : PmS n S) {r : List Int} (hr : r.length = n) (h : Col5 r) {s : Nat} (hs : s < S.length) : Col5 (aft (S.getD s []) r) := fun x hx => by
  have := aft_col (hS.at hs).rng hr (C := plcL 6) (fun y hy => plc_mem.2 (by have := h y hy; omega)) x hx
  have := plc_mem.1 this
  omega
theorem Col5.allS (hS : PmS n S) {r : List Int} (hr : r.length = n) (h : Col5 r) {w : List Nat} (hw : ∀ s ∈ w, s < S.length) : Col5 (allS S w r) := fun x hx => by
  have := allS_col hS hw hr (C := plcL 6) (fun y hy => plc_mem.2 (by have := h y hy; omega)) x hx
  have := plc_mem.1 this
  omega
end
section
variable {b : OB} {n : Nat} {t : Int} {r x : List Int}
end
end Go.AM

set_option linter.unusedSimpArgs false
set_option linter.unusedVariables false
namespace Go.AM
open Go.RowKit Go.Proofs
def skp (s i : Nat) : Nat := if i < s then i else i + 1
theorem skp_ne {s i : Nat} : skp s i ≠ s := by unfold skp; split <;> omega
theorem wt_S {b : OB} {s : Nat} : (wtO b s).S = b.S.eraseIdx s := by unfold wtO OB.S; rw [List.eraseIdx_eq_take_drop_succ, List.eraseIdx_eq_take_drop_succ, List.map_append, List.map_take, List.map_drop]
theorem wt_get {b : OB} {s i : Nat} : (wtO b s).S.getD i [] = b.S.getD (skp s i) [] := by
  rw [wt_S, List.getD_eq_getElem?_getD, List.getD_eq_getElem?_getD, List.getElem?_eraseIdx]
  unfold skp
  split <;> rfl
theorem wt_len {b : OB} {s : Nat} (hs : s < b.S.length) : (wtO b s).S.length + 1 = b.S.length := by
  rw [wt_S, List.length_eraseIdx, if_pos hs]; omega
theorem wt_up {b : OB} {s : Nat} {x : List Int} (hs : s < b.S.length) : ∀ {w : List Nat} {r : List Int}, Wd (wtO b s).S r x w → ∃ m, Wd b.S r x m ∧ m.length = w.length ∧ s ∉ m
  | [], r, h => ⟨[], ⟨by simp, h.2⟩, rfl, by simp⟩
  | i :: w, r, h => by
    rw [Wd.cons, wt_get] at h
    obtain ⟨m, h1, h2, h3⟩ := wt_up hs h.2
    have := wt_len hs
    have hi := h.1
    refine ⟨skp s i :: m, Wd.cons.2 ⟨by unfold skp; split <;> omega, h1⟩, by simp [h2], fun hm => ?_⟩
    rcases List.mem_cons.1 hm with e | hm
    · exact skp_ne e.symm
    · exact h3 hm
theorem wt_dn {b : OB} {s : Nat} {x : List Int} (hs : s < b.S.length) : ∀ {w : List Nat} {r : List Int}, Wd b.S r x w → s ∉ w → ∃ m, Wd (wtO b s).S r x m ∧ m.length = w.length
  | [], r, h, _ => ⟨[], ⟨by simp, h.2⟩, rfl⟩
  | i :: w, r, h, hn => by
    rw [Wd.cons] at h
    obtain ⟨m, h1, h2⟩ := wt_dn hs h.2 fun hm => hn (List.mem_cons_of_mem _ hm)
    have hne : i ≠ s := fun e => hn (by rw [e]; exact List.mem_cons_self)
    have := wt_len hs
    have hi := h.1
    refine ⟨(if i < s then i else i - 1) :: m, Wd.cons.2 ⟨by split <;> omega, ?_⟩, by simp [h2]⟩
    rw [wt_get]
    have e : skp s (if i < s then i else i - 1) = i := by
      unfold skp
      by_cases hq : i < s
      · rw [if_pos hq, if_pos hq]
      · rw [if_neg hq, if_neg (by omega)]; omega
    rw [e]
    exact h1
theorem wt_le {b : OB} {s d d' : Nat} {r x : List Int} (hs : s < b.S.length) (h : Dist b.S r x d) (h' : Dist (wtO b s).S r x d') : d ≤ d' := by
  obtain ⟨⟨w, hw, hl⟩, _⟩ := h'
  obtain ⟨m, h1, h2, _⟩ := wt_up hs hw
  have := h.2 m h1
  omega
theorem wt_same {b : OB} {s d : Nat} {r x : List Int} {w : List Nat} (hs : s < b.S.length) (h : Dist b.S r x d) (hw : Wd b.S r x w) (hl : w.length = d) (hn : s ∉ w) : Dist (wtO b s).S r x d := by
  obtain ⟨m, h1, h2⟩ := wt_dn hs hw hn
  refine ⟨⟨m, h1, by omega⟩, fun l hl2 => ?_⟩
  obtain ⟨m', h3, h4, _⟩ := wt_up hs hl2
  have := h.2 m' h3
  omega
theorem over_of {S : List (List Int)} {r x : List Int} {d s : Nat} {w : List Nat} (hd : Dist S r x d) (hw : Wd S r x w) (hl : w.length = d) (hs : s ∈ w) : Over S r x d s := by
  obtain ⟨l, m, rfl⟩ := List.append_of_mem hs
  obtain ⟨h1, h2⟩ := hw.split
  rw [Wd.cons] at h2
  simp only [List.length_append, List.length_cons] at hl
  refine ⟨allS S l r, l.length, m.length, ⟨⟨l, h1, rfl⟩, fun l' h' => ?_⟩, ⟨⟨m, h2.2, rfl⟩, fun m' h' => ?_⟩, by omega⟩
  · have := hd.2 _ (h'.append (Wd.cons.2 h2))
    simp only [List.length_append, List.length_cons] at this
    omega
  · have := hd.2 _ (h1.append (Wd.cons.2 ⟨h2.1, h'⟩))
    simp only [List.length_append, List.length_cons] at this
    omega
theorem best_fst {S : List (List Int)} {d a s : Nat} {r x : List Int} {w m : List Nat} (h : IsBest S d r x (a :: w)) (hs : s < S.length) (hm : Wd S (aft (S.getD s []) r) x m) (hl : m.length + 1 = d) : a ≤ s := by
  have := h.2.2 (s :: m) (Wd.cons.2 ⟨hs, hm⟩) (by simp; omega)
  apply Classical.byContradiction
  intro hlt
  simp only [wI, List.map_cons, frst] at this
  rw [if_neg (by omega)] at this
  have := of_decide_eq_false this
  omega
def capN (c : Nat) : Nat := if mostN ≤ c then 0 else c
theorem capN_lt (c : Nat) : capN c < mostN := by
  unfold capN
  split
  · exact Nat.zero_lt_succ _
  · omega
theorem le_sm {g : Nat → Nat} : ∀ {n t : Nat}, t < n → g t ≤ sm g n
  | n + 1, t, h => by
    simp only [sm]
    by_cases e : t = n
    · subst e; omega
    · have := le_sm (g := g) (n := n) (t := t) (by omega); omega
theorem sm_cap {g : Nat → Nat} {n : Nat} (h : ∀ t, t < n → g t < mostN) : sm (fun t => capN (g t)) n = sm g n := sm_congr fun t ht => by
  unfold capN; rw [if_neg (by have := h t ht; omega)]
theorem sm_cap_le {g : Nat → Nat} : ∀ {n : Nat}, sm (fun t => capN (g t)) n ≤ n * mostN
  | 0 => by simp [sm]
  | n + 1 => by
    have := sm_cap_le (g := g) (n := n)
    have := capN_lt (g n)
    simp only [sm]
    rw [Nat.succ_mul]
    omega
theorem cnt_far {S : List (List Int)} {r x : List Int} {d k : Nat} (h : Dist S r x d) (hk : k < d) : cntW S k r x = 0 := cntW_zero.2 fun l hl e => by
  have := h.2 l hl
  omega
end Go.AM

set_option linter.unusedSimpArgs false
set_option linter.unusedVariables false
namespace Go.AM
open Go.RowKit Go.Proofs
theorem okb_sz {b : OB} {n : Nat} (hb : Okb b n) : Sz12 b := ⟨by have := hb.many; omega, fun p hp => by have := (hb.pm p hp).len; have := hb.hi; omega⟩
end Go.AM

set_option linter.unusedSimpArgs false
set_option linter.unusedVariables false
namespace Go.AM
open Go.RowKit Go.Proofs
def ovr (g : Nat → Nat) (i : Nat) : Bool := (List.range i).any fun t => decide (mostN ≤ g t)
theorem ovr_succ {g : Nat → Nat} {i : Nat} : ovr g (i + 1) = (ovr g i || decide (mostN ≤ g i)) := by simp [ovr, List.range_succ]
theorem ovr_false {g : Nat → Nat} {i : Nat} (h : ovr g i = false) : ∀ t, t < i → g t < mostN := fun t ht => by
  unfold ovr at h
  rw [List.any_eq_false] at h
  have := h t (List.mem_range.2 ht)
  simp only [decide_eq_true_eq] at this
  omega
theorem ovr_true {g : Nat → Nat} {i : Nat} (h : ovr g i = true) : ∃ t, t < i ∧ mostN ≤ g t := by
  unfold ovr at h
  rw [List.any_eq_true] at h
  obtain ⟨t, h1, h2⟩ := h
  exact ⟨t, List.mem_range.1 h1, of_decide_eq_true h2⟩
theorem lls_pc2 (l : List (Bool × List Int)) (x : AV) (hx : x ∈ l.map fun p => Ls p.1 p.2) : x.isPC = true := by
  obtain ⟨p, _, rfl⟩ := List.mem_map.1 hx
  rfl
theorem wt_pur {b : OB} {s j : Nat} {H : List HObj} (h : nthH H j = some (.cells (llsC (b.s.eraseIdx s)))) : purify (hpf H) (.agg [I b.P, .ms j 0 (b.s.eraseIdx s).length 1]) = some (On false (wtO b s), [j]) := by
  have := lls_pur h rfl
  simp only [purify] at this
  simp only [purify, purifyL, this]; rfl
theorem wt_pur3 {b : OB} {s : Nat} {r x : List Int} {a c d : HObj} : purifyAll (hpf [a, c, .cells (llsC (b.s.eraseIdx s)), d]) [.agg [I b.P, .ms 2 0 (b.s.eraseIdx s).length 1], Ls false r, Ls false x] = some ([On false (wtO b s), Ls false r, Ls false x], [2]) := by
  have h : nthH [a, c, .cells (llsC (b.s.eraseIdx s)), d] 2 = some (.cells (llsC (b.s.eraseIdx s))) := rfl
  simp only [purifyAll, wt_pur h, ls_pur]; rfl
set_option maxHeartbeats 8000000 in
theorem lawOrderCounted (b : OB) (u v : List Int) (t : Int) (hb : OBK b) (hu : UOK u) (hv : UOK v) (ht : 0 ≤ t ∧ t ≤ 255) :
    PureOK Tryz.prog n_l_OrderCounted [On false b, Us false u, Us false v, U t] (B true) := by
  refine pure_of (walk func_l_OrderCounted form_l_OrderCounted res_l_OrderCounted (by show 4 ≤ _; decide) ?_)
  simp -implicitDefEqProofs (disch := omega) [G_l_OrderCounted, wrap_id]
  refine callW_pure rfl (l_fine_ok false b hb) ?_
  cases hf : finO b with
  | false =>
    simp -implicitDefEqProofs (disch := omega) [wrap_id]
    exact callW_pure rfl works_ok (by simp)
  | true =>
  obtain ⟨n, ok, z1, z2⟩ := fin_ok hf
  simp -implicitDefEqProofs (disch := omega) [wrap_id]
  refine bsl_of (ys := [Us false u, Us false v]) rfl rfl ?_
  simp -implicitDefEqProofs (disch := omega) [wrap_id, zrep]
  refine callW_pure (ys := [UUs true [(false, u), (false, v)]]) (ids := []) rfl (l_short_ok true [(false, u), (false, v)] (by simp) (by simp; exact ⟨hu.1, hv.1⟩)) ?_
  cases hs : ([(false, u), (false, v)].all fun p : Bool × List Int => decide (p.2.length ≤ 40)) with
  | false =>
    simp -implicitDefEqProofs (disch := omega) [wrap_id]
    exact callW_pure rfl works_ok (by simp)
  | true =>
  simp -implicitDefEqProofs (disch := omega) [wrap_id]
  have hl : u.length ≤ 40 ∧ v.length ≤ 40 := by simpa using hs
  have hS : b.S.length = b.s.length := by unfold OB.S; rw [List.length_map]
  have hmany := ok.many
  by_cases c3 : b.s.length = 0
  · have c3' : (b.s.length : Int) = 0 := by omega
    simp -implicitDefEqProofs (disch := omega) [wrap_id, c3']
    exact callW_pure rfl works_ok (by simp)
  have c3' : ((b.s.length : Int) == 0) = false := by simp; intro h; rw [h] at c3; simp at c3
  simp -implicitDefEqProofs (disch := omega) [wrap_id, c3']
  have h2 := ok.lo
  have h6 := ok.hi
  have lf : (rowG n u).length = n := rowG_len
  have of : rowO b (rowG n u) = true := rowO_of ok lf (rowG_col hu.2)
  have lL := strG_LsO (b := b) hv.2
  have ll : (strG b.s.length v).length ≤ 40 := Nat.le_trans strG_len hl.2
  have R1 := l_Row_ok false false ok u (by omega) hu.2
  have R2 := l_Strokes_ok false false ok v (by omega) hv.2
  generalize rowG n u = r at lf of R1
  generalize strG b.s.length v = l at lL ll R2
  refine callW_pure rfl R1 ?_
  simp -implicitDefEqProofs (disch := omega) [wrap_id]
  refine pureW_of rfl R2 ?_
  simp -implicitDefEqProofs (disch := omega) [wrap_id, cmp2, nthT]
  have lX := allI_len ok lL lf
  have oX := rowO_allI ok lL of
  have wX := wd_allI (b := b) (r := r) lL
  refine pureW_of rfl (r_All_ok false _ _ ok r l lf lL (by omega)) ?_
  simp -implicitDefEqProofs (disch := omega) [wrap_id, cmp2, nthT]
  generalize allI b l r = x at *
  have ir : r.isEmpty = false := ne_emp lf (by omega)
  simp only [ir]
  obtain ⟨d, w, hd, hbst, hB, hl2, hl3, he, hwl, hkv⟩ := best_of ok of oX wX
  obtain ⟨cv, ce, hC⟩ := ansC_ex b r x
  have hC2 : (mostN ≤ cntW b.S d r x ∧ cv = 0 ∧ ce = 4) ∨ (cntW b.S d r x < mostN ∧ cv = (cntW b.S d r x : Nat) ∧ ce = 0) := by
    rcases hC with ⟨h1, _⟩ | ⟨_, ⟨h1, _⟩ | ⟨d', h1, h2⟩⟩
    · exact absurd (rws_of ok of oX) h1
    · exact absurd wX (h1 _)
    · rw [h1.uniq hd] at h2; exact h2
  let g : Nat → Nat := fun t => cntW b.S (d - 1) (aft (b.S.getD t []) r) x
  refine callW_pure rfl (o_Best_ok false _ _ b z1 r x (by omega) (by omega) hB) ?_
  simp -implicitDefEqProofs (disch := omega) [wrap_id]
  refine callW_pure rfl (o_Count_ok false _ _ b z1 r x (by omega) (by omega) hC) ?_
  simp -implicitDefEqProofs (disch := omega) [wrap_id]
  have hlp : (0 : Int) < b.s.length := by omega
  obtain ⟨s, hs1, hs2⟩ : ∃ s : Nat, t.tmod b.s.length = s ∧ s < b.s.length := by
    have h1 := Int.tmod_nonneg (b := (b.s.length : Int)) (a := t) ht.1
    have h2 := Int.tmod_lt_of_pos t hlp
    exact ⟨(t.tmod b.s.length).toNat, by omega, by omega⟩
  obtain ⟨kd, ke, hK⟩ := ansK_ex b r x (s : Int)
  obtain ⟨rfl, hK2⟩ : ke = 0 ∧ ((¬ Dist (wtO b s).S r x d ∧ kd = 2) ∨ (Dist (wtO b s).S r x d ∧ kd = 1) ∨ (Dist (wtO b s).S r x d ∧ ¬ Over b.S r x d s ∧ kd = 0)) := by
    rcases hK with ⟨h1, _⟩ | ⟨_, ⟨h1, _⟩ | ⟨_, ⟨h1, _⟩ | ⟨d', h1, h2, h3⟩⟩⟩
    · exact absurd (rws_of ok of oX) h1
    · exact absurd ⟨Int.natCast_nonneg _, Int.ofNat_lt.2 hs2⟩ h1
    · exact absurd wX (h1 _)
    · rw [h1.uniq hd, Int.toNat_natCast] at h3
      refine ⟨h2, ?_⟩
      rcases h3 with h | h | h
      · exact .inl h
      · exact .inr (.inl ⟨h.1, h.2.2⟩)
      · exact .inr (.inr h)
  have hsS : s < b.S.length := by omega
  have KD := o_Kind_ok false false false b z1 r x (by omega) (by omega) (s : Int) hK
  have IN := l_in_ok false (wI w) (s : Int) (by omega)
  have hin : (wI w).contains (s : Int) = true ↔ s ∈ w := by
    rw [List.contains_iff_mem, wI, List.mem_map]
    exact ⟨fun ⟨a, h1, h2⟩ => by have : a = s := by omega
                                 rw [← this]; exact h1, fun h => ⟨s, h, rfl⟩⟩
  have er1 : List.take s (List.take s (b.s.map fun p => Ls p.1 p.2)) ++ List.take (b.s.length - (s + 1)) (List.drop (s + 1) (b.s.map fun p => Ls p.1 p.2)) = llsC (b.s.eraseIdx s) := by
    have t1 : List.take (b.s.length - (s + 1)) (List.drop (s + 1) (b.s.map fun p => Ls p.1 p.2)) = List.drop (s + 1) (b.s.map fun p => Ls p.1 p.2) := List.take_of_length_le (by simp)
    rw [List.take_take, Nat.min_self, t1, List.eraseIdx_eq_take_drop_succ]
    unfold llsC
    rw [List.map_append, List.map_take, List.map_drop]
  have er2 : s + (b.s.length - (s + 1)) = (b.s.eraseIdx s).length := by rw [List.length_eraseIdx, if_pos hs2]; omega
  have eq0 : eqK (false, [Leaf.bool]) (.bool true) (.bool true) = some true := rfl
  have eq1 : eqK (false, [Leaf.bool]) (.bool false) (.bool false) = some true := rfl
  obtain ⟨p2, f2, hB2, hpl2⟩ := ansB_ex (wtO b s) r x
  have ok2 := wtO_ok ok s
  have hf : (f2 = 13 ∧ p2 = [] ∧ NoW (wtO b s).S r x) ∨ (f2 = 0 ∧ ∃ d2, Dist (wtO b s).S r x d2 ∧ p2.length = d2) := by
    rcases hB2 with ⟨h1, _⟩ | ⟨_, ⟨h1, h2, h3⟩ | ⟨d2, w2, h1, h2, h3, h4⟩⟩
    · exact absurd (rws_of ok2 of oX) h1
    · exact .inl ⟨h3, h2, h1⟩
    · exact .inr ⟨h4, d2, h1, by rw [h3, wI_len]; exact h2.2.1⟩
  rcases hC2 with ⟨hm, rfl, rfl⟩ | ⟨hm, rfl, rfl⟩
  · simp -implicitDefEqProofs (disch := omega) [wrap_id]
    refine loop_eq (fun i : Nat => ⟨[(3, U t), (4, .ref 0 0), (9, Ls false r), (10, Ls false x), (11, Ls false (wI w)), (13, I 0), (14, I 4), (15, I ((sm (fun t => capN (g t)) i : Nat) : Int)), (16, B (ovr g i)), (17, I (i : Int))], [.cells [I b.P, LLs false b.s]]⟩) (fun i => i ≤ b.s.length ∧ (d = 0 → i = 0)) (fun i => b.s.length - i) 0 ⟨Nat.zero_le _, fun _ => rfl⟩ rfl ?_
    rintro i ⟨i1, i2⟩
    refine hideK' fun K0 hK0 => ?_
    simp -implicitDefEqProofs (disch := omega) [wrap_id]
    by_cases hi : i < b.s.length
    · by_cases hd0 : d = 0
      · subst hd0
        rw [cntW] at hm
        split at hm
        · exact absurd hm (by decide)
        · exact absurd hm (by decide)
      · have hw0 : 0 < (wI w).length := by omega
        have hw1 : (0 : Int) < ((wI w).length : Nat) := by omega
        have pm := ok.at hi
        have eS : b.S.getD i [] = b.s[i].2 := getD_snd hi
        have ly : (aft b.s[i].2 r).length = n := by rw [aft_len, pm.len]
        have oy : rowO b (aft b.s[i].2 r) = true := rowO_aft ok pm of
        have hg : g i = cntW b.S (d - 1) (aft b.s[i].2 r) x := by show cntW b.S (d - 1) (aft (b.S.getD i []) r) x = _; rw [eS]
        obtain ⟨d2, hd2⟩ : ∃ d2, Dist b.S (aft b.s[i].2 r) x d2 := by
          obtain ⟨v2, hv2⟩ := reach_back ok lf (show Wd b.S r (aft b.s[i].2 r) [i] from by rw [Wd.cons, eS]; exact ⟨by omega, .nil⟩)
          obtain ⟨d2, h, _⟩ := Dist.of (hv2.append wX)
          exact ⟨d2, h⟩
        have hdd : d ≤ d2 + 1 := by
          obtain ⟨m, h1, h2⟩ := Dist.step (S := b.S) (s := i) (by omega) (by rw [eS]; exact hd2)
          rw [h1.uniq hd] at h2; exact h2
        have A := r_After_ok b.s[i].1 false b.s[i].2 r (by omega) (by rw [pm.len, lf]) (by rw [lf]; exact pm.rng)
        generalize hy : aft b.s[i].2 r = y at *
        obtain ⟨⟨v2, hv2, _⟩, _⟩ := id hd2
        obtain ⟨d3, w3, hd3, hb3, hB3, _, hl3', _, hwl3, _⟩ := best_of ok oy oX hv2
        have e3 := hd3.uniq hd2
        subst e3
        obtain ⟨c3v, c3e, hC3⟩ := ansC_ex b y x
        have hC4 : (mostN ≤ cntW b.S d3 y x ∧ c3v = 0 ∧ c3e = 4) ∨ (cntW b.S d3 y x < mostN ∧ c3v = (cntW b.S d3 y x : Nat) ∧ c3e = 0) := by
          rcases hC3 with ⟨h1, _⟩ | ⟨_, ⟨h1, _⟩ | ⟨d', h1, h2⟩⟩
          · exact absurd (rws_of ok oy oX) h1
          · exact absurd hv2 (h1 _)
          · rw [h1.uniq hd3] at h2; exact h2
        have iy : y.isEmpty = false := ne_emp ly (by omega)
        simp -implicitDefEqProofs (disch := omega) [wrap_id, cells_lls, hi, hw0, hw1]
        refine callW_pure rfl A ?_
        rw [iy]
        simp -implicitDefEqProofs (disch := omega) [wrap_id]
        refine callW_pure rfl (o_Best_ok false _ _ b z1 y x (by omega) (by omega) hB3) ?_
        simp -implicitDefEqProofs (disch := omega) [wrap_id]
        refine callW_pure rfl (o_Count_ok false _ _ b z1 y x (by omega) (by omega) hC3) ?_
        simp -implicitDefEqProofs (disch := omega) [wrap_id]
        have hle : sm (fun t => capN (g t)) i ≤ i * mostN := sm_cap_le
        have hle2 : sm (fun t => capN (g t)) i ≤ 6 * 1099511627777 := Nat.le_trans hle (Nat.mul_le_mul_right _ (by omega))
        have ix : ((i : Int) + 1) = ((i + 1 : Nat) : Int) := by omega
        have q1 : ¬ ((d3 : Int) < (d : Int) - 1) := by omega
        have ha : d3 + 1 = d → ¬ ((i : Int) < (wI w)[0]'hw0) := fun e1 => by
          cases w with
          | nil => simp [wI] at hw0
          | cons a0 w0 =>
            obtain ⟨⟨v4, h4, h5⟩, _⟩ := hd3
            have := best_fst hbst (s := i) (by omega) (show Wd b.S (aft (b.S.getD i []) r) x v4 from by rw [eS, hy]; exact h4) (by omega)
            simp only [wI, List.map_cons, List.getElem_cons_zero]
            omega
        rcases hC4 with ⟨hm3, rfl, rfl⟩ | ⟨hm3, rfl, rfl⟩
        · simp -implicitDefEqProofs (disch := omega) [wrap_id, hwl, hwl3, q1]
          by_cases e1 : d3 + 1 = d
          · have hg2 : g i = cntW b.S d3 y x := by rw [hg, show d - 1 = d3 from by omega]
            have e1' : ((d3 : Int) == (d : Int) - 1) = true := by simp; omega
            have ha := ha e1
            have E1 : ((sm (fun t => capN (g t)) (i + 1) : Nat) : Int) = ((sm (fun t => capN (g t)) i : Nat) : Int) := by
              simp only [sm, hg2]; unfold capN; rw [if_pos hm3]; omega
            have E2 : ovr g (i + 1) = true := by
              rw [ovr_succ, hg2]; rw [decide_eq_true hm3]; simp
            cases ho : ovr g i with
            | false =>
              simp -implicitDefEqProofs (disch := omega) [wrap_id, e1', ha, ho, hw0, cells_ls]
              rw [hK0]
              exact next_eq (i + 1) ⟨by omega, fun h => by omega⟩ (by omega) (by simp only [ix, E1, E2, ho])
            | true =>
              simp -implicitDefEqProofs (disch := omega) [wrap_id, e1', ha, ho, hw0, cells_ls]
              rw [hK0]
              exact next_eq (i + 1) ⟨by omega, fun h => by omega⟩ (by omega) (by simp only [ix, E1, E2, ho])
          · have e1' : ((d3 : Int) == (d : Int) - 1) = false := by simp; omega
            have hg3 : g i = 0 := by rw [hg]; exact cnt_far hd3 (by omega)
            have E1 : ((sm (fun t => capN (g t)) (i + 1) : Nat) : Int) = ((sm (fun t => capN (g t)) i : Nat) : Int) := by simp only [sm, hg3]; rfl
            have E2 : ovr g (i + 1) = ovr g i := by
              rw [ovr_succ, hg3, decide_eq_false (show ¬ mostN ≤ 0 from by decide)]; simp
            simp -implicitDefEqProofs (disch := omega) [wrap_id, e1']
            rw [hK0]
            exact next_eq (i + 1) ⟨by omega, fun h => by omega⟩ (by omega) (by simp only [ix, E1, E2])
        · have hm3' : cntW b.S d3 y x < 1099511627777 := hm3
          simp -implicitDefEqProofs (disch := omega) [wrap_id, hwl, hwl3, q1]
          by_cases e1 : d3 + 1 = d
          · have hg2 : g i = cntW b.S d3 y x := by rw [hg, show d - 1 = d3 from by omega]
            have e1' : ((d3 : Int) == (d : Int) - 1) = true := by simp; omega
            have ha := ha e1
            have E1 : ((sm (fun t => capN (g t)) (i + 1) : Nat) : Int) = ((sm (fun t => capN (g t)) i : Nat) : Int) + (cntW b.S d3 y x : Nat) := by
              simp only [sm, hg2]; unfold capN; rw [if_neg (by omega)]; omega
            have E2 : ovr g (i + 1) = ovr g i := by
              rw [ovr_succ, hg2]; rw [decide_eq_false (by omega)]; simp
            cases ho : ovr g i with
            | false =>
              simp -implicitDefEqProofs (disch := omega) [wrap_id, e1', ha, ho, hw0, cells_ls]
              rw [hK0]
              exact next_eq (i + 1) ⟨by omega, fun h => by omega⟩ (by omega) (by simp only [ix, E1, E2, ho])
            | true =>
              simp -implicitDefEqProofs (disch := omega) [wrap_id, e1', ha, ho, hw0, cells_ls]
              rw [hK0]
              exact next_eq (i + 1) ⟨by omega, fun h => by omega⟩ (by omega) (by simp only [ix, E1, E2, ho])
          · have e1' : ((d3 : Int) == (d : Int) - 1) = false := by simp; omega
            have hg3 : g i = 0 := by rw [hg]; exact cnt_far hd3 (by omega)
            have E1 : ((sm (fun t => capN (g t)) (i + 1) : Nat) : Int) = ((sm (fun t => capN (g t)) i : Nat) : Int) := by simp only [sm, hg3]; rfl
            have E2 : ovr g (i + 1) = ovr g i := by
              rw [ovr_succ, hg3, decide_eq_false (show ¬ mostN ≤ 0 from by decide)]; simp
            simp -implicitDefEqProofs (disch := omega) [wrap_id, e1']
            rw [hK0]
            exact next_eq (i + 1) ⟨by omega, fun h => by omega⟩ (by omega) (by simp only [ix, E1, E2])
    · have hi : i = b.s.length := by omega
      subst hK0
      have hd1 : d ≠ 0 ∨ b.s.length = 0 := by
        by_cases h : d = 0
        · exact .inr (by rw [← hi]; exact i2 h)
        · exact .inl h
      have hd0 : d ≠ 0 := by omega
      have hcs : cntW b.S d r x = sm g i := by
        have := cntW_succ (T := b.S) (k := d - 1) (y := r) (r := x)
        rw [show d - 1 + 1 = d from by omega, hS, ← hi] at this
        exact this
      have hw0 : 0 < (wI w).length := by omega
      have hw2 : ¬ (wI w).length = 0 := by omega
      cases ho : ovr g i with
      | true =>
        rw [hi] at ho
        simp -implicitDefEqProofs (disch := omega) [wrap_id, hi, ho]
        rw [hs1]
        refine callW_pure rfl KD ?_
        rcases hK2 with ⟨hn, rfl⟩ | ⟨hn, rfl⟩ | ⟨hn, hno, rfl⟩
        · have hi2 : (wI w).contains (s : Int) = true := by
            apply Classical.byContradiction
            intro h
            exact hn (wt_same hsS hd hbst.1 hbst.2.1 fun hm => h (hin.2 hm))
          rw [hi2] at IN
          simp -implicitDefEqProofs (disch := omega) [wrap_id]
          refine callW_pure rfl IN ?_
          simp -implicitDefEqProofs (disch := omega) [wrap_id]
          refine bsl_of (ys := []) rfl rfl ?_
          simp -implicitDefEqProofs (disch := omega) [wrap_id, cmp2, nthT, zrep_zero]
          refine ⟨by omega, ⟨fun x hx => lls_pc2 _ x (List.mem_of_mem_take hx), by omega, by omega⟩, ⟨by omega, by omega⟩, ⟨fun x hx => lls_pc2 _ x (List.mem_of_mem_drop (List.mem_of_mem_take hx)), by omega, by omega⟩, ?_⟩
          rw [er1, er2]
          refine callW_pure (ys := [On false (wtO b s), Ls false r, Ls false x]) (ids := [2]) wt_pur3 (o_Best_ok false _ _ (wtO b s) (okb_sz ok2) r x (by omega) (by omega) hB2) ?_
          rcases hf with ⟨rfl, rfl, hnw⟩ | ⟨rfl, d2, hd2, hpl⟩
          · simp -implicitDefEqProofs (disch := omega) [wrap_id]
            rw [eqk_of (neg := false) (a := .bool true) (b := .bool true) rfl rfl eq0]
            simp -implicitDefEqProofs (disch := omega) [wrap_id]
            exact callW_pure rfl works_ok (by simp)
          · have hlt : d < d2 := by
              have := wt_le hsS hd hd2
              have : d2 ≠ d := fun e => hn (by rw [← e]; exact hd2)
              omega
            have hlt1 : (wI w).length < p2.length := by omega
            have hlt2 : ((wI w).length : Int) < (p2.length : Int) := by omega
            have hlt3 : ((wI w).length : Int) ≤ (p2.length : Int) := by omega
            simp -implicitDefEqProofs (disch := omega) [wrap_id, hlt1, hlt2, hlt3]
            rw [eqk_of (neg := false) (a := .bool true) (b := .bool true) rfl rfl eq0]
            simp -implicitDefEqProofs (disch := omega) [wrap_id, hlt3]
            exact callW_pure rfl works_ok (by simp)
        · simp -implicitDefEqProofs (disch := omega) [wrap_id]
          refine bsl_of (ys := []) rfl rfl ?_
          simp -implicitDefEqProofs (disch := omega) [wrap_id, cmp2, nthT, zrep_zero]
          refine ⟨by omega, ⟨fun x hx => lls_pc2 _ x (List.mem_of_mem_take hx), by omega, by omega⟩, ⟨by omega, by omega⟩, ⟨fun x hx => lls_pc2 _ x (List.mem_of_mem_drop (List.mem_of_mem_take hx)), by omega, by omega⟩, ?_⟩
          rw [er1, er2]
          refine callW_pure (ys := [On false (wtO b s), Ls false r, Ls false x]) (ids := [2]) wt_pur3 (o_Best_ok false _ _ (wtO b s) (okb_sz ok2) r x (by omega) (by omega) hB2) ?_
          rcases hf with ⟨rfl, rfl, hnw⟩ | ⟨rfl, d2, hd2, hpl⟩
          · exact absurd hn (fun ⟨⟨z, h, _⟩, _⟩ => hnw z h)
          · have hlt : d2 = d := hd2.uniq hn
            have hlt1 : ¬ (wI w).length < p2.length := by omega
            have hlt2 : ¬ ((wI w).length : Int) < (p2.length : Int) := by omega
            have hlt3 : ((wI w).length : Int) ≤ (p2.length : Int) := by omega
            simp -implicitDefEqProofs (disch := omega) [wrap_id, hlt1, hlt2, hlt3]
            rw [eqk_of (neg := false) (a := .bool false) (b := .bool false) rfl rfl eq1]
            simp -implicitDefEqProofs (disch := omega) [wrap_id, hlt3]
            exact callW_pure rfl works_ok (by simp)
        · have hi2 : (wI w).contains (s : Int) = false := by
            rw [← Bool.not_eq_true]
            exact fun h => hno (over_of hd hbst.1 hbst.2.1 (hin.1 h))
          rw [hi2] at IN
          simp -implicitDefEqProofs (disch := omega) [wrap_id]
          refine callW_pure rfl IN ?_
          simp -implicitDefEqProofs (disch := omega) [wrap_id]
          refine bsl_of (ys := []) rfl rfl ?_
          simp -implicitDefEqProofs (disch := omega) [wrap_id, cmp2, nthT, zrep_zero]
          refine ⟨by omega, ⟨fun x hx => lls_pc2 _ x (List.mem_of_mem_take hx), by omega, by omega⟩, ⟨by omega, by omega⟩, ⟨fun x hx => lls_pc2 _ x (List.mem_of_mem_drop (List.mem_of_mem_take hx)), by omega, by omega⟩, ?_⟩
          rw [er1, er2]
          refine callW_pure (ys := [On false (wtO b s), Ls false r, Ls false x]) (ids := [2]) wt_pur3 (o_Best_ok false _ _ (wtO b s) (okb_sz ok2) r x (by omega) (by omega) hB2) ?_
          rcases hf with ⟨rfl, rfl, hnw⟩ | ⟨rfl, d2, hd2, hpl⟩
          · exact absurd hn (fun ⟨⟨z, h, _⟩, _⟩ => hnw z h)
          · have hlt : d2 = d := hd2.uniq hn
            have hlt1 : ¬ (wI w).length < p2.length := by omega
            have hlt2 : ¬ ((wI w).length : Int) < (p2.length : Int) := by omega
            have hlt3 : ((wI w).length : Int) ≤ (p2.length : Int) := by omega
            simp -implicitDefEqProofs (disch := omega) [wrap_id, hlt1, hlt2, hlt3]
            rw [eqk_of (neg := false) (a := .bool false) (b := .bool false) rfl rfl eq1]
            simp -implicitDefEqProofs (disch := omega) [wrap_id, hlt3]
            exact callW_pure rfl works_ok (by simp)
      | false =>
        have hsm := sm_cap (ovr_false ho)
        have hle : ¬ ((sm (fun t => capN (g t)) i : Nat) : Int) ≤ 1099511627776 := by
          rw [hsm, ← hcs]
          have : (1099511627777 : Nat) ≤ cntW b.S d r x := hm
          omega
        rw [hi] at hle ho
        simp -implicitDefEqProofs (disch := omega) [wrap_id, hi, hle, ho]
        rw [hs1]
        refine callW_pure rfl KD ?_
        rcases hK2 with ⟨hn, rfl⟩ | ⟨hn, rfl⟩ | ⟨hn, hno, rfl⟩
        · have hi2 : (wI w).contains (s : Int) = true := by
            apply Classical.byContradiction
            intro h
            exact hn (wt_same hsS hd hbst.1 hbst.2.1 fun hm => h (hin.2 hm))
          rw [hi2] at IN
          simp -implicitDefEqProofs (disch := omega) [wrap_id]
          refine callW_pure rfl IN ?_
          simp -implicitDefEqProofs (disch := omega) [wrap_id]
          refine bsl_of (ys := []) rfl rfl ?_
          simp -implicitDefEqProofs (disch := omega) [wrap_id, cmp2, nthT, zrep_zero]
          refine ⟨by omega, ⟨fun x hx => lls_pc2 _ x (List.mem_of_mem_take hx), by omega, by omega⟩, ⟨by omega, by omega⟩, ⟨fun x hx => lls_pc2 _ x (List.mem_of_mem_drop (List.mem_of_mem_take hx)), by omega, by omega⟩, ?_⟩
          rw [er1, er2]
          refine callW_pure (ys := [On false (wtO b s), Ls false r, Ls false x]) (ids := [2]) wt_pur3 (o_Best_ok false _ _ (wtO b s) (okb_sz ok2) r x (by omega) (by omega) hB2) ?_
          rcases hf with ⟨rfl, rfl, hnw⟩ | ⟨rfl, d2, hd2, hpl⟩
          · simp -implicitDefEqProofs (disch := omega) [wrap_id]
            rw [eqk_of (neg := false) (a := .bool true) (b := .bool true) rfl rfl eq0]
            simp -implicitDefEqProofs (disch := omega) [wrap_id]
            exact callW_pure rfl works_ok (by simp)
          · have hlt : d < d2 := by
              have := wt_le hsS hd hd2
              have : d2 ≠ d := fun e => hn (by rw [← e]; exact hd2)
              omega
            have hlt1 : (wI w).length < p2.length := by omega
            have hlt2 : ((wI w).length : Int) < (p2.length : Int) := by omega
            have hlt3 : ((wI w).length : Int) ≤ (p2.length : Int) := by omega
            simp -implicitDefEqProofs (disch := omega) [wrap_id, hlt1, hlt2, hlt3]
            rw [eqk_of (neg := false) (a := .bool true) (b := .bool true) rfl rfl eq0]
            simp -implicitDefEqProofs (disch := omega) [wrap_id, hlt3]
            exact callW_pure rfl works_ok (by simp)
        · simp -implicitDefEqProofs (disch := omega) [wrap_id]
          refine bsl_of (ys := []) rfl rfl ?_
          simp -implicitDefEqProofs (disch := omega) [wrap_id, cmp2, nthT, zrep_zero]
          refine ⟨by omega, ⟨fun x hx => lls_pc2 _ x (List.mem_of_mem_take hx), by omega, by omega⟩, ⟨by omega, by omega⟩, ⟨fun x hx => lls_pc2 _ x (List.mem_of_mem_drop (List.mem_of_mem_take hx)), by omega, by omega⟩, ?_⟩
          rw [er1, er2]
          refine callW_pure (ys := [On false (wtO b s), Ls false r, Ls false x]) (ids := [2]) wt_pur3 (o_Best_ok false _ _ (wtO b s) (okb_sz ok2) r x (by omega) (by omega) hB2) ?_
          rcases hf with ⟨rfl, rfl, hnw⟩ | ⟨rfl, d2, hd2, hpl⟩
          · exact absurd hn (fun ⟨⟨z, h, _⟩, _⟩ => hnw z h)
          · have hlt : d2 = d := hd2.uniq hn
            have hlt1 : ¬ (wI w).length < p2.length := by omega
            have hlt2 : ¬ ((wI w).length : Int) < (p2.length : Int) := by omega
            have hlt3 : ((wI w).length : Int) ≤ (p2.length : Int) := by omega
            simp -implicitDefEqProofs (disch := omega) [wrap_id, hlt1, hlt2, hlt3]
            rw [eqk_of (neg := false) (a := .bool false) (b := .bool false) rfl rfl eq1]
            simp -implicitDefEqProofs (disch := omega) [wrap_id, hlt3]
            exact callW_pure rfl works_ok (by simp)
        · have hi2 : (wI w).contains (s : Int) = false := by
            rw [← Bool.not_eq_true]
            exact fun h => hno (over_of hd hbst.1 hbst.2.1 (hin.1 h))
          rw [hi2] at IN
          simp -implicitDefEqProofs (disch := omega) [wrap_id]
          refine callW_pure rfl IN ?_
          simp -implicitDefEqProofs (disch := omega) [wrap_id]
          refine bsl_of (ys := []) rfl rfl ?_
          simp -implicitDefEqProofs (disch := omega) [wrap_id, cmp2, nthT, zrep_zero]
          refine ⟨by omega, ⟨fun x hx => lls_pc2 _ x (List.mem_of_mem_take hx), by omega, by omega⟩, ⟨by omega, by omega⟩, ⟨fun x hx => lls_pc2 _ x (List.mem_of_mem_drop (List.mem_of_mem_take hx)), by omega, by omega⟩, ?_⟩
          rw [er1, er2]
          refine callW_pure (ys := [On false (wtO b s), Ls false r, Ls false x]) (ids := [2]) wt_pur3 (o_Best_ok false _ _ (wtO b s) (okb_sz ok2) r x (by omega) (by omega) hB2) ?_
          rcases hf with ⟨rfl, rfl, hnw⟩ | ⟨rfl, d2, hd2, hpl⟩
          · exact absurd hn (fun ⟨⟨z, h, _⟩, _⟩ => hnw z h)
          · have hlt : d2 = d := hd2.uniq hn
            have hlt1 : ¬ (wI w).length < p2.length := by omega
            have hlt2 : ¬ ((wI w).length : Int) < (p2.length : Int) := by omega
            have hlt3 : ((wI w).length : Int) ≤ (p2.length : Int) := by omega
            simp -implicitDefEqProofs (disch := omega) [wrap_id, hlt1, hlt2, hlt3]
            rw [eqk_of (neg := false) (a := .bool false) (b := .bool false) rfl rfl eq1]
            simp -implicitDefEqProofs (disch := omega) [wrap_id, hlt3]
            exact callW_pure rfl works_ok (by simp)
  · simp -implicitDefEqProofs (disch := omega) [wrap_id]
    refine loop_eq (fun i : Nat => ⟨[(3, U t), (4, .ref 0 0), (9, Ls false r), (10, Ls false x), (11, Ls false (wI w)), (13, I (cntW b.S d r x : Nat)), (14, I 0), (15, I ((sm (fun t => capN (g t)) i : Nat) : Int)), (16, B (ovr g i)), (17, I (i : Int))], [.cells [I b.P, LLs false b.s]]⟩) (fun i => i ≤ b.s.length ∧ (d = 0 → i = 0)) (fun i => b.s.length - i) 0 ⟨Nat.zero_le _, fun _ => rfl⟩ rfl ?_
    rintro i ⟨i1, i2⟩
    refine hideK' fun K0 hK0 => ?_
    simp -implicitDefEqProofs (disch := omega) [wrap_id]
    by_cases hi : i < b.s.length
    · by_cases hd0 : d = 0
      · have i0 := i2 hd0
        subst i0
        subst hK0
        have hw2 : (wI w).length = 0 := by omega
        have hc1 : cntW b.S d r x = 1 := by
          rw [hd0] at hd ⊢
          rw [cntW, if_pos (Dist.zero_iff.1 hd)]
        rw [hc1]
        have ho : ovr g 0 = false := rfl
        simp -implicitDefEqProofs (disch := omega) [wrap_id, hi, hw2, ho]
        rw [hs1]
        refine callW_pure rfl KD ?_
        rcases hK2 with ⟨hn, rfl⟩ | ⟨hn, rfl⟩ | ⟨hn, hno, rfl⟩
        · have hi2 : (wI w).contains (s : Int) = true := by
            apply Classical.byContradiction
            intro h
            exact hn (wt_same hsS hd hbst.1 hbst.2.1 fun hm => h (hin.2 hm))
          rw [hi2] at IN
          simp -implicitDefEqProofs (disch := omega) [wrap_id]
          refine callW_pure rfl IN ?_
          simp -implicitDefEqProofs (disch := omega) [wrap_id]
          refine bsl_of (ys := []) rfl rfl ?_
          simp -implicitDefEqProofs (disch := omega) [wrap_id, cmp2, nthT, zrep_zero]
          refine ⟨by omega, ⟨fun x hx => lls_pc2 _ x (List.mem_of_mem_take hx), by omega, by omega⟩, ⟨by omega, by omega⟩, ⟨fun x hx => lls_pc2 _ x (List.mem_of_mem_drop (List.mem_of_mem_take hx)), by omega, by omega⟩, ?_⟩
          rw [er1, er2]
          refine callW_pure (ys := [On false (wtO b s), Ls false r, Ls false x]) (ids := [2]) wt_pur3 (o_Best_ok false _ _ (wtO b s) (okb_sz ok2) r x (by omega) (by omega) hB2) ?_
          rcases hf with ⟨rfl, rfl, hnw⟩ | ⟨rfl, d2, hd2, hpl⟩
          · simp -implicitDefEqProofs (disch := omega) [wrap_id]
            rw [eqk_of (neg := false) (a := .bool true) (b := .bool true) rfl rfl eq0]
            simp -implicitDefEqProofs (disch := omega) [wrap_id]
            exact callW_pure rfl works_ok (by simp)
          · have hlt : d < d2 := by
              have := wt_le hsS hd hd2
              have : d2 ≠ d := fun e => hn (by rw [← e]; exact hd2)
              omega
            have hlt1 : (wI w).length < p2.length := by omega
            have hlt2 : ((wI w).length : Int) < (p2.length : Int) := by omega
            have hlt3 : ((wI w).length : Int) ≤ (p2.length : Int) := by omega
            simp -implicitDefEqProofs (disch := omega) [wrap_id, hlt1, hlt2, hlt3]
            rw [eqk_of (neg := false) (a := .bool true) (b := .bool true) rfl rfl eq0]
            simp -implicitDefEqProofs (disch := omega) [wrap_id, hlt3]
            exact callW_pure rfl works_ok (by simp)
        · simp -implicitDefEqProofs (disch := omega) [wrap_id]
          refine bsl_of (ys := []) rfl rfl ?_
          simp -implicitDefEqProofs (disch := omega) [wrap_id, cmp2, nthT, zrep_zero]
          refine ⟨by omega, ⟨fun x hx => lls_pc2 _ x (List.mem_of_mem_take hx), by omega, by omega⟩, ⟨by omega, by omega⟩, ⟨fun x hx => lls_pc2 _ x (List.mem_of_mem_drop (List.mem_of_mem_take hx)), by omega, by omega⟩, ?_⟩
          rw [er1, er2]
          refine callW_pure (ys := [On false (wtO b s), Ls false r, Ls false x]) (ids := [2]) wt_pur3 (o_Best_ok false _ _ (wtO b s) (okb_sz ok2) r x (by omega) (by omega) hB2) ?_
          rcases hf with ⟨rfl, rfl, hnw⟩ | ⟨rfl, d2, hd2, hpl⟩
          · exact absurd hn (fun ⟨⟨z, h, _⟩, _⟩ => hnw z h)
          · have hlt : d2 = d := hd2.uniq hn
            have hlt1 : ¬ (wI w).length < p2.length := by omega
            have hlt2 : ¬ ((wI w).length : Int) < (p2.length : Int) := by omega
            have hlt3 : ((wI w).length : Int) ≤ (p2.length : Int) := by omega
            simp -implicitDefEqProofs (disch := omega) [wrap_id, hlt1, hlt2, hlt3]
            rw [eqk_of (neg := false) (a := .bool false) (b := .bool false) rfl rfl eq1]
            simp -implicitDefEqProofs (disch := omega) [wrap_id, hlt3]
            exact callW_pure rfl works_ok (by simp)
        · have hi2 : (wI w).contains (s : Int) = false := by
            rw [← Bool.not_eq_true]
            exact fun h => hno (over_of hd hbst.1 hbst.2.1 (hin.1 h))
          rw [hi2] at IN
          simp -implicitDefEqProofs (disch := omega) [wrap_id]
          refine callW_pure rfl IN ?_
          simp -implicitDefEqProofs (disch := omega) [wrap_id]
          refine bsl_of (ys := []) rfl rfl ?_
          simp -implicitDefEqProofs (disch := omega) [wrap_id, cmp2, nthT, zrep_zero]
          refine ⟨by omega, ⟨fun x hx => lls_pc2 _ x (List.mem_of_mem_take hx), by omega, by omega⟩, ⟨by omega, by omega⟩, ⟨fun x hx => lls_pc2 _ x (List.mem_of_mem_drop (List.mem_of_mem_take hx)), by omega, by omega⟩, ?_⟩
          rw [er1, er2]
          refine callW_pure (ys := [On false (wtO b s), Ls false r, Ls false x]) (ids := [2]) wt_pur3 (o_Best_ok false _ _ (wtO b s) (okb_sz ok2) r x (by omega) (by omega) hB2) ?_
          rcases hf with ⟨rfl, rfl, hnw⟩ | ⟨rfl, d2, hd2, hpl⟩
          · exact absurd hn (fun ⟨⟨z, h, _⟩, _⟩ => hnw z h)
          · have hlt : d2 = d := hd2.uniq hn
            have hlt1 : ¬ (wI w).length < p2.length := by omega
            have hlt2 : ¬ ((wI w).length : Int) < (p2.length : Int) := by omega
            have hlt3 : ((wI w).length : Int) ≤ (p2.length : Int) := by omega
            simp -implicitDefEqProofs (disch := omega) [wrap_id, hlt1, hlt2, hlt3]
            rw [eqk_of (neg := false) (a := .bool false) (b := .bool false) rfl rfl eq1]
            simp -implicitDefEqProofs (disch := omega) [wrap_id, hlt3]
            exact callW_pure rfl works_ok (by simp)
      · have hw0 : 0 < (wI w).length := by omega
        have hw1 : (0 : Int) < ((wI w).length : Nat) := by omega
        have pm := ok.at hi
        have eS : b.S.getD i [] = b.s[i].2 := getD_snd hi
        have ly : (aft b.s[i].2 r).length = n := by rw [aft_len, pm.len]
        have oy : rowO b (aft b.s[i].2 r) = true := rowO_aft ok pm of
        have hg : g i = cntW b.S (d - 1) (aft b.s[i].2 r) x := by show cntW b.S (d - 1) (aft (b.S.getD i []) r) x = _; rw [eS]
        obtain ⟨d2, hd2⟩ : ∃ d2, Dist b.S (aft b.s[i].2 r) x d2 := by
          obtain ⟨v2, hv2⟩ := reach_back ok lf (show Wd b.S r (aft b.s[i].2 r) [i] from by rw [Wd.cons, eS]; exact ⟨by omega, .nil⟩)
          obtain ⟨d2, h, _⟩ := Dist.of (hv2.append wX)
          exact ⟨d2, h⟩
        have hdd : d ≤ d2 + 1 := by
          obtain ⟨m, h1, h2⟩ := Dist.step (S := b.S) (s := i) (by omega) (by rw [eS]; exact hd2)
          rw [h1.uniq hd] at h2; exact h2
        have A := r_After_ok b.s[i].1 false b.s[i].2 r (by omega) (by rw [pm.len, lf]) (by rw [lf]; exact pm.rng)
        generalize hy : aft b.s[i].2 r = y at *
        obtain ⟨⟨v2, hv2, _⟩, _⟩ := id hd2
        obtain ⟨d3, w3, hd3, hb3, hB3, _, hl3', _, hwl3, _⟩ := best_of ok oy oX hv2
        have e3 := hd3.uniq hd2
        subst e3
        obtain ⟨c3v, c3e, hC3⟩ := ansC_ex b y x
        have hC4 : (mostN ≤ cntW b.S d3 y x ∧ c3v = 0 ∧ c3e = 4) ∨ (cntW b.S d3 y x < mostN ∧ c3v = (cntW b.S d3 y x : Nat) ∧ c3e = 0) := by
          rcases hC3 with ⟨h1, _⟩ | ⟨_, ⟨h1, _⟩ | ⟨d', h1, h2⟩⟩
          · exact absurd (rws_of ok oy oX) h1
          · exact absurd hv2 (h1 _)
          · rw [h1.uniq hd3] at h2; exact h2
        have iy : y.isEmpty = false := ne_emp ly (by omega)
        simp -implicitDefEqProofs (disch := omega) [wrap_id, cells_lls, hi, hw0, hw1]
        refine callW_pure rfl A ?_
        rw [iy]
        simp -implicitDefEqProofs (disch := omega) [wrap_id]
        refine callW_pure rfl (o_Best_ok false _ _ b z1 y x (by omega) (by omega) hB3) ?_
        simp -implicitDefEqProofs (disch := omega) [wrap_id]
        refine callW_pure rfl (o_Count_ok false _ _ b z1 y x (by omega) (by omega) hC3) ?_
        simp -implicitDefEqProofs (disch := omega) [wrap_id]
        have hle : sm (fun t => capN (g t)) i ≤ i * mostN := sm_cap_le
        have hle2 : sm (fun t => capN (g t)) i ≤ 6 * 1099511627777 := Nat.le_trans hle (Nat.mul_le_mul_right _ (by omega))
        have ix : ((i : Int) + 1) = ((i + 1 : Nat) : Int) := by omega
        have q1 : ¬ ((d3 : Int) < (d : Int) - 1) := by omega
        have ha : d3 + 1 = d → ¬ ((i : Int) < (wI w)[0]'hw0) := fun e1 => by
          cases w with
          | nil => simp [wI] at hw0
          | cons a0 w0 =>
            obtain ⟨⟨v4, h4, h5⟩, _⟩ := hd3
            have := best_fst hbst (s := i) (by omega) (show Wd b.S (aft (b.S.getD i []) r) x v4 from by rw [eS, hy]; exact h4) (by omega)
            simp only [wI, List.map_cons, List.getElem_cons_zero]
            omega
        rcases hC4 with ⟨hm3, rfl, rfl⟩ | ⟨hm3, rfl, rfl⟩
        · simp -implicitDefEqProofs (disch := omega) [wrap_id, hwl, hwl3, q1]
          by_cases e1 : d3 + 1 = d
          · have hg2 : g i = cntW b.S d3 y x := by rw [hg, show d - 1 = d3 from by omega]
            have e1' : ((d3 : Int) == (d : Int) - 1) = true := by simp; omega
            have ha := ha e1
            have E1 : ((sm (fun t => capN (g t)) (i + 1) : Nat) : Int) = ((sm (fun t => capN (g t)) i : Nat) : Int) := by
              simp only [sm, hg2]; unfold capN; rw [if_pos hm3]; omega
            have E2 : ovr g (i + 1) = true := by
              rw [ovr_succ, hg2]; rw [decide_eq_true hm3]; simp
            cases ho : ovr g i with
            | false =>
              simp -implicitDefEqProofs (disch := omega) [wrap_id, e1', ha, ho, hw0, cells_ls]
              rw [hK0]
              exact next_eq (i + 1) ⟨by omega, fun h => by omega⟩ (by omega) (by simp only [ix, E1, E2, ho])
            | true =>
              simp -implicitDefEqProofs (disch := omega) [wrap_id, e1', ha, ho, hw0, cells_ls]
              rw [hK0]
              exact next_eq (i + 1) ⟨by omega, fun h => by omega⟩ (by omega) (by simp only [ix, E1, E2, ho])
          · have e1' : ((d3 : Int) == (d : Int) - 1) = false := by simp; omega
            have hg3 : g i = 0 := by rw [hg]; exact cnt_far hd3 (by omega)
            have E1 : ((sm (fun t => capN (g t)) (i + 1) : Nat) : Int) = ((sm (fun t => capN (g t)) i : Nat) : Int) := by simp only [sm, hg3]; rfl
            have E2 : ovr g (i + 1) = ovr g i := by
              rw [ovr_succ, hg3, decide_eq_false (show ¬ mostN ≤ 0 from by decide)]; simp
            simp -implicitDefEqProofs (disch := omega) [wrap_id, e1']
            rw [hK0]
            exact next_eq (i + 1) ⟨by omega, fun h => by omega⟩ (by omega) (by simp only [ix, E1, E2])
        · have hm3' : cntW b.S d3 y x < 1099511627777 := hm3
          simp -implicitDefEqProofs (disch := omega) [wrap_id, hwl, hwl3, q1]
          by_cases e1 : d3 + 1 = d
          · have hg2 : g i = cntW b.S d3 y x := by rw [hg, show d - 1 = d3 from by omega]
            have e1' : ((d3 : Int) == (d : Int) - 1) = true := by simp; omega
            have ha := ha e1
            have E1 : ((sm (fun t => capN (g t)) (i + 1) : Nat) : Int) = ((sm (fun t => capN (g t)) i : Nat) : Int) + (cntW b.S d3 y x : Nat) := by
              simp only [sm, hg2]; unfold capN; rw [if_neg (by omega)]; omega
            have E2 : ovr g (i + 1) = ovr g i := by
              rw [ovr_succ, hg2]; rw [decide_eq_false (by omega)]; simp
            cases ho : ovr g i with
            | false =>
              simp -implicitDefEqProofs (disch := omega) [wrap_id, e1', ha, ho, hw0, cells_ls]
              rw [hK0]
              exact next_eq (i + 1) ⟨by omega, fun h => by omega⟩ (by omega) (by simp only [ix, E1, E2, ho])
            | true =>
              simp -implicitDefEqProofs (disch := omega) [wrap_id, e1', ha, ho, hw0, cells_ls]
              rw [hK0]
              exact next_eq (i + 1) ⟨by omega, fun h => by omega⟩ (by omega) (by simp only [ix, E1, E2, ho])
          · have e1' : ((d3 : Int) == (d : Int) - 1) = false := by simp; omega
            have hg3 : g i = 0 := by rw [hg]; exact cnt_far hd3 (by omega)
            have E1 : ((sm (fun t => capN (g t)) (i + 1) : Nat) : Int) = ((sm (fun t => capN (g t)) i : Nat) : Int) := by simp only [sm, hg3]; rfl
            have E2 : ovr g (i + 1) = ovr g i := by
              rw [ovr_succ, hg3, decide_eq_false (show ¬ mostN ≤ 0 from by decide)]; simp
            simp -implicitDefEqProofs (disch := omega) [wrap_id, e1']
            rw [hK0]
            exact next_eq (i + 1) ⟨by omega, fun h => by omega⟩ (by omega) (by simp only [ix, E1, E2])
    · have hi : i = b.s.length := by omega
      subst hK0
      have hd1 : d ≠ 0 ∨ b.s.length = 0 := by
        by_cases h : d = 0
        · exact .inr (by rw [← hi]; exact i2 h)
        · exact .inl h
      have hd0 : d ≠ 0 := by omega
      have hcs : cntW b.S d r x = sm g i := by
        have := cntW_succ (T := b.S) (k := d - 1) (y := r) (r := x)
        rw [show d - 1 + 1 = d from by omega, hS, ← hi] at this
        exact this
      have hw0 : 0 < (wI w).length := by omega
      have hw2 : (((wI w).length : Int) == 0) = false := by rw [beq_eq_false_iff_ne]; omega
      have hlt : ∀ t, t < i → g t < mostN := fun t ht => by
        have := le_sm (g := g) ht
        omega
      have ho : ovr g i = false := by
        cases h : ovr g i with
        | false => rfl
        | true =>
          obtain ⟨t, h1, h2⟩ := ovr_true h
          have := hlt t h1
          omega
      have hsm := sm_cap hlt
      rw [hsm, ← hcs]
      rw [hi] at ho
      simp -implicitDefEqProofs (disch := omega) [wrap_id, hi, hw2, hw0, ho]
      rw [hs1]
      refine callW_pure rfl KD ?_
      rcases hK2 with ⟨hn, rfl⟩ | ⟨hn, rfl⟩ | ⟨hn, hno, rfl⟩
      · have hi2 : (wI w).contains (s : Int) = true := by
          apply Classical.byContradiction
          intro h
          exact hn (wt_same hsS hd hbst.1 hbst.2.1 fun hm => h (hin.2 hm))
        rw [hi2] at IN
        simp -implicitDefEqProofs (disch := omega) [wrap_id]
        refine callW_pure rfl IN ?_
        simp -implicitDefEqProofs (disch := omega) [wrap_id]
        refine bsl_of (ys := []) rfl rfl ?_
        simp -implicitDefEqProofs (disch := omega) [wrap_id, cmp2, nthT, zrep_zero]
        refine ⟨by omega, ⟨fun x hx => lls_pc2 _ x (List.mem_of_mem_take hx), by omega, by omega⟩, ⟨by omega, by omega⟩, ⟨fun x hx => lls_pc2 _ x (List.mem_of_mem_drop (List.mem_of_mem_take hx)), by omega, by omega⟩, ?_⟩
        rw [er1, er2]
        refine callW_pure (ys := [On false (wtO b s), Ls false r, Ls false x]) (ids := [2]) wt_pur3 (o_Best_ok false _ _ (wtO b s) (okb_sz ok2) r x (by omega) (by omega) hB2) ?_
        rcases hf with ⟨rfl, rfl, hnw⟩ | ⟨rfl, d2, hd2, hpl⟩
        · simp -implicitDefEqProofs (disch := omega) [wrap_id]
          rw [eqk_of (neg := false) (a := .bool true) (b := .bool true) rfl rfl eq0]
          simp -implicitDefEqProofs (disch := omega) [wrap_id]
          exact callW_pure rfl works_ok (by simp)
        · have hlt : d < d2 := by
            have := wt_le hsS hd hd2
            have : d2 ≠ d := fun e => hn (by rw [← e]; exact hd2)
            omega
          have hlt1 : (wI w).length < p2.length := by omega
          have hlt2 : ((wI w).length : Int) < (p2.length : Int) := by omega
          have hlt3 : ((wI w).length : Int) ≤ (p2.length : Int) := by omega
          simp -implicitDefEqProofs (disch := omega) [wrap_id, hlt1, hlt2, hlt3]
          rw [eqk_of (neg := false) (a := .bool true) (b := .bool true) rfl rfl eq0]
          simp -implicitDefEqProofs (disch := omega) [wrap_id, hlt3]
          exact callW_pure rfl works_ok (by simp)
      · simp -implicitDefEqProofs (disch := omega) [wrap_id]
        refine bsl_of (ys := []) rfl rfl ?_
        simp -implicitDefEqProofs (disch := omega) [wrap_id, cmp2, nthT, zrep_zero]
        refine ⟨by omega, ⟨fun x hx => lls_pc2 _ x (List.mem_of_mem_take hx), by omega, by omega⟩, ⟨by omega, by omega⟩, ⟨fun x hx => lls_pc2 _ x (List.mem_of_mem_drop (List.mem_of_mem_take hx)), by omega, by omega⟩, ?_⟩
        rw [er1, er2]
        refine callW_pure (ys := [On false (wtO b s), Ls false r, Ls false x]) (ids := [2]) wt_pur3 (o_Best_ok false _ _ (wtO b s) (okb_sz ok2) r x (by omega) (by omega) hB2) ?_
        rcases hf with ⟨rfl, rfl, hnw⟩ | ⟨rfl, d2, hd2, hpl⟩
        · exact absurd hn (fun ⟨⟨z, h, _⟩, _⟩ => hnw z h)
        · have hlt : d2 = d := hd2.uniq hn
          have hlt1 : ¬ (wI w).length < p2.length := by omega
          have hlt2 : ¬ ((wI w).length : Int) < (p2.length : Int) := by omega
          have hlt3 : ((wI w).length : Int) ≤ (p2.length : Int) := by omega
          simp -implicitDefEqProofs (disch := omega) [wrap_id, hlt1, hlt2, hlt3]
          rw [eqk_of (neg := false) (a := .bool false) (b := .bool false) rfl rfl eq1]
          simp -implicitDefEqProofs (disch := omega) [wrap_id, hlt3]
          exact callW_pure rfl works_ok (by simp)
      · have hi2 : (wI w).contains (s : Int) = false := by
          rw [← Bool.not_eq_true]
          exact fun h => hno (over_of hd hbst.1 hbst.2.1 (hin.1 h))
        rw [hi2] at IN
        simp -implicitDefEqProofs (disch := omega) [wrap_id]
        refine callW_pure rfl IN ?_
        simp -implicitDefEqProofs (disch := omega) [wrap_id]
        refine bsl_of (ys := []) rfl rfl ?_
        simp -implicitDefEqProofs (disch := omega) [wrap_id, cmp2, nthT, zrep_zero]
        refine ⟨by omega, ⟨fun x hx => lls_pc2 _ x (List.mem_of_mem_take hx), by omega, by omega⟩, ⟨by omega, by omega⟩, ⟨fun x hx => lls_pc2 _ x (List.mem_of_mem_drop (List.mem_of_mem_take hx)), by omega, by omega⟩, ?_⟩
        rw [er1, er2]
        refine callW_pure (ys := [On false (wtO b s), Ls false r, Ls false x]) (ids := [2]) wt_pur3 (o_Best_ok false _ _ (wtO b s) (okb_sz ok2) r x (by omega) (by omega) hB2) ?_
        rcases hf with ⟨rfl, rfl, hnw⟩ | ⟨rfl, d2, hd2, hpl⟩
        · exact absurd hn (fun ⟨⟨z, h, _⟩, _⟩ => hnw z h)
        · have hlt : d2 = d := hd2.uniq hn
          have hlt1 : ¬ (wI w).length < p2.length := by omega
          have hlt2 : ¬ ((wI w).length : Int) < (p2.length : Int) := by omega
          have hlt3 : ((wI w).length : Int) ≤ (p2.length : Int) := by omega
          simp -implicitDefEqProofs (disch := omega) [wrap_id, hlt1, hlt2, hlt3]
          rw [eqk_of (neg := false) (a := .bool false) (b := .bool false) rfl rfl eq1]
          simp -implicitDefEqProofs (disch := omega) [wrap_id, hlt3]
          exact callW_pure rfl works_ok (by simp)
end Go.AM
