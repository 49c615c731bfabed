/-
  KxJo2: texts joined: FmOF Co1 Co2 Co3 Co5 Co6 FmOL Lo1 Lo9 Lo10 Lo12. Own work.
-/
import Derived.Test.YtelokgilhpjbhaaGreatKxJo1
import Derived.Test.YtelokgilhpjbhaaGreatProg

set_option maxRecDepth 100000
namespace Go.AM
open Go.RowKit Go.Proofs
abbrev n_r_CheckBench : Nat := 24
def G_r_CheckBench : AC := (.seq (.rgn [⟨none, [(.box 1 2 (.t 0)), (.mv 2 (.k (I 0)))]⟩] [1]) (.seq (.seq (.rgn [⟨none, [(.fa 4 (.t 1) 0), (.ld 5 false 1 (.t 4)), (.bin 6 .lss (.t 5) (.k (I 2))), (.mv 7 (.t 6))]⟩, ⟨(some (7, false)), [(.fa 8 (.t 1) 0), (.ld 9 false 1 (.t 8)), (.bin 10 .gtr (.t 9) (.k (I 6)))]⟩, ⟨none, [(.pick 11 (.t 7) (.k (B true)) (.t 10))]⟩] [1, 11]) (.cond (.t 11) (.seq (.rgn [⟨none, [(.mv 2 (.k (I 2)))]⟩] [2]) .ret) .skip)) (.seq (.seq (.rgn [⟨none, [(.fa 12 (.t 1) 1), (.ld 13 false 1 (.t 12)), (.len 14 (.t 13)), (.bin 15 .gtr (.t 14) (.k (I 6)))]⟩] [1, 15]) (.cond (.t 15) (.seq (.rgn [⟨none, [(.mv 2 (.k (I 6)))]⟩] [2]) .ret) .skip)) (.seq (.seq (.rgn [⟨none, [(.mv 3 (.k (I 0)))]⟩] [1, 3]) (.block 0 (.loop (.seq (.seq (.rgn [⟨none, [(.mv 16 (.t 3)), (.fa 17 (.t 1) 1), (.ld 18 false 1 (.t 17)), (.len 19 (.t 18)), (.bin 20 .lss (.t 16) (.t 19))]⟩] [1, 3, 20]) (.cond (.t 20) .skip (.exit 0))) (.seq (.block 1 (.seq (.drw [⟨none, [(.fa 23 (.t 1) 1), (.ld 24 false 1 (.t 23)), (.mv 25 (.t 3)), (.ia 26 1 (.t 24) (.t 25)), (.ld 27 false 1 (.t 26)), (.fa 28 (.t 1) 0), (.ld 29 false 1 (.t 28)), (.call 30 77 [(.t 27), (.t 29)]), (.un 31 .not (.t 30))]⟩] [(1, 6), (4, 6)] [1, 3, 31]) (.cond (.t 31) (.seq (.rgn [⟨none, [(.mv 2 (.k (I 15)))]⟩] [2]) .ret) .skip))) (.rgn [⟨none, [(.mv 21 (.t 3)), (.bin 22 .add (.t 21) (.k (I 1))), (.mv 3 (.t 22))]⟩] [1, 3])))))) (.seq (.rgn [⟨none, [(.mv 2 (.k (I 0)))]⟩] [2]) .ret)))))
theorem func_r_CheckBench : Tryz.prog.funcs[n_r_CheckBench]? = some Tryz.f24 := Tryz.func24
theorem form_r_CheckBench : formOf Tryz.prog Tryz.f24 [2] = some G_r_CheckBench := by kernel_rfl
theorem res_r_CheckBench : resTmps Tryz.f24.results.toList = some [2] := by kernel_rfl
abbrev n_r_All : Nat := 51
def G_r_All : AC := (.seq (.rgn [⟨none, [(.box 3 2 (.t 0)), (.mv 6 (.k (.sl true 0 [])))]⟩] [1, 2, 3]) (.seq (.rgn [⟨none, [(.bsl 9 0 1 [(I 0)] []), (.mv 10 (.t 1)), (.app 11 1 8 (.t 9) (.t 10)), (.mv 7 (.t 11))]⟩] [2, 3, 7]) (.seq (.seq (.rgn [⟨none, [(.mv 8 (.k (I 0)))]⟩] [2, 3, 7, 8]) (.block 0 (.loop (.seq (.seq (.rgn [⟨none, [(.mv 12 (.t 8)), (.mv 13 (.t 2)), (.len 14 (.t 13)), (.bin 15 .lss (.t 12) (.t 14))]⟩] [2, 3, 7, 8, 15]) (.cond (.t 15) .skip (.exit 0))) (.seq (.block 1 (.drw [⟨none, [(.fa 18 (.t 3) 1), (.ld 19 false 1 (.t 18)), (.mv 20 (.t 2)), (.mv 21 (.t 8)), (.ia 22 1 (.t 20) (.t 21)), (.ld 23 false 1 (.t 22)), (.ia 24 1 (.t 19) (.t 23)), (.ld 25 false 1 (.t 24)), (.mv 26 (.t 7)), (.call 27 55 [(.t 25), (.t 26)]), (.mv 7 (.t 27))]⟩] [(1, 5)] [2, 3, 7, 8])) (.rgn [⟨none, [(.mv 16 (.t 8)), (.bin 17 .add (.t 16) (.k (I 1))), (.mv 8 (.t 17))]⟩] [2, 3, 7, 8])))))) (.seq (.rgn [⟨none, [(.mv 28 (.t 7)), (.mv 6 (.t 28))]⟩] [6]) .ret))))
theorem func_r_All : Tryz.prog.funcs[n_r_All]? = some Tryz.f51 := Tryz.func51
theorem form_r_All : formOf Tryz.prog Tryz.f51 [6] = some G_r_All := by kernel_rfl
theorem res_r_All : resTmps Tryz.f51.results.toList = some [6] := by kernel_rfl
abbrev n_r_Places : Nat := 54
def G_r_Places : AC := (.seq (.rgn [⟨none, [(.box 1 2 (.t 0)), (.mv 2 (.k (.sl true 0 [])))]⟩] [1]) (.seq (.rgn [⟨none, [(.mv 3 (.k (.sl true 0 [])))]⟩] [1, 3]) (.seq (.seq (.rgn [⟨none, [(.mv 4 (.k (I 0)))]⟩] [1, 3, 4]) (.block 0 (.loop (.seq (.seq (.rgn [⟨none, [(.mv 5 (.t 4)), (.fa 6 (.t 1) 0), (.ld 7 false 1 (.t 6)), (.bin 8 .lss (.t 5) (.t 7))]⟩] [1, 3, 4, 8]) (.cond (.t 8) .skip (.exit 0))) (.seq (.block 1 (.rgn [⟨none, [(.mv 11 (.t 3)), (.mv 12 (.t 4)), (.bsl 13 1 1 [(I 0)] [(0, (.t 12))]), (.app 14 1 8 (.t 11) (.t 13)), (.mv 3 (.t 14))]⟩] [1, 3, 4])) (.rgn [⟨none, [(.mv 9 (.t 4)), (.bin 10 .add (.t 9) (.k (I 1))), (.mv 4 (.t 10))]⟩] [1, 3, 4])))))) (.seq (.rgn [⟨none, [(.mv 15 (.t 3)), (.mv 2 (.t 15))]⟩] [2]) .ret))))
theorem func_r_Places : Tryz.prog.funcs[n_r_Places]? = some Tryz.f54 := Tryz.func54
theorem form_r_Places : formOf Tryz.prog Tryz.f54 [2] = some G_r_Places := by kernel_rfl
theorem res_r_Places : resTmps Tryz.f54.results.toList = some [2] := by kernel_rfl
abbrev n_r_After : Nat := 55
def G_r_After : AC := (.seq (.rgn [⟨none, [(.mv 4 (.k (.sl true 0 [])))]⟩] [0, 1]) (.seq (.rgn [⟨none, [(.mv 5 (.k (.sl true 0 [])))]⟩] [0, 1, 5]) (.seq (.seq (.rgn [⟨none, [(.mv 6 (.k (I 0)))]⟩] [0, 1, 5, 6]) (.block 0 (.loop (.seq (.seq (.rgn [⟨none, [(.mv 7 (.t 6)), (.mv 8 (.t 1)), (.len 9 (.t 8)), (.bin 10 .lss (.t 7) (.t 9))]⟩] [0, 1, 5, 6, 10]) (.cond (.t 10) .skip (.exit 0))) (.seq (.block 1 (.rgn [⟨none, [(.mv 13 (.t 5)), (.mv 14 (.t 1)), (.mv 15 (.t 0)), (.mv 16 (.t 6)), (.ia 17 1 (.t 15) (.t 16)), (.ld 18 false 1 (.t 17)), (.ia 19 1 (.t 14) (.t 18)), (.ld 20 false 1 (.t 19)), (.bsl 21 1 1 [(I 0)] [(0, (.t 20))]), (.app 22 1 8 (.t 13) (.t 21)), (.mv 5 (.t 22))]⟩] [0, 1, 5, 6])) (.rgn [⟨none, [(.mv 11 (.t 6)), (.bin 12 .add (.t 11) (.k (I 1))), (.mv 6 (.t 12))]⟩] [0, 1, 5, 6])))))) (.seq (.rgn [⟨none, [(.mv 23 (.t 5)), (.mv 4 (.t 23))]⟩] [4]) .ret))))
theorem func_r_After : Tryz.prog.funcs[n_r_After]? = some Tryz.f55 := Tryz.func55
theorem form_r_After : formOf Tryz.prog Tryz.f55 [4] = some G_r_After := by kernel_rfl
theorem res_r_After : resTmps Tryz.f55.results.toList = some [4] := by kernel_rfl
abbrev n_r_isStroke : Nat := 77
def G_r_isStroke : AC := (.seq (.rgn [⟨none, [(.mv 4 (.k (B false)))]⟩] [0, 1]) (.seq (.seq (.rgn [⟨none, [(.mv 8 (.t 0)), (.len 9 (.t 8)), (.mv 10 (.t 1)), (.bin 11 .neq (.t 9) (.t 10))]⟩] [0, 1, 11]) (.cond (.t 11) (.seq (.rgn [⟨none, [(.mv 4 (.k (B false)))]⟩] [4]) .ret) .skip)) (.seq (.seq (.rgn [⟨none, [(.mv 5 (.k (I 0)))]⟩] [0, 1, 5]) (.block 0 (.loop (.seq (.seq (.rgn [⟨none, [(.mv 12 (.t 5)), (.mv 13 (.t 1)), (.bin 14 .lss (.t 12) (.t 13))]⟩] [0, 1, 5, 14]) (.cond (.t 14) .skip (.exit 0))) (.seq (.block 1 (.seq (.rgn [⟨none, [(.mv 6 (.k (I 0)))]⟩] [0, 1, 5, 6]) (.seq (.seq (.rgn [⟨none, [(.mv 7 (.k (I 0)))]⟩] [0, 1, 5, 6, 7]) (.block 2 (.loop (.seq (.seq (.rgn [⟨none, [(.mv 17 (.t 7)), (.mv 18 (.t 0)), (.len 19 (.t 18)), (.bin 20 .lss (.t 17) (.t 19))]⟩] [0, 1, 5, 6, 7, 20]) (.cond (.t 20) .skip (.exit 2))) (.seq (.block 3 (.seq (.rgn [⟨none, [(.mv 23 (.t 0)), (.mv 24 (.t 7)), (.ia 25 1 (.t 23) (.t 24)), (.ld 26 false 1 (.t 25)), (.mv 27 (.t 5)), (.bin 28 .eql (.t 26) (.t 27))]⟩] [0, 1, 5, 6, 7, 28]) (.cond (.t 28) (.rgn [⟨none, [(.mv 29 (.t 6)), (.bin 30 .add (.t 29) (.k (I 1))), (.mv 6 (.t 30))]⟩] [0, 1, 5, 6, 7]) .skip))) (.rgn [⟨none, [(.mv 21 (.t 7)), (.bin 22 .add (.t 21) (.k (I 1))), (.mv 7 (.t 22))]⟩] [0, 1, 5, 6, 7])))))) (.seq (.rgn [⟨none, [(.mv 31 (.t 6)), (.bin 32 .neq (.t 31) (.k (I 1)))]⟩] [0, 1, 5, 32]) (.cond (.t 32) (.seq (.rgn [⟨none, [(.mv 4 (.k (B false)))]⟩] [4]) .ret) .skip))))) (.rgn [⟨none, [(.mv 15 (.t 5)), (.bin 16 .add (.t 15) (.k (I 1))), (.mv 5 (.t 16))]⟩] [0, 1, 5])))))) (.seq (.rgn [⟨none, [(.mv 4 (.k (B true)))]⟩] [4]) .ret))))
theorem func_r_isStroke : Tryz.prog.funcs[n_r_isStroke]? = some Tryz.f77 := Tryz.func77
theorem form_r_isStroke : formOf Tryz.prog Tryz.f77 [4] = some G_r_isStroke := by kernel_rfl
theorem res_r_isStroke : resTmps Tryz.f77.results.toList = some [4] := by kernel_rfl
end Go.AM

set_option linter.unusedSimpArgs false
set_option linter.unusedVariables false
namespace Go.AM
open Go.RowKit Go.Proofs
theorem count_take {l : List Int} {i : Nat} {p : Int} (h : i < l.length) : (l.take (i + 1)).count p = (l.take i).count p + if l[i] = p then 1 else 0 := by
  rw [List.take_succ_eq_append_getElem h, List.count_append, List.count_singleton]
  by_cases e : l[i] = p
  · simp [e]
  · simp [e]
set_option maxHeartbeats 1000000 in
theorem r_isStroke_ok (f : Bool) (l : List Int) (P : Int) (hl : l.length ≤ 1000000) : PureOK Tryz.prog n_r_isStroke [Ls f l, I P] (B (strO P l)) := by
  refine pure_of (walk func_r_isStroke form_r_isStroke res_r_isStroke (by show 2 ≤ _; decide) ?_)
  simp -implicitDefEqProofs (disch := omega) [G_r_isStroke, wrap_id]
  by_cases hP : (l.length : Int) = P
  · subst hP
    simp -implicitDefEqProofs (disch := omega) [wrap_id]
    refine loop_eq (fun p : Nat => ⟨[(0, Ls f l), (1, I (l.length : Int)), (5, I (p : Int))], []⟩) (fun p => p ≤ l.length ∧ ((List.range p).all fun p => l.count (p : Int) == 1) = true) (fun p => l.length - p) 0 ⟨Nat.zero_le _, rfl⟩ rfl ?_
    rintro p ⟨hp, ha⟩
    refine hideK' fun K0 hK0 => ?_
    simp -implicitDefEqProofs (disch := omega) [wrap_id]
    refine c_split (fun h => ?_) (fun h => ?_)
    · have hp : p < l.length := by simp at h; omega
      have px : ((p : Int) + 1) = ((p + 1 : Nat) : Int) := by omega
      simp -implicitDefEqProofs (disch := omega) [wrap_id]
      refine loop_eq (fun i : Nat => ⟨[(0, Ls f l), (1, I (l.length : Int)), (5, I (p : Int)), (6, I ((l.take i).count (p : Int) : Nat)), (7, I (i : Int))], []⟩) (fun i => i ≤ l.length) (fun i => l.length - i) 0 (Nat.zero_le _) rfl ?_
      intro i hi
      refine hideK' fun K1 hK1 => ?_
      simp -implicitDefEqProofs (disch := omega) [wrap_id]
      refine c_split (fun h => ?_) (fun h => ?_)
      · have hi : i < l.length := by simp at h; omega
        have ix : ((i : Int) + 1) = ((i + 1 : Nat) : Int) := by omega
        have ct := count_take (p := (p : Int)) hi
        have cl : (l.take i).count (p : Int) ≤ l.length := Nat.le_trans List.count_le_length (by rw [List.length_take]; omega)
        generalize hc : (l.take i).count (p : Int) = c at *
        have cx : ((c : Int) + 1) = ((c + 1 : Nat) : Int) := by omega
        by_cases e : l[i] = (p : Int)
        · rw [if_pos e] at ct
          simp -implicitDefEqProofs (disch := omega) [wrap_id, cells_ls, hi, e]
          rw [hK1]
          exact next_eq (i + 1) (by omega) (by omega) (by simp only [ix, cx, ct])
        · rw [if_neg e] at ct
          have e' : (l[i] == (p : Int)) = false := by simpa using e
          simp -implicitDefEqProofs (disch := omega) [wrap_id, cells_ls, hi, e, e']
          rw [hK1]
          exact next_eq (i + 1) (by omega) (by omega) (by simp only [ix, ct]; rfl)
      · have hi : i = l.length := by simp at h; omega
        subst hi
        subst hK1
        have cl := List.count_le_length (a := (p : Int)) (l := l)
        have tk : l.take l.length = l := List.take_of_length_le (Nat.le_refl _)
        by_cases e : l.count (p : Int) = 1
        · simp -implicitDefEqProofs (disch := omega) [wrap_id, e, tk]
          rw [hK0]
          refine next_eq (p + 1) ⟨by omega, ?_⟩ (by omega) (by simp only [px])
          rw [range_all_succ, ha, e]; rfl
        · have e' : ((l.count (p : Int) : Int) != 1) = true := by simp only [bne_iff_ne, ne_eq]; omega
          have hf : strO (l.length : Int) l = false := by
            unfold strO
            have : ((List.range l.length).all fun p => l.count (p : Int) == 1) = false := by
              rw [List.all_eq_false]
              exact ⟨p, List.mem_range.2 hp, by simp [e]⟩
            rw [this, Bool.and_false]
          simp -implicitDefEqProofs (disch := omega) [wrap_id, e', tk]
          rw [hf] at hK0
          subst hK0
          simp -implicitDefEqProofs (disch := omega) [wrap_id]
    · have hp : p = l.length := by simp at h; omega
      subst hp
      have ht : strO (l.length : Int) l = true := by unfold strO; rw [ha]; simp
      rw [ht] at hK0
      subst hK0
      simp -implicitDefEqProofs (disch := omega) [wrap_id]
  · have hP' : ((l.length : Int) != P) = true := by simpa using hP
    have hf : strO P l = false := by unfold strO; rw [decide_eq_false hP]; rfl
    simp -implicitDefEqProofs (disch := omega) [wrap_id, hP', hf]
end Go.AM

set_option linter.unusedSimpArgs false
set_option linter.unusedVariables false
namespace Go.AM
open Go.RowKit Go.Proofs
set_option maxHeartbeats 1000000 in
theorem r_CheckBench_ok (g : Bool) (b : OB) (hb : b.s.length ≤ 1000000) (hs : ∀ p ∈ b.s, p.2.length ≤ 1000000) : PureOK Tryz.prog n_r_CheckBench [On g b] (I (chkO b)) := by
  refine pure_of (walk func_r_CheckBench form_r_CheckBench res_r_CheckBench (by show 1 ≤ _; decide) ?_)
  simp -implicitDefEqProofs (disch := omega) [G_r_CheckBench, wrap_id]
  by_cases h1 : b.P < 2
  · have e : chkO b = 2 := by unfold chkO; rw [if_pos (.inl h1)]
    simp -implicitDefEqProofs (disch := omega) [wrap_id, h1, e]
  by_cases h2 : 6 < b.P
  · have e : chkO b = 2 := by unfold chkO; rw [if_pos (.inr h2)]
    simp -implicitDefEqProofs (disch := omega) [wrap_id, h1, h2, e]
  by_cases h3 : 6 < b.s.length
  · have h3' : (6 : Int) < b.s.length := by omega
    have e : chkO b = 6 := by unfold chkO; rw [if_neg (by omega), if_pos h3]
    simp -implicitDefEqProofs (disch := omega) [wrap_id, h1, h2, h3', e]
  have h3' : ¬ (6 : Int) < b.s.length := by omega
  have e : chkO b = if b.s.all (fun p => strO b.P p.2) then 0 else 15 := by unfold chkO; rw [if_neg (by omega), if_neg h3]
  rw [e]
  simp -implicitDefEqProofs (disch := omega) [wrap_id, h1, h2, h3']
  refine loop_eq (fun i : Nat => ⟨[(1, .ref 0 0), (3, I (i : Int))], [.cells [I b.P, LLs g b.s]]⟩) (fun i => i ≤ b.s.length ∧ ∀ k (hk : k < b.s.length), k < i → strO b.P b.s[k].2 = true) (fun i => b.s.length - i) 0 ⟨Nat.zero_le _, fun k _ h => by omega⟩ rfl ?_
  rintro i ⟨hi, ha⟩
  refine hideK' fun K0 hK0 => ?_
  simp -implicitDefEqProofs (disch := omega) [wrap_id]
  refine c_split (fun h => ?_) (fun h => ?_)
  · have hi : i < b.s.length := by simp at h; omega
    have ix : ((i : Int) + 1) = ((i + 1 : Nat) : Int) := by omega
    simp -implicitDefEqProofs (disch := omega) [wrap_id, cells_lls, hi]
    refine pureW_of rfl (r_isStroke_ok _ _ b.P (hs _ (List.getElem_mem hi))) ?_
    cases hst : strO b.P b.s[i].2 with
    | true =>
      simp -implicitDefEqProofs (disch := omega) [wrap_id, cmp2, nthT]
      rw [hK0]
      refine next_eq (i + 1) ⟨by omega, fun k hk hki => ?_⟩ (by omega) (by simp only [ix])
      by_cases hk2 : k = i
      · subst hk2; exact hst
      · exact ha k hk (by omega)
    | false =>
      have hf : b.s.all (fun p => strO b.P p.2) = false := by
        rw [List.all_eq_false]
        exact ⟨b.s[i], List.getElem_mem hi, by simp [hst]⟩
      rw [hf] at hK0
      subst hK0
      simp -implicitDefEqProofs (disch := omega) [wrap_id, cmp2, nthT]
  · have hi : i = b.s.length := by simp at h; omega
    subst hi
    have ht : b.s.all (fun p => strO b.P p.2) = true := by
      rw [List.all_eq_true]
      intro p hp
      obtain ⟨k, hk, rfl⟩ := List.getElem_of_mem hp
      exact ha k hk hk
    rw [ht] at hK0
    subst hK0
    simp -implicitDefEqProofs (disch := omega) [wrap_id]
end Go.AM

set_option linter.unusedSimpArgs false
set_option linter.unusedVariables false
namespace Go.AM
open Go.RowKit Go.Proofs
set_option maxHeartbeats 1000000 in
theorem r_After_ok (f g : Bool) (s r : List Int) (hl : r.length ≤ 1000) (hs : s.length = r.length) (hi : ∀ x ∈ s, 0 ≤ x ∧ x < r.length) : PureOK Tryz.prog n_r_After [Ls f s, Ls g r] (Ls (aft s r).isEmpty (aft s r)) := by
  refine pure_of (walk func_r_After form_r_After res_r_After (by show 2 ≤ _; decide) ?_)
  simp -implicitDefEqProofs (disch := omega) [G_r_After, wrap_id]
  have al : (aft s r).length = s.length := aft_len
  refine loop_eq (fun q : Nat × AV × List HObj => ⟨[(0, Ls f s), (1, Ls g r), (5, q.2.1), (6, I (q.1 : Int))], q.2.2⟩) (fun q => q.1 ≤ r.length ∧ AccR q.2.2 q.2.1 ((aft s r).take q.1)) (fun q => r.length - q.1) (0, .sl true 0 [], []) ⟨Nat.zero_le _, .inl ⟨rfl, by simp⟩⟩ rfl ?_
  rintro ⟨i, x, H⟩ ⟨c1, c2⟩
  simp only at c1 c2 ⊢
  refine hideK' fun K0 hK0 => ?_
  simp -implicitDefEqProofs (disch := omega) [wrap_id]
  refine c_split (fun h => ?_) (fun h => ?_)
  · have hir : i < r.length := by simp at h; omega
    have his : i < s.length := by omega
    have ix : ((i : Int) + 1) = ((i + 1 : Nat) : Int) := by omega
    obtain ⟨b1, b2⟩ := hi s[i] (List.getElem_mem his)
    obtain ⟨n, hn⟩ : ∃ n : Nat, s[i] = n := ⟨s[i].toNat, by omega⟩
    have hnr : n < r.length := by omega
    have tk : (aft s r).take (i + 1) = (aft s r).take i ++ [r[n]] := by
      rw [List.take_succ_eq_append_getElem (by omega), aft_get (by omega)]
      simp [hn, hnr]
    have tl : ((aft s r).take i).length = i := by rw [List.length_take]; omega
    simp -implicitDefEqProofs (disch := omega) [wrap_id, cells_ls, hir, his, hn, hnr]
    refine bsl_of (ys := [I r[n]]) rfl rfl ?_
    simp -implicitDefEqProofs (disch := omega) [wrap_id, zrep]
    refine app_row c2.row (by omega) fun ws w1 w2 w3 => ?_
    simp -implicitDefEqProofs (disch := omega) [wrap_id]
    rw [hK0]
    refine next_eq (i + 1, .ms H.length 0 (i + 1) 1, writeL H ws) ⟨by simp only; omega, .inr ⟨H.length, ?_, ?_, ?_⟩⟩ (by simp only; omega) (by simp only [ix, tl])
    · rw [List.length_take, Nat.min_eq_left (by omega)]
    · simp only [tk]; simp
    · simp only [tk]; exact w3
  · have hir : i = r.length := by simp at h; omega
    subst hir
    subst hK0
    have tk : (aft s r).take r.length = aft s r := List.take_of_length_le (by omega)
    rw [tk] at c2
    simp -implicitDefEqProofs (disch := omega) [wrap_id]
    exact out_acc c2
end Go.AM

set_option linter.unusedSimpArgs false
set_option linter.unusedVariables false
namespace Go.AM
open Go.RowKit Go.Proofs
set_option maxHeartbeats 1000000 in
theorem r_Places_ok (g : Bool) (b : OB) (n : Nat) (hn : b.P = n) (h6 : n ≤ 6) : PureOK Tryz.prog n_r_Places [On g b] (Ls (plcL n).isEmpty (plcL n)) := by
  refine pure_of (walk func_r_Places form_r_Places res_r_Places (by show 1 ≤ _; decide) ?_)
  simp -implicitDefEqProofs (disch := omega) [G_r_Places, wrap_id]
  refine loop_eq (fun q : Nat × AV × List HObj => ⟨[(1, .ref 0 0), (3, q.2.1), (4, I (q.1 : Int))], q.2.2⟩) (fun q => q.1 ≤ n ∧ AccR q.2.2 q.2.1 (plcL q.1) ∧ nthH q.2.2 0 = some (.cells [I b.P, LLs g b.s]) ∧ rid q.2.1 ≠ some 0) (fun q => n - q.1) (0, .sl true 0 [], [.cells [I b.P, LLs g b.s]]) ⟨Nat.zero_le _, .inl ⟨rfl, rfl⟩, rfl, by simp [rid]⟩ rfl ?_
  rintro ⟨i, x, H⟩ ⟨c1, c2, c3, c4⟩
  simp only at c1 c2 c3 c4 ⊢
  have l0 := nthH_lt c3
  refine hideK' fun K0 hK0 => ?_
  simp -implicitDefEqProofs (disch := omega) [wrap_id, c3, ldr_some, hn]
  refine c_split (fun h => ?_) (fun h => ?_)
  · have hir : i < n := by simp at h; omega
    have ix : ((i : Int) + 1) = ((i + 1 : Nat) : Int) := by omega
    have tk : plcL (i + 1) = plcL i ++ [(i : Int)] := by simp [plcL, List.range_succ]
    have tl := plcL_len (n := i)
    simp -implicitDefEqProofs (disch := omega) [wrap_id]
    refine bsl_of (ys := [I (i : Int)]) rfl rfl ?_
    simp -implicitDefEqProofs (disch := omega) [wrap_id, zrep]
    refine app_row c2.row (by omega) fun ws w1 w2 w3 => ?_
    simp -implicitDefEqProofs (disch := omega) [wrap_id]
    rw [hK0]
    refine next_eq (i + 1, .ms H.length 0 (i + 1) 1, writeL H ws) ⟨by simp only; omega, .inr ⟨H.length, ?_, ?_, ?_⟩, ?_, ?_⟩ (by simp only; omega) (by simp only [ix, tl])
    · rw [plcL_len]
    · simp only [tk]; simp
    · simp only [tk]; exact w3
    · rw [w1 0 l0 c4]; exact c3
    · simp only [rid]; intro e; injection e; omega
  · have hir : i = n := by simp at h; omega
    subst hir
    subst hK0
    simp -implicitDefEqProofs (disch := omega) [wrap_id]
    exact out_acc c2
end Go.AM

set_option linter.unusedSimpArgs false
set_option linter.unusedVariables false
namespace Go.AM
open Go.RowKit Go.Proofs
def Cur (hp : List HObj) (x : AV) (l : List Int) : Prop := (∃ id, 0 < id ∧ x = .ms id 0 l.length 1 ∧ nthH hp id = some (.cells (l.map fun n => I n))) ∨ x = Ls false l
set_option maxHeartbeats 1000000 in
theorem r_All_ok (g f h : Bool) {b : OB} {n : Nat} (hb : Okb b n) (r l : List Int) (hr : r.length = n) (hl : LsO b l) (hll : l.length ≤ 1000000) : PureOK Tryz.prog n_r_All [On g b, Ls f r, Ls h l] (Ls false (allI b l r)) := by
  have h6 := hb.hi
  have h2 := hb.lo
  refine pure_of (walk func_r_All form_r_All res_r_All (by show 3 ≤ _; decide) ?_)
  simp -implicitDefEqProofs (disch := omega) [G_r_All, wrap_id]
  refine bsl_of rfl rfl ?_
  simp -implicitDefEqProofs (disch := omega) [wrap_id, zrep]
  refine ⟨⟨by omega, by omega⟩, ?_⟩
  refine loop_eq (fun q : Nat × AV × List HObj => ⟨[(2, Ls h l), (3, .ref 0 0), (7, q.2.1), (8, I (q.1 : Int))], q.2.2⟩) (fun q => q.1 ≤ l.length ∧ nthH q.2.2 0 = some (.cells [I b.P, LLs g b.s]) ∧ Cur q.2.2 q.2.1 (allI b (l.take q.1) r)) (fun q => l.length - q.1) (0, .ms 1 0 r.length 1, [.cells [I b.P, LLs g b.s], .cells (r.map fun n => I n)]) ⟨Nat.zero_le _, rfl, .inl ⟨1, by omega, rfl, rfl⟩⟩ rfl ?_
  rintro ⟨i, x, H⟩ ⟨c1, c2, c3⟩
  simp only at c1 c2 c3 ⊢
  have l0 := nthH_lt c2
  refine hideK' fun K0 hK0 => ?_
  simp -implicitDefEqProofs (disch := omega) [wrap_id]
  refine c_split (fun hc => ?_) (fun hc => ?_)
  · have hi : i < l.length := by simp at hc; omega
    have ix : ((i : Int) + 1) = ((i + 1 : Nat) : Int) := by omega
    obtain ⟨b1, b2⟩ := hl l[i] (List.getElem_mem hi)
    obtain ⟨k, hk⟩ : ∃ k : Nat, l[i] = k := ⟨l[i].toNat, by omega⟩
    have hks : k < b.s.length := by omega
    have pk := hb.at hks
    have cl : (allI b (l.take i) r).length = n := allI_len hb (fun s hs => hl s (List.mem_of_mem_take hs)) hr
    have sn := allI_snoc (b := b) (r := r) hi
    rw [hk, Int.toNat_natCast, S_getD hks] at sn
    have af := r_After_ok b.s[k].1 false b.s[k].2 (allI b (l.take i) r) (by omega) (by rw [cl]; exact pk.len) (fun x hx => by rw [cl]; exact pk.rng x hx)
    rw [← sn] at af
    have cl2 : (allI b (l.take (i + 1)) r).length = n := by rw [sn, aft_len]; exact pk.len
    have ne : (allI b (l.take (i + 1)) r).isEmpty = false := by
      cases hq : allI b (l.take (i + 1)) r with
      | nil => rw [hq] at cl2; simp at cl2; omega
      | cons => rfl
    rw [ne] at af
    rcases c3 with ⟨id, hid, rfl, hm⟩ | rfl
    · have lid := nthH_lt hm
      simp -implicitDefEqProofs (disch := omega) [wrap_id, c2, hi, hk, hks, cells_ls, cells_lls]
      refine pureW_of (purifyAll2 ls_pur (ms_pur hm rfl)) af ?_
      simp -implicitDefEqProofs (disch := omega) [wrap_id, cmp2, nthT]
      have e : ¬ id = 0 := by omega
      simp only [lid, if_true]
      rw [hK0]
      refine next_eq (i + 1, Ls false (allI b (l.take (i + 1)) r), H.set id .gone) ⟨by simp only; omega, (by simp only; rw [nthH_set_ne e]; exact c2), .inr rfl⟩ (by simp only; omega) (by simp only [ix])
    · simp -implicitDefEqProofs (disch := omega) [wrap_id, c2, hi, hk, hks, cells_ls, cells_lls]
      refine pureW_of (purifyAll2 ls_pur ls_pur) af ?_
      simp -implicitDefEqProofs (disch := omega) [wrap_id, cmp2, nthT]
      rw [hK0]
      exact next_eq (i + 1, Ls false (allI b (l.take (i + 1)) r), H) ⟨by simp only; omega, c2, .inr rfl⟩ (by simp only; omega) (by simp only [ix])
  · have hi : i = l.length := by simp at hc; omega
    subst hi
    subst hK0
    rw [List.take_length] at c3
    simp -implicitDefEqProofs (disch := omega) [wrap_id]
    rcases c3 with ⟨id, hid, rfl, hm⟩ | rfl
    · exact out_of (ms_pur hm rfl)
    · exact out_of ls_pur
end Go.AM

set_option maxRecDepth 100000
namespace Go.AM
open Go.RowKit Go.Proofs
abbrev n_l_OrderJoint : Nat := 9
def G_l_OrderJoint : AC := (.seq (.rgn [⟨none, [(.box 4 2 (.t 0)), (.mv 8 (.k (B false)))]⟩] [1, 2, 3, 4]) (.seq (.seq (.rgn [⟨none, [(.ld 30 true 2 (.t 4)), (.call 31 47 [(.t 30)]), (.un 32 .not (.t 31)), (.mv 33 (.t 32))]⟩, ⟨(some (33, false)), [(.mv 34 (.t 1)), (.mv 35 (.t 2)), (.bsl 36 2 1 [(.sl true 0 [])] [(0, (.t 34)), (1, (.t 35))]), (.call 37 48 [(.t 36)]), (.un 38 .not (.t 37))]⟩, ⟨none, [(.pick 39 (.t 33) (.k (B true)) (.t 38))]⟩] [1, 2, 3, 4, 39]) (.cond (.t 39) (.seq (.rgn [⟨none, [(.call 40 16 []), (.mv 8 (.t 40))]⟩] [8]) .ret) .skip)) (.seq (.drw [⟨none, [(.ld 41 true 2 (.t 4)), (.mv 42 (.t 1)), (.call 43 50 [(.t 41), (.t 42)]), (.ld 44 true 2 (.t 4)), (.mv 45 (.t 2)), (.call 46 50 [(.t 44), (.t 45)]), (.mv 9 (.t 43)), (.mv 10 (.t 46))]⟩] [(0, 3), (2, 3)] [3, 4, 9, 10]) (.seq (.rgn [⟨none, [(.ld 48 true 2 (.t 4)), (.mv 49 (.t 9)), (.call 50 19 [(.t 48), (.t 49)]), (.mv 47 (.t 50)), (.ext 51 (.t 47) 0), (.ext 52 (.t 47) 1), (.mv 11 (.t 51)), (.mv 12 (.t 52))]⟩] [3, 4, 9, 10, 11, 12]) (.seq (.rgn [⟨none, [(.ld 54 true 2 (.t 4)), (.mv 55 (.t 10)), (.call 56 19 [(.t 54), (.t 55)]), (.mv 53 (.t 56)), (.ext 57 (.t 53) 0), (.ext 58 (.t 53) 1), (.mv 13 (.t 57)), (.mv 14 (.t 58))]⟩] [3, 4, 9, 10, 11, 12, 13, 14]) (.seq (.drw [⟨none, [(.ld 60 true 2 (.t 4)), (.bsl 61 0 1 [(I 0)] []), (.mv 62 (.t 9)), (.app 63 1 8 (.t 61) (.t 62)), (.mv 64 (.t 10)), (.app 65 1 8 (.t 63) (.t 64)), (.call 66 19 [(.t 60), (.t 65)]), (.mv 59 (.t 66)), (.ext 67 (.t 59) 0), (.ext 68 (.t 59) 1), (.mv 15 (.t 67)), (.mv 16 (.t 68))]⟩] [(0, 1), (0, 3), (0, 5)] [3, 4, 9, 10, 11, 12, 13, 14, 15, 16]) (.seq (.rgn [⟨none, [(.ld 69 true 2 (.t 4)), (.call 70 54 [(.t 69)]), (.mv 17 (.t 70))]⟩] [3, 4, 9, 10, 11, 12, 13, 14, 15, 16, 17]) (.seq (.rgn [⟨none, [(.ld 72 true 2 (.t 4)), (.mv 73 (.t 17)), (.mv 74 (.t 9)), (.call 75 17 [(.t 72), (.t 73), (.t 74)]), (.mv 71 (.t 75)), (.ext 76 (.t 71) 0), (.ext 77 (.t 71) 1), (.mv 18 (.t 76)), (.mv 19 (.t 77))]⟩] [3, 4, 9, 10, 11, 12, 13, 14, 15, 16, 17, 18, 19]) (.seq (.rgn [⟨none, [(.ld 79 true 2 (.t 4)), (.mv 80 (.t 17)), (.mv 81 (.t 10)), (.call 82 17 [(.t 79), (.t 80), (.t 81)]), (.mv 78 (.t 82)), (.ext 83 (.t 78) 0), (.ext 84 (.t 78) 1), (.mv 20 (.t 83)), (.mv 21 (.t 84))]⟩] [3, 4, 9, 10, 11, 12, 13, 14, 15, 16, 17, 18, 19, 20, 21]) (.seq (.rgn [⟨none, [(.ld 86 true 2 (.t 4)), (.mv 87 (.t 9)), (.call 88 21 [(.t 86), (.t 87)]), (.mv 85 (.t 88)), (.ext 89 (.t 85) 0), (.ext 90 (.t 85) 1), (.mv 22 (.t 89)), (.mv 23 (.t 90))]⟩] [3, 4, 9, 10, 11, 12, 13, 14, 15, 16, 17, 18, 19, 20, 21, 22, 23]) (.seq (.seq (.rgn [⟨none, [(.mv 91 (.t 12)), (.bin 92 .neq (.t 91) (.k (I 0))), (.mv 93 (.t 92))]⟩, ⟨(some (93, false)), [(.mv 94 (.t 14)), (.bin 95 .neq (.t 94) (.k (I 0)))]⟩, ⟨none, [(.pick 96 (.t 93) (.k (B true)) (.t 95)), (.mv 97 (.t 96))]⟩, ⟨(some (97, false)), [(.mv 98 (.t 16)), (.bin 99 .neq (.t 98) (.k (I 0)))]⟩, ⟨none, [(.pick 100 (.t 97) (.k (B true)) (.t 99)), (.mv 101 (.t 100))]⟩, ⟨(some (101, false)), [(.mv 102 (.t 19)), (.bin 103 .neq (.t 102) (.k (I 0)))]⟩, ⟨none, [(.pick 104 (.t 101) (.k (B true)) (.t 103)), (.mv 105 (.t 104))]⟩, ⟨(some (105, false)), [(.mv 106 (.t 21)), (.bin 107 .neq (.t 106) (.k (I 0)))]⟩, ⟨none, [(.pick 108 (.t 105) (.k (B true)) (.t 107)), (.mv 109 (.t 108))]⟩, ⟨(some (109, false)), [(.mv 110 (.t 23)), (.bin 111 .neq (.t 110) (.k (I 0)))]⟩, ⟨none, [(.pick 112 (.t 109) (.k (B true)) (.t 111)), (.mv 113 (.t 112))]⟩, ⟨(some (113, false)), [(.mv 114 (.t 22)), (.bin 115 .lss (.t 114) (.k (I 1)))]⟩, ⟨none, [(.pick 116 (.t 113) (.k (B true)) (.t 115)), (.mv 117 (.t 116))]⟩, ⟨(some (117, false)), [(.mv 118 (.t 11)), (.ld 119 true 2 (.t 4)), (.mv 120 (.t 17)), (.mv 121 (.t 9)), (.call 122 51 [(.t 119), (.t 120), (.t 121)]), (.call 123 25 [(.t 118), (.t 122)]), (.un 124 .not (.t 123))]⟩, ⟨none, [(.pick 125 (.t 117) (.k (B true)) (.t 124)), (.mv 126 (.t 125))]⟩, ⟨(some (126, false)), [(.mv 127 (.t 13)), (.ld 128 true 2 (.t 4)), (.mv 129 (.t 17)), (.mv 130 (.t 10)), (.call 131 51 [(.t 128), (.t 129), (.t 130)]), (.call 132 25 [(.t 127), (.t 131)]), (.un 133 .not (.t 132))]⟩, ⟨none, [(.pick 134 (.t 126) (.k (B true)) (.t 133)), (.mv 135 (.t 134))]⟩, ⟨(some (135, false)), [(.mv 136 (.t 15)), (.mv 137 (.t 13)), (.mv 138 (.t 11)), (.call 139 55 [(.t 137), (.t 138)]), (.call 140 25 [(.t 136), (.t 139)]), (.un 141 .not (.t 140))]⟩, ⟨none, [(.pick 142 (.t 135) (.k (B true)) (.t 141))]⟩] [3, 4, 9, 10, 11, 13, 17, 18, 20, 22, 142]) (.cond (.t 142) (.seq (.rgn [⟨none, [(.mv 8 (.k (B false)))]⟩] [8]) .ret) .skip)) (.seq (.rgn [⟨none, [(.ld 143 true 2 (.t 4)), (.mv 144 (.t 9)), (.mv 145 (.t 10)), (.call 146 26 [(.t 143), (.t 144), (.t 145)]), (.mv 24 (.t 146))]⟩] [3, 4, 9, 11, 13, 17, 18, 20, 22, 24]) (.seq (.seq (.rgn [⟨none, [(.mv 147 (.t 24)), (.bin 148 .neq (.t 147) (.k (I 0))), (.mv 149 (.t 148))]⟩, ⟨(some (149, true)), [(.mv 150 (.t 24)), (.bin 151 .neq (.t 150) (.k (I 18)))]⟩, ⟨none, [(.pick 152 (.t 149) (.t 151) (.k (B false))), (.mv 153 (.t 152))]⟩, ⟨(some (153, false)), [(.mv 154 (.t 24)), (.bin 155 .eql (.t 154) (.k (I 0))), (.mv 156 (.t 11)), (.mv 157 (.t 13)), (.call 158 25 [(.t 156), (.t 157)]), (.eqk 159 true (false, [.bool]) (.t 155) (.t 158))]⟩, ⟨none, [(.pick 160 (.t 153) (.k (B true)) (.t 159)), (.mv 161 (.t 160))]⟩, ⟨(some (161, false)), [(.mv 162 (.t 24)), (.bin 163 .eql (.t 162) (.k (I 0))), (.mv 164 (.t 18)), (.mv 165 (.t 20)), (.call 166 25 [(.t 164), (.t 165)]), (.eqk 167 true (false, [.bool]) (.t 163) (.t 166))]⟩, ⟨none, [(.pick 168 (.t 161) (.k (B true)) (.t 167))]⟩] [3, 4, 9, 17, 22, 168]) (.cond (.t 168) (.seq (.rgn [⟨none, [(.mv 8 (.k (B false)))]⟩] [8]) .ret) .skip)) (.seq (.rgn [⟨none, [(.mv 169 (.t 3)), (.cnv 170 .i64 (.t 169)), (.bin 171 .rem (.t 170) (.k (I 13))), (.mv 25 (.t 171))]⟩] [4, 9, 17, 22, 25]) (.seq (.rgn [⟨none, [(.mv 172 (.t 17)), (.mv 26 (.t 172))]⟩] [4, 9, 17, 22, 25, 26]) (.seq (.seq (.rgn [⟨none, [(.mv 27 (.k (I 0)))]⟩] [4, 9, 17, 22, 25, 26, 27]) (.block 0 (.loop (.seq (.seq (.rgn [⟨none, [(.mv 173 (.t 27)), (.mv 174 (.t 25)), (.bin 175 .lss (.t 173) (.t 174))]⟩] [4, 9, 17, 22, 25, 26, 27, 175]) (.cond (.t 175) .skip (.exit 0))) (.seq (.block 1 (.seq (.rgn [⟨none, [(.ld 179 true 2 (.t 4)), (.mv 180 (.t 26)), (.mv 181 (.t 9)), (.call 182 17 [(.t 179), (.t 180), (.t 181)]), (.mv 178 (.t 182)), (.ext 183 (.t 178) 0), (.ext 184 (.t 178) 1), (.mv 28 (.t 183)), (.mv 29 (.t 184))]⟩] [4, 9, 17, 22, 25, 27, 28, 29]) (.seq (.seq (.rgn [⟨none, [(.mv 185 (.t 29)), (.bin 186 .neq (.t 185) (.k (I 0)))]⟩] [4, 9, 17, 22, 25, 27, 28, 186]) (.cond (.t 186) (.seq (.rgn [⟨none, [(.mv 8 (.k (B false)))]⟩] [8]) .ret) .skip)) (.rgn [⟨none, [(.mv 187 (.t 28)), (.mv 26 (.t 187))]⟩] [4, 9, 17, 22, 25, 26, 27])))) (.rgn [⟨none, [(.mv 176 (.t 27)), (.bin 177 .add (.t 176) (.k (I 1))), (.mv 27 (.t 177))]⟩] [4, 9, 17, 22, 25, 26, 27])))))) (.seq (.drw [⟨none, [(.mv 188 (.t 26)), (.mv 189 (.t 17)), (.call 190 25 [(.t 188), (.t 189)]), (.mv 191 (.t 25)), (.mv 192 (.t 22)), (.bin 193 .rem (.t 191) (.t 192)), (.bin 194 .eql (.t 193) (.k (I 0))), (.eqk 195 false (false, [.bool]) (.t 190) (.t 194)), (.mv 196 (.t 195))]⟩, ⟨(some (196, true)), [(.call 197 16 [])]⟩, ⟨none, [(.pick 198 (.t 196) (.t 197) (.k (B false))), (.mv 8 (.t 198))]⟩] [] [8]) .ret)))))))))))))))))
theorem func_l_OrderJoint : Tryz.prog.funcs[n_l_OrderJoint]? = some Tryz.f9 := Tryz.func9
theorem form_l_OrderJoint : formOf Tryz.prog Tryz.f9 [8] = some G_l_OrderJoint := by kernel_rfl
theorem res_l_OrderJoint : resTmps Tryz.f9.results.toList = some [8] := by kernel_rfl
abbrev n_l_great : Nat := 13
def G_l_great : AC := (.seq (.rgn [⟨none, [(.box 1 2 (.t 0)), (.mv 2 (.k (B false)))]⟩] [1]) (.seq (.seq (.rgn [⟨none, [(.fa 4 (.t 1) 1), (.ld 5 false 1 (.t 4)), (.len 6 (.t 5)), (.bin 7 .gtr (.t 6) (.k (I 10)))]⟩] [1, 7]) (.cond (.t 7) (.seq (.rgn [⟨none, [(.mv 2 (.k (B true)))]⟩] [2]) .ret) .skip)) (.seq (.seq (.rgn [⟨none, [(.mv 3 (.k (I 0)))]⟩] [1, 3]) (.block 0 (.loop (.seq (.seq (.rgn [⟨none, [(.mv 8 (.t 3)), (.fa 9 (.t 1) 1), (.ld 10 false 1 (.t 9)), (.len 11 (.t 10)), (.bin 12 .lss (.t 8) (.t 11))]⟩] [1, 3, 12]) (.cond (.t 12) .skip (.exit 0))) (.seq (.block 1 (.seq (.rgn [⟨none, [(.fa 15 (.t 1) 1), (.ld 16 false 1 (.t 15)), (.mv 17 (.t 3)), (.ia 18 1 (.t 16) (.t 17)), (.ld 19 false 1 (.t 18)), (.len 20 (.t 19)), (.bin 21 .gtr (.t 20) (.k (I 10)))]⟩] [1, 3, 21]) (.cond (.t 21) (.seq (.rgn [⟨none, [(.mv 2 (.k (B true)))]⟩] [2]) .ret) .skip))) (.rgn [⟨none, [(.mv 13 (.t 3)), (.bin 14 .add (.t 13) (.k (I 1))), (.mv 3 (.t 14))]⟩] [1, 3])))))) (.seq (.rgn [⟨none, [(.mv 2 (.k (B false)))]⟩] [2]) .ret))))
theorem func_l_great : Tryz.prog.funcs[n_l_great]? = some Tryz.f13 := Tryz.func13
theorem form_l_great : formOf Tryz.prog Tryz.f13 [2] = some G_l_great := by kernel_rfl
theorem res_l_great : resTmps Tryz.f13.results.toList = some [2] := by kernel_rfl
abbrev n_l_fine : Nat := 47
def G_l_fine : AC := (.seq (.rgn [⟨none, [(.box 1 2 (.t 0)), (.mv 2 (.k (B false)))]⟩] [1]) (.seq (.rgn [⟨none, [(.ld 3 true 2 (.t 1)), (.call 4 13 [(.t 3)]), (.un 5 .not (.t 4)), (.mv 6 (.t 5))]⟩, ⟨(some (6, true)), [(.ld 7 true 2 (.t 1)), (.call 8 24 [(.t 7)]), (.bin 9 .eql (.t 8) (.k (I 0)))]⟩, ⟨none, [(.pick 10 (.t 6) (.t 9) (.k (B false))), (.mv 2 (.t 10))]⟩] [2]) .ret))
theorem func_l_fine : Tryz.prog.funcs[n_l_fine]? = some Tryz.f47 := Tryz.func47
theorem form_l_fine : formOf Tryz.prog Tryz.f47 [2] = some G_l_fine := by kernel_rfl
theorem res_l_fine : resTmps Tryz.f47.results.toList = some [2] := by kernel_rfl
abbrev n_l_short : Nat := 48
def G_l_short : AC := (.seq (.rgn [⟨none, [(.mv 2 (.k (B false)))]⟩] [0]) (.seq (.seq (.rgn [⟨none, [(.mv 3 (.k (I 0)))]⟩] [0, 3]) (.block 0 (.loop (.seq (.seq (.rgn [⟨none, [(.mv 4 (.t 3)), (.mv 5 (.t 0)), (.len 6 (.t 5)), (.bin 7 .lss (.t 4) (.t 6))]⟩] [0, 3, 7]) (.cond (.t 7) .skip (.exit 0))) (.seq (.block 1 (.seq (.rgn [⟨none, [(.mv 10 (.t 0)), (.mv 11 (.t 3)), (.ia 12 1 (.t 10) (.t 11)), (.ld 13 false 1 (.t 12)), (.len 14 (.t 13)), (.bin 15 .gtr (.t 14) (.k (I 40)))]⟩] [0, 3, 15]) (.cond (.t 15) (.seq (.rgn [⟨none, [(.mv 2 (.k (B false)))]⟩] [2]) .ret) .skip))) (.rgn [⟨none, [(.mv 8 (.t 3)), (.bin 9 .add (.t 8) (.k (I 1))), (.mv 3 (.t 9))]⟩] [0, 3])))))) (.seq (.rgn [⟨none, [(.mv 2 (.k (B true)))]⟩] [2]) .ret)))
theorem func_l_short : Tryz.prog.funcs[n_l_short]? = some Tryz.f48 := Tryz.func48
theorem form_l_short : formOf Tryz.prog Tryz.f48 [2] = some G_l_short := by kernel_rfl
theorem res_l_short : resTmps Tryz.f48.results.toList = some [2] := by kernel_rfl
abbrev n_l_Strokes : Nat := 50
def G_l_Strokes : AC := (.seq (.rgn [⟨none, [(.box 2 2 (.t 0)), (.mv 4 (.k (.sl true 0 [])))]⟩] [1, 2]) (.seq (.rgn [⟨none, [(.mv 5 (.k (.sl true 0 [])))]⟩] [1, 2, 5]) (.seq (.seq (.rgn [⟨none, [(.mv 6 (.k (I 0)))]⟩] [1, 2, 5, 6]) (.block 0 (.loop (.seq (.seq (.rgn [⟨none, [(.mv 7 (.t 6)), (.mv 8 (.t 1)), (.len 9 (.t 8)), (.bin 10 .lss (.t 7) (.t 9)), (.mv 11 (.t 10))]⟩, ⟨(some (11, true)), [(.fa 12 (.t 2) 1), (.ld 13 false 1 (.t 12)), (.len 14 (.t 13)), (.bin 15 .gtr (.t 14) (.k (I 0)))]⟩, ⟨none, [(.pick 16 (.t 11) (.t 15) (.k (B false)))]⟩] [1, 2, 5, 6, 16]) (.cond (.t 16) .skip (.exit 0))) (.seq (.block 1 (.drw [⟨none, [(.mv 19 (.t 5)), (.mv 20 (.t 1)), (.mv 21 (.t 6)), (.ia 22 1 (.t 20) (.t 21)), (.ld 23 false 1 (.t 22)), (.cnv 24 .i64 (.t 23)), (.fa 25 (.t 2) 1), (.ld 26 false 1 (.t 25)), (.len 27 (.t 26)), (.bin 28 .rem (.t 24) (.t 27)), (.bsl 29 1 1 [(I 0)] [(0, (.t 28))]), (.app 30 1 8 (.t 19) (.t 29)), (.mv 5 (.t 30))]⟩] [(4, 7)] [1, 2, 5, 6])) (.rgn [⟨none, [(.mv 17 (.t 6)), (.bin 18 .add (.t 17) (.k (I 1))), (.mv 6 (.t 18))]⟩] [1, 2, 5, 6])))))) (.seq (.rgn [⟨none, [(.mv 31 (.t 5)), (.mv 4 (.t 31))]⟩] [4]) .ret))))
theorem func_l_Strokes : Tryz.prog.funcs[n_l_Strokes]? = some Tryz.f50 := Tryz.func50
theorem form_l_Strokes : formOf Tryz.prog Tryz.f50 [4] = some G_l_Strokes := by kernel_rfl
theorem res_l_Strokes : resTmps Tryz.f50.results.toList = some [4] := by kernel_rfl
end Go.AM

set_option linter.unusedSimpArgs false
set_option linter.unusedVariables false
namespace Go.AM
open Go.RowKit Go.Proofs
def grtO (b : OB) : Bool := decide (10 < b.s.length) || b.s.any fun p => decide (10 < p.2.length)
theorem l_great_ok (g : Bool) (b : OB) (hb : b.s.length ≤ 9223372036854775807) (hz : ∀ p ∈ b.s, p.2.length ≤ 9223372036854775807) : PureOK Tryz.prog n_l_great [On g b] (B (grtO b)) := by
  refine pure_of (walk func_l_great form_l_great res_l_great (by show 1 ≤ _; decide) ?_)
  simp -implicitDefEqProofs (disch := omega) [G_l_great, wrap_id]
  by_cases h : 10 < b.s.length
  · have h' : (10 : Int) < b.s.length := by omega
    have e : grtO b = true := by simp [grtO, h]
    rw [e]
    simp -implicitDefEqProofs (disch := omega) [wrap_id, h']
  · have h' : ¬ (10 : Int) < b.s.length := by omega
    have e0 : grtO b = b.s.any fun p => decide (10 < p.2.length) := by simp [grtO, h]
    generalize grtO b = E at e0 ⊢
    simp -implicitDefEqProofs (disch := omega) [wrap_id, h']
    refine loop_eq (fun i : Nat => ⟨[(1, .ref 0 0), (3, I (i : Int))], [.cells [I b.P, LLs g b.s]]⟩) (fun i => i ≤ b.s.length ∧ ∀ k (hk : k < b.s.length), k < i → ¬ 10 < b.s[k].2.length) (fun i => b.s.length - i) 0 ⟨by omega, fun k hk h => by omega⟩ rfl ?_
    rintro i ⟨hi, he⟩
    refine hideK' fun K0 hK0 => ?_
    simp -implicitDefEqProofs (disch := omega) [wrap_id]
    refine c_split (fun hc => ?_) (fun hc => ?_)
    · have h1 : i < b.s.length := by simp at hc; omega
      have ix : ((i : Int) + 1) = ((i + 1 : Nat) : Int) := by omega
      have z1 := hz _ (List.getElem_mem h1)
      by_cases e : 10 < b.s[i].2.length
      · have e' : (10 : Int) < b.s[i].2.length := by omega
        have : (b.s.any fun p => decide (10 < p.2.length)) = true := List.any_eq_true.2 ⟨_, List.getElem_mem h1, by simpa using e⟩
        rw [this] at e0
        subst e0
        subst hK0
        simp -implicitDefEqProofs (disch := omega) [wrap_id, cells_lls, h1, e']
      · have e' : ¬ (10 : Int) < b.s[i].2.length := by omega
        simp -implicitDefEqProofs (disch := omega) [wrap_id, cells_lls, h1, e']
        rw [hK0]
        refine next_eq (i + 1) ⟨by omega, fun k hk h2 => ?_⟩ (by omega) (by simp only [ix])
        by_cases ek : k = i
        · subst ek; exact e
        · exact he k hk (by omega)
    · have h1 : i = b.s.length := by simp at hc; omega
      have : (b.s.any fun p => decide (10 < p.2.length)) = false := by
        rw [List.any_eq_false]
        intro p hp
        obtain ⟨k, hk, rfl⟩ := List.getElem_of_mem hp
        simpa using he k hk (by omega)
      rw [this] at e0
      subst e0
      subst hK0
      simp -implicitDefEqProofs (disch := omega) [wrap_id]
theorem grt_sz {b : OB} (h : grtO b = false) : Sz12 b ∧ SzO b := by
  unfold grtO at h
  rw [Bool.or_eq_false_iff] at h
  have h1 : ¬ 10 < b.s.length := by simpa using h.1
  have h2 : ∀ p ∈ b.s, ¬ 10 < p.2.length := fun p hp => by simpa using List.any_eq_false.1 h.2 p hp
  exact ⟨⟨by omega, fun p hp => by have := h2 p hp; omega⟩, ⟨by omega, fun p hp => by have := h2 p hp; omega⟩⟩
end Go.AM

set_option linter.unusedSimpArgs false
set_option linter.unusedVariables false
namespace Go.AM
open Go.RowKit Go.Proofs
def finO (b : OB) : Bool := !grtO b && decide (chkO b = 0)
theorem l_fine_ok (g : Bool) (b : OB) (hb : OBK b) : PureOK Tryz.prog n_l_fine [On g b] (B (finO b)) := by
  refine pure_of (walk func_l_fine form_l_fine res_l_fine (by show 1 ≤ _; decide) ?_)
  simp -implicitDefEqProofs (disch := omega) [G_l_fine, wrap_id]
  refine callW_pure rfl (l_great_ok g b hb.many hb.len) ?_
  cases hg : grtO b with
  | true => simp -implicitDefEqProofs (disch := omega) [wrap_id, finO, hg]
  | false =>
    obtain ⟨z1, z2⟩ := grt_sz hg
    simp -implicitDefEqProofs (disch := omega) [wrap_id]
    refine callW_pure rfl (r_CheckBench_ok g b z2.many z2.len) ?_
    by_cases h : chkO b = 0
    · simp -implicitDefEqProofs (disch := omega) [wrap_id, h, finO, hg]
    · have h' : (chkO b == 0) = false := by simpa using h
      simp -implicitDefEqProofs (disch := omega) [wrap_id, h', h, finO, hg]
theorem fin_ok {b : OB} (h : finO b = true) : ∃ n, Okb b n ∧ Sz12 b ∧ SzO b := by
  unfold finO at h
  rw [Bool.and_eq_true, decide_eq_true_iff] at h
  obtain ⟨n, hb⟩ := okb_of h.2
  have hg : grtO b = false := by simpa using h.1
  obtain ⟨z1, z2⟩ := grt_sz hg
  exact ⟨n, hb, z1, z2⟩
theorem cells_us {l : List Int} {j : Nat} {K : AV → List (Nat × HObj) → Prop} (h : j < l.length) : CellsW (l.map fun n => U n) j 1 false K = K (U (l.getD j 0)) [] := by
  simp [CellsW, h]
theorem rowO_of {b : OB} {n : Nat} (hb : Okb b n) {r : List Int} (h1 : r.length = n) (h2 : ∀ x ∈ r, 0 ≤ x ∧ x ≤ 5) : rowO b r = true := by
  unfold rowO
  rw [Bool.and_eq_true, decide_eq_true_iff, List.all_eq_true]
  exact ⟨by rw [hb.P, h1], fun x hx => by have := h2 x hx; simp; omega⟩
def strG (k : Nat) (u : List Int) : List Int := if k = 0 then [] else u.map fun x => x.tmod k
theorem strG_len {k : Nat} {u : List Int} : (strG k u).length ≤ u.length := by unfold strG; split <;> simp
theorem strG_LsO {b : OB} {u : List Int} (hu : ∀ n ∈ u, 0 ≤ n ∧ n ≤ 255) : LsO b (strG b.s.length u) := fun s hs => by
  unfold strG at hs
  split at hs
  · cases hs
  · obtain ⟨x, hx, rfl⟩ := List.mem_map.1 hs
    rw [Int.tmod_eq_emod_of_nonneg (hu x hx).1]
    rename_i h0
    have h1 : (0 : Int) < b.s.length := by omega
    exact ⟨Int.emod_nonneg _ (by omega), Int.emod_lt_of_pos _ h1⟩
set_option maxHeartbeats 1000000 in
theorem l_Strokes_ok (g f : Bool) {b : OB} {n : Nat} (hb : Okb b n) (u : List Int) (hl : u.length ≤ 1000000) (hu : ∀ n ∈ u, 0 ≤ n ∧ n ≤ 255) : PureOK Tryz.prog n_l_Strokes [On g b, Us f u] (Ls (strG b.s.length u).isEmpty (strG b.s.length u)) := by
  have hm := hb.many
  refine pure_of (walk func_l_Strokes form_l_Strokes res_l_Strokes (by show 2 ≤ _; decide) ?_)
  simp -implicitDefEqProofs (disch := omega) [G_l_Strokes, wrap_id]
  refine loop_eq (fun q : Nat × AV × List HObj => ⟨[(1, Us f u), (2, .ref 0 0), (5, q.2.1), (6, I (q.1 : Int))], q.2.2⟩) (fun q => q.1 ≤ (strG b.s.length u).length ∧ AccR q.2.2 q.2.1 ((strG b.s.length u).take q.1) ∧ nthH q.2.2 0 = some (.cells [I b.P, LLs g b.s]) ∧ rid q.2.1 ≠ some 0) (fun q => (strG b.s.length u).length - q.1) (0, .sl true 0 [], [.cells [I b.P, LLs g b.s]]) ⟨Nat.zero_le _, .inl ⟨rfl, rfl⟩, rfl, by simp [rid]⟩ rfl ?_
  rintro ⟨i, x, H⟩ ⟨c1, c2, c3, c4⟩
  simp only at c1 c2 c3 c4 ⊢
  have l0 := nthH_lt c3
  refine hideK' fun K0 hK0 => ?_
  by_cases hk : b.s.length = 0
  · have e0 : strG b.s.length u = [] := by unfold strG; rw [if_pos hk]
    rw [e0] at c1 c2
    have hi : i = 0 := by simpa using c1
    subst hi
    subst hK0
    have hk' : ¬ ((0 : Int) < b.s.length) := by omega
    have hk2 : ¬ (0 < b.s.length) := by omega
    by_cases hu0 : u = []
    · subst hu0
      simp -implicitDefEqProofs (disch := omega) [wrap_id, c3, ldr_some, hk', hk2]
      rw [e0]
      exact out_acc c2
    · have hp : 0 < u.length := List.length_pos_iff.2 hu0
      simp -implicitDefEqProofs (disch := omega) [wrap_id, c3, ldr_some, hk', hk2, hp]
      rw [e0]
      exact out_acc c2
  · have e0 : strG b.s.length u = u.map fun x => x.tmod b.s.length := by unfold strG; rw [if_neg hk]
    have el : (strG b.s.length u).length = u.length := by rw [e0, List.length_map]
    have hk2 : 0 < b.s.length := by omega
    by_cases hi : i < u.length
    · have ix : ((i : Int) + 1) = ((i + 1 : Nat) : Int) := by omega
      obtain ⟨b1, b2⟩ := hu u[i] (List.getElem_mem hi)
      obtain ⟨w, hw⟩ : ∃ w, u[i] = w := ⟨_, rfl⟩
      have cu : ∀ K, CellsW (u.map fun n => U n) i 1 false K = K (U w) [] := fun K => by
        rw [cells_us hi, List.getD_eq_getElem?_getD, List.getElem?_eq_getElem hi, ← hw]; rfl
      have tk : (strG b.s.length u).take (i + 1) = (strG b.s.length u).take i ++ [w.tmod b.s.length] := by
        rw [List.take_succ_eq_append_getElem (by omega)]
        simp [e0, hw]
      have tl : ((strG b.s.length u).take i).length = i := by rw [List.length_take]; omega
      rw [hw] at b1 b2
      simp -implicitDefEqProofs (disch := omega) [wrap_id, c3, ldr_some, hk2, hi, cu, cmp2, nthT]
      refine bsl_of (ys := [I (w.tmod b.s.length)]) rfl rfl ?_
      simp -implicitDefEqProofs (disch := omega) [wrap_id, zrep, cmp2, nthT]
      refine app_row c2.row (by omega) fun ws w1 w2 w3 => ?_
      simp -implicitDefEqProofs (disch := omega) [wrap_id, cmp2, nthT, tl]
      rw [hK0]
      refine next_eq (i + 1, .ms H.length 0 (i + 1) 1, writeL H ws) ⟨by simp only; omega, .inr ⟨H.length, ?_, ?_, ?_⟩, ?_, ?_⟩ (by simp only; omega) (by simp only [ix])
      · rw [List.length_take, Nat.min_eq_left (by omega)]
      · simp only [tk]; simp
      · simp only [tk]; exact w3
      · rw [w1 0 l0 c4]; exact c3
      · simp only [rid]; intro e; injection e; omega
    · have tk : (strG b.s.length u).take i = strG b.s.length u := List.take_of_length_le (by omega)
      rw [tk] at c2
      subst hK0
      simp -implicitDefEqProofs (disch := omega) [wrap_id, c3, ldr_some, hi]
      exact out_acc c2
abbrev UUs (f : Bool) (ls : List (Bool × List Int)) : AV := .sl f ls.length (ls.map fun p => Us p.1 p.2)
theorem cells_uus {ls : List (Bool × List Int)} {j : Nat} {K : AV → List (Nat × HObj) → Prop} (h : j < ls.length) : CellsW (ls.map fun p => Us p.1 p.2) j 1 false K = K (Us ls[j].1 ls[j].2) [] := by
  simp [CellsW, h]
theorem l_short_ok (f : Bool) (ls : List (Bool × List Int)) (hl : ls.length ≤ 1000000) (hz : ∀ p ∈ ls, p.2.length ≤ 9223372036854775807) : PureOK Tryz.prog n_l_short [UUs f ls] (B (ls.all fun p => decide (p.2.length ≤ 40))) := by
  refine pure_of (walk func_l_short form_l_short res_l_short (by show 1 ≤ _; decide) ?_)
  generalize hE : (ls.all fun p => decide (p.2.length ≤ 40)) = E
  simp -implicitDefEqProofs (disch := omega) [G_l_short, wrap_id]
  refine loop_eq (fun i : Nat => ⟨[(0, UUs f ls), (3, I (i : Int))], []⟩) (fun i => i ≤ ls.length ∧ ∀ k (hk : k < ls.length), k < i → ls[k].2.length ≤ 40) (fun i => ls.length - i) 0 ⟨Nat.zero_le _, fun k hk h => by omega⟩ rfl ?_
  rintro i ⟨c1, c2⟩
  refine hideK' fun K0 hK0 => ?_
  simp -implicitDefEqProofs (disch := omega) [wrap_id]
  refine c_split (fun h => ?_) (fun h => ?_)
  · have hi : i < ls.length := by simp at h; omega
    have ix : ((i : Int) + 1) = ((i + 1 : Nat) : Int) := by omega
    have z1 := hz _ (List.getElem_mem hi)
    by_cases e : ls[i].2.length ≤ 40
    · have e' : ¬ (40 : Int) < ls[i].2.length := by omega
      simp -implicitDefEqProofs (disch := omega) [wrap_id, cells_uus, hi, e']
      rw [hK0]
      refine next_eq (i + 1) ⟨by omega, fun k hk h2 => ?_⟩ (by omega) (by simp only [ix])
      by_cases ek : k = i
      · subst ek; exact e
      · exact c2 k hk (by omega)
    · have e' : (40 : Int) < ls[i].2.length := by omega
      have : (ls.all fun p => decide (p.2.length ≤ 40)) = false := by
        rw [List.all_eq_false]
        exact ⟨_, List.getElem_mem hi, by simpa using e⟩
      rw [this] at hE
      subst hE
      subst hK0
      simp -implicitDefEqProofs (disch := omega) [wrap_id, cells_uus, hi, e']
  · have hi : i = ls.length := by simp at h; omega
    have : (ls.all fun p => decide (p.2.length ≤ 40)) = true := by
      rw [List.all_eq_true]
      intro p hp
      obtain ⟨k, hk, rfl⟩ := List.getElem_of_mem hp
      simpa using c2 k hk (by omega)
    rw [this] at hE
    subst hE
    subst hK0
    simp -implicitDefEqProofs (disch := omega) [wrap_id]
end Go.AM

set_option linter.unusedSimpArgs false
set_option linter.unusedVariables false
namespace Go.AM
open Go.RowKit Go.Proofs
theorem plc_of {b : OB} {n : Nat} (hb : Okb b n) : b.P.toNat = n := by have := hb.P; omega
theorem allI_aft {b : OB} {n : Nat} (hb : Okb b n) : ∀ {l r : List Int}, LsO b l → r.length = n → allI b l r = aft (allI b l (plcL n)) r
  | [], r, _, hr => (aft_plc hr).symm
  | s :: l, r, hl, hr => by
    have hl' : LsO b l := fun t ht => hl t (by simp [ht])
    have h1 := hl s (by simp)
    have ps : Pm n (b.S.getD s.toNat []) := hb.pmS.at (by rw [S_len]; omega)
    show allI b l (aft (b.S.getD s.toNat []) r) = aft (allI b l (aft (b.S.getD s.toNat []) (plcL n))) r
    rw [allI_aft hb hl' (by rw [aft_len]; exact ps.len), allI_aft (r := aft (b.S.getD s.toNat []) (plcL n)) hb hl' (by rw [aft_len]; exact ps.len), aft_plc' ps.rng]
    exact aft_aft ps.len (allI_pm hb hl' .plc).rng
theorem allI_app {b : OB} {l m r : List Int} : allI b (l ++ m) r = allI b m (allI b l r) := by
  unfold allI; rw [List.map_append, allS_append]
theorem pwr_pm {n : Nat} {j : List Int} (h : Pm n j) : ∀ m, Pm n (pwr j m)
  | 0 => by show Pm n (plcL j.length); rw [h.len]; exact .plc
  | m + 1 => h.comp (pwr_pm h m)
theorem pwr_add {n : Nat} {j : List Int} (h : Pm n j) (a : Nat) : ∀ c, pwr j (a + c) = aft (pwr j c) (pwr j a)
  | 0 => by show pwr j a = aft (plcL j.length) (pwr j a); rw [h.len, aft_plc (pwr_pm h a).len]
  | c + 1 => by
    show aft j (pwr j (a + c)) = aft (aft j (pwr j c)) (pwr j a)
    rw [pwr_add h a c]
    exact aft_aft (pwr_pm h c).len h.rng
theorem lstO_of {b : OB} {l : List Int} (h1 : LsO b l) (h2 : l.length ≤ 720) : lstO b l = 0 := by
  unfold lstO
  rw [if_neg (by omega), if_pos]
  rw [List.all_eq_true]
  intro s hs
  have := h1 s hs
  simpa using this
theorem chk_of {b : OB} {n : Nat} (hb : Okb b n) : chkO b = 0 := by
  have hP := hb.P
  have h2 := hb.lo
  have h6 := hb.hi
  have hm := hb.many
  unfold chkO
  rw [if_neg (by omega), if_neg (by omega), if_pos]
  rw [List.all_eq_true]
  intro p hp
  have pm := hb.pm p hp
  unfold strO
  rw [Bool.and_eq_true, decide_eq_true_iff, List.all_eq_true]
  refine ⟨by rw [pm.len, hP], fun k hk => ?_⟩
  have hk := List.mem_range.1 hk
  rw [beq_iff_eq]
  have m1 := pm.mem (k := k) (by rw [← pm.len]; exact hk)
  have c1 := List.count_pos_iff.2 m1
  have c2 := List.nodup_iff_count.1 pm.nd (k : Int)
  omega
theorem drw_of {b : OB} {n : Nat} (hb : Okb b n) {r l : List Int} (h1 : rowO b r = true) (h2 : LsO b l) (h3 : l.length ≤ 720) : drwE b r l = 0 ∧ drwL b r l = allI b l r := by
  have e : drwE b r l = 0 := by unfold drwE; rw [if_neg (by rw [chk_of hb]; decide), if_neg (by rw [h1]; decide)]; exact lstO_of h2 h3
  exact ⟨e, by unfold drwL; rw [if_pos e]⟩
theorem jnt_of {b : OB} {n : Nat} (hb : Okb b n) {l : List Int} (h2 : LsO b l) (h3 : l.length ≤ 720) : jntE b l = 0 ∧ jntL b l = allI b l (plcL n) := by
  have e : jntE b l = 0 := by unfold jntE; rw [if_neg (by rw [chk_of hb]; decide)]; exact lstO_of h2 h3
  exact ⟨e, by unfold jntL; rw [if_pos e, plc_of hb]⟩
theorem rnd_of {b : OB} {n : Nat} (hb : Okb b n) {l : List Int} (h2 : LsO b l) (h3 : l.length ≤ 720) : rndV b l = (ordN (allI b l (plcL n)) : Int) ∧ jntE b l = 0 := by
  obtain ⟨e1, e2⟩ := jnt_of hb h2 h3
  exact ⟨by unfold rndV; rw [if_pos e1, e2], e1⟩
end Go.AM

set_option linter.unusedSimpArgs false
set_option linter.unusedVariables false
namespace Go.AM
open Go.RowKit Go.Proofs
theorem pwr_dvd {n : Nat} (h2 : 2 ≤ n) (h6 : n ≤ 6) {j : List Int} (h : Pm n j) (t : Nat) : pwr j t = plcL n ↔ t % ordN j = 0 := by
  have ok := ord_ok h2 h6 h
  have lo := ok.lo
  have mul : ∀ q, pwr j (ordN j * q) = plcL n := fun q => by
    induction q with
    | zero => show plcL j.length = _; rw [h.len]
    | succ q ih => rw [Nat.mul_succ, pwr_add h, ih, ok.id, h.len, aft_plc plcL_len]
  have e : t = ordN j * (t / ordN j) + t % ordN j := (Nat.div_add_mod t (ordN j)).symm
  have key : pwr j t = pwr j (t % ordN j) := by
    conv => lhs; rw [e]
    rw [pwr_add h, mul, aft_plc' (pwr_pm h _).rng]
  rw [key]
  have lt := Nat.mod_lt t (show 0 < ordN j by omega)
  constructor
  · intro hp
    refine Classical.byContradiction fun hn => ?_
    exact ok.least _ (by omega) lt (by rw [h.len]; exact hp)
  · intro h0; rw [h0]; show plcL j.length = _; rw [h.len]
theorem sme_of {b : OB} {n : Nat} (hb : Okb b n) {l m : List Int} (h1 : LsO b l) (h2 : l.length ≤ 720) (h3 : LsO b m) (h4 : m.length ≤ 720) : smeE b l m = if allI b l (plcL n) = allI b m (plcL n) then 0 else 18 := by
  unfold smeE
  rw [if_neg (by rw [chk_of hb]; decide), if_neg (by omega), if_neg (by rw [lstO_of h1 h2, lstO_of h3 h4]; decide), plc_of hb]
set_option maxHeartbeats 8000000 in
theorem lawOrderJoint (b : OB) (u v : List Int) (t : Int) (hb : OBK b) (hu : UOK u) (hv : UOK v) (ht : 0 ≤ t ∧ t ≤ 255) : PureOK Tryz.prog n_l_OrderJoint [On false b, Us false u, Us false v, U t] (B true) := by
  refine pure_of (walk func_l_OrderJoint form_l_OrderJoint res_l_OrderJoint (by show 4 ≤ _; decide) ?_)
  simp -implicitDefEqProofs (disch := omega) [G_l_OrderJoint, wrap_id]
  refine callW_pure rfl (l_fine_ok false b hb) ?_
  cases hf : finO b with
  | false =>
    simp -implicitDefEqProofs (disch := omega) [wrap_id]
    exact callW_pure rfl works_ok (by simp)
  | true =>
  obtain ⟨n, ok, z1, z2⟩ := fin_ok hf
  simp -implicitDefEqProofs (disch := omega) [wrap_id]
  refine bsl_of (ys := [Us false u, Us false v]) rfl rfl ?_
  simp -implicitDefEqProofs (disch := omega) [wrap_id, zrep]
  refine callW_pure (ys := [UUs true [(false, u), (false, v)]]) (ids := []) rfl (l_short_ok true [(false, u), (false, v)] (by simp) (by simp; exact ⟨hu.1, hv.1⟩)) ?_
  cases hs : ([(false, u), (false, v)].all fun p : Bool × List Int => decide (p.2.length ≤ 40)) with
  | false =>
    simp -implicitDefEqProofs (disch := omega) [wrap_id]
    exact callW_pure rfl works_ok (by simp)
  | true =>
  simp -implicitDefEqProofs (disch := omega) [wrap_id]
  have hl : u.length ≤ 40 ∧ v.length ≤ 40 := by simpa using hs
  have h2 := ok.lo
  have h6 := ok.hi
  have lL := strG_LsO (b := b) hu.2
  have ll : (strG b.s.length u).length ≤ 40 := Nat.le_trans strG_len hl.1
  have mL := strG_LsO (b := b) hv.2
  have ml : (strG b.s.length v).length ≤ 40 := Nat.le_trans strG_len hl.2
  have R1 := l_Strokes_ok false false ok u (by omega) hu.2
  have R2 := l_Strokes_ok false false ok v (by omega) hv.2
  generalize strG b.s.length u = l at lL ll R1
  generalize strG b.s.length v = m at mL ml R2
  refine pureW_of rfl R1 ?_
  simp -implicitDefEqProofs (disch := omega) [wrap_id, cmp2, nthT]
  refine pureW_of rfl R2 ?_
  simp -implicitDefEqProofs (disch := omega) [wrap_id, cmp2, nthT]
  obtain ⟨a1, a2⟩ := jnt_of ok lL (by omega)
  refine callW_pure rfl (o_Joint_ok false _ b z1 l (by omega)) ?_
  rw [a1, a2]
  simp -implicitDefEqProofs (disch := omega) [wrap_id]
  obtain ⟨b1, b2⟩ := jnt_of ok mL (by omega)
  refine callW_pure rfl (o_Joint_ok false _ b z1 m (by omega)) ?_
  rw [b1, b2]
  simp -implicitDefEqProofs (disch := omega) [wrap_id]
  refine bsl_of (ys := []) rfl rfl ?_
  simp -implicitDefEqProofs (disch := omega) [wrap_id, zrep, cmp2, nthT]
  refine ⟨⟨by omega, by omega⟩, ⟨by omega, by omega⟩, ?_⟩
  have kL : LsO b (l ++ m) := fun s hs => by
    rcases List.mem_append.1 hs with hs | hs
    · exact lL s hs
    · exact mL s hs
  have kl : (l ++ m).length ≤ 80 := by rw [List.length_append]; omega
  obtain ⟨c1, c2⟩ := jnt_of ok kL (by omega)
  have ek : List.take l.length (l.map fun n => I n) ++ m.map (fun n => I n) = (l ++ m).map fun n => I n := by rw [List.take_of_length_le (by simp), List.map_append]
  rw [ek]
  refine pureW_of (ys := [On false b, Ls false (l ++ m)]) (ids := [] ++ [2]) (purifyAll2 rfl (ms_pur (l := l ++ m) rfl List.length_append.symm)) (o_Joint_ok false false b z1 (l ++ m) (by omega)) ?_
  rw [c1, c2, allI_app]
  simp -implicitDefEqProofs (disch := omega) [wrap_id, cmp2, nthT]
  have pl := allI_pm ok lL (.plc (n := n))
  have pm := allI_pm ok mL (.plc (n := n))
  have el : ∀ {r : List Int}, r.length = n → allI b l r = aft (allI b l (plcL n)) r := fun hr => allI_aft ok lL hr
  have em := allI_aft (r := allI b l (plcL n)) ok mL pl.len
  obtain ⟨q1, q2⟩ := rnd_of ok lL (by omega)
  obtain ⟨r1, r2⟩ := drw_of ok (rowO_plc ok) lL (by omega)
  obtain ⟨s1, s2⟩ := drw_of ok (rowO_plc ok) mL (by omega)
  have sm := sme_of ok lL (by omega) mL (by omega)
  have al := r_All_ok false false l.isEmpty ok (plcL n) l plcL_len lL (by omega)
  have am := r_All_ok false false m.isEmpty ok (plcL n) m plcL_len mL (by omega)
  have pp : (plcL n).isEmpty = false := ne_emp plcL_len (by omega)
  have dv := pwr_dvd h2 h6 pl
  have oj := ord_ok h2 h6 pl
  have em' : allI b m (allI b l (plcL n)) = aft (allI b m (plcL n)) (allI b l (plcL n)) := em
  rw [em']
  have oP : ∀ k, rowO b (pwr (allI b l (plcL n)) k) = true := fun k => rowO_of ok (pwr_pm pl k).len fun x hx => by have := (pwr_pm pl k).rng x hx; omega
  have eP : ∀ k, allI b l (pwr (allI b l (plcL n)) k) = pwr (allI b l (plcL n)) (k + 1) := fun k => by rw [el (pwr_pm pl k).len]; rfl
  have lP : ∀ k, (pwr (allI b l (plcL n)) k).length = n := fun k => (pwr_pm pl k).len
  have eZ : pwr (allI b l (plcL n)) 0 = plcL n := by show plcL (allI b l (plcL n)).length = _; rw [pl.len]
  have af := r_After_ok (allI b m (plcL n)).isEmpty (allI b l (plcL n)).isEmpty (allI b m (plcL n)) (allI b l (plcL n)) (by rw [pl.len]; omega) (by rw [pl.len, pm.len]) (fun x hx => by rw [pl.len]; exact pm.rng x hx)
  have lo := oj.lo
  have hi := oj.hi
  clear em em' el
  have lJ := pl.len
  have lJ2 := pm.len
  have lK : (aft (allI b m (plcL n)) (allI b l (plcL n))).length = n := by rw [aft_len]; exact lJ2
  generalize ordN (allI b l (plcL n)) = N at *
  clear pl pm oj
  generalize allI b l (plcL n) = J at *
  generalize allI b m (plcL n) = J2 at *
  generalize aft J2 J = K at *
  have n1 : ¬ (N : Int) < 1 := by omega
  have n3 : ¬ N = 0 := by omega
  have n4 : ¬ N < 1 := by omega
  have iJ : J.isEmpty = false := ne_emp lJ (by omega)
  have iJ2 : J2.isEmpty = false := ne_emp lJ2 (by omega)
  have iK : K.isEmpty = false := ne_emp lK (by omega)
  rw [iJ, iJ2] at af
  rw [iK] at af
  simp only [iJ, iJ2, iK]
  refine callW_pure rfl (r_Places_ok false b n ok.P h6) ?_
  rw [pp]
  simp -implicitDefEqProofs (disch := omega) [wrap_id]
  refine callW_pure rfl (o_Draw_ok false false _ b z1 (plcL n) l (by rw [plcL_len]; omega) (by omega)) ?_
  rw [r1, r2, iJ]
  simp -implicitDefEqProofs (disch := omega) [wrap_id]
  refine callW_pure rfl (o_Draw_ok false false _ b z1 (plcL n) m (by rw [plcL_len]; omega) (by omega)) ?_
  rw [s1, s2, iJ2]
  simp -implicitDefEqProofs (disch := omega) [wrap_id]
  refine callW_pure rfl (o_Round_ok false _ b z1 l (by omega)) ?_
  rw [q1, q2]
  simp -implicitDefEqProofs (disch := omega) [wrap_id]
  simp -implicitDefEqProofs (disch := omega) [wrap_id, n1, n3, n4]
  refine callW_pure rfl al ?_
  simp -implicitDefEqProofs (disch := omega) [wrap_id]
  refine callW_pure rfl (l_ints_ok false false J J (by omega) (by omega)) ?_
  rw [decide_eq_true rfl]
  simp -implicitDefEqProofs (disch := omega) [wrap_id]
  refine callW_pure rfl am ?_
  simp -implicitDefEqProofs (disch := omega) [wrap_id]
  refine callW_pure rfl (l_ints_ok false false J2 J2 (by omega) (by omega)) ?_
  rw [decide_eq_true rfl]
  simp -implicitDefEqProofs (disch := omega) [wrap_id]
  refine callW_pure rfl af ?_
  simp -implicitDefEqProofs (disch := omega) [wrap_id]
  refine callW_pure rfl (l_ints_ok false false K K (by omega) (by omega)) ?_
  rw [decide_eq_true rfl]
  simp -implicitDefEqProofs (disch := omega) [wrap_id]
  refine callW_pure rfl (o_Same_ok false _ _ b z1 l m (by omega) (by omega)) ?_
  rw [sm]
  obtain ⟨T, hT⟩ : ∃ T : Nat, t.tmod 13 = T := ⟨(t.tmod 13).toNat, by rw [Int.tmod_eq_emod_of_nonneg ht.1]; omega⟩
  have hT2 : T < 13 := by rw [Int.tmod_eq_emod_of_nonneg ht.1] at hT; omega
  have eq0 : eqK (false, [Leaf.bool]) (.bool true) (.bool true) = some true := rfl
  have eq1 : eqK (false, [Leaf.bool]) (.bool false) (.bool false) = some true := rfl
  have eMod : (T : Int).tmod N = ((T % N : Nat) : Int) := by rw [Int.tmod_eq_emod_of_nonneg (by omega)]; simp
  have dT := dv T
  by_cases e : J = J2
  · rw [if_pos e]
    simp -implicitDefEqProofs (disch := omega) [wrap_id]
    refine callW_pure rfl (l_ints_ok false false J J2 (by omega) (by omega)) ?_
    rw [decide_eq_true e]
    simp -implicitDefEqProofs (disch := omega) [wrap_id]
    rw [eqk_of (neg := true) (a := .bool true) (b := .bool true) rfl rfl eq0]
    simp -implicitDefEqProofs (disch := omega) [wrap_id]
    refine callW_pure rfl (l_ints_ok false false J J2 (by omega) (by omega)) ?_
    rw [decide_eq_true e]
    simp -implicitDefEqProofs (disch := omega) [wrap_id]
    rw [eqk_of (neg := true) (a := .bool true) (b := .bool true) rfl rfl eq0]
    simp -implicitDefEqProofs (disch := omega) [wrap_id, hT]
    refine loop_eq (fun i : Nat => ⟨[(4, .ref 0 0), (9, Ls l.isEmpty l), (17, Ls false (plcL n)), (22, I (N : Int)), (25, I (T : Int)), (26, Ls false (pwr J i)), (27, I (i : Int))], [.cells [I b.P, LLs false b.s], .gone, .gone]⟩) (fun i => i ≤ T) (fun i => T - i) 0 (Nat.zero_le _) (by rw [eZ]; rfl) ?_
    rintro i c1
    refine hideK' fun K0 hK0 => ?_
    simp -implicitDefEqProofs (disch := omega) [wrap_id]
    refine c_split (fun hc => ?_) (fun hc => ?_)
    · have hi : i < T := by simpa using hc
      have ix : ((i : Int) + 1) = ((i + 1 : Nat) : Int) := by omega
      obtain ⟨g1, g2⟩ := drw_of ok (oP i) lL (by omega)
      have li := lP i
      have ei : (pwr J (i + 1)).isEmpty = false := ne_emp (lP (i + 1)) (by omega)
      simp -implicitDefEqProofs (disch := omega) [wrap_id]
      refine callW_pure rfl (o_Draw_ok false false _ b z1 (pwr J i) l (by omega) (by omega)) ?_
      rw [g1, g2, eP, ei]
      simp -implicitDefEqProofs (disch := omega) [wrap_id]
      rw [hK0]
      exact next_eq (i + 1) (by omega) (by omega) (by simp only [ix])
    · have hi : i = T := by simp at hc; omega
      subst hi
      subst hK0
      have li := lP i
      simp -implicitDefEqProofs (disch := omega) [wrap_id, cmp2, nthT]
      refine pureW_of rfl (l_ints_ok false false (pwr J i) (plcL n) (by omega) (by rw [plcL_len]; omega)) ?_
      simp -implicitDefEqProofs (disch := omega) [wrap_id, cmp2, nthT]
      by_cases hd : pwr J i = plcL n
      · have h0 := dT.1 hd
        have h0' : ((i : Int).tmod (N : Int) == 0) = true := by rw [eMod, h0]; rfl
        rw [decide_eq_true hd, h0']
        rw [eqk_of (neg := false) (a := .bool true) (b := .bool true) rfl rfl eq0]
        simp -implicitDefEqProofs (disch := omega) [wrap_id, cmp2, nthT]
        refine pureW_of rfl works_ok ?_
        simp -implicitDefEqProofs (disch := omega) [wrap_id, cmp2, nthT]
      · have h0 : ¬ i % N = 0 := fun h => hd (dT.2 h)
        have h0' : ((i : Int).tmod (N : Int) == 0) = false := by rw [eMod, beq_eq_false_iff_ne]; omega
        rw [decide_eq_false hd, h0']
        rw [eqk_of (neg := false) (a := .bool false) (b := .bool false) rfl rfl eq1]
        simp -implicitDefEqProofs (disch := omega) [wrap_id, cmp2, nthT]
        refine pureW_of rfl works_ok ?_
        simp -implicitDefEqProofs (disch := omega) [wrap_id, cmp2, nthT]
  · rw [if_neg e]
    simp -implicitDefEqProofs (disch := omega) [wrap_id]
    refine callW_pure rfl (l_ints_ok false false J J2 (by omega) (by omega)) ?_
    rw [decide_eq_false e]
    simp -implicitDefEqProofs (disch := omega) [wrap_id]
    rw [eqk_of (neg := true) (a := .bool false) (b := .bool false) rfl rfl eq1]
    simp -implicitDefEqProofs (disch := omega) [wrap_id]
    refine callW_pure rfl (l_ints_ok false false J J2 (by omega) (by omega)) ?_
    rw [decide_eq_false e]
    simp -implicitDefEqProofs (disch := omega) [wrap_id]
    rw [eqk_of (neg := true) (a := .bool false) (b := .bool false) rfl rfl eq1]
    simp -implicitDefEqProofs (disch := omega) [wrap_id, hT]
    refine loop_eq (fun i : Nat => ⟨[(4, .ref 0 0), (9, Ls l.isEmpty l), (17, Ls false (plcL n)), (22, I (N : Int)), (25, I (T : Int)), (26, Ls false (pwr J i)), (27, I (i : Int))], [.cells [I b.P, LLs false b.s], .gone, .gone]⟩) (fun i => i ≤ T) (fun i => T - i) 0 (Nat.zero_le _) (by rw [eZ]; rfl) ?_
    rintro i c1
    refine hideK' fun K0 hK0 => ?_
    simp -implicitDefEqProofs (disch := omega) [wrap_id]
    refine c_split (fun hc => ?_) (fun hc => ?_)
    · have hi : i < T := by simpa using hc
      have ix : ((i : Int) + 1) = ((i + 1 : Nat) : Int) := by omega
      obtain ⟨g1, g2⟩ := drw_of ok (oP i) lL (by omega)
      have li := lP i
      have ei : (pwr J (i + 1)).isEmpty = false := ne_emp (lP (i + 1)) (by omega)
      simp -implicitDefEqProofs (disch := omega) [wrap_id]
      refine callW_pure rfl (o_Draw_ok false false _ b z1 (pwr J i) l (by omega) (by omega)) ?_
      rw [g1, g2, eP, ei]
      simp -implicitDefEqProofs (disch := omega) [wrap_id]
      rw [hK0]
      exact next_eq (i + 1) (by omega) (by omega) (by simp only [ix])
    · have hi : i = T := by simp at hc; omega
      subst hi
      subst hK0
      have li := lP i
      simp -implicitDefEqProofs (disch := omega) [wrap_id, cmp2, nthT]
      refine pureW_of rfl (l_ints_ok false false (pwr J i) (plcL n) (by omega) (by rw [plcL_len]; omega)) ?_
      simp -implicitDefEqProofs (disch := omega) [wrap_id, cmp2, nthT]
      by_cases hd : pwr J i = plcL n
      · have h0 := dT.1 hd
        have h0' : ((i : Int).tmod (N : Int) == 0) = true := by rw [eMod, h0]; rfl
        rw [decide_eq_true hd, h0']
        rw [eqk_of (neg := false) (a := .bool true) (b := .bool true) rfl rfl eq0]
        simp -implicitDefEqProofs (disch := omega) [wrap_id, cmp2, nthT]
        refine pureW_of rfl works_ok ?_
        simp -implicitDefEqProofs (disch := omega) [wrap_id, cmp2, nthT]
      · have h0 : ¬ i % N = 0 := fun h => hd (dT.2 h)
        have h0' : ((i : Int).tmod (N : Int) == 0) = false := by rw [eMod, beq_eq_false_iff_ne]; omega
        rw [decide_eq_false hd, h0']
        rw [eqk_of (neg := false) (a := .bool false) (b := .bool false) rfl rfl eq1]
        simp -implicitDefEqProofs (disch := omega) [wrap_id, cmp2, nthT]
        refine pureW_of rfl works_ok ?_
        simp -implicitDefEqProofs (disch := omega) [wrap_id, cmp2, nthT]
end Go.AM
