/-
  KxFa2: texts joined: FmOF Co1 Co2 Co5 Co12 FmOL Lo1 Lo5 Lo9 Lo10 Lo13. Own work.
-/
import Derived.Test.YtelokgilhpjbhaaGreatKxFa1
import Derived.Test.YtelokgilhpjbhaaGreatProg

set_option maxRecDepth 100000
namespace Go.AM
open Go.RowKit Go.Proofs
abbrev n_r_CheckBench : Nat := 24
def G_r_CheckBench : AC := (.seq (.rgn [⟨none, [(.box 1 2 (.t 0)), (.mv 2 (.k (I 0)))]⟩] [1]) (.seq (.seq (.rgn [⟨none, [(.fa 4 (.t 1) 0), (.ld 5 false 1 (.t 4)), (.bin 6 .lss (.t 5) (.k (I 2))), (.mv 7 (.t 6))]⟩, ⟨(some (7, false)), [(.fa 8 (.t 1) 0), (.ld 9 false 1 (.t 8)), (.bin 10 .gtr (.t 9) (.k (I 6)))]⟩, ⟨none, [(.pick 11 (.t 7) (.k (B true)) (.t 10))]⟩] [1, 11]) (.cond (.t 11) (.seq (.rgn [⟨none, [(.mv 2 (.k (I 2)))]⟩] [2]) .ret) .skip)) (.seq (.seq (.rgn [⟨none, [(.fa 12 (.t 1) 1), (.ld 13 false 1 (.t 12)), (.len 14 (.t 13)), (.bin 15 .gtr (.t 14) (.k (I 6)))]⟩] [1, 15]) (.cond (.t 15) (.seq (.rgn [⟨none, [(.mv 2 (.k (I 6)))]⟩] [2]) .ret) .skip)) (.seq (.seq (.rgn [⟨none, [(.mv 3 (.k (I 0)))]⟩] [1, 3]) (.block 0 (.loop (.seq (.seq (.rgn [⟨none, [(.mv 16 (.t 3)), (.fa 17 (.t 1) 1), (.ld 18 false 1 (.t 17)), (.len 19 (.t 18)), (.bin 20 .lss (.t 16) (.t 19))]⟩] [1, 3, 20]) (.cond (.t 20) .skip (.exit 0))) (.seq (.block 1 (.seq (.drw [⟨none, [(.fa 23 (.t 1) 1), (.ld 24 false 1 (.t 23)), (.mv 25 (.t 3)), (.ia 26 1 (.t 24) (.t 25)), (.ld 27 false 1 (.t 26)), (.fa 28 (.t 1) 0), (.ld 29 false 1 (.t 28)), (.call 30 77 [(.t 27), (.t 29)]), (.un 31 .not (.t 30))]⟩] [(1, 6), (4, 6)] [1, 3, 31]) (.cond (.t 31) (.seq (.rgn [⟨none, [(.mv 2 (.k (I 15)))]⟩] [2]) .ret) .skip))) (.rgn [⟨none, [(.mv 21 (.t 3)), (.bin 22 .add (.t 21) (.k (I 1))), (.mv 3 (.t 22))]⟩] [1, 3])))))) (.seq (.rgn [⟨none, [(.mv 2 (.k (I 0)))]⟩] [2]) .ret)))))
theorem func_r_CheckBench : Tryz.prog.funcs[n_r_CheckBench]? = some Tryz.f24 := Tryz.func24
theorem form_r_CheckBench : formOf Tryz.prog Tryz.f24 [2] = some G_r_CheckBench := by kernel_rfl
theorem res_r_CheckBench : resTmps Tryz.f24.results.toList = some [2] := by kernel_rfl
abbrev n_r_Places : Nat := 54
def G_r_Places : AC := (.seq (.rgn [⟨none, [(.box 1 2 (.t 0)), (.mv 2 (.k (.sl true 0 [])))]⟩] [1]) (.seq (.rgn [⟨none, [(.mv 3 (.k (.sl true 0 [])))]⟩] [1, 3]) (.seq (.seq (.rgn [⟨none, [(.mv 4 (.k (I 0)))]⟩] [1, 3, 4]) (.block 0 (.loop (.seq (.seq (.rgn [⟨none, [(.mv 5 (.t 4)), (.fa 6 (.t 1) 0), (.ld 7 false 1 (.t 6)), (.bin 8 .lss (.t 5) (.t 7))]⟩] [1, 3, 4, 8]) (.cond (.t 8) .skip (.exit 0))) (.seq (.block 1 (.rgn [⟨none, [(.mv 11 (.t 3)), (.mv 12 (.t 4)), (.bsl 13 1 1 [(I 0)] [(0, (.t 12))]), (.app 14 1 8 (.t 11) (.t 13)), (.mv 3 (.t 14))]⟩] [1, 3, 4])) (.rgn [⟨none, [(.mv 9 (.t 4)), (.bin 10 .add (.t 9) (.k (I 1))), (.mv 4 (.t 10))]⟩] [1, 3, 4])))))) (.seq (.rgn [⟨none, [(.mv 15 (.t 3)), (.mv 2 (.t 15))]⟩] [2]) .ret))))
theorem func_r_Places : Tryz.prog.funcs[n_r_Places]? = some Tryz.f54 := Tryz.func54
theorem form_r_Places : formOf Tryz.prog Tryz.f54 [2] = some G_r_Places := by kernel_rfl
theorem res_r_Places : resTmps Tryz.f54.results.toList = some [2] := by kernel_rfl
abbrev n_r_isStroke : Nat := 77
def G_r_isStroke : AC := (.seq (.rgn [⟨none, [(.mv 4 (.k (B false)))]⟩] [0, 1]) (.seq (.seq (.rgn [⟨none, [(.mv 8 (.t 0)), (.len 9 (.t 8)), (.mv 10 (.t 1)), (.bin 11 .neq (.t 9) (.t 10))]⟩] [0, 1, 11]) (.cond (.t 11) (.seq (.rgn [⟨none, [(.mv 4 (.k (B false)))]⟩] [4]) .ret) .skip)) (.seq (.seq (.rgn [⟨none, [(.mv 5 (.k (I 0)))]⟩] [0, 1, 5]) (.block 0 (.loop (.seq (.seq (.rgn [⟨none, [(.mv 12 (.t 5)), (.mv 13 (.t 1)), (.bin 14 .lss (.t 12) (.t 13))]⟩] [0, 1, 5, 14]) (.cond (.t 14) .skip (.exit 0))) (.seq (.block 1 (.seq (.rgn [⟨none, [(.mv 6 (.k (I 0)))]⟩] [0, 1, 5, 6]) (.seq (.seq (.rgn [⟨none, [(.mv 7 (.k (I 0)))]⟩] [0, 1, 5, 6, 7]) (.block 2 (.loop (.seq (.seq (.rgn [⟨none, [(.mv 17 (.t 7)), (.mv 18 (.t 0)), (.len 19 (.t 18)), (.bin 20 .lss (.t 17) (.t 19))]⟩] [0, 1, 5, 6, 7, 20]) (.cond (.t 20) .skip (.exit 2))) (.seq (.block 3 (.seq (.rgn [⟨none, [(.mv 23 (.t 0)), (.mv 24 (.t 7)), (.ia 25 1 (.t 23) (.t 24)), (.ld 26 false 1 (.t 25)), (.mv 27 (.t 5)), (.bin 28 .eql (.t 26) (.t 27))]⟩] [0, 1, 5, 6, 7, 28]) (.cond (.t 28) (.rgn [⟨none, [(.mv 29 (.t 6)), (.bin 30 .add (.t 29) (.k (I 1))), (.mv 6 (.t 30))]⟩] [0, 1, 5, 6, 7]) .skip))) (.rgn [⟨none, [(.mv 21 (.t 7)), (.bin 22 .add (.t 21) (.k (I 1))), (.mv 7 (.t 22))]⟩] [0, 1, 5, 6, 7])))))) (.seq (.rgn [⟨none, [(.mv 31 (.t 6)), (.bin 32 .neq (.t 31) (.k (I 1)))]⟩] [0, 1, 5, 32]) (.cond (.t 32) (.seq (.rgn [⟨none, [(.mv 4 (.k (B false)))]⟩] [4]) .ret) .skip))))) (.rgn [⟨none, [(.mv 15 (.t 5)), (.bin 16 .add (.t 15) (.k (I 1))), (.mv 5 (.t 16))]⟩] [0, 1, 5])))))) (.seq (.rgn [⟨none, [(.mv 4 (.k (B true)))]⟩] [4]) .ret))))
theorem func_r_isStroke : Tryz.prog.funcs[n_r_isStroke]? = some Tryz.f77 := Tryz.func77
theorem form_r_isStroke : formOf Tryz.prog Tryz.f77 [4] = some G_r_isStroke := by kernel_rfl
theorem res_r_isStroke : resTmps Tryz.f77.results.toList = some [4] := by kernel_rfl
end Go.AM

set_option linter.unusedSimpArgs false
set_option linter.unusedVariables false
namespace Go.AM
open Go.RowKit Go.Proofs
theorem count_take {l : List Int} {i : Nat} {p : Int} (h : i < l.length) : (l.take (i + 1)).count p = (l.take i).count p + if l[i] = p then 1 else 0 := by
  rw [List.take_succ_eq_append_getElem h, List.count_append, List.count_singleton]
  by_cases e : l[i] = p
  · simp [e]
  · simp [e]
set_option maxHeartbeats 1000000 in
theorem r_isStroke_ok (f : Bool) (l : List Int) (P : Int) (hl : l.length ≤ 1000000) : PureOK Tryz.prog n_r_isStroke [Ls f l, I P] (B (strO P l)) := by
  refine pure_of (walk func_r_isStroke form_r_isStroke res_r_isStroke (by show 2 ≤ _; decide) ?_)
  simp -implicitDefEqProofs (disch := omega) [G_r_isStroke, wrap_id]
  by_cases hP : (l.length : Int) = P
  · subst hP
    simp -implicitDefEqProofs (disch := omega) [wrap_id]
    refine loop_eq (fun p : Nat => ⟨[(0, Ls f l), (1, I (l.length : Int)), (5, I (p : Int))], []⟩) (fun p => p ≤ l.length ∧ ((List.range p).all fun p => l.count (p : Int) == 1) = true) (fun p => l.length - p) 0 ⟨Nat.zero_le _, rfl⟩ rfl ?_
    rintro p ⟨hp, ha⟩
    refine hideK' fun K0 hK0 => ?_
    simp -implicitDefEqProofs (disch := omega) [wrap_id]
    refine c_split (fun h => ?_) (fun h => ?_)
    · have hp : p < l.length := by simp at h; omega
      have px : ((p : Int) + 1) = ((p + 1 : Nat) : Int) := by omega
      simp -implicitDefEqProofs (disch := omega) [wrap_id]
      refine loop_eq (fun i : Nat => ⟨[(0, Ls f l), (1, I (l.length : Int)), (5, I (p : Int)), (6, I ((l.take i).count (p : Int) : Nat)), (7, I (i : Int))], []⟩) (fun i => i ≤ l.length) (fun i => l.length - i) 0 (Nat.zero_le _) rfl ?_
      intro i hi
      refine hideK' fun K1 hK1 => ?_
      simp -implicitDefEqProofs (disch := omega) [wrap_id]
      refine c_split (fun h => ?_) (fun h => ?_)
      · have hi : i < l.length := by simp at h; omega
        have ix : ((i : Int) + 1) = ((i + 1 : Nat) : Int) := by omega
        have ct := count_take (p := (p : Int)) hi
        have cl : (l.take i).count (p : Int) ≤ l.length := Nat.le_trans List.count_le_length (by rw [List.length_take]; omega)
        generalize hc : (l.take i).count (p : Int) = c at *
        have cx : ((c : Int) + 1) = ((c + 1 : Nat) : Int) := by omega
        by_cases e : l[i] = (p : Int)
        · rw [if_pos e] at ct
          simp -implicitDefEqProofs (disch := omega) [wrap_id, cells_ls, hi, e]
          rw [hK1]
          exact next_eq (i + 1) (by omega) (by omega) (by simp only [ix, cx, ct])
        · rw [if_neg e] at ct
          have e' : (l[i] == (p : Int)) = false := by simpa using e
          simp -implicitDefEqProofs (disch := omega) [wrap_id, cells_ls, hi, e, e']
          rw [hK1]
          exact next_eq (i + 1) (by omega) (by omega) (by simp only [ix, ct]; rfl)
      · have hi : i = l.length := by simp at h; omega
        subst hi
        subst hK1
        have cl := List.count_le_length (a := (p : Int)) (l := l)
        have tk : l.take l.length = l := List.take_of_length_le (Nat.le_refl _)
        by_cases e : l.count (p : Int) = 1
        · simp -implicitDefEqProofs (disch := omega) [wrap_id, e, tk]
          rw [hK0]
          refine next_eq (p + 1) ⟨by omega, ?_⟩ (by omega) (by simp only [px])
          rw [range_all_succ, ha, e]; rfl
        · have e' : ((l.count (p : Int) : Int) != 1) = true := by simp only [bne_iff_ne, ne_eq]; omega
          have hf : strO (l.length : Int) l = false := by
            unfold strO
            have : ((List.range l.length).all fun p => l.count (p : Int) == 1) = false := by
              rw [List.all_eq_false]
              exact ⟨p, List.mem_range.2 hp, by simp [e]⟩
            rw [this, Bool.and_false]
          simp -implicitDefEqProofs (disch := omega) [wrap_id, e', tk]
          rw [hf] at hK0
          subst hK0
          simp -implicitDefEqProofs (disch := omega) [wrap_id]
    · have hp : p = l.length := by simp at h; omega
      subst hp
      have ht : strO (l.length : Int) l = true := by unfold strO; rw [ha]; simp
      rw [ht] at hK0
      subst hK0
      simp -implicitDefEqProofs (disch := omega) [wrap_id]
  · have hP' : ((l.length : Int) != P) = true := by simpa using hP
    have hf : strO P l = false := by unfold strO; rw [decide_eq_false hP]; rfl
    simp -implicitDefEqProofs (disch := omega) [wrap_id, hP', hf]
end Go.AM

set_option linter.unusedSimpArgs false
set_option linter.unusedVariables false
namespace Go.AM
open Go.RowKit Go.Proofs
set_option maxHeartbeats 1000000 in
theorem r_CheckBench_ok (g : Bool) (b : OB) (hb : b.s.length ≤ 1000000) (hs : ∀ p ∈ b.s, p.2.length ≤ 1000000) : PureOK Tryz.prog n_r_CheckBench [On g b] (I (chkO b)) := by
  refine pure_of (walk func_r_CheckBench form_r_CheckBench res_r_CheckBench (by show 1 ≤ _; decide) ?_)
  simp -implicitDefEqProofs (disch := omega) [G_r_CheckBench, wrap_id]
  by_cases h1 : b.P < 2
  · have e : chkO b = 2 := by unfold chkO; rw [if_pos (.inl h1)]
    simp -implicitDefEqProofs (disch := omega) [wrap_id, h1, e]
  by_cases h2 : 6 < b.P
  · have e : chkO b = 2 := by unfold chkO; rw [if_pos (.inr h2)]
    simp -implicitDefEqProofs (disch := omega) [wrap_id, h1, h2, e]
  by_cases h3 : 6 < b.s.length
  · have h3' : (6 : Int) < b.s.length := by omega
    have e : chkO b = 6 := by unfold chkO; rw [if_neg (by omega), if_pos h3]
    simp -implicitDefEqProofs (disch := omega) [wrap_id, h1, h2, h3', e]
  have h3' : ¬ (6 : Int) < b.s.length := by omega
  have e : chkO b = if b.s.all (fun p => strO b.P p.2) then 0 else 15 := by unfold chkO; rw [if_neg (by omega), if_neg h3]
  rw [e]
  simp -implicitDefEqProofs (disch := omega) [wrap_id, h1, h2, h3']
  refine loop_eq (fun i : Nat => ⟨[(1, .ref 0 0), (3, I (i : Int))], [.cells [I b.P, LLs g b.s]]⟩) (fun i => i ≤ b.s.length ∧ ∀ k (hk : k < b.s.length), k < i → strO b.P b.s[k].2 = true) (fun i => b.s.length - i) 0 ⟨Nat.zero_le _, fun k _ h => by omega⟩ rfl ?_
  rintro i ⟨hi, ha⟩
  refine hideK' fun K0 hK0 => ?_
  simp -implicitDefEqProofs (disch := omega) [wrap_id]
  refine c_split (fun h => ?_) (fun h => ?_)
  · have hi : i < b.s.length := by simp at h; omega
    have ix : ((i : Int) + 1) = ((i + 1 : Nat) : Int) := by omega
    simp -implicitDefEqProofs (disch := omega) [wrap_id, cells_lls, hi]
    refine pureW_of rfl (r_isStroke_ok _ _ b.P (hs _ (List.getElem_mem hi))) ?_
    cases hst : strO b.P b.s[i].2 with
    | true =>
      simp -implicitDefEqProofs (disch := omega) [wrap_id, cmp2, nthT]
      rw [hK0]
      refine next_eq (i + 1) ⟨by omega, fun k hk hki => ?_⟩ (by omega) (by simp only [ix])
      by_cases hk2 : k = i
      · subst hk2; exact hst
      · exact ha k hk (by omega)
    | false =>
      have hf : b.s.all (fun p => strO b.P p.2) = false := by
        rw [List.all_eq_false]
        exact ⟨b.s[i], List.getElem_mem hi, by simp [hst]⟩
      rw [hf] at hK0
      subst hK0
      simp -implicitDefEqProofs (disch := omega) [wrap_id, cmp2, nthT]
  · have hi : i = b.s.length := by simp at h; omega
    subst hi
    have ht : b.s.all (fun p => strO b.P p.2) = true := by
      rw [List.all_eq_true]
      intro p hp
      obtain ⟨k, hk, rfl⟩ := List.getElem_of_mem hp
      exact ha k hk hk
    rw [ht] at hK0
    subst hK0
    simp -implicitDefEqProofs (disch := omega) [wrap_id]
end Go.AM

set_option linter.unusedSimpArgs false
set_option linter.unusedVariables false
namespace Go.AM
open Go.RowKit Go.Proofs
set_option maxHeartbeats 1000000 in
theorem r_Places_ok (g : Bool) (b : OB) (n : Nat) (hn : b.P = n) (h6 : n ≤ 6) : PureOK Tryz.prog n_r_Places [On g b] (Ls (plcL n).isEmpty (plcL n)) := by
  refine pure_of (walk func_r_Places form_r_Places res_r_Places (by show 1 ≤ _; decide) ?_)
  simp -implicitDefEqProofs (disch := omega) [G_r_Places, wrap_id]
  refine loop_eq (fun q : Nat × AV × List HObj => ⟨[(1, .ref 0 0), (3, q.2.1), (4, I (q.1 : Int))], q.2.2⟩) (fun q => q.1 ≤ n ∧ AccR q.2.2 q.2.1 (plcL q.1) ∧ nthH q.2.2 0 = some (.cells [I b.P, LLs g b.s]) ∧ rid q.2.1 ≠ some 0) (fun q => n - q.1) (0, .sl true 0 [], [.cells [I b.P, LLs g b.s]]) ⟨Nat.zero_le _, .inl ⟨rfl, rfl⟩, rfl, by simp [rid]⟩ rfl ?_
  rintro ⟨i, x, H⟩ ⟨c1, c2, c3, c4⟩
  simp only at c1 c2 c3 c4 ⊢
  have l0 := nthH_lt c3
  refine hideK' fun K0 hK0 => ?_
  simp -implicitDefEqProofs (disch := omega) [wrap_id, c3, ldr_some, hn]
  refine c_split (fun h => ?_) (fun h => ?_)
  · have hir : i < n := by simp at h; omega
    have ix : ((i : Int) + 1) = ((i + 1 : Nat) : Int) := by omega
    have tk : plcL (i + 1) = plcL i ++ [(i : Int)] := by simp [plcL, List.range_succ]
    have tl := plcL_len (n := i)
    simp -implicitDefEqProofs (disch := omega) [wrap_id]
    refine bsl_of (ys := [I (i : Int)]) rfl rfl ?_
    simp -implicitDefEqProofs (disch := omega) [wrap_id, zrep]
    refine app_row c2.row (by omega) fun ws w1 w2 w3 => ?_
    simp -implicitDefEqProofs (disch := omega) [wrap_id]
    rw [hK0]
    refine next_eq (i + 1, .ms H.length 0 (i + 1) 1, writeL H ws) ⟨by simp only; omega, .inr ⟨H.length, ?_, ?_, ?_⟩, ?_, ?_⟩ (by simp only; omega) (by simp only [ix, tl])
    · rw [plcL_len]
    · simp only [tk]; simp
    · simp only [tk]; exact w3
    · rw [w1 0 l0 c4]; exact c3
    · simp only [rid]; intro e; injection e; omega
  · have hir : i = n := by simp at h; omega
    subst hir
    subst hK0
    simp -implicitDefEqProofs (disch := omega) [wrap_id]
    exact out_acc c2
end Go.AM

set_option linter.unusedSimpArgs false
set_option linter.unusedVariables false
namespace Go.AM
open Go.RowKit Go.Proofs
theorem lls_pc (l : List (Bool × List Int)) : ((llsC l).all AV.isPC) = true := by
  rw [List.all_eq_true]
  intro x hx
  obtain ⟨p, _, rfl⟩ := List.mem_map.1 hx
  rfl
end Go.AM

set_option maxRecDepth 100000
namespace Go.AM
open Go.RowKit Go.Proofs
abbrev n_l_OrderFar : Nat := 10
def G_l_OrderFar : AC := (.seq (.rgn [⟨none, [(.box 6 2 (.t 0)), (.mv 12 (.k (B false)))]⟩] [1, 2, 3, 4, 5, 6]) (.seq (.seq (.rgn [⟨none, [(.ld 27 true 2 (.t 6)), (.call 28 47 [(.t 27)]), (.un 29 .not (.t 28)), (.mv 30 (.t 29))]⟩, ⟨(some (30, false)), [(.mv 31 (.t 1)), (.mv 32 (.t 2)), (.mv 33 (.t 3)), (.bsl 34 3 1 [(.sl true 0 [])] [(0, (.t 31)), (1, (.t 32)), (2, (.t 33))]), (.call 35 48 [(.t 34)]), (.un 36 .not (.t 35))]⟩, ⟨none, [(.pick 37 (.t 30) (.k (B true)) (.t 36)), (.mv 38 (.t 37))]⟩, ⟨(some (38, false)), [(.fa 39 (.t 6) 1), (.ld 40 false 1 (.t 39)), (.len 41 (.t 40)), (.bin 42 .geq (.t 41) (.k (I 6)))]⟩, ⟨none, [(.pick 43 (.t 38) (.k (B true)) (.t 42))]⟩] [1, 2, 3, 4, 5, 6, 43]) (.cond (.t 43) (.seq (.rgn [⟨none, [(.call 44 16 []), (.mv 12 (.t 44))]⟩] [12]) .ret) .skip)) (.seq (.rgn [⟨none, [(.ld 45 true 2 (.t 6)), (.mv 46 (.t 1)), (.call 47 49 [(.t 45), (.t 46)]), (.mv 13 (.t 47))]⟩] [2, 3, 4, 5, 6, 13]) (.seq (.drw [⟨none, [(.ld 49 true 2 (.t 6)), (.mv 50 (.t 13)), (.ld 51 true 2 (.t 6)), (.mv 52 (.t 2)), (.call 53 50 [(.t 51), (.t 52)]), (.call 54 17 [(.t 49), (.t 50), (.t 53)]), (.mv 48 (.t 54)), (.ext 55 (.t 48) 0), (.ext 56 (.t 48) 1), (.mv 14 (.t 55)), (.mv 15 (.t 56))]⟩] [(0, 2), (0, 4)] [3, 4, 5, 6, 13, 14, 15]) (.seq (.drw [⟨none, [(.ld 58 true 2 (.t 6)), (.mv 59 (.t 14)), (.ld 60 true 2 (.t 6)), (.mv 61 (.t 3)), (.call 62 50 [(.t 60), (.t 61)]), (.call 63 17 [(.t 58), (.t 59), (.t 62)]), (.mv 57 (.t 63)), (.ext 64 (.t 57) 0), (.ext 65 (.t 57) 1), (.mv 16 (.t 64)), (.mv 17 (.t 65))]⟩] [(0, 2), (0, 4)] [4, 5, 6, 13, 14, 15, 16, 17]) (.seq (.seq (.rgn [⟨none, [(.mv 66 (.t 15)), (.bin 67 .neq (.t 66) (.k (I 0))), (.mv 68 (.t 67))]⟩, ⟨(some (68, false)), [(.mv 69 (.t 17)), (.bin 70 .neq (.t 69) (.k (I 0)))]⟩, ⟨none, [(.pick 71 (.t 68) (.k (B true)) (.t 70))]⟩] [4, 5, 6, 13, 14, 16, 71]) (.cond (.t 71) (.seq (.rgn [⟨none, [(.mv 12 (.k (B false)))]⟩] [12]) .ret) .skip)) (.seq (.rgn [⟨none, [(.ld 73 true 2 (.t 6)), (.mv 74 (.t 13)), (.mv 75 (.t 16)), (.call 76 29 [(.t 73), (.t 74), (.t 75)]), (.mv 72 (.t 76)), (.ext 77 (.t 72) 0), (.ext 78 (.t 72) 1), (.mv 18 (.t 77)), (.mv 15 (.t 78))]⟩] [4, 5, 6, 13, 14, 15, 16, 18]) (.seq (.rgn [⟨none, [(.ld 80 true 2 (.t 6)), (.mv 81 (.t 13)), (.mv 82 (.t 14)), (.call 83 29 [(.t 80), (.t 81), (.t 82)]), (.mv 79 (.t 83)), (.ext 84 (.t 79) 0), (.ext 85 (.t 79) 1), (.mv 19 (.t 84)), (.mv 17 (.t 85))]⟩] [4, 5, 6, 13, 14, 15, 16, 17, 18, 19]) (.seq (.rgn [⟨none, [(.ld 87 true 2 (.t 6)), (.mv 88 (.t 14)), (.mv 89 (.t 16)), (.call 90 29 [(.t 87), (.t 88), (.t 89)]), (.mv 86 (.t 90)), (.ext 91 (.t 86) 0), (.ext 92 (.t 86) 1), (.mv 20 (.t 91)), (.mv 21 (.t 92))]⟩] [4, 5, 6, 13, 15, 16, 17, 18, 19, 20, 21]) (.seq (.seq (.rgn [⟨none, [(.mv 93 (.t 15)), (.bin 94 .neq (.t 93) (.k (I 0))), (.mv 95 (.t 94))]⟩, ⟨(some (95, false)), [(.mv 96 (.t 17)), (.bin 97 .neq (.t 96) (.k (I 0)))]⟩, ⟨none, [(.pick 98 (.t 95) (.k (B true)) (.t 97)), (.mv 99 (.t 98))]⟩, ⟨(some (99, false)), [(.mv 100 (.t 21)), (.bin 101 .neq (.t 100) (.k (I 0)))]⟩, ⟨none, [(.pick 102 (.t 99) (.k (B true)) (.t 101)), (.mv 103 (.t 102))]⟩, ⟨(some (103, false)), [(.mv 104 (.t 18)), (.len 105 (.t 104)), (.mv 106 (.t 19)), (.len 107 (.t 106)), (.mv 108 (.t 20)), (.len 109 (.t 108)), (.bin 110 .add (.t 107) (.t 109)), (.bin 111 .gtr (.t 105) (.t 110))]⟩, ⟨none, [(.pick 112 (.t 103) (.k (B true)) (.t 111))]⟩] [4, 5, 6, 13, 16, 18, 112]) (.cond (.t 112) (.seq (.rgn [⟨none, [(.mv 12 (.k (B false)))]⟩] [12]) .ret) .skip)) (.seq (.rgn [⟨none, [(.ld 113 true 2 (.t 6)), (.call 114 54 [(.t 113)]), (.mv 115 (.t 4)), (.call 116 52 [(.t 114), (.t 115)]), (.mv 22 (.t 116))]⟩] [5, 6, 13, 16, 18, 22]) (.seq (.rgn [⟨none, [(.mv 117 (.t 5)), (.cnv 118 .i64 (.t 117)), (.fa 119 (.t 6) 0), (.ld 120 false 1 (.t 119)), (.bin 121 .rem (.t 118) (.t 120)), (.mv 23 (.t 121))]⟩] [6, 13, 16, 18, 22, 23]) (.seq (.drw [⟨none, [(.mv 122 (.t 22)), (.mv 123 (.t 22)), (.mv 124 (.t 23)), (.mv 125 (.t 22)), (.mv 126 (.t 23)), (.ia 127 1 (.t 125) (.t 126)), (.ld 128 false 1 (.t 127)), (.mv 129 (.t 22)), (.ia 130 1 (.t 129) (.k (I 0))), (.ld 131 false 1 (.t 130)), (.ia 132 1 (.t 122) (.k (I 0))), (.st 1 (.t 132) (.t 128)), (.ia 133 1 (.t 123) (.t 124)), (.st 1 (.t 133) (.t 131))]⟩] [(6, 9)] [6, 13, 16, 18, 22]) (.seq (.drw [⟨none, [(.fa 134 (.t 6) 0), (.ld 135 false 1 (.t 134)), (.bsl 136 0 1 [(.sl true 0 [])] []), (.fa 137 (.t 6) 1), (.ld 138 false 1 (.t 137)), (.app 139 1 24 (.t 136) (.t 138)), (.mv 140 (.t 22)), (.bsl 141 1 1 [(.sl true 0 [])] [(0, (.t 140))]), (.app 142 1 24 (.t 139) (.t 141)), (.bld 143 [(I 0), (.sl true 0 [])] [(0, 1, (.t 135)), (1, 1, (.t 142))]), (.al 24 [(I 0), (.sl true 0 [])]), (.st 2 (.t 24) (.t 143))]⟩] [(1, 2), (1, 4), (2, 4), (1, 5), (1, 7), (2, 7), (4, 7), (5, 7), (1, 8), (1, 10), (2, 10), (4, 10), (5, 10), (7, 10), (8, 10)] [13, 16, 18, 24]) (.seq (.rgn [⟨none, [(.ld 145 true 2 (.t 24)), (.mv 146 (.t 13)), (.mv 147 (.t 16)), (.call 148 29 [(.t 145), (.t 146), (.t 147)]), (.mv 144 (.t 148)), (.ext 149 (.t 144) 0), (.ext 150 (.t 144) 1), (.mv 25 (.t 149)), (.mv 26 (.t 150))]⟩] [18, 25, 26]) (.seq (.rgn [⟨none, [(.mv 151 (.t 26)), (.bin 152 .eql (.t 151) (.k (I 0))), (.mv 153 (.t 152))]⟩, ⟨(some (153, true)), [(.mv 154 (.t 25)), (.len 155 (.t 154)), (.mv 156 (.t 18)), (.len 157 (.t 156)), (.bin 158 .leq (.t 155) (.t 157))]⟩, ⟨none, [(.pick 159 (.t 153) (.t 158) (.k (B false))), (.mv 160 (.t 159))]⟩, ⟨(some (160, true)), [(.call 161 16 [])]⟩, ⟨none, [(.pick 162 (.t 160) (.t 161) (.k (B false))), (.mv 12 (.t 162))]⟩] [12]) .ret))))))))))))))))
theorem func_l_OrderFar : Tryz.prog.funcs[n_l_OrderFar]? = some Tryz.f10 := Tryz.func10
theorem form_l_OrderFar : formOf Tryz.prog Tryz.f10 [12] = some G_l_OrderFar := by kernel_rfl
theorem res_l_OrderFar : resTmps Tryz.f10.results.toList = some [12] := by kernel_rfl
abbrev n_l_great : Nat := 13
def G_l_great : AC := (.seq (.rgn [⟨none, [(.box 1 2 (.t 0)), (.mv 2 (.k (B false)))]⟩] [1]) (.seq (.seq (.rgn [⟨none, [(.fa 4 (.t 1) 1), (.ld 5 false 1 (.t 4)), (.len 6 (.t 5)), (.bin 7 .gtr (.t 6) (.k (I 10)))]⟩] [1, 7]) (.cond (.t 7) (.seq (.rgn [⟨none, [(.mv 2 (.k (B true)))]⟩] [2]) .ret) .skip)) (.seq (.seq (.rgn [⟨none, [(.mv 3 (.k (I 0)))]⟩] [1, 3]) (.block 0 (.loop (.seq (.seq (.rgn [⟨none, [(.mv 8 (.t 3)), (.fa 9 (.t 1) 1), (.ld 10 false 1 (.t 9)), (.len 11 (.t 10)), (.bin 12 .lss (.t 8) (.t 11))]⟩] [1, 3, 12]) (.cond (.t 12) .skip (.exit 0))) (.seq (.block 1 (.seq (.rgn [⟨none, [(.fa 15 (.t 1) 1), (.ld 16 false 1 (.t 15)), (.mv 17 (.t 3)), (.ia 18 1 (.t 16) (.t 17)), (.ld 19 false 1 (.t 18)), (.len 20 (.t 19)), (.bin 21 .gtr (.t 20) (.k (I 10)))]⟩] [1, 3, 21]) (.cond (.t 21) (.seq (.rgn [⟨none, [(.mv 2 (.k (B true)))]⟩] [2]) .ret) .skip))) (.rgn [⟨none, [(.mv 13 (.t 3)), (.bin 14 .add (.t 13) (.k (I 1))), (.mv 3 (.t 14))]⟩] [1, 3])))))) (.seq (.rgn [⟨none, [(.mv 2 (.k (B false)))]⟩] [2]) .ret))))
theorem func_l_great : Tryz.prog.funcs[n_l_great]? = some Tryz.f13 := Tryz.func13
theorem form_l_great : formOf Tryz.prog Tryz.f13 [2] = some G_l_great := by kernel_rfl
theorem res_l_great : resTmps Tryz.f13.results.toList = some [2] := by kernel_rfl
abbrev n_l_fine : Nat := 47
def G_l_fine : AC := (.seq (.rgn [⟨none, [(.box 1 2 (.t 0)), (.mv 2 (.k (B false)))]⟩] [1]) (.seq (.rgn [⟨none, [(.ld 3 true 2 (.t 1)), (.call 4 13 [(.t 3)]), (.un 5 .not (.t 4)), (.mv 6 (.t 5))]⟩, ⟨(some (6, true)), [(.ld 7 true 2 (.t 1)), (.call 8 24 [(.t 7)]), (.bin 9 .eql (.t 8) (.k (I 0)))]⟩, ⟨none, [(.pick 10 (.t 6) (.t 9) (.k (B false))), (.mv 2 (.t 10))]⟩] [2]) .ret))
theorem func_l_fine : Tryz.prog.funcs[n_l_fine]? = some Tryz.f47 := Tryz.func47
theorem form_l_fine : formOf Tryz.prog Tryz.f47 [2] = some G_l_fine := by kernel_rfl
theorem res_l_fine : resTmps Tryz.f47.results.toList = some [2] := by kernel_rfl
abbrev n_l_short : Nat := 48
def G_l_short : AC := (.seq (.rgn [⟨none, [(.mv 2 (.k (B false)))]⟩] [0]) (.seq (.seq (.rgn [⟨none, [(.mv 3 (.k (I 0)))]⟩] [0, 3]) (.block 0 (.loop (.seq (.seq (.rgn [⟨none, [(.mv 4 (.t 3)), (.mv 5 (.t 0)), (.len 6 (.t 5)), (.bin 7 .lss (.t 4) (.t 6))]⟩] [0, 3, 7]) (.cond (.t 7) .skip (.exit 0))) (.seq (.block 1 (.seq (.rgn [⟨none, [(.mv 10 (.t 0)), (.mv 11 (.t 3)), (.ia 12 1 (.t 10) (.t 11)), (.ld 13 false 1 (.t 12)), (.len 14 (.t 13)), (.bin 15 .gtr (.t 14) (.k (I 40)))]⟩] [0, 3, 15]) (.cond (.t 15) (.seq (.rgn [⟨none, [(.mv 2 (.k (B false)))]⟩] [2]) .ret) .skip))) (.rgn [⟨none, [(.mv 8 (.t 3)), (.bin 9 .add (.t 8) (.k (I 1))), (.mv 3 (.t 9))]⟩] [0, 3])))))) (.seq (.rgn [⟨none, [(.mv 2 (.k (B true)))]⟩] [2]) .ret)))
theorem func_l_short : Tryz.prog.funcs[n_l_short]? = some Tryz.f48 := Tryz.func48
theorem form_l_short : formOf Tryz.prog Tryz.f48 [2] = some G_l_short := by kernel_rfl
theorem res_l_short : resTmps Tryz.f48.results.toList = some [2] := by kernel_rfl
abbrev n_l_Row : Nat := 49
def G_l_Row : AC := (.seq (.rgn [⟨none, [(.box 2 2 (.t 0)), (.mv 4 (.k (.sl true 0 [])))]⟩] [1, 2]) (.seq (.rgn [⟨none, [(.mv 5 (.k (.sl true 0 [])))]⟩] [1, 2, 5]) (.seq (.seq (.rgn [⟨none, [(.mv 6 (.k (I 0)))]⟩] [1, 2, 5, 6]) (.block 0 (.loop (.seq (.seq (.rgn [⟨none, [(.mv 8 (.t 6)), (.fa 9 (.t 2) 0), (.ld 10 false 1 (.t 9)), (.bin 11 .lss (.t 8) (.t 10))]⟩] [1, 2, 5, 6, 11]) (.cond (.t 11) .skip (.exit 0))) (.seq (.block 1 (.seq (.rgn [⟨none, [(.mv 7 (.k (I 0)))]⟩] [1, 2, 5, 6, 7]) (.seq (.seq (.rgn [⟨none, [(.mv 14 (.t 1)), (.len 15 (.t 14)), (.bin 16 .gtr (.t 15) (.k (I 0)))]⟩] [1, 2, 5, 6, 7, 16]) (.cond (.t 16) (.rgn [⟨none, [(.mv 17 (.t 1)), (.mv 18 (.t 6)), (.mv 19 (.t 1)), (.len 20 (.t 19)), (.bin 21 .rem (.t 18) (.t 20)), (.ia 22 1 (.t 17) (.t 21)), (.ld 23 false 1 (.t 22)), (.cnv 24 .i64 (.t 23)), (.bin 25 .rem (.t 24) (.k (I 6))), (.mv 7 (.t 25))]⟩] [1, 2, 5, 6, 7]) .skip)) (.rgn [⟨none, [(.mv 26 (.t 5)), (.mv 27 (.t 7)), (.bsl 28 1 1 [(I 0)] [(0, (.t 27))]), (.app 29 1 8 (.t 26) (.t 28)), (.mv 5 (.t 29))]⟩] [1, 2, 5, 6])))) (.rgn [⟨none, [(.mv 12 (.t 6)), (.bin 13 .add (.t 12) (.k (I 1))), (.mv 6 (.t 13))]⟩] [1, 2, 5, 6])))))) (.seq (.rgn [⟨none, [(.mv 30 (.t 5)), (.mv 4 (.t 30))]⟩] [4]) .ret))))
theorem func_l_Row : Tryz.prog.funcs[n_l_Row]? = some Tryz.f49 := Tryz.func49
theorem form_l_Row : formOf Tryz.prog Tryz.f49 [4] = some G_l_Row := by kernel_rfl
theorem res_l_Row : resTmps Tryz.f49.results.toList = some [4] := by kernel_rfl
abbrev n_l_Strokes : Nat := 50
def G_l_Strokes : AC := (.seq (.rgn [⟨none, [(.box 2 2 (.t 0)), (.mv 4 (.k (.sl true 0 [])))]⟩] [1, 2]) (.seq (.rgn [⟨none, [(.mv 5 (.k (.sl true 0 [])))]⟩] [1, 2, 5]) (.seq (.seq (.rgn [⟨none, [(.mv 6 (.k (I 0)))]⟩] [1, 2, 5, 6]) (.block 0 (.loop (.seq (.seq (.rgn [⟨none, [(.mv 7 (.t 6)), (.mv 8 (.t 1)), (.len 9 (.t 8)), (.bin 10 .lss (.t 7) (.t 9)), (.mv 11 (.t 10))]⟩, ⟨(some (11, true)), [(.fa 12 (.t 2) 1), (.ld 13 false 1 (.t 12)), (.len 14 (.t 13)), (.bin 15 .gtr (.t 14) (.k (I 0)))]⟩, ⟨none, [(.pick 16 (.t 11) (.t 15) (.k (B false)))]⟩] [1, 2, 5, 6, 16]) (.cond (.t 16) .skip (.exit 0))) (.seq (.block 1 (.drw [⟨none, [(.mv 19 (.t 5)), (.mv 20 (.t 1)), (.mv 21 (.t 6)), (.ia 22 1 (.t 20) (.t 21)), (.ld 23 false 1 (.t 22)), (.cnv 24 .i64 (.t 23)), (.fa 25 (.t 2) 1), (.ld 26 false 1 (.t 25)), (.len 27 (.t 26)), (.bin 28 .rem (.t 24) (.t 27)), (.bsl 29 1 1 [(I 0)] [(0, (.t 28))]), (.app 30 1 8 (.t 19) (.t 29)), (.mv 5 (.t 30))]⟩] [(4, 7)] [1, 2, 5, 6])) (.rgn [⟨none, [(.mv 17 (.t 6)), (.bin 18 .add (.t 17) (.k (I 1))), (.mv 6 (.t 18))]⟩] [1, 2, 5, 6])))))) (.seq (.rgn [⟨none, [(.mv 31 (.t 5)), (.mv 4 (.t 31))]⟩] [4]) .ret))))
theorem func_l_Strokes : Tryz.prog.funcs[n_l_Strokes]? = some Tryz.f50 := Tryz.func50
theorem form_l_Strokes : formOf Tryz.prog Tryz.f50 [4] = some G_l_Strokes := by kernel_rfl
theorem res_l_Strokes : resTmps Tryz.f50.results.toList = some [4] := by kernel_rfl
abbrev n_l_turned : Nat := 52
def G_l_turned : AC := (.seq (.rgn [⟨none, [(.mv 4 (.k (.sl true 0 [])))]⟩] [0, 1]) (.seq (.rgn [⟨none, [(.mv 5 (.k (.sl true 0 [])))]⟩] [0, 1, 5]) (.seq (.seq (.rgn [⟨none, [(.mv 6 (.k (I 0)))]⟩] [0, 1, 5, 6]) (.block 0 (.loop (.seq (.seq (.rgn [⟨none, [(.mv 7 (.t 6)), (.mv 8 (.t 0)), (.len 9 (.t 8)), (.bin 10 .lss (.t 7) (.t 9))]⟩] [0, 1, 5, 6, 10]) (.cond (.t 10) .skip (.exit 0))) (.seq (.block 1 (.rgn [⟨none, [(.mv 13 (.t 5)), (.mv 14 (.t 0)), (.mv 15 (.t 6)), (.mv 16 (.t 1)), (.cnv 17 .i64 (.t 16)), (.bin 18 .add (.t 15) (.t 17)), (.mv 19 (.t 0)), (.len 20 (.t 19)), (.bin 21 .rem (.t 18) (.t 20)), (.ia 22 1 (.t 14) (.t 21)), (.ld 23 false 1 (.t 22)), (.bsl 24 1 1 [(I 0)] [(0, (.t 23))]), (.app 25 1 8 (.t 13) (.t 24)), (.mv 5 (.t 25))]⟩] [0, 1, 5, 6])) (.rgn [⟨none, [(.mv 11 (.t 6)), (.bin 12 .add (.t 11) (.k (I 1))), (.mv 6 (.t 12))]⟩] [0, 1, 5, 6])))))) (.seq (.rgn [⟨none, [(.mv 26 (.t 5)), (.mv 4 (.t 26))]⟩] [4]) .ret))))
theorem func_l_turned : Tryz.prog.funcs[n_l_turned]? = some Tryz.f52 := Tryz.func52
theorem form_l_turned : formOf Tryz.prog Tryz.f52 [4] = some G_l_turned := by kernel_rfl
theorem res_l_turned : resTmps Tryz.f52.results.toList = some [4] := by kernel_rfl
end Go.AM

set_option linter.unusedSimpArgs false
set_option linter.unusedVariables false
namespace Go.AM
open Go.RowKit Go.Proofs
def grtO (b : OB) : Bool := decide (10 < b.s.length) || b.s.any fun p => decide (10 < p.2.length)
theorem l_great_ok (g : Bool) (b : OB) (hb : b.s.length ≤ 9223372036854775807) (hz : ∀ p ∈ b.s, p.2.length ≤ 9223372036854775807) : PureOK Tryz.prog n_l_great [On g b] (B (grtO b)) := by
  refine pure_of (walk func_l_great form_l_great res_l_great (by show 1 ≤ _; decide) ?_)
  simp -implicitDefEqProofs (disch := omega) [G_l_great, wrap_id]
  by_cases h : 10 < b.s.length
  · have h' : (10 : Int) < b.s.length := by omega
    have e : grtO b = true := by simp [grtO, h]
    rw [e]
    simp -implicitDefEqProofs (disch := omega) [wrap_id, h']
  · have h' : ¬ (10 : Int) < b.s.length := by omega
    have e0 : grtO b = b.s.any fun p => decide (10 < p.2.length) := by simp [grtO, h]
    generalize grtO b = E at e0 ⊢
    simp -implicitDefEqProofs (disch := omega) [wrap_id, h']
    refine loop_eq (fun i : Nat => ⟨[(1, .ref 0 0), (3, I (i : Int))], [.cells [I b.P, LLs g b.s]]⟩) (fun i => i ≤ b.s.length ∧ ∀ k (hk : k < b.s.length), k < i → ¬ 10 < b.s[k].2.length) (fun i => b.s.length - i) 0 ⟨by omega, fun k hk h => by omega⟩ rfl ?_
    rintro i ⟨hi, he⟩
    refine hideK' fun K0 hK0 => ?_
    simp -implicitDefEqProofs (disch := omega) [wrap_id]
    refine c_split (fun hc => ?_) (fun hc => ?_)
    · have h1 : i < b.s.length := by simp at hc; omega
      have ix : ((i : Int) + 1) = ((i + 1 : Nat) : Int) := by omega
      have z1 := hz _ (List.getElem_mem h1)
      by_cases e : 10 < b.s[i].2.length
      · have e' : (10 : Int) < b.s[i].2.length := by omega
        have : (b.s.any fun p => decide (10 < p.2.length)) = true := List.any_eq_true.2 ⟨_, List.getElem_mem h1, by simpa using e⟩
        rw [this] at e0
        subst e0
        subst hK0
        simp -implicitDefEqProofs (disch := omega) [wrap_id, cells_lls, h1, e']
      · have e' : ¬ (10 : Int) < b.s[i].2.length := by omega
        simp -implicitDefEqProofs (disch := omega) [wrap_id, cells_lls, h1, e']
        rw [hK0]
        refine next_eq (i + 1) ⟨by omega, fun k hk h2 => ?_⟩ (by omega) (by simp only [ix])
        by_cases ek : k = i
        · subst ek; exact e
        · exact he k hk (by omega)
    · have h1 : i = b.s.length := by simp at hc; omega
      have : (b.s.any fun p => decide (10 < p.2.length)) = false := by
        rw [List.any_eq_false]
        intro p hp
        obtain ⟨k, hk, rfl⟩ := List.getElem_of_mem hp
        simpa using he k hk (by omega)
      rw [this] at e0
      subst e0
      subst hK0
      simp -implicitDefEqProofs (disch := omega) [wrap_id]
theorem grt_sz {b : OB} (h : grtO b = false) : Sz12 b ∧ SzO b := by
  unfold grtO at h
  rw [Bool.or_eq_false_iff] at h
  have h1 : ¬ 10 < b.s.length := by simpa using h.1
  have h2 : ∀ p ∈ b.s, ¬ 10 < p.2.length := fun p hp => by simpa using List.any_eq_false.1 h.2 p hp
  exact ⟨⟨by omega, fun p hp => by have := h2 p hp; omega⟩, ⟨by omega, fun p hp => by have := h2 p hp; omega⟩⟩
end Go.AM

set_option linter.unusedSimpArgs false
set_option linter.unusedVariables false
namespace Go.AM
open Go.RowKit Go.Proofs
theorem least_ex {d : Nat} : ∀ {L : List (List Nat)}, L ≠ [] → (∀ w ∈ L, w.length = d) → ∃ w ∈ L, ∀ m ∈ L, frst (wI m) (wI w) = false
  | [a], _, _ => ⟨a, by simp, fun m hm => by rw [List.mem_singleton] at hm; subst hm; exact frst_self _⟩
  | a :: b :: L, _, hl => by
    obtain ⟨w, hw, hm⟩ := least_ex (L := b :: L) (by simp) (fun w hw => hl w (by simp [List.mem_cons.1 hw]))
    have la := hl a (by simp)
    have lw := hl w (List.mem_cons_of_mem _ hw)
    cases hf : frst (wI a) (wI w) with
    | true =>
      refine ⟨a, by simp, fun m hm2 => ?_⟩
      rcases List.mem_cons.1 hm2 with rfl | hm3
      · exact frst_self _
      · have lm := hl m hm2
        exact frst_le_trans (a := wI a) (b := wI w) (c := wI m) (by rw [wI_len, wI_len]; omega) (by rw [wI_len, wI_len]; omega) (frst_asymm hf) (hm m hm3)
    | false =>
      refine ⟨w, List.mem_cons_of_mem _ hw, fun m hm2 => ?_⟩
      rcases List.mem_cons.1 hm2 with rfl | hm3
      · exact hf
      · exact hm m hm3
theorem best_ex {S : List (List Int)} {r x : List Int} {d : Nat} (h : Dist S r x d) : ∃ w, IsBest S d r x w := by
  obtain ⟨⟨w0, hw, hl⟩, _⟩ := h
  have hm := mem_wordsL.2 ⟨hw, hl⟩
  obtain ⟨w, h1, h2⟩ := least_ex (d := d) (L := wordsL S d r x) (fun e => by rw [e] at hm; cases hm) (fun w hw => (mem_wordsL.1 hw).2)
  exact ⟨w, best_words h1 h2⟩
end Go.AM

set_option linter.unusedSimpArgs false
set_option linter.unusedVariables false
namespace Go.AM
open Go.RowKit Go.Proofs
def finO (b : OB) : Bool := !grtO b && decide (chkO b = 0)
theorem l_fine_ok (g : Bool) (b : OB) (hb : OBK b) : PureOK Tryz.prog n_l_fine [On g b] (B (finO b)) := by
  refine pure_of (walk func_l_fine form_l_fine res_l_fine (by show 1 ≤ _; decide) ?_)
  simp -implicitDefEqProofs (disch := omega) [G_l_fine, wrap_id]
  refine callW_pure rfl (l_great_ok g b hb.many hb.len) ?_
  cases hg : grtO b with
  | true => simp -implicitDefEqProofs (disch := omega) [wrap_id, finO, hg]
  | false =>
    obtain ⟨z1, z2⟩ := grt_sz hg
    simp -implicitDefEqProofs (disch := omega) [wrap_id]
    refine callW_pure rfl (r_CheckBench_ok g b z2.many z2.len) ?_
    by_cases h : chkO b = 0
    · simp -implicitDefEqProofs (disch := omega) [wrap_id, h, finO, hg]
    · have h' : (chkO b == 0) = false := by simpa using h
      simp -implicitDefEqProofs (disch := omega) [wrap_id, h', h, finO, hg]
theorem fin_ok {b : OB} (h : finO b = true) : ∃ n, Okb b n ∧ Sz12 b ∧ SzO b := by
  unfold finO at h
  rw [Bool.and_eq_true, decide_eq_true_iff] at h
  obtain ⟨n, hb⟩ := okb_of h.2
  have hg : grtO b = false := by simpa using h.1
  obtain ⟨z1, z2⟩ := grt_sz hg
  exact ⟨n, hb, z1, z2⟩
theorem cells_us {l : List Int} {j : Nat} {K : AV → List (Nat × HObj) → Prop} (h : j < l.length) : CellsW (l.map fun n => U n) j 1 false K = K (U (l.getD j 0)) [] := by
  simp [CellsW, h]
def rowG (n : Nat) (u : List Int) : List Int := (List.range n).map fun i => if u = [] then 0 else (u.getD (i % u.length) 0).tmod 6
theorem rowG_len {n : Nat} {u : List Int} : (rowG n u).length = n := by simp [rowG]
theorem rowG_snoc {n : Nat} {u : List Int} : rowG (n + 1) u = rowG n u ++ [if u = [] then 0 else (u.getD (n % u.length) 0).tmod 6] := by simp [rowG, List.range_succ]
theorem tmod6 {x : Int} (h : 0 ≤ x) : 0 ≤ x.tmod 6 ∧ x.tmod 6 ≤ 5 := by
  rw [Int.tmod_eq_emod_of_nonneg h]; omega
theorem getD_u {u : List Int} (hu : ∀ n ∈ u, 0 ≤ n ∧ n ≤ 255) (k : Nat) : 0 ≤ u.getD k 0 ∧ u.getD k 0 ≤ 255 := by
  by_cases h : k < u.length
  · exact hu _ (getD_mem h)
  · rw [List.getD_eq_getElem?_getD, List.getElem?_eq_none (by omega)]; exact ⟨Int.le_refl _, by decide⟩
theorem rowG_col {n : Nat} {u : List Int} (hu : ∀ n ∈ u, 0 ≤ n ∧ n ≤ 255) : ∀ x ∈ rowG n u, 0 ≤ x ∧ x ≤ 5 := fun x hx => by
  obtain ⟨i, _, rfl⟩ := List.mem_map.1 hx
  by_cases h : u = []
  · rw [if_pos h]; decide
  · rw [if_neg h]; exact tmod6 (getD_u hu _).1
theorem rowO_of {b : OB} {n : Nat} (hb : Okb b n) {r : List Int} (h1 : r.length = n) (h2 : ∀ x ∈ r, 0 ≤ x ∧ x ≤ 5) : rowO b r = true := by
  unfold rowO
  rw [Bool.and_eq_true, decide_eq_true_iff, List.all_eq_true]
  exact ⟨by rw [hb.P, h1], fun x hx => by have := h2 x hx; simp; omega⟩
set_option maxHeartbeats 1000000 in
theorem l_Row_ok (g f : Bool) {b : OB} {n : Nat} (hb : Okb b n) (u : List Int) (hl : u.length ≤ 1000000) (hu : ∀ n ∈ u, 0 ≤ n ∧ n ≤ 255) : PureOK Tryz.prog n_l_Row [On g b, Us f u] (Ls (rowG n u).isEmpty (rowG n u)) := by
  have h6 := hb.hi
  have hn := hb.P
  refine pure_of (walk func_l_Row form_l_Row res_l_Row (by show 2 ≤ _; decide) ?_)
  simp -implicitDefEqProofs (disch := omega) [G_l_Row, wrap_id]
  refine loop_eq (fun q : Nat × AV × List HObj => ⟨[(1, Us f u), (2, .ref 0 0), (5, q.2.1), (6, I (q.1 : Int))], q.2.2⟩) (fun q => q.1 ≤ n ∧ AccR q.2.2 q.2.1 (rowG q.1 u) ∧ nthH q.2.2 0 = some (.cells [I b.P, LLs g b.s]) ∧ rid q.2.1 ≠ some 0) (fun q => n - q.1) (0, .sl true 0 [], [.cells [I b.P, LLs g b.s]]) ⟨Nat.zero_le _, .inl ⟨rfl, rfl⟩, rfl, by simp [rid]⟩ rfl ?_
  rintro ⟨i, x, H⟩ ⟨c1, c2, c3, c4⟩
  simp only at c1 c2 c3 c4 ⊢
  have l0 := nthH_lt c3
  refine hideK' fun K0 hK0 => ?_
  simp -implicitDefEqProofs (disch := omega) [wrap_id, c3, ldr_some, hn]
  refine c_split (fun h => ?_) (fun h => ?_)
  · have hir : i < n := by simp at h; omega
    have ix : ((i : Int) + 1) = ((i + 1 : Nat) : Int) := by omega
    have tk := rowG_snoc (n := i) (u := u)
    have tl := rowG_len (n := i) (u := u)
    have fin : ∀ (v : Int) (fr : List (Nat × AV)), v = (if u = [] then 0 else (u.getD (i % u.length) 0).tmod 6) →
        ∀ KK, (∀ ws, (∀ j, j < H.length → rid x ≠ some j → nthH (writeL H ws) j = nthH H j) → nthH (writeL H ws) H.length = some (.cells ((rowG i u ++ [v]).map fun n => I n)) → KK (.ms H.length 0 (i + 1) 1) ws) → AppW H 1 8 x (.sl true 1 [I v]) KK := fun v fr _ KK hKK => by
      refine app_row c2.row (by omega) fun ws w1 w2 w3 => ?_
      rw [tl]
      exact hKK ws w1 w3
    by_cases hu0 : u = []
    · subst hu0
      simp -implicitDefEqProofs (disch := omega) [wrap_id]
      refine bsl_of (ys := [I 0]) rfl rfl ?_
      simp -implicitDefEqProofs (disch := omega) [wrap_id, zrep]
      refine fin 0 [] (by simp) _ fun ws w1 w3 => ?_
      simp -implicitDefEqProofs (disch := omega) [wrap_id]
      rw [hK0]
      rw [if_pos rfl] at tk
      refine next_eq (i + 1, .ms H.length 0 (i + 1) 1, writeL H ws) ⟨by simp only; omega, .inr ⟨H.length, ?_, ?_, ?_⟩, ?_, ?_⟩ (by simp only; omega) (by simp only [ix])
      · rw [rowG_len]
      · simp only [tk]; simp
      · simp only [tk]; exact w3
      · rw [w1 0 l0 c4]; exact c3
      · simp only [rid]; intro e; injection e; omega
    · have hp : 0 < u.length := List.length_pos_iff.2 hu0
      have hp' : ((0 : Int) < u.length) = True := by simp only [eq_iff_iff, iff_true]; omega
      have em : (i : Int).tmod u.length = ((i % u.length : Nat) : Int) := by rw [Int.tmod_eq_emod_of_nonneg (by omega)]; simp
      have lt := Nat.mod_lt i hp
      obtain ⟨b1, b2⟩ := getD_u hu (i % u.length)
      obtain ⟨v1, v2⟩ := tmod6 b1
      rw [if_neg hu0] at tk
      obtain ⟨w, hw⟩ : ∃ w, u.getD (i % u.length) 0 = w := ⟨_, rfl⟩
      have cu : ∀ K, CellsW (u.map fun n => U n) (i % u.length) 1 false K = K (U w) [] := fun K => by rw [cells_us lt, hw]
      rw [hw] at b1 b2 v1 v2 tk
      obtain ⟨m, hm⟩ : ∃ m : Nat, i % u.length = m := ⟨_, rfl⟩
      rw [hm] at em lt
      simp only [hm] at cu
      simp -implicitDefEqProofs (disch := omega) [wrap_id, hp, hp', em, lt, cu]
      refine bsl_of (ys := [I (w.tmod 6)]) rfl rfl ?_
      simp -implicitDefEqProofs (disch := omega) [wrap_id, zrep]
      refine fin (w.tmod 6) [] (by rw [if_neg hu0, hm]; rw [hm] at hw; rw [hw]) _ fun ws w1 w3 => ?_
      simp -implicitDefEqProofs (disch := omega) [wrap_id]
      rw [hK0]
      refine next_eq (i + 1, .ms H.length 0 (i + 1) 1, writeL H ws) ⟨by simp only; omega, .inr ⟨H.length, ?_, ?_, ?_⟩, ?_, ?_⟩ (by simp only; omega) (by simp only [ix])
      · rw [rowG_len]
      · simp only [tk]; simp
      · simp only [tk]; exact w3
      · rw [w1 0 l0 c4]; exact c3
      · simp only [rid]; intro e; injection e; omega
  · have hir : i = n := by simp at h; omega
    subst hir
    subst hK0
    simp -implicitDefEqProofs (disch := omega) [wrap_id]
    exact out_acc c2
def strG (k : Nat) (u : List Int) : List Int := if k = 0 then [] else u.map fun x => x.tmod k
theorem strG_len {k : Nat} {u : List Int} : (strG k u).length ≤ u.length := by unfold strG; split <;> simp
theorem strG_LsO {b : OB} {u : List Int} (hu : ∀ n ∈ u, 0 ≤ n ∧ n ≤ 255) : LsO b (strG b.s.length u) := fun s hs => by
  unfold strG at hs
  split at hs
  · cases hs
  · obtain ⟨x, hx, rfl⟩ := List.mem_map.1 hs
    rw [Int.tmod_eq_emod_of_nonneg (hu x hx).1]
    rename_i h0
    have h1 : (0 : Int) < b.s.length := by omega
    exact ⟨Int.emod_nonneg _ (by omega), Int.emod_lt_of_pos _ h1⟩
set_option maxHeartbeats 1000000 in
theorem l_Strokes_ok (g f : Bool) {b : OB} {n : Nat} (hb : Okb b n) (u : List Int) (hl : u.length ≤ 1000000) (hu : ∀ n ∈ u, 0 ≤ n ∧ n ≤ 255) : PureOK Tryz.prog n_l_Strokes [On g b, Us f u] (Ls (strG b.s.length u).isEmpty (strG b.s.length u)) := by
  have hm := hb.many
  refine pure_of (walk func_l_Strokes form_l_Strokes res_l_Strokes (by show 2 ≤ _; decide) ?_)
  simp -implicitDefEqProofs (disch := omega) [G_l_Strokes, wrap_id]
  refine loop_eq (fun q : Nat × AV × List HObj => ⟨[(1, Us f u), (2, .ref 0 0), (5, q.2.1), (6, I (q.1 : Int))], q.2.2⟩) (fun q => q.1 ≤ (strG b.s.length u).length ∧ AccR q.2.2 q.2.1 ((strG b.s.length u).take q.1) ∧ nthH q.2.2 0 = some (.cells [I b.P, LLs g b.s]) ∧ rid q.2.1 ≠ some 0) (fun q => (strG b.s.length u).length - q.1) (0, .sl true 0 [], [.cells [I b.P, LLs g b.s]]) ⟨Nat.zero_le _, .inl ⟨rfl, rfl⟩, rfl, by simp [rid]⟩ rfl ?_
  rintro ⟨i, x, H⟩ ⟨c1, c2, c3, c4⟩
  simp only at c1 c2 c3 c4 ⊢
  have l0 := nthH_lt c3
  refine hideK' fun K0 hK0 => ?_
  by_cases hk : b.s.length = 0
  · have e0 : strG b.s.length u = [] := by unfold strG; rw [if_pos hk]
    rw [e0] at c1 c2
    have hi : i = 0 := by simpa using c1
    subst hi
    subst hK0
    have hk' : ¬ ((0 : Int) < b.s.length) := by omega
    have hk2 : ¬ (0 < b.s.length) := by omega
    by_cases hu0 : u = []
    · subst hu0
      simp -implicitDefEqProofs (disch := omega) [wrap_id, c3, ldr_some, hk', hk2]
      rw [e0]
      exact out_acc c2
    · have hp : 0 < u.length := List.length_pos_iff.2 hu0
      simp -implicitDefEqProofs (disch := omega) [wrap_id, c3, ldr_some, hk', hk2, hp]
      rw [e0]
      exact out_acc c2
  · have e0 : strG b.s.length u = u.map fun x => x.tmod b.s.length := by unfold strG; rw [if_neg hk]
    have el : (strG b.s.length u).length = u.length := by rw [e0, List.length_map]
    have hk2 : 0 < b.s.length := by omega
    by_cases hi : i < u.length
    · have ix : ((i : Int) + 1) = ((i + 1 : Nat) : Int) := by omega
      obtain ⟨b1, b2⟩ := hu u[i] (List.getElem_mem hi)
      obtain ⟨w, hw⟩ : ∃ w, u[i] = w := ⟨_, rfl⟩
      have cu : ∀ K, CellsW (u.map fun n => U n) i 1 false K = K (U w) [] := fun K => by
        rw [cells_us hi, List.getD_eq_getElem?_getD, List.getElem?_eq_getElem hi, ← hw]; rfl
      have tk : (strG b.s.length u).take (i + 1) = (strG b.s.length u).take i ++ [w.tmod b.s.length] := by
        rw [List.take_succ_eq_append_getElem (by omega)]
        simp [e0, hw]
      have tl : ((strG b.s.length u).take i).length = i := by rw [List.length_take]; omega
      rw [hw] at b1 b2
      simp -implicitDefEqProofs (disch := omega) [wrap_id, c3, ldr_some, hk2, hi, cu, cmp2, nthT]
      refine bsl_of (ys := [I (w.tmod b.s.length)]) rfl rfl ?_
      simp -implicitDefEqProofs (disch := omega) [wrap_id, zrep, cmp2, nthT]
      refine app_row c2.row (by omega) fun ws w1 w2 w3 => ?_
      simp -implicitDefEqProofs (disch := omega) [wrap_id, cmp2, nthT, tl]
      rw [hK0]
      refine next_eq (i + 1, .ms H.length 0 (i + 1) 1, writeL H ws) ⟨by simp only; omega, .inr ⟨H.length, ?_, ?_, ?_⟩, ?_, ?_⟩ (by simp only; omega) (by simp only [ix])
      · rw [List.length_take, Nat.min_eq_left (by omega)]
      · simp only [tk]; simp
      · simp only [tk]; exact w3
      · rw [w1 0 l0 c4]; exact c3
      · simp only [rid]; intro e; injection e; omega
    · have tk : (strG b.s.length u).take i = strG b.s.length u := List.take_of_length_le (by omega)
      rw [tk] at c2
      subst hK0
      simp -implicitDefEqProofs (disch := omega) [wrap_id, c3, ldr_some, hi]
      exact out_acc c2
def trnG (r : List Int) (t : Int) : List Int := (List.range r.length).map fun i => r.getD ((i + t.toNat) % r.length) 0
theorem trnG_len {r : List Int} {t : Int} : (trnG r t).length = r.length := by simp [trnG]
set_option maxHeartbeats 1000000 in
theorem l_turned_w (f : Bool) (r : List Int) (t : Int) (hr : r.length ≤ 1000) (h0 : 0 ≤ t) (h1 : t ≤ 255) {hp : List HObj} {K : AV → List HObj → Prop}
    (hK : ∀ H y, AccR H y (trnG r t) → (∀ i, rid y = some i → hp.length ≤ i) → (∀ j, j < hp.length → nthH H j = nthH hp j) → K y H) : CallW Tryz.prog n_l_turned [Ls f r, U t] hp K := by
  refine walk func_l_turned form_l_turned res_l_turned (by show 2 ≤ _; decide) ?_
  simp -implicitDefEqProofs (disch := omega) [G_l_turned, wrap_id]
  have al : (trnG r t).length = r.length := trnG_len
  refine loop_eq (fun q : Nat × AV × List HObj => ⟨[(0, Ls f r), (1, U t), (5, q.2.1), (6, I (q.1 : Int))], q.2.2⟩) (fun q => q.1 ≤ r.length ∧ AccR q.2.2 q.2.1 ((trnG r t).take q.1) ∧ (∀ i, rid q.2.1 = some i → hp.length ≤ i) ∧ hp.length ≤ q.2.2.length ∧ ∀ j, j < hp.length → nthH q.2.2 j = nthH hp j) (fun q => r.length - q.1) (0, .sl true 0 [], hp) ⟨Nat.zero_le _, .inl ⟨rfl, by simp⟩, fun i h => (by cases h), Nat.le_refl _, fun _ _ => rfl⟩ rfl ?_
  rintro ⟨i, x, H⟩ ⟨c1, c2, c3, c4, c5⟩
  simp only at c1 c2 c3 c4 c5 ⊢
  refine hideK' fun K0 hK0 => ?_
  simp -implicitDefEqProofs (disch := omega) [wrap_id]
  refine c_split (fun h => ?_) (fun h => ?_)
  · have hir : i < r.length := by simp at h; omega
    have ix : ((i : Int) + 1) = ((i + 1 : Nat) : Int) := by omega
    obtain ⟨n, hn⟩ : ∃ n : Nat, (i + t.toNat) % r.length = n := ⟨_, rfl⟩
    have hnr : n < r.length := by rw [← hn]; exact Nat.mod_lt _ (by omega)
    have em : ((i : Int) + t).tmod r.length = (n : Int) := by
      rw [Int.tmod_eq_emod_of_nonneg (by omega), ← hn]
      have : (i : Int) + t = ((i + t.toNat : Nat) : Int) := by omega
      rw [this]; simp
    have tk : (trnG r t).take (i + 1) = (trnG r t).take i ++ [r[n]] := by
      rw [List.take_succ_eq_append_getElem (by omega)]
      simp [trnG, hn, hnr]
    have tl : ((trnG r t).take i).length = i := by rw [List.length_take]; omega
    simp -implicitDefEqProofs (disch := omega) [wrap_id, em, cells_ls, hir, hnr]
    refine bsl_of (ys := [I r[n]]) rfl rfl ?_
    simp -implicitDefEqProofs (disch := omega) [wrap_id, zrep]
    refine app_row c2.row (by omega) fun ws w1 w2 w3 => ?_
    simp -implicitDefEqProofs (disch := omega) [wrap_id]
    rw [hK0]
    refine next_eq (i + 1, .ms H.length 0 (i + 1) 1, writeL H ws) ⟨by simp only; omega, .inr ⟨H.length, ?_, ?_, ?_⟩, ?_, by simp only; omega, fun j hj => ?_⟩ (by simp only; omega) (by simp only [ix, tl])
    · rw [List.length_take, Nat.min_eq_left (by omega)]
    · simp only [tk]; simp
    · simp only [tk]; exact w3
    · simp only [rid]; intro j hj; injection hj with hj; omega
    · exact (w1 j (by omega) (fun e => by have := c3 j e; omega)).trans (c5 j hj)
  · have hir : i = r.length := by simp at h; omega
    subst hir
    subst hK0
    have tk : (trnG r t).take r.length = trnG r t := List.take_of_length_le (by omega)
    rw [tk] at c2
    simp -implicitDefEqProofs (disch := omega) [wrap_id]
    exact hK H x c2 c3 c5
abbrev UUs (f : Bool) (ls : List (Bool × List Int)) : AV := .sl f ls.length (ls.map fun p => Us p.1 p.2)
theorem cells_uus {ls : List (Bool × List Int)} {j : Nat} {K : AV → List (Nat × HObj) → Prop} (h : j < ls.length) : CellsW (ls.map fun p => Us p.1 p.2) j 1 false K = K (Us ls[j].1 ls[j].2) [] := by
  simp [CellsW, h]
theorem l_short_ok (f : Bool) (ls : List (Bool × List Int)) (hl : ls.length ≤ 1000000) (hz : ∀ p ∈ ls, p.2.length ≤ 9223372036854775807) : PureOK Tryz.prog n_l_short [UUs f ls] (B (ls.all fun p => decide (p.2.length ≤ 40))) := by
  refine pure_of (walk func_l_short form_l_short res_l_short (by show 1 ≤ _; decide) ?_)
  generalize hE : (ls.all fun p => decide (p.2.length ≤ 40)) = E
  simp -implicitDefEqProofs (disch := omega) [G_l_short, wrap_id]
  refine loop_eq (fun i : Nat => ⟨[(0, UUs f ls), (3, I (i : Int))], []⟩) (fun i => i ≤ ls.length ∧ ∀ k (hk : k < ls.length), k < i → ls[k].2.length ≤ 40) (fun i => ls.length - i) 0 ⟨Nat.zero_le _, fun k hk h => by omega⟩ rfl ?_
  rintro i ⟨c1, c2⟩
  refine hideK' fun K0 hK0 => ?_
  simp -implicitDefEqProofs (disch := omega) [wrap_id]
  refine c_split (fun h => ?_) (fun h => ?_)
  · have hi : i < ls.length := by simp at h; omega
    have ix : ((i : Int) + 1) = ((i + 1 : Nat) : Int) := by omega
    have z1 := hz _ (List.getElem_mem hi)
    by_cases e : ls[i].2.length ≤ 40
    · have e' : ¬ (40 : Int) < ls[i].2.length := by omega
      simp -implicitDefEqProofs (disch := omega) [wrap_id, cells_uus, hi, e']
      rw [hK0]
      refine next_eq (i + 1) ⟨by omega, fun k hk h2 => ?_⟩ (by omega) (by simp only [ix])
      by_cases ek : k = i
      · subst ek; exact e
      · exact c2 k hk (by omega)
    · have e' : (40 : Int) < ls[i].2.length := by omega
      have : (ls.all fun p => decide (p.2.length ≤ 40)) = false := by
        rw [List.all_eq_false]
        exact ⟨_, List.getElem_mem hi, by simpa using e⟩
      rw [this] at hE
      subst hE
      subst hK0
      simp -implicitDefEqProofs (disch := omega) [wrap_id, cells_uus, hi, e']
  · have hi : i = ls.length := by simp at h; omega
    have : (ls.all fun p => decide (p.2.length ≤ 40)) = true := by
      rw [List.all_eq_true]
      intro p hp
      obtain ⟨k, hk, rfl⟩ := List.getElem_of_mem hp
      simpa using c2 k hk (by omega)
    rw [this] at hE
    subst hE
    subst hK0
    simp -implicitDefEqProofs (disch := omega) [wrap_id]
end Go.AM

set_option linter.unusedSimpArgs false
set_option linter.unusedVariables false
namespace Go.AM
open Go.RowKit Go.Proofs
theorem allI_aft {b : OB} {n : Nat} (hb : Okb b n) : ∀ {l r : List Int}, LsO b l → r.length = n → allI b l r = aft (allI b l (plcL n)) r
  | [], r, _, hr => (aft_plc hr).symm
  | s :: l, r, hl, hr => by
    have hl' : LsO b l := fun t ht => hl t (by simp [ht])
    have h1 := hl s (by simp)
    have ps : Pm n (b.S.getD s.toNat []) := hb.pmS.at (by rw [S_len]; omega)
    show allI b l (aft (b.S.getD s.toNat []) r) = aft (allI b l (aft (b.S.getD s.toNat []) (plcL n))) r
    rw [allI_aft hb hl' (by rw [aft_len]; exact ps.len), allI_aft (r := aft (b.S.getD s.toNat []) (plcL n)) hb hl' (by rw [aft_len]; exact ps.len), aft_plc' ps.rng]
    exact aft_aft ps.len (allI_pm hb hl' .plc).rng
theorem allI_wI {b : OB} {w : List Nat} {r : List Int} : allI b (wI w) r = allS b.S w r := by unfold allI; rw [wI_nat]
theorem wd_allI {b : OB} {l r : List Int} (hl : LsO b l) : Wd b.S r (allI b l r) (l.map Int.toNat) :=
  ⟨fun s hs => by
    obtain ⟨x, hx, rfl⟩ := List.mem_map.1 hs
    have := hl x hx
    rw [S_len]; omega, rfl⟩
theorem wI_LsO {b : OB} {w : List Nat} (h : ∀ s ∈ w, s < b.S.length) : LsO b (wI w) := fun s hs => by
  obtain ⟨t, ht, rfl⟩ := List.mem_map.1 hs
  have := h t ht
  rw [S_len] at this
  omega
theorem perm_le : (permK 2 2 []).length ≤ 720 ∧ (permK 3 3 []).length ≤ 720 ∧ (permK 4 4 []).length ≤ 720 ∧ (permK 5 5 []).length ≤ 720 ∧ (permK 6 6 []).length ≤ 720 := by decide +kernel
theorem perm_len {n : Nat} (h2 : 2 ≤ n) (h6 : n ≤ 6) : (permK n n []).length ≤ 720 := by
  obtain ⟨p2, p3, p4, p5, p6⟩ := perm_le
  match n, h2, h6 with
  | 2, _, _ => exact p2
  | 3, _, _ => exact p3
  | 4, _, _ => exact p4
  | 5, _, _ => exact p5
  | 6, _, _ => exact p6
theorem reach_perm {b : OB} {n : Nat} (hb : Okb b n) {r : List Int} (hr : r.length = n) {w : List Nat} (hw : ∀ s ∈ w, s < b.S.length) : allS b.S w r ∈ (permK n n []).map fun p => aft p r := by
  have hl := wI_LsO hw
  rw [← allI_wI, allI_aft hb hl hr]
  exact List.mem_map_of_mem (pm_mem (allI_pm hb hl .plc))
theorem few {b : OB} {n : Nat} (hb : Okb b n) {r : List Int} (hr : r.length = n) {L : List (List Int)} (nd : L.Nodup) (h : ∀ y ∈ L, ¬ NoW b.S r y) : L.length ≤ 720 := by
  have sub : L ⊆ (permK n n []).map fun p => aft p r := fun y hy => by
    obtain ⟨w, hw, e⟩ := not_noW.1 (h y hy)
    rw [← e]; exact reach_perm hb hr hw
  have := nd.length_le_of_subset sub
  rw [List.length_map] at this
  exact Nat.le_trans this (perm_len hb.lo hb.hi)
theorem dist_720 {b : OB} {n : Nat} (hb : Okb b n) {r x : List Int} (hr : r.length = n) {m : Nat} (hd : Dist b.S r x m) : m < 720 := by
  obtain ⟨⟨l, h1, h2⟩, h3⟩ := hd
  have nd : ((List.range (m + 1)).map fun i => allS b.S (l.take i) r).Nodup := by
    rw [List.Nodup, List.pairwise_map]
    refine List.Pairwise.imp_of_mem (fun {a c} ha hc hab e => ?_) (List.pairwise_lt_range)
    have ha := List.mem_range.1 ha
    have hc := List.mem_range.1 hc
    have w1 : Wd b.S r (allS b.S (l.take a) r) (l.take a) := (Wd.split (m := l.drop a) (by rw [List.take_append_drop]; exact h1)).1
    have w2 : Wd b.S (allS b.S (l.take c) r) x (l.drop c) := (Wd.split (m := l.drop c) (by rw [List.take_append_drop]; exact h1)).2
    have := h3 _ ((e ▸ w1).append w2)
    rw [List.length_append, List.length_take, List.length_drop] at this
    omega
  have := few hb hr nd fun y hy => by
    obtain ⟨i, hi, rfl⟩ := List.mem_map.1 hy
    exact not_noW.2 ⟨l.take i, fun s hs => h1.1 s (List.mem_of_mem_take hs), rfl⟩
  rw [List.length_map, List.length_range] at this
  omega
theorem lstO_of {b : OB} {l : List Int} (h1 : LsO b l) (h2 : l.length ≤ 720) : lstO b l = 0 := by
  unfold lstO
  rw [if_neg (by omega), if_pos]
  rw [List.all_eq_true]
  intro s hs
  have := h1 s hs
  simpa using this
theorem chk_of {b : OB} {n : Nat} (hb : Okb b n) : chkO b = 0 := by
  have hP := hb.P
  have h2 := hb.lo
  have h6 := hb.hi
  have hm := hb.many
  unfold chkO
  rw [if_neg (by omega), if_neg (by omega), if_pos]
  rw [List.all_eq_true]
  intro p hp
  have pm := hb.pm p hp
  unfold strO
  rw [Bool.and_eq_true, decide_eq_true_iff, List.all_eq_true]
  refine ⟨by rw [pm.len, hP], fun k hk => ?_⟩
  have hk := List.mem_range.1 hk
  rw [beq_iff_eq]
  have m1 := pm.mem (k := k) (by rw [← pm.len]; exact hk)
  have c1 := List.count_pos_iff.2 m1
  have c2 := List.nodup_iff_count.1 pm.nd (k : Int)
  omega
theorem drw_of {b : OB} {n : Nat} (hb : Okb b n) {r l : List Int} (h1 : rowO b r = true) (h2 : LsO b l) (h3 : l.length ≤ 720) : drwE b r l = 0 ∧ drwL b r l = allI b l r := by
  have e : drwE b r l = 0 := by unfold drwE; rw [if_neg (by rw [chk_of hb]; decide), if_neg (by rw [h1]; decide)]; exact lstO_of h2 h3
  exact ⟨e, by unfold drwL; rw [if_pos e]⟩
theorem rowO_aft {b : OB} {n : Nat} (hb : Okb b n) {s r : List Int} (hs : Pm n s) (h : rowO b r = true) : rowO b (aft s r) = true := by
  have hr := rowO_len hb h
  refine rowO_of hb (by rw [aft_len]; exact hs.len) fun x hx => ?_
  have := aft_col hs.rng hr (C := plcL 6) (fun y hy => plc_mem.2 (by have := rowO_col h y hy; omega)) x hx
  have := plc_mem.1 this
  omega
theorem rowO_allI {b : OB} {n : Nat} (hb : Okb b n) {l r : List Int} (hl : LsO b l) (h : rowO b r = true) : rowO b (allI b l r) = true := by
  rw [allI_aft hb hl (rowO_len hb h)]
  exact rowO_aft hb (allI_pm hb hl .plc) h
theorem rws_of {b : OB} {n : Nat} (hb : Okb b n) {r x : List Int} (h1 : rowO b r = true) (h2 : rowO b x = true) : rwsE b r x = 0 := by
  unfold rwsE
  rw [if_neg (by rw [chk_of hb]; decide), if_neg (by rw [h1, h2]; decide)]
theorem best_of {b : OB} {n : Nat} (hb : Okb b n) {r x : List Int} (h1 : rowO b r = true) (h2 : rowO b x = true) {v : List Nat} (h : Wd b.S r x v) :
    ∃ d w, Dist b.S r x d ∧ IsBest b.S d r x w ∧ AnsB b r x (wI w) 0 ∧ LsO b (wI w) ∧ (wI w).length ≤ 720 ∧ allI b (wI w) r = x ∧ (wI w).length = d ∧ d ≤ v.length := by
  obtain ⟨d, hd, hdv⟩ := Dist.of h
  obtain ⟨w, hw⟩ := best_ex hd
  have := dist_720 hb (rowO_len hb h1) hd
  obtain ⟨a1, a2, a3⟩ := hw
  exact ⟨d, w, hd, ⟨a1, a2, a3⟩, .inr ⟨rws_of hb h1 h2, .inr ⟨d, w, hd, ⟨a1, a2, a3⟩, rfl, rfl⟩⟩, wI_LsO a1.1, by rw [wI_len]; omega, by rw [allI_wI]; exact a1.2, by rw [wI_len]; exact a2, hdv⟩
end Go.AM

set_option linter.unusedSimpArgs false
set_option linter.unusedVariables false
namespace Go.AM
open Go.RowKit Go.Proofs
def swpL (M : List Int) (k : Nat) : List Int := (M.set 0 (M.getD k 0)).set k (M.getD 0 0)
theorem swpL_len {M : List Int} {k : Nat} : (swpL M k).length = M.length := by simp [swpL]
theorem swpL_get {M : List Int} {k i : Nat} (hk : k < M.length) (hi : i < M.length) : (swpL M k).getD i 0 = if i = k then M.getD 0 0 else if i = 0 then M.getD k 0 else M.getD i 0 := by
  unfold swpL
  rw [getD_set (by simp; omega), getD_set (by omega)]
theorem nodup_inj {L : List Int} (h : ∀ i j, i < L.length → j < L.length → L.getD i 0 = L.getD j 0 → i = j) : L.Nodup := by
  rw [List.Nodup, List.pairwise_iff_getElem]
  intro i j hi hj hij e
  have := h i j hi hj (by rw [getD_I hi, getD_I hj]; exact e)
  omega
theorem inj_nodup {L : List Int} (h : L.Nodup) {i j : Nat} (hi : i < L.length) (hj : j < L.length) (e : L.getD i 0 = L.getD j 0) : i = j := by
  rw [getD_I hi, getD_I hj] at e
  rw [List.Nodup, List.pairwise_iff_getElem] at h
  rcases Nat.lt_trichotomy i j with hlt | he | hgt
  · exact absurd e (h i j hi hj hlt)
  · exact he
  · exact absurd e.symm (h j i hj hi hgt)
theorem swpL_pm {n : Nat} {M : List Int} (h : Pm n M) {k : Nat} (hk : k < n) : Pm n (swpL M k) := by
  have hl := h.len
  have g := fun i (hi : i < n) => swpL_get (M := M) (k := k) (i := i) (by omega) (by omega)
  refine ⟨by rw [swpL_len]; exact hl, fun x hx => ?_, nodup_inj fun i j hi hj e => ?_⟩
  · obtain ⟨i, hi, rfl⟩ := mem_getD (d := (0 : Int)) hx
    rw [swpL_len] at hi
    rw [g i (by omega)]
    have m : ∀ j, j < n → 0 ≤ M.getD j 0 ∧ M.getD j 0 < n := fun j hj => h.rng _ (getD_mem (by omega))
    split
    · exact m 0 (by omega)
    · split
      · exact m k hk
      · exact m i (by omega)
  · rw [swpL_len] at hi hj
    rw [g i (by omega), g j (by omega)] at e
    have inj := fun a c (ha : a < n) (hc : c < n) (e : M.getD a 0 = M.getD c 0) => inj_nodup h.nd (i := a) (j := c) (by omega) (by omega) e
    by_cases i1 : i = k
    · rw [if_pos i1] at e
      by_cases j1 : j = k
      · omega
      · rw [if_neg j1] at e
        by_cases j2 : j = 0
        · rw [if_pos j2] at e
          have := inj _ _ (by omega) hk e
          omega
        · rw [if_neg j2] at e
          have := inj _ _ (by omega) (by omega) e
          omega
    · rw [if_neg i1] at e
      by_cases i2 : i = 0
      · rw [if_pos i2] at e
        by_cases j1 : j = k
        · rw [if_pos j1] at e
          have := inj _ _ hk (by omega) e
          omega
        · rw [if_neg j1] at e
          by_cases j2 : j = 0
          · omega
          · rw [if_neg j2] at e
            have := inj _ _ hk (by omega) e
            omega
      · rw [if_neg i2] at e
        by_cases j1 : j = k
        · rw [if_pos j1] at e
          have := inj _ _ (by omega) (by omega) e
          omega
        · rw [if_neg j1] at e
          by_cases j2 : j = 0
          · rw [if_pos j2] at e
            have := inj _ _ (by omega) hk e
            omega
          · rw [if_neg j2] at e
            exact inj _ _ (by omega) (by omega) e
theorem trn_pm {n : Nat} (h2 : 2 ≤ n) (h6 : n ≤ 6) (t : Int) : Pm n (trnG (plcL n) t) := by
  have hl : (trnG (plcL n) t).length = n := by rw [trnG_len, plcL_len]
  have g : ∀ i, i < n → (trnG (plcL n) t).getD i 0 = (((i + t.toNat) % n : Nat) : Int) := fun i hi => by
    have lt : (i + t.toNat) % n < n := Nat.mod_lt _ (by omega)
    rw [getD_I (by omega)]
    simp only [trnG, List.getElem_map, List.getElem_range, plcL_len]
    rw [getD_I (by rw [plcL_len]; exact lt), plcL_get]
  refine ⟨hl, fun x hx => ?_, nodup_inj fun i j hi hj e => ?_⟩
  · obtain ⟨i, hi, rfl⟩ := mem_getD (d := (0 : Int)) hx
    rw [g i (by omega)]
    have lt : (i + t.toNat) % n < n := Nat.mod_lt _ (by omega)
    omega
  · rw [hl] at hi hj
    rw [g i hi, g j hj] at e
    have e : (i + t.toNat) % n = (j + t.toNat) % n := by omega
    have : n = 2 ∨ n = 3 ∨ n = 4 ∨ n = 5 ∨ n = 6 := by omega
    rcases this with rfl | rfl | rfl | rfl | rfl <;> omega
def mreO (b : OB) (M : List Int) : OB := ⟨b.P, b.s ++ [(false, M)]⟩
theorem mre_ok {b : OB} {n : Nat} (hb : Okb b n) {M : List Int} (h : Pm n M) (hl : b.s.length < 6) : Okb (mreO b M) n :=
  ⟨hb.P, hb.lo, hb.hi, by simp [mreO]; omega, fun p hp => by
    rcases List.mem_append.1 hp with hp | hp
    · exact hb.pm p hp
    · rw [List.mem_singleton] at hp; subst hp; exact h⟩
theorem mre_wd {b : OB} {M x : List Int} : ∀ {w : List Nat} {r : List Int}, Wd b.S r x w → Wd (mreO b M).S r x w
  | [], r, h => ⟨fun s hs => (by cases hs), h.2⟩
  | s :: w, r, h => by
    rw [Wd.cons] at h ⊢
    have e : (mreO b M).S.getD s [] = b.S.getD s [] := by
      simp only [mreO, OB.S, List.map_append]
      rw [List.getD_eq_getElem?_getD, List.getD_eq_getElem?_getD, List.getElem?_append_left (by have := h.1; simpa [OB.S] using this)]
    refine ⟨?_, ?_⟩
    · have := h.1
      simp only [mreO, OB.S, List.map_append, List.length_append] at this ⊢
      omega
    · rw [e]; exact mre_wd (r := aft (b.S.getD s []) r) h.2
theorem okb_sz {b : OB} {n : Nat} (hb : Okb b n) : Sz12 b := ⟨by have := hb.many; omega, fun p hp => by have := (hb.pm p hp).len; have := hb.hi; omega⟩
theorem tail_set {v : Int} : ∀ {M : List Int}, 0 < M.length → I v :: (M.map fun n => I n).tail = (M.set 0 v).map fun n => I n
  | [], h => by simp at h
  | x :: M, _ => rfl
set_option maxHeartbeats 8000000 in
theorem lawOrderFar (b : OB) (u v w : List Int) (t q : Int) (hb : OBK b) (hu : UOK u) (hv : UOK v) (hw : UOK w) (ht : 0 ≤ t ∧ t ≤ 255) (hq : 0 ≤ q ∧ q ≤ 255) : PureOK Tryz.prog n_l_OrderFar [On false b, Us false u, Us false v, Us false w, U t, U q] (B true) := by
  refine pure_of (walk func_l_OrderFar form_l_OrderFar res_l_OrderFar (by show 6 ≤ _; decide) ?_)
  simp -implicitDefEqProofs (disch := omega) [G_l_OrderFar, wrap_id]
  refine callW_pure rfl (l_fine_ok false b hb) ?_
  cases hf : finO b with
  | false =>
    simp -implicitDefEqProofs (disch := omega) [wrap_id]
    exact callW_pure rfl works_ok (by simp)
  | true =>
  obtain ⟨n, ok, z1, z2⟩ := fin_ok hf
  simp -implicitDefEqProofs (disch := omega) [wrap_id]
  refine bsl_of (ys := [Us false u, Us false v, Us false w]) rfl rfl ?_
  simp -implicitDefEqProofs (disch := omega) [wrap_id, zrep]
  refine callW_pure (ys := [UUs true [(false, u), (false, v), (false, w)]]) (ids := []) rfl (l_short_ok true [(false, u), (false, v), (false, w)] (by simp) (by simp; exact ⟨hu.1, hv.1, hw.1⟩)) ?_
  cases hs : ([(false, u), (false, v), (false, w)].all fun p : Bool × List Int => decide (p.2.length ≤ 40)) with
  | false =>
    simp -implicitDefEqProofs (disch := omega) [wrap_id]
    exact callW_pure rfl works_ok (by simp)
  | true =>
  have hl : u.length ≤ 40 ∧ v.length ≤ 40 ∧ w.length ≤ 40 := by simpa using hs
  have h2 := ok.lo
  have h6 := ok.hi
  by_cases h5 : 6 ≤ b.s.length
  · have h5' : (6 : Int) ≤ b.s.length := by omega
    simp -implicitDefEqProofs (disch := omega) [wrap_id, h5, h5']
    exact callW_pure rfl works_ok (by simp)
  have h5' : ¬ (6 : Int) ≤ b.s.length := by omega
  simp -implicitDefEqProofs (disch := omega) [wrap_id, h5, h5']
  have lf : (rowG n u).length = n := rowG_len
  have of : rowO b (rowG n u) = true := rowO_of ok lf (rowG_col hu.2)
  have lL := strG_LsO (b := b) hv.2
  have ll : (strG b.s.length v).length ≤ 40 := Nat.le_trans strG_len hl.2.1
  have mL := strG_LsO (b := b) hw.2
  have ml : (strG b.s.length w).length ≤ 40 := Nat.le_trans strG_len hl.2.2
  have R1 := l_Row_ok false false ok u (by omega) hu.2
  have R2 := l_Strokes_ok false false ok v (by omega) hv.2
  have R3 := l_Strokes_ok false false ok w (by omega) hw.2
  generalize rowG n u = r at lf of R1
  generalize strG b.s.length v = l at lL ll R2
  generalize strG b.s.length w = m at mL ml R3
  refine callW_pure rfl R1 ?_
  simp -implicitDefEqProofs (disch := omega) [wrap_id]
  refine pureW_of rfl R2 ?_
  simp -implicitDefEqProofs (disch := omega) [wrap_id, cmp2, nthT]
  obtain ⟨d1, d2⟩ := drw_of ok of lL (by omega)
  have oX := rowO_allI ok lL of
  have lX := allI_len ok lL lf
  have w1 := wd_allI (r := r) lL
  refine pureW_of rfl (o_Draw_ok false _ _ b z1 r l (by omega) (by omega)) ?_
  rw [d1, d2]
  generalize allI b l r = X at *
  simp -implicitDefEqProofs (disch := omega) [wrap_id, cmp2, nthT]
  refine pureW_of rfl R3 ?_
  simp -implicitDefEqProofs (disch := omega) [wrap_id, cmp2, nthT]
  obtain ⟨e1, e2⟩ := drw_of ok oX mL (by omega)
  have oY := rowO_allI ok mL oX
  have lY := allI_len ok mL lX
  have w2 := wd_allI (r := X) mL
  refine pureW_of rfl (o_Draw_ok false _ _ b z1 X m (by omega) (by omega)) ?_
  rw [e1, e2]
  generalize allI b m X = Y at *
  simp -implicitDefEqProofs (disch := omega) [wrap_id, cmp2, nthT]
  obtain ⟨dx, x1, Dx, _, B1, _, _, _, L1, _⟩ := best_of ok of oX w1
  obtain ⟨dy, y1, Dy, _, B2, _, _, _, L2, _⟩ := best_of ok oX oY w2
  obtain ⟨dz, v1, Dz, _, B3, _, _, _, L3, _⟩ := best_of ok of oY (w1.append w2)
  have tri : dz ≤ dx + dy := by
    obtain ⟨⟨p1, a1, a2⟩, _⟩ := Dx
    obtain ⟨⟨p2, a3, a4⟩, _⟩ := Dy
    have := Dz.2 _ (a1.append a3)
    rw [List.length_append] at this
    omega
  refine callW_pure rfl (o_Best_ok false _ _ b z1 r Y (by omega) (by omega) B3) ?_
  simp -implicitDefEqProofs (disch := omega) [wrap_id]
  refine callW_pure rfl (o_Best_ok false _ _ b z1 r X (by omega) (by omega) B1) ?_
  simp -implicitDefEqProofs (disch := omega) [wrap_id]
  refine callW_pure rfl (o_Best_ok false _ _ b z1 X Y (by omega) (by omega) B2) ?_
  have c1 : ¬ (((wI x1).length : Int) + (wI y1).length) < (wI v1).length := by omega
  have c2 : ¬ (wI x1).length + (wI y1).length < (wI v1).length := by omega
  simp -implicitDefEqProofs (disch := omega) [wrap_id, c1, c2]
  refine callW_pure rfl (r_Places_ok false b n ok.P h6) ?_
  have pp : (plcL n).isEmpty = false := ne_emp plcL_len (by omega)
  rw [pp]
  simp -implicitDefEqProofs (disch := omega) [wrap_id]
  refine l_turned_w false (plcL n) t (by rw [plcL_len]; omega) ht.1 ht.2 fun H y ay yi keep => ?_
  have pM := trn_pm h2 h6 t
  generalize trnG (plcL n) t = M at *
  have lM := pM.len
  rcases ay with ⟨_, e⟩ | ⟨i, rfl, _, hM⟩
  · subst e; simp at lM; omega
  have c0 : nthH H 0 = some (.cells [I b.P, LLs false b.s]) := keep 0 (by simp)
  have yi := yi i rfl
  simp at yi
  obtain ⟨k, hk⟩ : ∃ k : Nat, q.tmod n = k := ⟨(q.tmod n).toNat, by rw [Int.tmod_eq_emod_of_nonneg hq.1]; have := Int.emod_nonneg q (show (n : Int) ≠ 0 by omega); omega⟩
  have kn : k < n := by
    rw [Int.tmod_eq_emod_of_nonneg hq.1] at hk
    have := Int.emod_lt_of_pos q (show (0 : Int) < n by omega)
    omega
  have hP := ok.P
  have li := nthH_lt hM
  have k0 : 0 < M.length := by omega
  have kM : k < M.length := by omega
  simp -implicitDefEqProofs (disch := omega) [wrap_id, c0, hP, hk]
  simp -implicitDefEqProofs (disch := omega) [wrap_id, cmp2, nthT, hM, lM, kn, kM, k0, cells_ls, li]
  have g0 := getD_I k0
  have gk := getD_I kM
  rw [tail_set k0]
  refine ⟨by omega, by omega, ?_⟩
  have s3 : nthH (H.set i (.cells ((M.set 0 M[k]).map fun n => I n))) i = some (.cells ((M.set 0 M[k]).map fun n => I n)) := nthH_set_same li
  have c3 : nthH (H.set i (.cells ((M.set 0 M[k]).map fun n => I n))) 0 = some (.cells [I b.P, LLs false b.s]) := (nthH_set_ne (by omega)).trans c0
  generalize H.set i (.cells ((M.set 0 M[k]).map fun n => I n)) = H1 at s3 c3 ⊢
  have l3 := nthH_lt s3
  have kM1 : k < (M.set 0 M[k]).length := by simpa using kM
  simp -implicitDefEqProofs (disch := omega) [wrap_id, cmp2, nthT, s3, kM, l3]
  rw [put_ls2 kM]
  refine ⟨by omega, ?_⟩
  have eM : (M.set 0 M[k]).set k M[0] = swpL M k := by unfold swpL; rw [g0, gk]
  rw [eM]
  have pS := swpL_pm pM kn
  have lS := pS.len
  generalize swpL M k = M2 at *
  have s4 : nthH (H1.set i (.cells (M2.map fun n => I n))) i = some (.cells (M2.map fun n => I n)) := nthH_set_same l3
  have c4 : nthH (H1.set i (.cells (M2.map fun n => I n))) 0 = some (.cells [I b.P, LLs false b.s]) := (nthH_set_ne (by omega)).trans c3
  generalize H1.set i (.cells (M2.map fun n => I n)) = H2 at s4 c4 ⊢
  have l4 := nthH_lt s4
  have lp := lls_pc b.s
  have lc : (b.s.map fun p => Ls p.1 p.2).length = b.s.length := List.length_map _
  simp -implicitDefEqProofs (disch := omega) [wrap_id, cmp2, nthT, c4]
  refine bsl_of (ys := []) rfl rfl ?_
  simp -implicitDefEqProofs (disch := omega) [wrap_id, zrep, cmp2, nthT, c4]
  refine ⟨⟨by omega, by omega⟩, ?_⟩
  obtain ⟨f1, f2, f3⟩ := app_new (H := H2) (o := .cells (b.s.map fun p => Ls p.1 p.2))
  have s5 := (f1 i l4).trans s4
  generalize hL : H2.length = Q at *
  generalize H2 ++ [HObj.cells (b.s.map fun p => Ls p.1 p.2)] = H3 at *
  refine bsl_of (ys := [Ls false M2]) (ids := [i]) (by simp only [purifyAll, ms_pur s5 lS.symm]; rfl) rfl ?_
  have l5 := nthH_lt s5
  have iQ : i ≠ Q := by omega
  have f4 : nthH (H3.set i .gone) Q = some (.cells (b.s.map fun p => Ls p.1 p.2)) := (nthH_set_ne iQ).trans f2
  have lQ : (H3.set i .gone).length = Q + 1 := by rw [List.length_set, f3]
  have tkL : List.take b.s.length (b.s.map fun p => Ls p.1 p.2) = b.s.map fun p => Ls p.1 p.2 := List.take_of_length_le (by simp)
  have liQ : i < Q + 1 := by omega
  simp -implicitDefEqProofs (disch := omega) [wrap_id, zrep, cmp2, nthT, l5, f3, liQ]
  generalize H3.set i HObj.gone = H4 at f4 lQ ⊢
  simp -implicitDefEqProofs (disch := omega) [wrap_id, cmp2, nthT, f4, lQ, tkL]
  refine ⟨⟨by omega, by omega⟩, ?_⟩
  have eL : (b.s.map fun p => Ls p.1 p.2) ++ [Ls false M2] = llsC (mreO b M2).s := by simp [mreO, llsC]
  rw [eL]
  have lQ2 : (H4.set Q HObj.gone).length = Q + 1 := by rw [List.length_set, lQ]
  have h5 : nthH (H4.set Q HObj.gone ++ [.cells (llsC (mreO b M2).s), .cells [I 0, .sl true 0 []]]) (Q + 1) = some (.cells (llsC (mreO b M2).s)) := by
    rw [nthH_eq, List.getElem?_append_right (by omega), lQ2]; simp
  have h7 : nthH (H4.set Q HObj.gone ++ [.cells (llsC (mreO b M2).s), .cells [I 0, .sl true 0 []]]) (Q + 1 + 1) = some (.cells [I 0, .sl true 0 []]) := by
    rw [nthH_eq, List.getElem?_append_right (by omega), lQ2]; simp
  generalize H4.set Q HObj.gone ++ [.cells (llsC (mreO b M2).s), .cells [I 0, .sl true 0 []]] = H5 at h5 h7 ⊢
  have l7 := nthH_lt h7
  simp -implicitDefEqProofs (disch := omega) [wrap_id, cmp2, nthT, h7, l7]
  have h8 : nthH (H5.set (Q + 1 + 1) (.cells [I b.P, .ms (Q + 1) 0 (b.s.length + 1) 1])) (Q + 1 + 1) = some (.cells [I b.P, .ms (Q + 1) 0 (b.s.length + 1) 1]) := nthH_set_same l7
  have h9 : nthH (H5.set (Q + 1 + 1) (.cells [I b.P, .ms (Q + 1) 0 (b.s.length + 1) 1])) (Q + 1) = some (.cells (llsC (mreO b M2).s)) := (nthH_set_ne (by omega)).trans h5
  refine ⟨by omega, ?_⟩
  generalize H5.set (Q + 1 + 1) (HObj.cells [I b.P, AV.ms (Q + 1) 0 (b.s.length + 1) 1]) = H6 at h8 h9 ⊢
  have pO : purify (hpf H6) (.agg [I b.P, .ms (Q + 1) 0 (b.s.length + 1) 1]) = some (On false (mreO b M2), [Q + 1]) := by
    have := lls_pur h9 (show b.s.length + 1 = (mreO b M2).s.length by simp [mreO])
    simp only [purify] at this
    simp only [purify, purifyL, this]; rfl
  have ok2 := mre_ok ok pS (by omega)
  obtain ⟨⟨p, p1, p2⟩, _⟩ := Dz
  obtain ⟨d', w', _, _, B4, _, _, _, L4, L5⟩ := best_of (b := mreO b M2) ok2 of oY (mre_wd p1)
  have z3 := okb_sz ok2
  simp -implicitDefEqProofs (disch := omega) [wrap_id, h8]
  refine callW_pure (ys := [On false (mreO b M2), Ls r.isEmpty r, Ls Y.isEmpty Y]) (ids := [Q + 1]) (by simp only [purifyAll, pO, ls_pur]; rfl) (o_Best_ok false _ _ (mreO b M2) z3 r Y (by omega) (by omega) B4) ?_
  have c1 : ((wI w').length : Int) ≤ (wI v1).length := by omega
  have c2 : (wI w').length ≤ (wI v1).length := by omega
  simp -implicitDefEqProofs (disch := omega) [wrap_id, c1, c2]
  exact callW_pure rfl works_ok (by simp)
end Go.AM
