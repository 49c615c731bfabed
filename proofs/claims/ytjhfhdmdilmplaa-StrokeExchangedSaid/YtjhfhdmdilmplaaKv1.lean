/-
  THE COMPILED FORMS of functions of the program, each held against its body by the kernel. Own work (printed by a program of this claim).
  LAWS: StrokeExchanged. Own work.
-/
import Derived.Test.YtjhfhdmdilmplaaKq14
import Derived.Test.YtjhfhdmdilmplaaProg

/- THE COMPILED FORMS of functions of the program, each held against its body by the kernel. Own work (printed by a program of this claim). -/
set_option maxRecDepth 100000
namespace Go.AM
open Go.RowKit Go.Proofs

/-- oxgall/oxgalllaw02.StrokeExchanged -/
def G9 : AC := (.seq (.rgn [⟨none, [(.box 5 2 (.t 0)), (.mv 10 (.k (B false)))]⟩] [1, 2, 3, 4, 5]) (.seq (.seq (.rgn [⟨none, [(.ld 24 true 2 (.t 5)), (.mv 25 (.t 1)), (.call 26 47 [(.t 24), (.t 25)]), (.un 27 .not (.t 26)), (.mv 28 (.t 27))]⟩, ⟨(some (28, false)), [(.ld 29 true 2 (.t 5)), (.mv 30 (.t 2)), (.call 31 47 [(.t 29), (.t 30)]), (.un 32 .not (.t 31))]⟩, ⟨none, [(.pick 33 (.t 28) (.k (B true)) (.t 32)), (.mv 34 (.t 33))]⟩, ⟨(some (34, false)), [(.mv 35 (.t 1)), (.len 36 (.t 35)), (.bin 37 .gtr (.t 36) (.k (I 50)))]⟩, ⟨none, [(.pick 38 (.t 34) (.k (B true)) (.t 37)), (.mv 39 (.t 38))]⟩, ⟨(some (39, false)), [(.mv 40 (.t 3)), (.len 41 (.t 40)), (.bin 42 .gtr (.t 41) (.k (I 60)))]⟩, ⟨none, [(.pick 43 (.t 39) (.k (B true)) (.t 42)), (.mv 44 (.t 43))]⟩, ⟨(some (44, false)), [(.mv 45 (.t 4)), (.len 46 (.t 45)), (.bin 47 .gtr (.t 46) (.k (I 200)))]⟩, ⟨none, [(.pick 48 (.t 44) (.k (B true)) (.t 47))]⟩] [1, 2, 3, 4, 5, 48]) (.cond (.t 48) (.seq (.rgn [⟨none, [(.call 49 19 []), (.mv 10 (.t 49))]⟩] [10]) .ret) .skip)) (.seq (.rgn [⟨none, [(.ld 51 true 2 (.t 5)), (.mv 52 (.t 1)), (.mv 53 (.t 3)), (.call 54 48 [(.t 51), (.t 52), (.t 53)]), (.mv 50 (.t 54)), (.ext 55 (.t 50) 0), (.ext 56 (.t 50) 1), (.mv 11 (.t 55)), (.mv 12 (.t 56))]⟩] [1, 2, 4, 5, 11, 12]) (.seq (.rgn [⟨none, [(.ld 58 true 2 (.t 5)), (.mv 59 (.t 1)), (.call 60 24 [(.t 58), (.t 59)]), (.mv 57 (.t 60)), (.ext 61 (.t 57) 0), (.ext 62 (.t 57) 1), (.mv 13 (.t 61)), (.mv 14 (.t 62))]⟩] [1, 2, 4, 5, 11, 12, 13, 14]) (.seq (.rgn [⟨none, [(.ld 64 true 2 (.t 5)), (.mv 65 (.t 11)), (.call 66 24 [(.t 64), (.t 65)]), (.mv 63 (.t 66)), (.ext 67 (.t 63) 0), (.ext 68 (.t 63) 1), (.mv 15 (.t 67)), (.mv 16 (.t 68))]⟩] [1, 2, 4, 5, 11, 12, 13, 14, 15, 16]) (.seq (.rgn [⟨none, [(.ld 70 true 2 (.t 5)), (.mv 71 (.t 2)), (.call 72 24 [(.t 70), (.t 71)]), (.mv 69 (.t 72)), (.ext 73 (.t 69) 0), (.ext 74 (.t 69) 1), (.mv 17 (.t 73)), (.mv 18 (.t 74))]⟩] [1, 2, 4, 5, 11, 12, 13, 14, 15, 16, 17, 18]) (.seq (.rgn [⟨none, [(.ld 76 true 2 (.t 5)), (.mv 77 (.t 1)), (.mv 78 (.t 11)), (.call 79 29 [(.t 76), (.t 77), (.t 78)]), (.mv 75 (.t 79)), (.ext 80 (.t 75) 0), (.ext 81 (.t 75) 1), (.mv 19 (.t 80)), (.mv 20 (.t 81))]⟩] [1, 2, 4, 5, 11, 12, 13, 14, 15, 16, 17, 18, 19, 20]) (.seq (.seq (.rgn [⟨none, [(.mv 82 (.t 14)), (.bin 83 .neq (.t 82) (.k (I 0))), (.mv 84 (.t 83))]⟩, ⟨(some (84, false)), [(.mv 85 (.t 16)), (.bin 86 .neq (.t 85) (.k (I 0)))]⟩, ⟨none, [(.pick 87 (.t 84) (.k (B true)) (.t 86)), (.mv 88 (.t 87))]⟩, ⟨(some (88, false)), [(.mv 89 (.t 18)), (.bin 90 .neq (.t 89) (.k (I 0)))]⟩, ⟨none, [(.pick 91 (.t 88) (.k (B true)) (.t 90)), (.mv 92 (.t 91))]⟩, ⟨(some (92, false)), [(.mv 93 (.t 20)), (.bin 94 .neq (.t 93) (.k (I 0)))]⟩, ⟨none, [(.pick 95 (.t 92) (.k (B true)) (.t 94)), (.mv 96 (.t 95))]⟩, ⟨(some (96, false)), [(.mv 97 (.t 13)), (.mv 98 (.t 15)), (.call 99 26 [(.t 97), (.t 98)]), (.un 100 .not (.t 99))]⟩, ⟨none, [(.pick 101 (.t 96) (.k (B true)) (.t 100)), (.mv 102 (.t 101))]⟩, ⟨(some (102, false)), [(.ld 103 true 2 (.t 5)), (.mv 104 (.t 1)), (.mv 105 (.t 11)), (.call 106 27 [(.t 103), (.t 104), (.t 105)]), (.bin 107 .neq (.t 106) (.k (I 0)))]⟩, ⟨none, [(.pick 108 (.t 102) (.k (B true)) (.t 107)), (.mv 109 (.t 108))]⟩, ⟨(some (109, false)), [(.ld 110 true 2 (.t 5)), (.mv 111 (.t 1)), (.mv 112 (.t 11)), (.mv 113 (.t 12)), (.call 114 30 [(.t 110), (.t 111), (.t 112), (.t 113)]), (.bin 115 .neq (.t 114) (.k (I 0)))]⟩, ⟨none, [(.pick 116 (.t 109) (.k (B true)) (.t 115)), (.mv 117 (.t 116))]⟩, ⟨(some (117, false)), [(.ld 118 true 2 (.t 5)), (.mv 119 (.t 1)), (.mv 120 (.t 11)), (.mv 121 (.t 19)), (.call 122 30 [(.t 118), (.t 119), (.t 120), (.t 121)]), (.bin 123 .neq (.t 122) (.k (I 0)))]⟩, ⟨none, [(.pick 124 (.t 117) (.k (B true)) (.t 123)), (.mv 125 (.t 124))]⟩, ⟨(some (125, false)), [(.ld 126 true 2 (.t 5)), (.mv 127 (.t 1)), (.mv 128 (.t 11)), (.mv 129 (.t 19)), (.call 130 31 [(.t 126), (.t 127), (.t 128), (.t 129)]), (.bin 131 .neq (.t 130) (.k (I 0)))]⟩, ⟨none, [(.pick 132 (.t 125) (.k (B true)) (.t 131))]⟩] [1, 2, 4, 5, 13, 17, 132]) (.cond (.t 132) (.seq (.rgn [⟨none, [(.mv 10 (.k (B false)))]⟩] [10]) .ret) .skip)) (.seq (.rgn [⟨none, [(.ld 133 true 2 (.t 5)), (.mv 134 (.t 1)), (.mv 135 (.t 2)), (.call 136 27 [(.t 133), (.t 134), (.t 135)]), (.mv 21 (.t 136))]⟩] [1, 2, 4, 5, 13, 17, 21]) (.seq (.rgn [⟨none, [(.ld 138 true 2 (.t 5)), (.mv 139 (.t 1)), (.mv 140 (.t 2)), (.call 141 29 [(.t 138), (.t 139), (.t 140)]), (.mv 137 (.t 141)), (.ext 142 (.t 137) 0), (.ext 143 (.t 137) 1), (.mv 22 (.t 142)), (.mv 23 (.t 143))]⟩] [1, 2, 4, 5, 13, 17, 21, 22, 23]) (.seq (.seq (.rgn [⟨none, [(.mv 144 (.t 21)), (.bin 145 .eql (.t 144) (.k (I 0))), (.mv 146 (.t 13)), (.mv 147 (.t 17)), (.call 148 26 [(.t 146), (.t 147)]), (.eqk 149 true (false, [.bool]) (.t 145) (.t 148)), (.mv 150 (.t 149))]⟩, ⟨(some (150, false)), [(.mv 151 (.t 21)), (.mv 152 (.t 23)), (.bin 153 .neq (.t 151) (.t 152))]⟩, ⟨none, [(.pick 154 (.t 150) (.k (B true)) (.t 153)), (.mv 155 (.t 154))]⟩, ⟨(some (155, false)), [(.mv 156 (.t 21)), (.bin 157 .neq (.t 156) (.k (I 0))), (.mv 158 (.t 157))]⟩, ⟨(some (158, true)), [(.mv 159 (.t 21)), (.bin 160 .neq (.t 159) (.k (I 18)))]⟩, ⟨(some (155, false)), [(.pick 161 (.t 158) (.t 160) (.k (B false)))]⟩, ⟨none, [(.pick 162 (.t 155) (.k (B true)) (.t 161))]⟩] [1, 2, 4, 5, 21, 22, 162]) (.cond (.t 162) (.seq (.rgn [⟨none, [(.mv 10 (.k (B false)))]⟩] [10]) .ret) .skip)) (.seq (.seq (.rgn [⟨none, [(.mv 163 (.t 21)), (.bin 164 .neq (.t 163) (.k (I 0)))]⟩] [1, 2, 4, 5, 22, 164]) (.cond (.t 164) (.seq (.rgn [⟨none, [(.mv 165 (.t 22)), (.len 166 (.t 165)), (.bin 167 .eql (.t 166) (.k (I 0))), (.mv 168 (.t 167))]⟩, ⟨(some (168, true)), [(.ld 169 true 2 (.t 5)), (.mv 170 (.t 1)), (.mv 171 (.t 2)), (.mv 172 (.t 4)), (.call 173 30 [(.t 169), (.t 170), (.t 171), (.t 172)]), (.bin 174 .neq (.t 173) (.k (I 0)))]⟩, ⟨none, [(.pick 175 (.t 168) (.t 174) (.k (B false))), (.mv 176 (.t 175))]⟩, ⟨(some (176, true)), [(.call 177 19 [])]⟩, ⟨none, [(.pick 178 (.t 176) (.t 177) (.k (B false))), (.mv 10 (.t 178))]⟩] [10]) .ret) .skip)) (.seq (.rgn [⟨none, [(.ld 179 true 2 (.t 5)), (.mv 180 (.t 1)), (.mv 181 (.t 2)), (.mv 182 (.t 22)), (.call 183 30 [(.t 179), (.t 180), (.t 181), (.t 182)]), (.bin 184 .eql (.t 183) (.k (I 0))), (.mv 185 (.t 184))]⟩, ⟨(some (185, true)), [(.ld 186 true 2 (.t 5)), (.mv 187 (.t 1)), (.mv 188 (.t 2)), (.mv 189 (.t 22)), (.call 190 31 [(.t 186), (.t 187), (.t 188), (.t 189)]), (.bin 191 .eql (.t 190) (.k (I 0)))]⟩, ⟨none, [(.pick 192 (.t 185) (.t 191) (.k (B false))), (.mv 193 (.t 192))]⟩, ⟨(some (193, true)), [(.call 194 19 [])]⟩, ⟨none, [(.pick 195 (.t 193) (.t 194) (.k (B false))), (.mv 10 (.t 195))]⟩] [10]) .ret)))))))))))))
theorem form9 : formOf Try.prog Try.f9 [10] = some G9 := by kernel_rfl
theorem res9 : resTmps Try.f9.results.toList = some [10] := by kernel_rfl

end Go.AM

/- LAWS: StrokeExchanged. Own work. -/
set_option linter.unusedSimpArgs false
set_option linter.unusedVariables false
namespace Go.AM
open Go.RowKit Go.Proofs

theorem eqk_boolS {K : AV → List (Nat × HObj) → Prop} {neg a c : Bool} : EqkW neg (false, [.bool]) (B a) (B c) K = K (B (neg != (a == c))) [] := by
  refine eqk_of (a := .bool a) (b := .bool c) rfl rfl ?_
  cases a <;> cases c <;> rfl
theorem shortR_is {b : Bch} {l : List Int} (h1 : chkL b l = 0) : shortR b l = form b l := by
  unfold shortR; rw [if_neg (by simp [h1])]

set_option maxHeartbeats 2000000 in
theorem law9 (b : Bch) (l m u : List Int) (ms : List Mv) (hb : BOK b) (hl : l.length ≤ 9223372036854775807 ∧ ∀ n ∈ l, In64 n) (hm : m.length ≤ 9223372036854775807 ∧ ∀ n ∈ m, In64 n) (hu : UOK u) (hms : MOK ms) : PureOK Try.prog 9 [Bn false b, Ls false l, Ls false m, Us false u, Ms false ms] (B true) := by
  refine pure_of (callW_aws Try.func9 form9 res9 (by show 5 ≤ _; decide) ?_)
  have ml := hms.1
  have ul := hu.1
  refine aws_step ?_
  simp -implicitDefEqProofs (disch := omega) [G9, wrap_id]
  refine aws_step ?_
  simp -implicitDefEqProofs (disch := omega) [wrap_id]
  refine callW_pure rfl (fine_ok false false b l hb.len hl.1) ?_
  cases h1 : fineB b l with
  | false =>
    simp -implicitDefEqProofs (disch := omega) [wrap_id]
    exact callW_pure rfl works_ok (by simp)
  | true =>
  simp -implicitDefEqProofs (disch := omega) [wrap_id]
  refine callW_pure rfl (fine_ok false false b m hb.len hm.1) ?_
  cases h2 : fineB b m with
  | false =>
    simp -implicitDefEqProofs (disch := omega) [wrap_id]
    exact callW_pure rfl works_ok (by simp)
  | true =>
  obtain ⟨b1, l1, c1⟩ := fine_iff.1 h1
  obtain ⟨_, m1, c2⟩ := fine_iff.1 h2
  have sl := (chkL_S8 c1).1
  have sm := (chkL_S8 c2).1
  by_cases q1 : 50 < l.length
  · have q1' : (50 : Int) < l.length := by omega
    simp -implicitDefEqProofs (disch := omega) [wrap_id, q1']
    exact callW_pure rfl works_ok (by simp)
  by_cases q2 : 60 < u.length
  · have q1' : ¬ (50 : Int) < l.length := by omega
    have q2' : (60 : Int) < u.length := by omega
    simp -implicitDefEqProofs (disch := omega) [wrap_id, q1', q2']
    exact callW_pure rfl works_ok (by simp)
  by_cases q3 : 200 < ms.length
  · have q1' : ¬ (50 : Int) < l.length := by omega
    have q2' : ¬ (60 : Int) < u.length := by omega
    have q3' : (200 : Int) < ms.length := by omega
    simp -implicitDefEqProofs (disch := omega) [wrap_id, q1', q2', q3']
    exact callW_pure rfl works_ok (by simp)
  have q1' : ¬ (50 : Int) < l.length := by omega
  have q2' : ¬ (60 : Int) < u.length := by omega
  have q3' : ¬ (200 : Int) < ms.length := by omega
  simp -implicitDefEqProofs (disch := omega) [wrap_id, q1', q2', q3']
  obtain ⟨p1, p2⟩ := moved_pat (u := u) c1
  obtain ⟨r1, r2, r3⟩ := moved_run (b := b) (u := u) c1 (by omega)
  have mo := moved_ok false false false b l u c1 ⟨by omega, hu.2⟩
  generalize movedR b u l [] = mv at *
  obtain ⟨now, out⟩ := mv
  simp only at p1 p2 r1 r2 r3 mo
  obtain ⟨sn8, nl⟩ := chkL_S8 p2
  have sam : sameR b l now = 0 := (sameR_pat c1 p2).2 p1
  have fe : form b l = form b now := (sim_iff sl sn8).1 p1
  obtain ⟨z1, z2, z3⟩ := chain_zero (b := b) sam
  have f1 := form_len b l
  have f2 := form_len b m
  have sv := sameR_val c1 c2
  have sf : (sameR b l m = 0) ↔ form b l = form b m := (sameR_pat c1 c2).trans (sim_iff sl sm)
  have cz := fun hs => chain_zero (b := b) (l := l) (m := m) hs
  have cs := fun h => chain_same (b := b) (l := l) (m := m) (ms := ms) h
  have cl : (chnR b l m).length ≤ 3540 := by
    by_cases hs : sameR b l m = 0
    · exact (cz hs).2.2
    · unfold chnR; rw [if_pos hs]; simp
  have ce : sameR b l m ≠ 0 → chnR b l m = [] := fun hs => by unfold chnR; rw [if_pos hs]
  refine aws_step ?_
  simp -implicitDefEqProofs (disch := omega) [wrap_id]
  refine callW_pure rfl mo ?_
  simp -implicitDefEqProofs (disch := omega) [wrap_id]
  refine aws_step ?_
  simp -implicitDefEqProofs (disch := omega) [wrap_id]
  refine callW_pure rfl (short_ok false false b l (by omega) (by omega)) ?_
  rw [shortR_is c1, c1]
  simp -implicitDefEqProofs (disch := omega) [wrap_id]
  refine aws_step ?_
  simp -implicitDefEqProofs (disch := omega) [wrap_id]
  refine callW_pure rfl (short_ok false false b now (by omega) (by omega)) ?_
  rw [shortR_is p2, p2, ← fe]
  simp -implicitDefEqProofs (disch := omega) [wrap_id]
  refine aws_step ?_
  simp -implicitDefEqProofs (disch := omega) [wrap_id]
  refine callW_pure rfl (short_ok false false b m (by omega) (by omega)) ?_
  rw [shortR_is c2, c2]
  simp -implicitDefEqProofs (disch := omega) [wrap_id]
  refine aws_step ?_
  simp -implicitDefEqProofs (disch := omega) [wrap_id]
  refine callW_pure rfl (chainGo_ok false false false b l now (by omega) (by omega) (by omega)) ?_
  rw [sam]
  simp -implicitDefEqProofs (disch := omega) [wrap_id]
  refine aws_step ?_
  generalize form b l = x at *
  generalize form b m = z at *
  generalize chnR b l now = own at *
  simp -implicitDefEqProofs (disch := omega) [wrap_id]
  refine callW_pure rfl (equal_ok false false x x (by omega) (by omega)) ?_
  simp -implicitDefEqProofs (disch := omega) [wrap_id]
  refine callW_pure rfl (same_ok false false false b l now (by omega) (by omega) (by omega)) ?_
  rw [sam]
  simp -implicitDefEqProofs (disch := omega) [wrap_id]
  refine callW_pure rfl (chain_c false false false out.isEmpty b l now out (by omega) (by omega) (by omega) (by omega) r2) ?_
  rw [r1]
  simp -implicitDefEqProofs (disch := omega) [wrap_id]
  refine callW_pure rfl (chain_c false false false false b l now own (by omega) (by omega) (by omega) (by omega) z2) ?_
  rw [z1]
  simp -implicitDefEqProofs (disch := omega) [wrap_id]
  refine callW_pure rfl (refChain_ok false false false false b l now own (by omega) (by omega) (by omega) (by omega) z2) ?_
  rw [z1]
  simp -implicitDefEqProofs (disch := omega) [wrap_id]
  refine aws_step ?_
  simp -implicitDefEqProofs (disch := omega) [wrap_id]
  refine callW_pure rfl (same_ok false false false b l m (by omega) (by omega) (by omega)) ?_
  simp -implicitDefEqProofs (disch := omega) [wrap_id]
  refine aws_step ?_
  simp -implicitDefEqProofs (disch := omega) [wrap_id]
  refine callW_pure rfl (chainGo_ok false false false b l m (by omega) (by omega) (by omega)) ?_
  simp -implicitDefEqProofs (disch := omega) [wrap_id]
  refine aws_step ?_
  have eb : (sameR b l m == 0) = decide (x = z) := by
    rw [Bool.eq_iff_iff]; simp [sf]
  simp -implicitDefEqProofs (disch := omega) [wrap_id]
  refine callW_pure rfl (equal_ok false false x z (by omega) (by omega)) ?_
  rw [← eb]
  simp -implicitDefEqProofs (disch := omega) [wrap_id]
  rw [eqk_boolS, show (true != ((sameR b l m == 0) == (sameR b l m == 0))) = false by simp]
  by_cases hs : sameR b l m = 0
  · obtain ⟨g1, g2, g3⟩ := cz hs
    rw [hs]
    simp -implicitDefEqProofs (disch := omega) [wrap_id]
    refine aws_step ?_
    simp -implicitDefEqProofs (disch := omega) [wrap_id]
    refine aws_step ?_
    simp -implicitDefEqProofs (disch := omega) [wrap_id]
    refine callW_pure rfl (chain_c false false false false b l m (chnR b l m) (by omega) (by omega) (by omega) (by omega) g2) ?_
    rw [g1]
    simp -implicitDefEqProofs (disch := omega) [wrap_id]
    refine callW_pure rfl (refChain_ok false false false false b l m (chnR b l m) (by omega) (by omega) (by omega) (by omega) g2) ?_
    rw [g1]
    simp -implicitDefEqProofs (disch := omega) [wrap_id]
    refine callW_pure rfl works_ok ?_
    simp -implicitDefEqProofs (disch := omega) [wrap_id]
    exact aws_of (by simp -implicitDefEqProofs (disch := omega) [wrap_id])
  · have h18 : sameR b l m = 18 := sv.resolve_left hs
    have hz : chainR b l m ms ≠ 0 := fun h => hs (cs h)
    have hz' : (chainR b l m ms != 0) = true := by simpa using hz
    rw [ce hs, h18]
    simp -implicitDefEqProofs (disch := omega) [wrap_id]
    refine aws_step ?_
    simp -implicitDefEqProofs (disch := omega) [wrap_id]
    refine callW_pure rfl (chain_c false false false false b l m ms (by omega) (by omega) (by omega) (by omega) hms.2) ?_
    simp -implicitDefEqProofs (disch := omega) [wrap_id, hz']
    exact callW_pure rfl works_ok (by simp)

end Go.AM
