/-
  THE COMPILED FORMS of functions of the program, each held against its body by the kernel. Own work (printed by a program of this claim).
  WHAT THE CODE ANSWERS, PART 20: free (of a statement). Own work.
  WHAT THE CODE ANSWERS, PART 19: Spine. Own work.
  LAWS: StrokeRounded. Own work.
-/
import Derived.Test.YtjhfhdmdilmplaaKq13
import Derived.Test.YtjhfhdmdilmplaaProg

/- THE COMPILED FORMS of functions of the program, each held against its body by the kernel. Own work (printed by a program of this claim). -/
set_option maxRecDepth 100000
namespace Go.AM
open Go.RowKit Go.Proofs

/-- oxgall/oxgalllaw02.StrokeRounded -/
def G13 : AC := (.seq (.rgn [⟨none, [(.box 4 2 (.t 0)), (.mv 8 (.k (B false)))]⟩] [1, 2, 3, 4]) (.seq (.seq (.rgn [⟨none, [(.ld 27 true 2 (.t 4)), (.mv 28 (.t 1)), (.call 29 47 [(.t 27), (.t 28)]), (.un 30 .not (.t 29)), (.mv 31 (.t 30))]⟩, ⟨(some (31, false)), [(.mv 32 (.t 1)), (.len 33 (.t 32)), (.bin 34 .gtr (.t 33) (.k (I 50)))]⟩, ⟨none, [(.pick 35 (.t 31) (.k (B true)) (.t 34)), (.mv 36 (.t 35))]⟩, ⟨(some (36, false)), [(.mv 37 (.t 2)), (.len 38 (.t 37)), (.bin 39 .gtr (.t 38) (.k (I 60)))]⟩, ⟨none, [(.pick 40 (.t 36) (.k (B true)) (.t 39)), (.mv 41 (.t 40))]⟩, ⟨(some (41, false)), [(.mv 42 (.t 3)), (.len 43 (.t 42)), (.bin 44 .gtr (.t 43) (.k (I 60)))]⟩, ⟨none, [(.pick 45 (.t 41) (.k (B true)) (.t 44))]⟩] [1, 2, 3, 4, 45]) (.cond (.t 45) (.seq (.rgn [⟨none, [(.call 46 19 []), (.mv 8 (.t 46))]⟩] [8]) .ret) .skip)) (.seq (.rgn [⟨none, [(.ld 48 true 2 (.t 4)), (.mv 49 (.t 1)), (.call 50 34 [(.t 48), (.t 49)]), (.mv 47 (.t 50)), (.ext 51 (.t 47) 0), (.ext 52 (.t 47) 1), (.mv 9 (.t 51)), (.mv 10 (.t 52))]⟩] [1, 2, 3, 4, 9, 10]) (.seq (.rgn [⟨none, [(.ld 54 true 2 (.t 4)), (.mv 55 (.t 1)), (.call 56 38 [(.t 54), (.t 55)]), (.mv 53 (.t 56)), (.ext 57 (.t 53) 0), (.ext 58 (.t 53) 1), (.mv 11 (.t 57)), (.mv 12 (.t 58))]⟩] [1, 2, 3, 4, 9, 10, 11, 12]) (.seq (.rgn [⟨none, [(.ld 60 true 2 (.t 4)), (.mv 61 (.t 1)), (.call 62 32 [(.t 60), (.t 61)]), (.mv 59 (.t 62)), (.ext 63 (.t 59) 0), (.ext 64 (.t 59) 1), (.mv 13 (.t 63)), (.mv 14 (.t 64))]⟩] [1, 2, 3, 4, 9, 10, 11, 12, 13, 14]) (.seq (.seq (.rgn [⟨none, [(.mv 65 (.t 10)), (.bin 66 .neq (.t 65) (.k (I 0))), (.mv 67 (.t 66))]⟩, ⟨(some (67, false)), [(.mv 68 (.t 12)), (.bin 69 .neq (.t 68) (.k (I 0)))]⟩, ⟨none, [(.pick 70 (.t 67) (.k (B true)) (.t 69)), (.mv 71 (.t 70))]⟩, ⟨(some (71, false)), [(.mv 72 (.t 14)), (.bin 73 .neq (.t 72) (.k (I 0)))]⟩, ⟨none, [(.pick 74 (.t 71) (.k (B true)) (.t 73)), (.mv 75 (.t 74))]⟩, ⟨(some (75, false)), [(.mv 76 (.t 11)), (.len 77 (.t 76)), (.mv 78 (.t 9)), (.len 79 (.t 78)), (.bin 80 .neq (.t 77) (.t 79))]⟩, ⟨none, [(.pick 81 (.t 75) (.k (B true)) (.t 80)), (.mv 82 (.t 81))]⟩, ⟨(some (82, false)), [(.mv 83 (.t 9)), (.len 84 (.t 83)), (.mv 85 (.t 1)), (.len 86 (.t 85)), (.bin 87 .gtr (.t 84) (.t 86))]⟩, ⟨none, [(.pick 88 (.t 82) (.k (B true)) (.t 87))]⟩] [1, 2, 3, 4, 9, 11, 13, 88]) (.cond (.t 88) (.seq (.rgn [⟨none, [(.mv 8 (.k (B false)))]⟩] [8]) .ret) .skip)) (.seq (.rgn [⟨none, [(.mv 15 (.k (.sl true 0 [])))]⟩] [1, 2, 3, 4, 9, 11, 13, 15]) (.seq (.seq (.rgn [⟨none, [(.mv 16 (.k (I 0)))]⟩] [1, 2, 3, 4, 9, 11, 13, 15, 16]) (.block 0 (.loop (.seq (.seq (.rgn [⟨none, [(.mv 89 (.t 16)), (.mv 90 (.t 9)), (.len 91 (.t 90)), (.bin 92 .lss (.t 89) (.t 91))]⟩] [1, 2, 3, 4, 9, 11, 13, 15, 16, 92]) (.cond (.t 92) .skip (.exit 0))) (.seq (.block 1 (.seq (.seq (.drw [⟨none, [(.mv 95 (.t 9)), (.mv 96 (.t 16)), (.ia 97 1 (.t 95) (.t 96)), (.ld 98 false 1 (.t 97)), (.len 99 (.t 98)), (.bin 100 .lss (.t 99) (.k (I 1))), (.mv 101 (.t 100))]⟩, ⟨(some (101, false)), [(.mv 102 (.t 9)), (.mv 103 (.t 16)), (.ia 104 1 (.t 102) (.t 103)), (.ld 105 false 1 (.t 104)), (.len 106 (.t 105)), (.fa 107 (.t 4) 0), (.ld 108 false 1 (.t 107)), (.bin 109 .gtr (.t 106) (.t 108))]⟩, ⟨none, [(.pick 110 (.t 101) (.k (B true)) (.t 109))]⟩] [(10, 13)] [1, 2, 3, 4, 9, 11, 13, 15, 16, 110]) (.cond (.t 110) (.seq (.rgn [⟨none, [(.mv 8 (.k (B false)))]⟩] [8]) .ret) .skip)) (.seq (.seq (.rgn [⟨none, [(.mv 17 (.k (I 0)))]⟩] [1, 2, 3, 4, 9, 11, 13, 15, 16, 17]) (.block 2 (.loop (.seq (.seq (.rgn [⟨none, [(.mv 111 (.t 17)), (.mv 112 (.t 9)), (.mv 113 (.t 16)), (.ia 114 1 (.t 112) (.t 113)), (.ld 115 false 1 (.t 114)), (.len 116 (.t 115)), (.bin 117 .lss (.t 111) (.t 116))]⟩] [1, 2, 3, 4, 9, 11, 13, 15, 16, 17, 117]) (.cond (.t 117) .skip (.exit 2))) (.seq (.block 3 (.seq (.seq (.drw [⟨none, [(.ld 120 true 2 (.t 4)), (.mv 121 (.t 9)), (.mv 122 (.t 16)), (.ia 123 1 (.t 121) (.t 122)), (.ld 124 false 1 (.t 123)), (.mv 125 (.t 17)), (.ia 126 1 (.t 124) (.t 125)), (.ld 127 false 1 (.t 126)), (.call 128 51 [(.t 120), (.t 127)]), (.un 129 .not (.t 128))]⟩] [(0, 4), (0, 7)] [1, 2, 3, 4, 9, 11, 13, 15, 16, 17, 129]) (.cond (.t 129) (.seq (.rgn [⟨none, [(.mv 8 (.k (B false)))]⟩] [8]) .ret) .skip)) (.seq (.rgn [⟨none, [(.mv 18 (.k (I 0)))]⟩] [1, 2, 3, 4, 9, 11, 13, 15, 16, 17, 18]) (.block 4 (.loop (.seq (.seq (.rgn [⟨none, [(.mv 130 (.t 18)), (.mv 131 (.t 17)), (.bin 132 .lss (.t 130) (.t 131))]⟩] [1, 2, 3, 4, 9, 11, 13, 15, 16, 17, 18, 132]) (.cond (.t 132) .skip (.exit 4))) (.seq (.block 5 (.seq (.drw [⟨none, [(.ld 135 true 2 (.t 4)), (.mv 136 (.t 9)), (.mv 137 (.t 16)), (.ia 138 1 (.t 136) (.t 137)), (.ld 139 false 1 (.t 138)), (.mv 140 (.t 18)), (.ia 141 1 (.t 139) (.t 140)), (.ld 142 false 1 (.t 141)), (.mv 143 (.t 9)), (.mv 144 (.t 16)), (.ia 145 1 (.t 143) (.t 144)), (.ld 146 false 1 (.t 145)), (.mv 147 (.t 17)), (.ia 148 1 (.t 146) (.t 147)), (.ld 149 false 1 (.t 148)), (.call 150 52 [(.t 135), (.t 142), (.t 149)]), (.un 151 .not (.t 150))]⟩] [(0, 4), (0, 7), (0, 11), (4, 11), (7, 11), (0, 14), (4, 14), (7, 14)] [1, 2, 3, 4, 9, 11, 13, 15, 16, 17, 18, 151]) (.cond (.t 151) (.seq (.rgn [⟨none, [(.mv 8 (.k (B false)))]⟩] [8]) .ret) .skip))) (.rgn [⟨none, [(.mv 133 (.t 18)), (.bin 134 .add (.t 133) (.k (I 1))), (.mv 18 (.t 134))]⟩] [1, 2, 3, 4, 9, 11, 13, 15, 16, 17, 18])))))))) (.rgn [⟨none, [(.mv 118 (.t 17)), (.bin 119 .add (.t 118) (.k (I 1))), (.mv 17 (.t 119))]⟩] [1, 2, 3, 4, 9, 11, 13, 15, 16, 17])))))) (.rgn [⟨none, [(.mv 152 (.t 15)), (.mv 153 (.t 9)), (.mv 154 (.t 16)), (.ia 155 1 (.t 153) (.t 154)), (.ld 156 false 1 (.t 155)), (.app 157 1 8 (.t 152) (.t 156)), (.mv 15 (.t 157))]⟩] [1, 2, 3, 4, 9, 11, 13, 15, 16])))) (.rgn [⟨none, [(.mv 93 (.t 16)), (.bin 94 .add (.t 93) (.k (I 1))), (.mv 16 (.t 94))]⟩] [1, 2, 3, 4, 9, 11, 13, 15, 16])))))) (.seq (.seq (.rgn [⟨none, [(.mv 158 (.t 15)), (.len 159 (.t 158)), (.mv 160 (.t 1)), (.len 161 (.t 160)), (.bin 162 .gtr (.t 159) (.t 161)), (.mv 163 (.t 162))]⟩, ⟨(some (163, false)), [(.ld 164 true 2 (.t 4)), (.mv 165 (.t 1)), (.mv 166 (.t 15)), (.call 167 27 [(.t 164), (.t 165), (.t 166)]), (.bin 168 .neq (.t 167) (.k (I 0)))]⟩, ⟨none, [(.pick 169 (.t 163) (.k (B true)) (.t 168)), (.mv 170 (.t 169))]⟩, ⟨(some (170, false)), [(.mv 171 (.t 9)), (.len 172 (.t 171)), (.bin 173 .gtr (.t 172) (.k (I 0))), (.mv 174 (.t 173))]⟩, ⟨(some (174, true)), [(.mv 175 (.t 9)), (.ia 176 1 (.t 175) (.k (I 0))), (.ld 177 false 1 (.t 176)), (.mv 178 (.t 13)), (.call 179 26 [(.t 177), (.t 178)]), (.un 180 .not (.t 179))]⟩, ⟨(some (170, false)), [(.pick 181 (.t 174) (.t 180) (.k (B false)))]⟩, ⟨none, [(.pick 182 (.t 170) (.k (B true)) (.t 181)), (.mv 183 (.t 182))]⟩, ⟨(some (183, false)), [(.mv 184 (.t 9)), (.len 185 (.t 184)), (.bin 186 .eql (.t 185) (.k (I 0))), (.mv 187 (.t 186))]⟩, ⟨(some (187, true)), [(.mv 188 (.t 13)), (.len 189 (.t 188)), (.bin 190 .neq (.t 189) (.k (I 0)))]⟩, ⟨(some (183, false)), [(.pick 191 (.t 187) (.t 190) (.k (B false)))]⟩, ⟨none, [(.pick 192 (.t 183) (.k (B true)) (.t 191))]⟩] [1, 2, 3, 4, 9, 11, 192]) (.cond (.t 192) (.seq (.rgn [⟨none, [(.mv 8 (.k (B false)))]⟩] [8]) .ret) .skip)) (.seq (.rgn [⟨none, [(.ld 194 true 2 (.t 4)), (.mv 195 (.t 1)), (.mv 196 (.t 11)), (.call 197 36 [(.t 194), (.t 195), (.t 196)]), (.mv 193 (.t 197)), (.ext 198 (.t 193) 0), (.ext 199 (.t 193) 1), (.mv 19 (.t 198)), (.mv 20 (.t 199))]⟩] [1, 2, 3, 4, 9, 19, 20]) (.seq (.seq (.rgn [⟨none, [(.mv 200 (.t 20)), (.bin 201 .neq (.t 200) (.k (I 0))), (.mv 202 (.t 201))]⟩, ⟨(some (202, false)), [(.mv 203 (.t 19)), (.mv 204 (.t 9)), (.len 205 (.t 204)), (.bin 206 .neq (.t 203) (.t 205))]⟩, ⟨none, [(.pick 207 (.t 202) (.k (B true)) (.t 206))]⟩] [1, 2, 3, 4, 19, 207]) (.cond (.t 207) (.seq (.rgn [⟨none, [(.mv 8 (.k (B false)))]⟩] [8]) .ret) .skip)) (.seq (.rgn [⟨none, [(.ld 209 true 2 (.t 4)), (.mv 210 (.t 1)), (.mv 211 (.t 2)), (.call 212 48 [(.t 209), (.t 210), (.t 211)]), (.mv 208 (.t 212)), (.ext 213 (.t 208) 0), (.ext 214 (.t 208) 1), (.mv 21 (.t 213)), (.mv 22 (.t 214))]⟩] [1, 3, 4, 19, 21]) (.seq (.rgn [⟨none, [(.mv 23 (.k (I 0)))]⟩] [1, 3, 4, 19, 21, 23]) (.seq (.seq (.rgn [⟨none, [(.mv 24 (.k (I 0)))]⟩] [1, 3, 4, 19, 21, 23, 24]) (.block 6 (.loop (.seq (.seq (.rgn [⟨none, [(.mv 215 (.t 24)), (.mv 216 (.t 21)), (.len 217 (.t 216)), (.bin 218 .lss (.t 215) (.t 217))]⟩] [1, 3, 4, 19, 21, 23, 24, 218]) (.cond (.t 218) .skip (.exit 6))) (.block 7 (.seq (.rgn [⟨none, [(.mv 219 (.t 24)), (.bin 220 .add (.t 219) (.k (I 1))), (.mv 25 (.t 220))]⟩] [1, 3, 4, 19, 21, 23, 24, 25]) (.seq (.block 8 (.loop (.seq (.seq (.drw [⟨none, [(.mv 221 (.t 25)), (.mv 222 (.t 21)), (.len 223 (.t 222)), (.bin 224 .lss (.t 221) (.t 223)), (.mv 225 (.t 224))]⟩, ⟨(some (225, true)), [(.ld 226 true 2 (.t 4)), (.mv 227 (.t 21)), (.mv 228 (.t 24)), (.mv 229 (.t 25)), (.slc 230 1 (.t 227) (some (.t 228)) (some (.t 229)) none), (.mv 231 (.t 21)), (.mv 232 (.t 25)), (.ia 233 1 (.t 231) (.t 232)), (.ld 234 false 1 (.t 233)), (.call 235 53 [(.t 226), (.t 230), (.t 234)])]⟩, ⟨none, [(.pick 236 (.t 225) (.t 235) (.k (B false)))]⟩] [(5, 13)] [1, 3, 4, 19, 21, 23, 24, 25, 236]) (.cond (.t 236) .skip (.exit 8))) (.block 9 (.rgn [⟨none, [(.mv 237 (.t 25)), (.bin 238 .add (.t 237) (.k (I 1))), (.mv 25 (.t 238))]⟩] [1, 3, 4, 19, 21, 23, 24, 25]))))) (.seq (.rgn [⟨none, [(.mv 239 (.t 23)), (.bin 240 .add (.t 239) (.k (I 1))), (.mv 23 (.t 240))]⟩] [1, 3, 4, 19, 21, 23, 25]) (.rgn [⟨none, [(.mv 241 (.t 25)), (.mv 24 (.t 241))]⟩] [1, 3, 4, 19, 21, 23, 24]))))))))) (.seq (.rgn [⟨none, [(.ld 243 true 2 (.t 4)), (.mv 244 (.t 1)), (.mv 245 (.t 3)), (.call 246 36 [(.t 243), (.t 244), (.t 245)]), (.mv 242 (.t 246)), (.ext 247 (.t 242) 0), (.ext 248 (.t 242) 1), (.mv 26 (.t 247)), (.mv 20 (.t 248))]⟩] [19, 20, 23, 26]) (.seq (.rgn [⟨none, [(.mv 249 (.t 23)), (.mv 250 (.t 19)), (.bin 251 .geq (.t 249) (.t 250)), (.mv 252 (.t 251))]⟩, ⟨(some (252, true)), [(.mv 253 (.t 20)), (.bin 254 .neq (.t 253) (.k (I 0))), (.mv 255 (.t 254))]⟩, ⟨(some (255, false)), [(.mv 256 (.t 26)), (.mv 257 (.t 19)), (.bin 258 .leq (.t 256) (.t 257))]⟩, ⟨(some (252, true)), [(.pick 259 (.t 255) (.k (B true)) (.t 258))]⟩, ⟨none, [(.pick 260 (.t 252) (.t 259) (.k (B false))), (.mv 261 (.t 260))]⟩, ⟨(some (261, true)), [(.call 262 19 [])]⟩, ⟨none, [(.pick 263 (.t 261) (.t 262) (.k (B false))), (.mv 8 (.t 263))]⟩] [8]) .ret))))))))))))))))
theorem form13 : formOf Try.prog Try.f13 [8] = some G13 := by kernel_rfl
theorem res13 : resTmps Try.f13.results.toList = some [8] := by kernel_rfl

end Go.AM

/- WHAT THE CODE ANSWERS, PART 20: free (of a statement). Own work. -/
set_option linter.unusedSimpArgs false
set_option linter.unusedVariables false
namespace Go.AM
open Go.RowKit Go.Proofs

theorem free_ok (f g : Bool) (b : Bch) (l : List Int) (s : Int) (hb : b.c.length ≤ 1000000) (hl : l.length ≤ 1000000) (hs : Small l) (h1 : -1000000 ≤ s ∧ s ≤ 1000000) : PureOK Try.prog 53 [Bn f b, Ls g l, I s] (B (l.all fun t => canB b t s)) := by
  refine pure_of (walk Try.func53 form53 res53 (by show 3 ≤ _; decide) ?_)
  simp (disch := omega) [G53, wrap_id]
  refine loop_eq (fun i : Nat => ⟨[(1, Ls g l), (2, I s), (3, .ref 0 0), (7, I (i : Int))], [.cells [I b.L, Ps f b.c]]⟩) (fun i => i ≤ l.length ∧ (l.take i).all (fun t => canB b t s) = true) (fun i => l.length - i) 0 ⟨Nat.zero_le _, by simp⟩ rfl ?_
  rintro i ⟨c1, c2⟩
  refine hideK' fun K0 hK0 => ?_
  simp (disch := omega) [wrap_id]
  refine c_split (fun h => ?_) (fun h => ?_)
  · have hi : i < l.length := by simp at h; omega
    have nx : ((i : Int) + 1) = ((i + 1 : Nat) : Int) := by omega
    have sm := hs.at hi
    simp (disch := omega) [wrap_id, cells_ls, hi]
    refine pureW_of rfl (refCan_ok f b hb l[i] s sm h1) ?_
    cases hc : canB b l[i] s with
    | true =>
      simp (disch := omega) [wrap_id]
      rw [hK0]
      exact next_eq (i + 1) ⟨by omega, by rw [List.take_succ_eq_append_getElem hi, List.all_append, c2]; simp [hc]⟩ (by omega) (by simp only [nx])
    | false =>
      have e : (l.all fun t => canB b t s) = false := by
        rw [List.all_eq_false]; exact ⟨l[i], List.getElem_mem hi, by simp [hc]⟩
      rw [e] at hK0
      subst hK0
      simp (disch := omega) [wrap_id]
  · have hi : i = l.length := by simp at h; omega
    subst hi
    rw [List.take_length] at c2
    rw [c2] at hK0
    subst hK0
    simp (disch := omega) [wrap_id]

end Go.AM

/- WHAT THE CODE ANSWERS, PART 19: Spine. Own work. -/
set_option linter.unusedSimpArgs false
set_option linter.unusedVariables false
namespace Go.AM
open Go.RowKit Go.Proofs

def spineFR (b : Bch) (l : List Int) : List Int := if chkL b l ≠ 0 then [] else spineL b (form b l)

/-- A table under way. -/
def padT (l : List Int) (n : Nat) : List Int := l ++ List.replicate (n - l.length) 0

theorem padT_len {l : List Int} {n : Nat} (h : l.length ≤ n) : (padT l n).length = n := by simp [padT]; omega
theorem padT_set {l : List Int} {n i : Nat} {a : Int} (h : l.length = i) (hi : i < n) : (padT l n).set i a = padT (l ++ [a]) n := by
  subst h
  unfold padT
  obtain ⟨m, hm⟩ : ∃ m, n - l.length = m + 1 := ⟨n - l.length - 1, by omega⟩
  rw [hm, List.set_append_right _ _ (Nat.le_refl _)]
  have : n - (l ++ [a]).length = m := by simp; omega
  rw [this, Nat.sub_self]
  simp [List.replicate_succ]
theorem padT_put {l : List Int} {n i : Nat} {a c : Int} (h : l.length = i) (hi : i < n) : (padT (l ++ [a]) n).set i c = padT (l ++ [c]) n := by
  rw [← padT_set h hi, ← padT_set h hi, List.set_set]
theorem padT_at {l : List Int} {n j : Nat} (h : l.length ≤ n) (hj : j < l.length) (hj' : j < (padT l n).length) : (padT l n)[j] = l.getD j 0 := by
  simp only [padT]
  rw [List.getElem_append_left hj]
  simp [hj]

theorem Lf_top {b : Bch} {w : List Int} : ∀ i : Nat, Lf b w i ≤ i + 1 := by
  intro i
  induction i using Nat.strongRecOn with
  | ind i ih =>
    rcases (Lf_spec (b := b) (w := w) i).2.2 with ⟨_, h⟩ | ⟨j, h1, _, _, h2⟩
    · omega
    · have := ih j h1; omega

set_option maxHeartbeats 1000000 in
theorem spine_w (f g : Bool) (b : Bch) (l : List Int) (hb : b.c.length ≤ 1000000) (hl : l.length ≤ 1000000) : PureOK Try.prog 38 [Bn f b, Ls g l] (.tup [Ls (spineFR b l).isEmpty (spineFR b l), I (chkL b l)]) := by
  refine pure_of (walk Try.func38 form38 res38 (by show 2 ≤ _; decide) ?_)
  simp (disch := omega) [G38, wrap_id]
  refine bsl_of (ys := [Ls g l]) rfl rfl ?_
  simp (disch := omega) [wrap_id, zrep]
  refine callW_pure rfl (open1_ok f true g b l hb hl) ?_
  by_cases hc : chkL b l = 0
  · obtain ⟨s1, l1⟩ := chkL_S8 hc
    have x1 := form_len b l
    have sw := form_S8 (b := b) s1
    have e : spineFR b l = spineL b (form b l) := by unfold spineFR; rw [if_neg (by simp [hc])]
    rw [e, hc]
    simp (disch := omega) [wrap_id, openAV]
    refine callW_pure rfl (form_c f g b l s1 hl) ?_
    generalize hfe : (form b l).isEmpty = fe
    generalize form b l = w at *
    simp (disch := omega) [wrap_id]
    have hw : w.length ≤ 60 := by omega
    refine ⟨w.length, rfl, rfl, by omega, by omega, rfl, ?_⟩
    simp (disch := omega) [wrap_id]
    refine ⟨w.length, rfl, rfl, by omega, by omega, rfl, ?_⟩
    simp (disch := omega) [wrap_id]
    have z0 : zrep w.length [I 0] = (padT [] w.length).map fun n => I n := by rw [zrep_one]; simp [padT]
    rw [z0]
    refine loop_eq (fun i : Nat => ⟨[(6, .ptr (TB f b) 0), (8, Ls fe w), (9, .ms 1 0 w.length 1), (10, .ms 2 0 w.length 1), (11, I (dpLast b w i)), (35, I (w.length : Int)), (36, I (i : Int))],
        [.cells [I b.L, Ps f b.c], .cells ((padT (dpL b w i) w.length).map fun n => I n), .cells ((padT (dpP b w i) w.length).map fun n => I n)]⟩)
      (fun i => i ≤ w.length) (fun i => w.length - i) 0 (Nat.zero_le _) rfl ?_
    intro i hi
    refine hideK' fun K0 hK0 => ?_
    simp (disch := omega) [wrap_id]
    refine c_split (fun hc => ?_) (fun hc => ?_)
    · have hi : i < w.length := by simp at hc; omega
      have ll := dpL_len b w i
      have lp := dpP_len b w i
      have nL : ∀ a : Int, (padT (dpL b w i ++ [a]) w.length).length = w.length := fun a => padT_len (by simp; omega)
      have nP : ∀ a : Int, (padT (dpP b w i ++ [a]) w.length).length = w.length := fun a => padT_len (by simp; omega)
      have nL0 : (padT (dpL b w i) w.length).length = w.length := padT_len (by omega)
      have nP0 : (padT (dpP b w i) w.length).length = w.length := padT_len (by omega)
      have nx : ((i : Int) + 1) = ((i + 1 : Nat) : Int) := by omega
      simp (disch := omega) [wrap_id]
      refine ⟨by omega, by omega, by omega, by omega, ?_⟩
      rw [set_ls _ i _ (by omega), set_ls _ i _ (by omega), padT_set ll hi, padT_set lp hi]
      refine loop_eq (fun k : Nat => ⟨[(6, .ptr (TB f b) 0), (8, Ls fe w), (9, .ms 1 0 w.length 1), (10, .ms 2 0 w.length 1), (11, I (dpLast b w i)), (12, I (i : Int)), (35, I (w.length : Int)), (36, I (i : Int)), (45, I (i : Int)), (46, I (k : Int))],
          [.cells [I b.L, Ps f b.c], .cells ((padT (dpL b w i ++ [(dpIn b w (dpL b w i) i k).1]) w.length).map fun n => I n), .cells ((padT (dpP b w i ++ [(dpIn b w (dpL b w i) i k).2]) w.length).map fun n => I n)]⟩)
        (fun k => k ≤ i) (fun k => i - k) 0 (Nat.zero_le _) rfl ?_
      intro k hk
      refine hideK' fun K1 hK1 => ?_
      simp (disch := omega) [wrap_id]
      refine c_split (fun hc => ?_) (fun hc => ?_)
      · have hk : k < i := by simp at hc; omega
        have hkw : k < w.length := by omega
        have kx : ((k : Int) + 1) = ((k + 1 : Nat) : Int) := by omega
        have w1 := sw w[k] (List.getElem_mem hkw)
        have w2 := sw w[i] (List.getElem_mem hi)
        have d1 : dpIn b w (dpL b w i) i (k + 1) = if canB b w[k] w[i] = false ∧ (dpIn b w (dpL b w i) i k).1 ≤ (dpL b w i).getD k 0 then ((dpL b w i).getD k 0 + 1, (k : Int)) else dpIn b w (dpL b w i) i k := by
          simp only [dpIn]
          rw [show w.getD k 0 = w[k] by simp [hkw], show w.getD i 0 = w[i] by simp [hi]]
        have hb1 : -1000 ≤ (dpL b w i).getD k 0 ∧ (dpL b w i).getD k 0 ≤ 1000 := by
          rw [dpL_get hk]
          have := (Lf_spec (b := b) (w := w) k).1
          have := Lf_top (b := b) (w := w) k
          omega
        generalize dpIn b w (dpL b w i) i k = d at *
        have g1 : ∀ h, (padT (dpL b w i ++ [d.1]) w.length)[k]'h = (dpL b w i).getD k 0 := fun h => by
          rw [padT_at (by simp; omega) (by simp; omega) h, getD_snoc, if_pos (by omega)]
        have g2 : ∀ h, (padT (dpL b w i ++ [d.1]) w.length)[i]'h = d.1 := fun h => by
          rw [padT_at (by simp; omega) (by simp; omega) h, getD_snoc, if_neg (by omega), if_pos ll.symm]
        have n1 := nL d.1
        have n2 := nP d.2
        have s1 : ∀ a : Int, (padT (dpL b w i ++ [d.1]) w.length).set i a = padT (dpL b w i ++ [a]) w.length := fun a => padT_put ll hi
        have s2 : ∀ a : Int, (padT (dpP b w i ++ [d.2]) w.length).set i a = padT (dpP b w i ++ [a]) w.length := fun a => padT_put lp hi
        generalize hlL : padT (dpL b w i ++ [d.1]) w.length = lL at *
        generalize hlP : padT (dpP b w i ++ [d.2]) w.length = lP at *
        generalize hv : (dpL b w i).getD k 0 = v at *
        simp (disch := omega) [wrap_id, cells_ls, hkw, hi]
        refine pureW_of rfl (can_ok f b w[k] w[i] w1 w2) ?_
        cases hcan : canB b w[k] w[i] with
        | true =>
          simp (disch := omega) [wrap_id, cells_ls, hkw, hi]
          rw [hK1]
          have d2 : dpIn b w (dpL b w i) i (k + 1) = d := by rw [d1, if_neg (by simp [hcan])]
          exact next_eq (k + 1) (by omega) (by omega) (by simp only [kx, d2, hlL, hlP])
        | false =>
          have hik : i < lL.length := by omega
          have hkk : k < lL.length := by omega
          simp (disch := omega) [wrap_id, cells_ls, hkw, hi, hik, hkk]
          rw [g1 hkk, g2 hik]
          refine c_split (fun ht => ?_) (fun ht => ?_)
          · have ht : d.1 ≤ v := by simpa using ht
            have d2 : dpIn b w (dpL b w i) i (k + 1) = (v + 1, (k : Int)) := by rw [d1, if_pos ⟨hcan, ht⟩]
            have hip : i < lP.length := by omega
            simp (disch := omega) [wrap_id, cells_ls, hkw, hi, hik, hkk, hip]
            rw [g1 hkk, wrap_id ⟨by omega, by omega⟩, set_ls _ i _ hik, set_ls _ i _ hip, s1, s2]
            refine ⟨by omega, by omega, ?_⟩
            rw [hK1]
            exact next_eq (k + 1) (by omega) (by omega) (by simp only [kx, d2])
          · have ht : ¬ d.1 ≤ v := by simpa using ht
            have d2 : dpIn b w (dpL b w i) i (k + 1) = d := by rw [d1, if_neg (by simp [ht])]
            simp (disch := omega) [wrap_id]
            rw [hK1]
            exact next_eq (k + 1) (by omega) (by omega) (by simp only [kx, d2, hlL, hlP])
      · have hk : k = i := by simp at hc; omega
        subst hk
        subst hK1
        have eL : dpL b w k ++ [(dpIn b w (dpL b w k) k k).1] = dpL b w (k + 1) := rfl
        have eP : dpP b w k ++ [(dpIn b w (dpL b w k) k k).2] = dpP b w (k + 1) := rfl
        simp (disch := omega) [wrap_id]
        rw [eL, eP]
        have ll1 := dpL_len b w (k + 1)
        have nL1 : (padT (dpL b w (k + 1)) w.length).length = w.length := padT_len (by omega)
        have gL : ∀ j, j ≤ k → ∀ h, (padT (dpL b w (k + 1)) w.length)[j]'h = Lf b w j := fun j hj h => by rw [padT_at (by omega) (by omega) h, dpL_get (by omega)]
        have step : ∀ t : Int, dpLast b w (k + 1) = t → dpLast b w (k + 1) = t := fun t h => h
        have e1 : dpLast b w (k + 1) = if dpLast b w k < 0 ∨ Lf b w (dpLast b w k).toNat < Lf b w k then (k : Int) else dpLast b w k := rfl
        obtain ⟨q1, q2⟩ := dpLast_spec (b := b) (w := w) k
        generalize hlP : padT (dpP b w (k + 1)) w.length = lP at *
        generalize hlL : padT (dpL b w (k + 1)) w.length = lL at *
        by_cases h0 : k = 0
        · have q3 := q1 h0
          rw [q3] at e1 ⊢
          rw [if_pos (.inl (by omega))] at e1
          simp (disch := omega) [wrap_id]
          rw [hK0]
          exact next_eq (k + 1) (by omega) (by omega) (by simp only [nx, e1, hlL, hlP])
        · obtain ⟨q, q3, q4, _⟩ := q2 h0
          rw [q4] at e1 ⊢
          have kk : k < lL.length := by omega
          have qq : q < lL.length := by omega
          have nq : ¬ (q : Int) < 0 := by omega
          simp (disch := omega) [wrap_id, cells_ls, kk, qq, nq]
          rw [gL k (by omega) kk, gL q (by omega) qq]
          refine ⟨by omega, by omega, ?_⟩
          refine c_split (fun ht => ?_) (fun ht => ?_)
          · have ht : Lf b w q < Lf b w k := by simpa using ht
            rw [if_pos (.inr (by simpa using ht))] at e1
            simp (disch := omega) [wrap_id]
            rw [hK0]
            exact next_eq (k + 1) (by omega) (by omega) (by simp only [nx, e1, hlL, hlP])
          · have ht : ¬ Lf b w q < Lf b w k := by simpa using ht
            rw [if_neg (by simp [nq]; omega)] at e1
            simp (disch := omega) [wrap_id]
            rw [hK0]
            exact next_eq (k + 1) (by omega) (by omega) (by simp only [nx, e1, hlL, hlP])
    · have hi : i = w.length := by simp at hc; omega
      subst hi
      subst hK0
      simp (disch := omega) [wrap_id]
      have lp := dpP_len b w w.length
      have nP1 : (padT (dpP b w w.length) w.length).length = w.length := padT_len (by omega)
      have gP : ∀ j, j < w.length → ∀ h, (padT (dpP b w w.length) w.length)[j]'h = Pf b w j := fun j hj h => by rw [padT_at (by omega) (by omega) h, dpP_get hj]
      have q0 : spineL b w = upI b w w.length (dpLast b w w.length) := rfl
      have q1 : (dpLast b w w.length < 0 ∨ ∃ k : Nat, dpLast b w w.length = k ∧ k < w.length) ∧ -1 ≤ dpLast b w w.length := by
        obtain ⟨h1, h2⟩ := dpLast_spec (b := b) (w := w) w.length
        by_cases h0 : w.length = 0
        · have := h1 h0; omega
        · obtain ⟨k, g1, g2, _⟩ := h2 h0; exact ⟨.inr ⟨k, g2, g1⟩, by omega⟩
      generalize dpLast b w w.length = la at *
      generalize padT (dpP b w w.length) w.length = lP at *
      generalize padT (dpL b w w.length) w.length = lL at *
      refine loop_eq (fun q : Nat × Int × AV × List Int × List HObj => ⟨[(10, .ms 2 0 w.length 1), (11, I q.2.1), (14, q.2.2.1)], q.2.2.2.2⟩)
        (fun q => AccR q.2.2.2.2 q.2.2.1 q.2.2.2.1 ∧ rid q.2.2.1 ≠ some 2 ∧ nthH q.2.2.2.2 2 = some (.cells (lP.map fun n => I n)) ∧ -1 ≤ q.2.1 ∧ (0 ≤ q.2.1 → q.2.1 < q.1) ∧ q.1 ≤ w.length ∧ q.1 + q.2.2.2.1.length ≤ w.length ∧ spineL b w = upI b w q.1 q.2.1 ++ q.2.2.2.1.reverse)
        (fun q => q.1 + (q.2.1 + 1).toNat) (w.length, la, .sl true 0 [], [], _) ⟨.inl ⟨rfl, rfl⟩, by simp [rid], rfl, q1.2, fun h => by rcases q1.1 with h | ⟨k, h1, h2⟩ <;> (simp only; omega), Nat.le_refl _, by simp, by simpa using q0⟩ rfl ?_
      rintro ⟨n, cur, x, acc, H⟩ ⟨c1, c2, c3, c4, c5, c6, c7, c8⟩
      simp only at c1 c2 c3 c4 c5 c6 c7 c8 ⊢
      refine hideK' fun K0 hK0 => ?_
      simp (disch := omega) [wrap_id]
      refine c_split (fun hc => ?_) (fun hc => ?_)
      · have hc : 0 ≤ cur := by simpa using hc
        obtain ⟨j, rfl⟩ : ∃ j : Nat, cur = j := ⟨cur.toNat, by omega⟩
        have hj : j < n := by have := c5 hc; omega
        obtain ⟨n', rfl⟩ : ∃ n', n = n' + 1 := ⟨n - 1, by omega⟩
        have hjl : j < lP.length := by omega
        simp (disch := omega) [wrap_id]
        refine bsl_of (ys := [I (j : Int)]) rfl rfl ?_
        simp (disch := omega) [wrap_id, zrep]
        refine app_row c1.row (by omega) fun ws w1 w2 w3 => ?_
        have h2 : nthH (writeL H ws) 2 = some (.cells (lP.map fun n => I n)) := (w1 2 (nthH_lt c3) c2).trans c3
        have lt2 := nthH_lt c3
        simp (disch := omega) [wrap_id, h2, cells_ls, hjl]
        rw [gP j (by omega) hjl]
        rw [hK0]
        have pf := (Lf_spec (b := b) (w := w) j).2.2
        have pf1 : -1 ≤ Pf b w j ∧ Pf b w j < j := by
          rcases pf with ⟨h, _⟩ | ⟨i, h1, h2, _⟩ <;> omega
        rw [upI_nat] at c8
        refine ⟨by omega, ?_⟩
        refine next_eq (n', Pf b w j, .ms H.length 0 (acc.length + 1) 1, acc ++ [(j : Int)], writeL H ws) ⟨.inr ⟨H.length, by simp, by simp, w3⟩, by simp [rid]; omega, h2, pf1.1, fun h => by simp only; omega, by simp only; omega, by simp only [List.length_append, List.length_singleton]; omega, by simp only [List.reverse_append, List.reverse_singleton, List.singleton_append]; rw [c8]; simp⟩ (by simp only; omega) rfl
      · have hc : cur < 0 := by simpa using hc
        subst hK0
        rw [upI_neg hc, List.nil_append] at c8
        rw [c8]
        simp (disch := omega) [wrap_id]
        rcases c1 with ⟨rfl, rfl⟩ | ⟨id, rfl, hne, c1⟩
        · refine rev_nil ?_
          simp (disch := omega) [wrap_id]
          exact out_of (is := []) rfl
        · refine rev_w (by omega) c1 ?_
          simp (disch := omega) [wrap_id]
          have hA : AccR (H.set id (.cells (acc.reverse.map fun n => I n))) (.ms id 0 acc.reverse.length 1) acc.reverse := .inr ⟨id, rfl, by simpa using hne, nthH_set_same (nthH_lt c1)⟩
          have := out_accI (n := 0) hA
          rw [List.length_reverse] at this
          simpa using this
  · have hc' : (chkL b l != 0) = true := by simpa using hc
    have e : spineFR b l = [] := by unfold spineFR; rw [if_pos hc]
    rw [e]
    simp (disch := omega) [wrap_id, openAV, hc, hc']
    exact out_of (is := []) rfl

end Go.AM

/- LAWS: StrokeRounded. Own work. -/
set_option linter.unusedSimpArgs false
set_option linter.unusedVariables false
namespace Go.AM
open Go.RowKit Go.Proofs

theorem le_sumL {n : Nat} : ∀ {l : List Nat}, n ∈ l → n ≤ l.sum
  | x :: l, h => by
    rcases List.mem_cons.1 h with rfl | h
    · simp
    · have := le_sumL h; simp; omega
theorem stroke_line {b : Bch} {s : Int} (h : strokeB b s = true) : 0 ≤ lineI s ∧ lineI s < b.L := by
  unfold strokeB at h
  simp at h
  unfold lineI; split <;> omega

set_option maxHeartbeats 2000000 in
theorem law13 (b : Bch) (l u m : List Int) (hb : BOK b) (hl : l.length ≤ 9223372036854775807 ∧ ∀ n ∈ l, In64 n) (hu : UOK u) (hm : m.length ≤ 9223372036854775807 ∧ ∀ n ∈ m, In64 n) : PureOK Try.prog 13 [Bn false b, Ls false l, Us false u, Ls false m] (B true) := by
  refine pure_of (walk Try.func13 form13 res13 (by show 4 ≤ _; decide) ?_)
  simp -implicitDefEqProofs (disch := omega) [G13, wrap_id]
  refine callW_pure rfl (fine_ok false false b l hb.len hl.1) ?_
  cases h1 : fineB b l with
  | false =>
    simp -implicitDefEqProofs (disch := omega) [wrap_id]
    exact callW_pure rfl works_ok (by simp)
  | true =>
  obtain ⟨b1, l1, c1⟩ := fine_iff.1 h1
  have ul := hu.1
  by_cases q1 : 50 < l.length
  · have q1' : (50 : Int) < l.length := by omega
    simp -implicitDefEqProofs (disch := omega) [wrap_id, q1']
    exact callW_pure rfl works_ok (by simp)
  by_cases q2 : 60 < u.length
  · have q1' : ¬ (50 : Int) < l.length := by omega
    have q2' : (60 : Int) < u.length := by omega
    simp -implicitDefEqProofs (disch := omega) [wrap_id, q1', q2']
    exact callW_pure rfl works_ok (by simp)
  by_cases q3 : 60 < m.length
  · have q1' : ¬ (50 : Int) < l.length := by omega
    have q2' : ¬ (60 : Int) < u.length := by omega
    have q3' : (60 : Int) < m.length := by omega
    simp -implicitDefEqProofs (disch := omega) [wrap_id, q1', q2', q3']
    exact callW_pure rfl works_ok (by simp)
  have q1' : ¬ (50 : Int) < l.length := by omega
  have q2' : ¬ (60 : Int) < u.length := by omega
  have q3' : ¬ (60 : Int) < m.length := by omega
  simp -implicitDefEqProofs (disch := omega) [wrap_id, q1', q2', q3']
  have sl := (chkL_S8 c1).1
  have sf := form_S8 (b := b) sl
  have x1 := form_len b l
  obtain ⟨k1, k2, k3⟩ := chkL0.1 c1
  obtain ⟨L1, L2, L3⟩ := chkB_zero k1
  have bL := hb.len
  refine callW_pure rfl (rounds_c false false b l (by omega) (by omega)) ?_
  simp -implicitDefEqProofs (disch := omega) [wrap_id]
  refine callW_pure rfl (spine_w false false b l (by omega) (by omega)) ?_
  simp -implicitDefEqProofs (disch := omega) [wrap_id]
  refine callW_pure rfl (firsts_c false false b l (by omega) (by omega)) ?_
  have eS : spineFR b l = spineL b (form b l) := by unfold spineFR; rw [if_neg (by simp [c1])]
  have eR : roundsR b l = rndF b (form b l) := by unfold roundsR; rw [if_neg (by simp [c1])]
  have eF : firstsFR b l = firstsR b (form b l) := by unfold firstsFR; rw [if_neg (by simp [c1])]
  obtain ⟨s1, s2, s3⟩ := spineL_ok (b := b) (form b l)
  obtain ⟨r1, r2, r3⟩ := rnd_pat (b := b) _ (w := form b l) (Nat.le_refl _)
  have sp : spineR b l (spineL b (form b l)) = (((spineL b (form b l)).length : Int), 0) := by
    unfold spineR; rw [if_neg (by simp [c1]), if_neg (by simp [s1]), if_neg (by simp [s2])]
  have spm : (spineR b l m).2 = 0 → (spineR b l m).1 ≤ ((rndF b (form b l)).length : Int) := by
    unfold spineR
    rw [if_neg (by simp [c1])]
    split
    · intro h; simp at h
    · split
      · intro h; simp at h
      · rename_i g1 g2
        intro _
        have := spine_le (b := b) (w := form b l) (sp := m) (by simpa using g1) (by simpa using g2)
        simp only; omega
  have rm := fun r (hr : r ∈ rndF b (form b l)) => rnd_mem (b := b) _ (w := form b l) (Nat.le_refl _) hr
  have r0 : form b l ≠ [] → ∃ q, rndF b (form b l) = firstsR b (form b l) :: q := fun h => ⟨_, rndF_step h⟩
  have r00 : form b l = [] → rndF b (form b l) = [] ∧ firstsR b (form b l) = [] := fun h => by rw [h]; exact ⟨rfl, rfl⟩
  have rg : ∀ {q : List Int}, S8 q → Pat b l q → (rndF b (form b l)).length ≤ grpN b q q.length 0 := fun hq hp => rnd_grp sl hq hp
  have fp := form_sim (b := b) sl
  have fm := fun s (h : s ∈ form b l) => k3 s (form_mem sl h)
  have fmm := fun s (h : s ∈ form b l) => form_mem sl h
  have fl := firstsR_len (b := b) (l := form b l)
  rw [c1, eS, eR, eF]
  generalize form b l = w at *
  generalize spineL b w = sn at *
  generalize firstsR b w = fr at *
  have hR0 : w = [] → rndF b w = [] := fun h => (r00 h).1
  generalize hrs : rndF b w = rs at *
  have n1 : (rs.length : Int) = (sn.length : Int) := by omega
  have n2 : ¬ (l.length : Int) < rs.length := by omega
  simp -implicitDefEqProofs (disch := omega) [wrap_id, s3, n2]
  have rl : ∀ r ∈ rs, r.length ≤ 60 := fun r hr => by
    have : r.length ≤ rs.flatten.length := by
      rw [List.length_flatten]
      exact le_sumL (List.mem_map_of_mem hr)
    omega
  have st : ∀ r ∈ rs, ∀ s ∈ r, strokeB b s = true := fun r hr s hs => fm s ((rm r hr).2.2.1 s hs)
  have sL : ∀ r ∈ rs, (r.length : Int) ≤ b.L := fun r hr => by
    have := lines_le b.L.toNat (rm r hr).2.1 (fun s hs => by have := stroke_line (st r hr s hs); omega) (fun s hs t ht hne => (canB_iff.1 ((rm r hr).2.2.2 s hs t ht hne)).1)
    omega
  have rfl8 : ∀ i, ((rs.take i).flatten).length ≤ 60 := fun i => by
    have : ((rs.take i).flatten).length ≤ rs.flatten.length := by
      have := congrArg List.length (congrArg List.flatten (List.take_append_drop i rs))
      rw [List.flatten_append, List.length_append] at this
      omega
    omega
  refine loop_eq (fun q : Nat × AV × List HObj => ⟨[(1, Ls false l), (2, Us false u), (3, Ls false m), (4, .ref 0 0), (9, LLr rs), (11, Ls sn.isEmpty sn), (13, Ls fr.isEmpty fr), (15, q.2.1), (16, I (q.1 : Int))], q.2.2⟩)
    (fun q => q.1 ≤ rs.length ∧ AccR q.2.2 q.2.1 (rs.take q.1).flatten ∧ rid q.2.1 ≠ some 0 ∧ nthH q.2.2 0 = some (.cells [I b.L, Ps false b.c])) (fun q => rs.length - q.1) (0, .sl true 0 [], _) ⟨Nat.zero_le _, .inl ⟨rfl, by simp⟩, by simp [rid], rfl⟩ rfl ?_
  rintro ⟨i, x, H⟩ ⟨i1, i2, i3, i4⟩
  simp only at i1 i2 i3 i4 ⊢
  refine hideK' fun K0 hK0 => ?_
  simp -implicitDefEqProofs (disch := omega) [wrap_id]
  refine c_split (fun h => ?_) (fun h => ?_)
  · have hi : i < rs.length := by simp at h; omega
    have nx : ((i : Int) + 1) = ((i + 1 : Nat) : Int) := by omega
    obtain ⟨g1, g2, g3, g4⟩ := rm rs[i] (List.getElem_mem hi)
    have g5 := sL rs[i] (List.getElem_mem hi)
    have g6 := st rs[i] (List.getElem_mem hi)
    have g7 := rl rs[i] (List.getElem_mem hi)
    have g8 : ¬ (rs[i].length : Int) < 1 := by have := List.length_pos_iff.2 g1; omega
    have tk : (rs.take (i + 1)).flatten = (rs.take i).flatten ++ rs[i] := by rw [List.take_succ_eq_append_getElem hi, List.flatten_append]; simp
    have f8 := rfl8 i
    generalize hacc : (rs.take i).flatten = acc at *
    simp -implicitDefEqProofs (disch := omega) [wrap_id, cells_lsc, hi]
    generalize hr : rs[i] = r at *
    have g9 : ¬ b.L < (r.length : Int) := by omega
    have H0 := nthH_lt i4
    simp -implicitDefEqProofs (disch := omega) [wrap_id, cells_lsc, hi, hr, g8, i4, g9]
    have sm : ∀ k (h : k < r.length), -1000000 ≤ r[k] ∧ r[k] ≤ 1000000 := fun k h => by
      have := g6 r[k] (List.getElem_mem h)
      unfold strokeB at this; simp at this; omega
    refine loop_eq (fun k : Nat => ⟨[(1, Ls false l), (2, Us false u), (3, Ls false m), (4, .ref 0 0), (9, LLr rs), (11, Ls sn.isEmpty sn), (13, Ls fr.isEmpty fr), (15, x), (16, I (i : Int)), (17, I (k : Int))], H⟩) (fun k => k ≤ r.length) (fun k => r.length - k) 0 (Nat.zero_le _) rfl ?_
    intro k hk
    refine hideK' fun K1 hK1 => ?_
    simp -implicitDefEqProofs (disch := omega) [wrap_id, cells_lsc, hi, hr]
    refine c_split (fun h => ?_) (fun h => ?_)
    · have hk : k < r.length := by simp at h; omega
      have kx : ((k : Int) + 1) = ((k + 1 : Nat) : Int) := by omega
      have smk := sm k hk
      have sk := g6 r[k] (List.getElem_mem hk)
      simp -implicitDefEqProofs (disch := omega) [wrap_id, cells_lsc, cells_ls, hi, hr, hk, i4, H0]
      refine pureW_of rfl (isStroke_ok false b (by omega) r[k]) ?_
      rw [show ((decide (1 ≤ r[k]) && decide (r[k] ≤ b.L)) || (decide (r[k] ≤ -1) && decide (-b.L ≤ r[k]))) = true from sk]
      simp -implicitDefEqProofs (disch := omega) [wrap_id]
      refine loop_eq (fun j : Nat => ⟨[(1, Ls false l), (2, Us false u), (3, Ls false m), (4, .ref 0 0), (9, LLr rs), (11, Ls sn.isEmpty sn), (13, Ls fr.isEmpty fr), (15, x), (16, I (i : Int)), (17, I (k : Int)), (18, I (j : Int))], H⟩) (fun j => j ≤ k) (fun j => k - j) 0 (Nat.zero_le _) rfl ?_
      intro j hj
      refine hideK' fun K2 hK2 => ?_
      simp -implicitDefEqProofs (disch := omega) [wrap_id]
      refine c_split (fun h => ?_) (fun h => ?_)
      · have hj : j < k := by simp at h; omega
        have hjr : j < r.length := by omega
        have jx : ((j : Int) + 1) = ((j + 1 : Nat) : Int) := by omega
        have smj := sm j hjr
        have hne : r[j] ≠ r[k] := (List.pairwise_iff_getElem.1 g2) j k hjr hk hj
        have cjk := g4 r[j] (List.getElem_mem hjr) r[k] (List.getElem_mem hk) hne
        simp -implicitDefEqProofs (disch := omega) [wrap_id, cells_lsc, cells_ls, hi, hr, hk, hjr, i4, H0]
        refine pureW_of rfl (refCan_ok false b (by omega) r[j] r[k] smj smk) ?_
        rw [cjk]
        simp -implicitDefEqProofs (disch := omega) [wrap_id]
        rw [hK2]
        exact next_eq (j + 1) (by omega) (by omega) (by simp only [jx])
      · subst hK2
        simp -implicitDefEqProofs (disch := omega) [wrap_id]
        rw [hK1]
        exact next_eq (k + 1) (by omega) (by omega) (by simp only [kx])
    · have hk : k = r.length := by simp at h; omega
      subst hk
      subst hK1
      simp -implicitDefEqProofs (disch := omega) [wrap_id, cells_lsc, hi, hr]
      refine app_rowL i2.row (by omega) (by omega) fun ws w1 w2 w3 _ => ?_
      simp -implicitDefEqProofs (disch := omega) [wrap_id]
      rw [hK0]
      refine next_eq (i + 1, .ms H.length 0 (acc.length + r.length) 1, writeL H ws) ⟨by simp only; omega, ?_, fun e => by have := Option.some.inj e; omega, (w1 0 H0 i3).trans i4⟩ (by simp only; omega) (by simp only [nx])
      simp only
      rw [tk]
      exact .inr ⟨H.length, by rw [List.length_append], by simp [g1], w3⟩
  · have hi : i = rs.length := by simp at h; omega
    subst hi
    subst hK0
    rw [List.take_length] at i2
    have H0 := nthH_lt i4
    obtain ⟨ff, ids, pj, hids⟩ := i2.pur
    have cj : chkL b rs.flatten = 0 := chkL_sub c1 (by omega) fun s hs => by
      obtain ⟨r, hr, hs⟩ := List.mem_flatten.1 hs
      exact fmm s ((rm r hr).2.2.1 s hs)
    have sj : sameR b l rs.flatten = 0 := (sameR_pat c1 cj).2 (fp.trans r1)
    have lj : ¬ (l.length : Int) < rs.flatten.length := by omega
    generalize rs.flatten = J at *
    simp -implicitDefEqProofs (disch := omega) [wrap_id, len_row i2.row, lj, i4]
    refine callW_pure (purAll3 bn_pur ls_pur pj) (same_ok false false ff b l J (by omega) (by omega) (by omega)) ?_
    rw [sj]
    simp -implicitDefEqProofs (disch := omega) [wrap_id]
    have w0 : rs.length = 0 → w = [] := fun h => by
      refine Classical.byContradiction fun hne => ?_
      obtain ⟨q, hq⟩ := r0 hne
      rw [hq] at h; simp at h
    obtain ⟨p1, p2⟩ := moved_pat (u := u) c1
    have mo := moved_ok false false false b l u c1 ⟨by omega, hu.2⟩
    generalize movedR b u l [] = mv at *
    obtain ⟨now, out⟩ := mv
    simp only at p1 p2 mo
    obtain ⟨sn8, nl⟩ := chkL_S8 p2
    have gr := rg sn8 p1
    have nsm := sn8.small
    by_cases h0 : rs.length = 0
    all_goals first
    | have hf0 := (r00 (w0 h0)).2
      have hf1 : fr.length = 0 := by rw [hf0]; rfl
      simp -implicitDefEqProofs (disch := omega) [wrap_id, h0, hf1, i4]
    | have hw0 : w ≠ [] := fun e => h0 (by rw [(r00 e).1]; rfl)
      obtain ⟨q, hq⟩ := r0 hw0
      have hp0 : 0 < rs.length := by omega
      have hq0 : rs[0] = fr := by simp [hq]
      have hfl : fr.length ≤ 60 := by omega
      have hz : ((rs.length : Int) == 0) = false := by rw [beq_eq_false_iff_ne]; omega
      simp -implicitDefEqProofs (disch := omega) [wrap_id, hp0, cells_lsc, hq0]
      refine callW_pure rfl (equal_ok false fr.isEmpty fr fr (by omega) (by omega)) ?_
      simp -implicitDefEqProofs (disch := omega) [wrap_id, hz, i4]
    all_goals
      refine callW_pure rfl (spine_c false false sn.isEmpty b l sn (by omega) (by omega) (by omega)) ?_
      rw [sp]
      simp -implicitDefEqProofs (disch := omega) [wrap_id, n1, s3, i4]
      refine callW_pure rfl mo ?_
      simp -implicitDefEqProofs (disch := omega) [wrap_id]
      refine loop_eq (fun q : Nat × Nat => ⟨[(1, Ls false l), (3, Ls false m), (4, .ref 0 0), (19, I (sn.length : Int)), (21, Ls false now), (23, I (q.1 : Int)), (24, I (q.2 : Int))], H⟩)
        (fun q => q.2 ≤ now.length ∧ q.1 ≤ q.2 ∧ ∃ n, grpN b now now.length 0 = q.1 + grpN b now n q.2 ∧ now.length - q.2 ≤ n) (fun q => now.length - q.2) (0, 0) ⟨Nat.zero_le _, Nat.le_refl _, now.length, by simp, by simp⟩ rfl ?_
      rintro ⟨cnt, i⟩ ⟨j1, j2, n, j3, j4⟩
      simp only at j1 j2 j3 j4 ⊢
      refine hideK' fun K0 hK0 => ?_
      simp -implicitDefEqProofs (disch := omega) [wrap_id]
      refine c_split (fun h => ?_) (fun h => ?_)
      · have hi : i < now.length := by simp at h; omega
        obtain ⟨n, rfl⟩ : ∃ n', n = n' + 1 := ⟨n - 1, by omega⟩
        simp only [grpN] at j3
        rw [if_pos hi] at j3
        have gx1 : GrpX b ([] ++ [now[i]]) := List.pairwise_singleton ..
        have ix : ((i : Int) + 1) = ((i + 1 : Nat) : Int) := by omega
        have ge := (endG_ok (b := b) (m := now) (i := i) (now.length - (i + 1)) (i + 1) (by omega) hi (by
          rw [List.take_succ_eq_append_getElem hi, List.drop_append_of_le_length (by rw [List.length_take]; omega), List.drop_eq_nil_of_le (by rw [List.length_take]; omega)]
          exact gx1)).1
        generalize hE : endG b now i (now.length - (i + 1)) (i + 1) = e at *
        have ill := nthH_lt i4
        simp -implicitDefEqProofs (disch := omega) [wrap_id]
        refine loop_eq (fun k : Nat => ⟨[(1, Ls false l), (3, Ls false m), (4, .ref 0 0), (19, I (sn.length : Int)), (21, Ls false now), (23, I (cnt : Int)), (24, I (i : Int)), (25, I (k : Int))], H⟩)
          (fun k => i < k ∧ k ≤ now.length ∧ endG b now i (now.length - k) k = e) (fun k => now.length - k) (i + 1) ⟨by omega, by omega, hE⟩ (by simp only [← ix]) ?_
        rintro k ⟨k1, k2, k3⟩
        refine hideK' fun K1 hK1 => ?_
        simp -implicitDefEqProofs (disch := omega) [wrap_id]
        refine dd_split (fun h => ?_) (fun h => ?_)
        · have hk : k < now.length := by simpa using h
          have kx : ((k : Int) + 1) = ((k + 1 : Nat) : Int) := by omega
          have ek : now.length - k = (now.length - (k + 1)) + 1 := by omega
          rw [ek] at k3
          simp only [endG] at k3
          have gd : now.getD k 0 = now[k] := by simp [hk]
          rw [gd] at k3
          have sl8 : Small ((now.take k).drop i) := fun t ht => nsm t (List.mem_of_mem_take (List.mem_of_mem_drop ht))
          have lk : ((now.take k).drop i).length = k - i := by simp; omega
          have nk := nsm now[k] (List.getElem_mem hk)
          have eS : AV.sl false (k - i) (List.take (k - i) (List.drop i (List.map (fun n => I n) now))) = Ls false ((now.take k).drop i) := by
            show AV.sl _ _ _ = AV.sl _ _ _
            rw [lk, List.drop_take, List.map_take, List.map_drop]
          simp -implicitDefEqProofs (disch := omega) [wrap_id, i4, ill, cells_ls, hk]
          refine ⟨⟨by omega, by omega⟩, ?_⟩
          rw [eS]
          refine pureW_of rfl (free_ok false false b _ now[k] (by omega) (by omega) sl8 nk) ?_
          cases hall : ((now.take k).drop i).all fun t => canB b t now[k] with
          | true =>
            rw [hall, if_pos ⟨hk, rfl⟩] at k3
            simp -implicitDefEqProofs (disch := omega) [wrap_id]
            rw [hK1]
            exact next_eq (k + 1) ⟨by omega, by omega, k3⟩ (by omega) (by simp only [kx])
          | false =>
            rw [hall, if_neg (by simp)] at k3
            simp -implicitDefEqProofs (disch := omega) [wrap_id]
            subst hK1
            simp -implicitDefEqProofs (disch := omega) [wrap_id]
            rw [hK0]
            exact next_eq (cnt + 1, k) ⟨by simp only; omega, by simp only; omega, n, by simp only; rw [k3]; omega, by simp only; omega⟩ (by simp only; omega) (by simp)
        · have hk : k = now.length := by have : ¬ k < now.length := by simpa using h
                                         omega
          have ek : now.length - k = 0 := by omega
          rw [ek] at k3
          simp only [endG] at k3
          have nk : ¬ k < now.length := by omega
          simp -implicitDefEqProofs (disch := omega) [wrap_id, nk]
          subst hK1
          simp -implicitDefEqProofs (disch := omega) [wrap_id]
          rw [hK0]
          exact next_eq (cnt + 1, k) ⟨by simp only; omega, by simp only; omega, n, by simp only; rw [k3]; omega, by simp only; omega⟩ (by simp only; omega) (by simp)
      · have hi : i = now.length := by simp at h; omega
        subst hi
        subst hK0
        have g0 : grpN b now n now.length = 0 := by
          cases n with
          | zero => rfl
          | succ n => simp only [grpN]; rw [if_neg (by omega)]
        have cn : (sn.length : Int) ≤ cnt := by omega
        simp -implicitDefEqProofs (disch := omega) [wrap_id, i4]
        refine callW_pure rfl (spine_c false false false b l m (by omega) (by omega) (by omega)) ?_
        by_cases he : (spineR b l m).2 = 0
        · have hm := spm he
          have hm' : (spineR b l m).1 ≤ (sn.length : Int) := by omega
          simp -implicitDefEqProofs (disch := omega) [wrap_id, cn, he, hm']
          exact callW_pure rfl works_ok (by simp)
        · have he' : ((spineR b l m).2 != 0) = true := by simpa using he
          simp -implicitDefEqProofs (disch := omega) [wrap_id, cn, he']
          exact callW_pure rfl works_ok (by simp)

end Go.AM
