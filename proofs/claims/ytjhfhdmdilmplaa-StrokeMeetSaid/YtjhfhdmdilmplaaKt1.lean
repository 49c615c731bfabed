/-
  THE COMPILED FORMS of functions of the program, each held against its body by the kernel. Own work (printed by a program of this claim).
  STATEMENTS ONE BY ONE: what a part of a function does, by its meaning; so private lists may turn into values between two statements. Own work.
  THE COMPILED FORMS of functions of the program, each held against its body by the kernel. Own work (printed by a program of this claim).
  LAWS, PART 1: StrokeBenches. Own work.
  LAWS: StrokeMeet. Own work.
-/
import Derived.Test.YtjhfhdmdilmplaaKq13
import Derived.Test.YtjhfhdmdilmplaaProg

/- THE COMPILED FORMS of functions of the program, each held against its body by the kernel. Own work (printed by a program of this claim). -/
set_option maxRecDepth 100000
namespace Go.AM
open Go.RowKit Go.Proofs

/-- oxgall/oxgalllaw02.StrokeMeet -/
def G15 : AC := (.seq (.rgn [⟨none, [(.box 4 2 (.t 0)), (.mv 8 (.k (B false)))]⟩] [1, 2, 3, 4]) (.seq (.seq (.rgn [⟨none, [(.ld 29 true 2 (.t 4)), (.mv 30 (.t 1)), (.call 31 47 [(.t 29), (.t 30)]), (.un 32 .not (.t 31)), (.mv 33 (.t 32))]⟩, ⟨(some (33, false)), [(.ld 34 true 2 (.t 4)), (.mv 35 (.t 2)), (.call 36 47 [(.t 34), (.t 35)]), (.un 37 .not (.t 36))]⟩, ⟨none, [(.pick 38 (.t 33) (.k (B true)) (.t 37)), (.mv 39 (.t 38))]⟩, ⟨(some (39, false)), [(.ld 40 true 2 (.t 4)), (.mv 41 (.t 3)), (.call 42 47 [(.t 40), (.t 41)]), (.un 43 .not (.t 42))]⟩, ⟨none, [(.pick 44 (.t 39) (.k (B true)) (.t 43)), (.mv 45 (.t 44))]⟩, ⟨(some (45, false)), [(.mv 46 (.t 1)), (.len 47 (.t 46)), (.bin 48 .gtr (.t 47) (.k (I 20)))]⟩, ⟨none, [(.pick 49 (.t 45) (.k (B true)) (.t 48)), (.mv 50 (.t 49))]⟩, ⟨(some (50, false)), [(.mv 51 (.t 2)), (.len 52 (.t 51)), (.bin 53 .gtr (.t 52) (.k (I 20)))]⟩, ⟨none, [(.pick 54 (.t 50) (.k (B true)) (.t 53)), (.mv 55 (.t 54))]⟩, ⟨(some (55, false)), [(.mv 56 (.t 3)), (.len 57 (.t 56)), (.bin 58 .gtr (.t 57) (.k (I 20)))]⟩, ⟨none, [(.pick 59 (.t 55) (.k (B true)) (.t 58))]⟩] [1, 2, 3, 4, 59]) (.cond (.t 59) (.seq (.rgn [⟨none, [(.call 60 19 []), (.mv 8 (.t 60))]⟩] [8]) .ret) .skip)) (.seq (.rgn [⟨none, [(.ld 62 true 2 (.t 4)), (.mv 63 (.t 1)), (.call 64 24 [(.t 62), (.t 63)]), (.mv 61 (.t 64)), (.ext 65 (.t 61) 0), (.ext 66 (.t 61) 1), (.mv 9 (.t 65)), (.mv 10 (.t 66))]⟩] [1, 2, 3, 4, 9, 10]) (.seq (.rgn [⟨none, [(.ld 68 true 2 (.t 4)), (.mv 69 (.t 2)), (.call 70 24 [(.t 68), (.t 69)]), (.mv 67 (.t 70)), (.ext 71 (.t 67) 0), (.ext 72 (.t 67) 1), (.mv 11 (.t 71)), (.mv 12 (.t 72))]⟩] [1, 2, 3, 4, 9, 10, 11, 12]) (.seq (.rgn [⟨none, [(.ld 74 true 2 (.t 4)), (.mv 75 (.t 1)), (.mv 76 (.t 2)), (.call 77 45 [(.t 74), (.t 75), (.t 76)]), (.mv 73 (.t 77)), (.ext 78 (.t 73) 0), (.ext 79 (.t 73) 1), (.mv 13 (.t 78)), (.mv 14 (.t 79))]⟩] [1, 2, 3, 4, 9, 10, 11, 12, 13, 14]) (.seq (.rgn [⟨none, [(.ld 81 true 2 (.t 4)), (.mv 82 (.t 2)), (.mv 83 (.t 1)), (.call 84 45 [(.t 81), (.t 82), (.t 83)]), (.mv 80 (.t 84)), (.ext 85 (.t 80) 0), (.ext 86 (.t 80) 1), (.mv 15 (.t 85)), (.mv 16 (.t 86))]⟩] [1, 2, 3, 4, 9, 10, 11, 12, 13, 14, 15, 16]) (.seq (.rgn [⟨none, [(.ld 88 true 2 (.t 4)), (.mv 89 (.t 1)), (.mv 90 (.t 2)), (.call 91 43 [(.t 88), (.t 89), (.t 90)]), (.mv 87 (.t 91)), (.ext 92 (.t 87) 0), (.ext 93 (.t 87) 1), (.mv 17 (.t 92)), (.mv 18 (.t 93))]⟩] [1, 2, 3, 4, 9, 10, 11, 12, 13, 14, 15, 16, 17, 18]) (.seq (.seq (.rgn [⟨none, [(.mv 94 (.t 10)), (.bin 95 .neq (.t 94) (.k (I 0))), (.mv 96 (.t 95))]⟩, ⟨(some (96, false)), [(.mv 97 (.t 12)), (.bin 98 .neq (.t 97) (.k (I 0)))]⟩, ⟨none, [(.pick 99 (.t 96) (.k (B true)) (.t 98)), (.mv 100 (.t 99))]⟩, ⟨(some (100, false)), [(.mv 101 (.t 14)), (.bin 102 .neq (.t 101) (.k (I 0)))]⟩, ⟨none, [(.pick 103 (.t 100) (.k (B true)) (.t 102)), (.mv 104 (.t 103))]⟩, ⟨(some (104, false)), [(.mv 105 (.t 16)), (.bin 106 .neq (.t 105) (.k (I 0)))]⟩, ⟨none, [(.pick 107 (.t 104) (.k (B true)) (.t 106)), (.mv 108 (.t 107))]⟩, ⟨(some (108, false)), [(.mv 109 (.t 18)), (.bin 110 .neq (.t 109) (.k (I 0)))]⟩, ⟨none, [(.pick 111 (.t 108) (.k (B true)) (.t 110)), (.mv 112 (.t 111))]⟩, ⟨(some (112, false)), [(.ld 113 true 2 (.t 4)), (.mv 114 (.t 13)), (.call 115 47 [(.t 113), (.t 114)]), (.un 116 .not (.t 115))]⟩, ⟨none, [(.pick 117 (.t 112) (.k (B true)) (.t 116)), (.mv 118 (.t 117))]⟩, ⟨(some (118, false)), [(.mv 119 (.t 13)), (.mv 120 (.t 15)), (.call 121 26 [(.t 119), (.t 120)]), (.un 122 .not (.t 121))]⟩, ⟨none, [(.pick 123 (.t 118) (.k (B true)) (.t 122)), (.mv 124 (.t 123))]⟩, ⟨(some (124, false)), [(.mv 125 (.t 9)), (.len 126 (.t 125)), (.mv 127 (.t 11)), (.len 128 (.t 127)), (.bin 129 .add (.t 126) (.t 128)), (.mv 130 (.t 17)), (.len 131 (.t 130)), (.mv 132 (.t 13)), (.len 133 (.t 132)), (.bin 134 .mul (.k (I 2)) (.t 133)), (.bin 135 .add (.t 131) (.t 134)), (.bin 136 .neq (.t 129) (.t 135))]⟩, ⟨none, [(.pick 137 (.t 124) (.k (B true)) (.t 136))]⟩] [1, 2, 3, 4, 9, 11, 13, 137]) (.cond (.t 137) (.seq (.rgn [⟨none, [(.mv 8 (.k (B false)))]⟩] [8]) .ret) .skip)) (.seq (.rgn [⟨none, [(.ld 139 true 2 (.t 4)), (.mv 140 (.t 13)), (.mv 141 (.t 1)), (.call 142 43 [(.t 139), (.t 140), (.t 141)]), (.mv 138 (.t 142)), (.ext 143 (.t 138) 0), (.ext 144 (.t 138) 1), (.mv 19 (.t 143)), (.mv 10 (.t 144))]⟩] [1, 2, 3, 4, 9, 10, 11, 13, 19]) (.seq (.rgn [⟨none, [(.ld 146 true 2 (.t 4)), (.mv 147 (.t 13)), (.mv 148 (.t 2)), (.call 149 43 [(.t 146), (.t 147), (.t 148)]), (.mv 145 (.t 149)), (.ext 150 (.t 145) 0), (.ext 151 (.t 145) 1), (.mv 20 (.t 150)), (.mv 12 (.t 151))]⟩] [1, 2, 3, 4, 9, 10, 11, 12, 13, 19, 20]) (.seq (.seq (.rgn [⟨none, [(.mv 152 (.t 10)), (.bin 153 .neq (.t 152) (.k (I 0))), (.mv 154 (.t 153))]⟩, ⟨(some (154, false)), [(.mv 155 (.t 12)), (.bin 156 .neq (.t 155) (.k (I 0)))]⟩, ⟨none, [(.pick 157 (.t 154) (.k (B true)) (.t 156)), (.mv 158 (.t 157))]⟩, ⟨(some (158, false)), [(.mv 159 (.t 13)), (.len 160 (.t 159)), (.mv 161 (.t 19)), (.len 162 (.t 161)), (.bin 163 .add (.t 160) (.t 162)), (.mv 164 (.t 9)), (.len 165 (.t 164)), (.bin 166 .neq (.t 163) (.t 165))]⟩, ⟨none, [(.pick 167 (.t 158) (.k (B true)) (.t 166)), (.mv 168 (.t 167))]⟩, ⟨(some (168, false)), [(.mv 169 (.t 13)), (.len 170 (.t 169)), (.mv 171 (.t 20)), (.len 172 (.t 171)), (.bin 173 .add (.t 170) (.t 172)), (.mv 174 (.t 11)), (.len 175 (.t 174)), (.bin 176 .neq (.t 173) (.t 175))]⟩, ⟨none, [(.pick 177 (.t 168) (.k (B true)) (.t 176))]⟩] [1, 2, 3, 4, 9, 11, 177]) (.cond (.t 177) (.seq (.rgn [⟨none, [(.mv 8 (.k (B false)))]⟩] [8]) .ret) .skip)) (.seq (.rgn [⟨none, [(.bsl 178 0 1 [(I 0)] []), (.mv 179 (.t 3)), (.app 180 1 8 (.t 178) (.t 179)), (.mv 181 (.t 1)), (.app 182 1 8 (.t 180) (.t 181)), (.bsl 183 0 1 [(I 0)] []), (.mv 184 (.t 3)), (.app 185 1 8 (.t 183) (.t 184)), (.mv 186 (.t 2)), (.app 187 1 8 (.t 185) (.t 186)), (.mv 21 (.t 182)), (.mv 22 (.t 187))]⟩] [3, 4, 9, 11, 21, 22]) (.seq (.rgn [⟨none, [(.ld 189 true 2 (.t 4)), (.mv 190 (.t 3)), (.call 191 24 [(.t 189), (.t 190)]), (.mv 188 (.t 191)), (.ext 192 (.t 188) 0), (.ext 193 (.t 188) 1), (.mv 23 (.t 192)), (.mv 10 (.t 193))]⟩] [3, 4, 9, 10, 11, 21, 22, 23]) (.seq (.rgn [⟨none, [(.ld 195 true 2 (.t 4)), (.mv 196 (.t 21)), (.call 197 24 [(.t 195), (.t 196)]), (.mv 194 (.t 197)), (.ext 198 (.t 194) 0), (.ext 199 (.t 194) 1), (.mv 24 (.t 198)), (.mv 12 (.t 199))]⟩] [3, 4, 9, 10, 11, 12, 21, 22, 23, 24]) (.seq (.rgn [⟨none, [(.ld 201 true 2 (.t 4)), (.mv 202 (.t 22)), (.call 203 24 [(.t 201), (.t 202)]), (.mv 200 (.t 203)), (.ext 204 (.t 200) 0), (.ext 205 (.t 200) 1), (.mv 25 (.t 204)), (.mv 14 (.t 205))]⟩] [3, 4, 9, 10, 11, 12, 14, 21, 22, 23, 24, 25]) (.seq (.rgn [⟨none, [(.ld 207 true 2 (.t 4)), (.mv 208 (.t 21)), (.mv 209 (.t 22)), (.call 210 45 [(.t 207), (.t 208), (.t 209)]), (.mv 206 (.t 210)), (.ext 211 (.t 206) 0), (.ext 212 (.t 206) 1), (.mv 26 (.t 211)), (.mv 16 (.t 212))]⟩] [3, 4, 9, 10, 11, 12, 14, 16, 23, 24, 25, 26]) (.seq (.seq (.rgn [⟨none, [(.mv 213 (.t 10)), (.bin 214 .neq (.t 213) (.k (I 0))), (.mv 215 (.t 214))]⟩, ⟨(some (215, false)), [(.mv 216 (.t 12)), (.bin 217 .neq (.t 216) (.k (I 0)))]⟩, ⟨none, [(.pick 218 (.t 215) (.k (B true)) (.t 217)), (.mv 219 (.t 218))]⟩, ⟨(some (219, false)), [(.mv 220 (.t 14)), (.bin 221 .neq (.t 220) (.k (I 0)))]⟩, ⟨none, [(.pick 222 (.t 219) (.k (B true)) (.t 221)), (.mv 223 (.t 222))]⟩, ⟨(some (223, false)), [(.mv 224 (.t 16)), (.bin 225 .neq (.t 224) (.k (I 0)))]⟩, ⟨none, [(.pick 226 (.t 223) (.k (B true)) (.t 225)), (.mv 227 (.t 226))]⟩, ⟨(some (227, false)), [(.ld 228 true 2 (.t 4)), (.mv 229 (.t 26)), (.call 230 47 [(.t 228), (.t 229)]), (.un 231 .not (.t 230))]⟩, ⟨none, [(.pick 232 (.t 227) (.k (B true)) (.t 231))]⟩] [3, 4, 9, 11, 23, 24, 25, 26, 232]) (.cond (.t 232) (.seq (.rgn [⟨none, [(.mv 8 (.k (B false)))]⟩] [8]) .ret) .skip)) (.seq (.seq (.rgn [⟨none, [(.mv 233 (.t 24)), (.len 234 (.t 233)), (.mv 235 (.t 23)), (.len 236 (.t 235)), (.mv 237 (.t 9)), (.len 238 (.t 237)), (.bin 239 .add (.t 236) (.t 238)), (.bin 240 .neq (.t 234) (.t 239)), (.mv 241 (.t 240))]⟩, ⟨(some (241, false)), [(.mv 242 (.t 25)), (.len 243 (.t 242)), (.mv 244 (.t 23)), (.len 245 (.t 244)), (.mv 246 (.t 11)), (.len 247 (.t 246)), (.bin 248 .add (.t 245) (.t 247)), (.bin 249 .neq (.t 243) (.t 248))]⟩, ⟨none, [(.pick 250 (.t 241) (.k (B true)) (.t 249))]⟩] [3, 4, 23, 26, 250]) (.cond (.t 250) (.seq (.rgn [⟨none, [(.call 251 19 []), (.mv 8 (.t 251))]⟩] [8]) .ret) .skip)) (.seq (.rgn [⟨none, [(.ld 253 true 2 (.t 4)), (.mv 254 (.t 3)), (.mv 255 (.t 26)), (.call 256 43 [(.t 253), (.t 254), (.t 255)]), (.mv 252 (.t 256)), (.ext 257 (.t 252) 0), (.ext 258 (.t 252) 1), (.mv 27 (.t 257)), (.mv 28 (.t 258))]⟩] [23, 26, 27, 28]) (.seq (.rgn [⟨none, [(.mv 259 (.t 28)), (.bin 260 .eql (.t 259) (.k (I 0))), (.mv 261 (.t 260))]⟩, ⟨(some (261, true)), [(.mv 262 (.t 23)), (.len 263 (.t 262)), (.mv 264 (.t 27)), (.len 265 (.t 264)), (.bin 266 .add (.t 263) (.t 265)), (.mv 267 (.t 26)), (.len 268 (.t 267)), (.bin 269 .eql (.t 266) (.t 268))]⟩, ⟨none, [(.pick 270 (.t 261) (.t 269) (.k (B false))), (.mv 271 (.t 270))]⟩, ⟨(some (271, true)), [(.call 272 19 [])]⟩, ⟨none, [(.pick 273 (.t 271) (.t 272) (.k (B false))), (.mv 8 (.t 273))]⟩] [8]) .ret))))))))))))))))))))
theorem form15 : formOf Try.prog Try.f15 [8] = some G15 := by kernel_rfl
theorem res15 : resTmps Try.f15.results.toList = some [8] := by kernel_rfl

end Go.AM

/- STATEMENTS ONE BY ONE: what a part of a function does, by its meaning; so private lists may turn into values between two statements. Own work. -/
set_option linter.unusedSimpArgs false
set_option linter.unusedVariables false
namespace Go.AM
open Go.RowKit Go.Proofs

variable {P : Program}

/-- From a state on, a part does what is asked. -/
def AWS (P : Program) (ac : AC) (st : St) (Q : Exit → St → Prop) : Prop :=
  ∀ (N : Nat) (c : Go.Code) (a : Act) (w : World) (g : G) (R : Exit → Act → World → Prop) (ro : Option Nat) (n : Nat),
    Fits P N c ac → (ro = none ∨ ac.noRf = true) → Sim N st a w g → Lands N st a w g Q R → c.wpIn (W ro) n P R a w

theorem aws_of {ac : AC} {st : St} {Q : Exit → St → Prop} (h : AWP P (E1 P) ac st Q) : AWS P ac st Q := fun N c a w g R ro n hf hr hs hl =>
  fits_sound (E := E1 P) (w1 := w) (g1 := g) ys_E1 rs_E1 hf hr h (.refl _ _) hs hl

theorem aws_le {ac : AC} {st st' : St} {Q : Exit → St → Prop} (hle : St.le st st') (h : AWS P ac st' Q) : AWS P ac st Q := fun N c a w g R ro n hf hr hs hl => by
  obtain ⟨g2, hs2, hu2⟩ := hle N a w g hs
  exact h _ _ _ _ _ _ _ _ hf hr hs2 fun e st2 a2 w2 g3 q2 s2 u2 d2 => hl e st2 a2 w2 g3 q2 s2 (hu2.trans u2) d2

theorem aws_seq {x y : AC} {st : St} {Q : Exit → St → Prop} (h : AWS P x st (Exit.th (fun st => AWS P y st Q) Q)) : AWS P (.seq x y) st Q := fun N c a w g R ro n hf hr hs hl => by
  cases c <;> first | exact hf.elim | skip
  rename_i c1 c2
  have hr1 : ro = none ∨ x.noRf = true := hr.imp (fun h => h) (fun h => by simp [AC.noRf] at h; exact h.1)
  have hr2 : ro = none ∨ y.noRf = true := hr.imp (fun h => h) (fun h => by simp [AC.noRf] at h; exact h.2)
  refine wpIn_seq (h _ _ _ _ _ _ _ _ hf.1 hr1 hs fun e st' a' w' g' hq hs' hu hd => ?_)
  cases e with
  | normal => exact hq _ _ _ _ _ _ _ _ hf.2 hr2 hs' (fun e st2 a2 w2 g2 q2 s2 u2 d2 => hl e st2 a2 w2 g2 q2 s2 (hu.trans u2) (hd.trans hu.tr.size u2 d2))
  | _ => exact hl _ _ _ _ _ hq hs' hu hd

/-- One statement, then the others. -/
theorem aws_step {x y : AC} {st : St} {Q : Exit → St → Prop} (h : AWP P (E1 P) x st (Exit.th (fun st => AWS P y st Q) Q)) : AWS P (.seq x y) st Q := aws_seq (aws_of h)

theorem callW_aws {f : FuncId} {fn : Func} {ac : AC} {ts : List Nat} {xs : List AV} {hp : List HObj} {K : AV → List HObj → Prop} (hf : P.funcs[f]? = some fn) (hc : formOf P fn ts = some ac) (hr : resTmps fn.results.toList = some ts)
    (hl : xs.length ≤ fn.ntmps) (h : AWS P ac { fr := argFr 0 xs, hp := hp } (RetQ ts K)) : CallW P f xs hp K := by
  simp only [formOf, Option.map_eq_some_iff] at hc
  obtain ⟨c, hb, rfl⟩ := hc
  have hfit := ann_fits (P := P) (N := fn.ntmps) (rt := ts) (ex := []) (l := ts) (comp_fits c)
  have hr := resTmps_C (P := P) hr
  rw [← retC_tmps] at h
  intro ro n w g vs hok hvs hrep
  have go : CallsIn (W none) n P f vs w fun e w' => ∃ v r hp' g', e = .returned v ∧ K r hp' ∧ Rep w' g' false r v ∧ HeapOK (hpf hp') g' w' ∧ Upd (hpf hp) g w (hpf hp') g' w' := by
    refine callsIn_of_wp_marks hf hb trivial (h _ _ _ _ g _ _ _ hfit (.inl rfl) ?_ ?_) rfl
    · refine ⟨by simp [hvs]; omega, fun t => ?_, hok⟩
      show Rep w g false (get (argFr 0 xs) t) _
      rw [argFr_get]
      simp only [Nat.zero_le, if_true, Nat.sub_zero]
      by_cases ht : t < xs.length
      · have e1 : xs.getD t .any = xs[t] := by simp [ht]
        rw [e1]
        have := hrep t ht
        simp only [Array.getD_eq_getD_getElem?] at this ⊢
        rw [Array.getElem?_append_left (by omega)]
        exact this
      · have e1 : xs.getD t .any = .any := by simp [Nat.le_of_not_lt ht]
        rw [e1]; exact .any _ _
    · intro e st' a' w' g' hq hs hu hd
      obtain ⟨ms, d1, d2, d3⟩ := hd
      simp only [List.append_nil] at d1
      have fin : (∃ xs, resC (hpf st'.hp) st'.fr (ts.map (·, none)) xs ∧ K (tupOf xs) st'.hp) → LeavesInM (W none) n P fn a'.tmps (fun e w' => ∃ v r hp' g', e = .returned v ∧ K r hp' ∧ Rep w' g' false r v ∧ HeapOK (hpf hp') g' w' ∧ Upd (hpf hp) g w (hpf hp') g' w') a'.defers .returning w' := fun ⟨ys, hy, hK⟩ => by
        rw [d1]
        obtain ⟨k1, k2, k3⟩ := take_marks ms w' d2 d3 hs.2.2 hu
        refine leaves_marks ms w' d2 (fun D hD => (d3 D hD).2.1) ?_
        obtain ⟨v, j1, j2⟩ := run_resultsC (P := P) k1 (fun i => (hs.2.1 i).mono k3) hr hy
        exact ⟨v, j1, v, _, _, g', rfl, hK, j2, k1, k2⟩
      cases e with
      | normal => exact fin hq
      | ret => exact fin hq
      | _ => exact hq.elim
  exact go

end Go.AM

/- THE COMPILED FORMS of functions of the program, each held against its body by the kernel. Own work (printed by a program of this claim). -/
set_option maxRecDepth 100000
namespace Go.AM
open Go.RowKit Go.Proofs

/-- oxgall/oxgalllaw02.StrokeBenches -/
def G3 : AC := (.seq (.rgn [⟨none, [(.box 2 2 (.t 0)), (.mv 4 (.k (B false)))]⟩] [1, 2]) (.seq (.seq (.rgn [⟨none, [(.ld 5 true 2 (.t 2)), (.call 6 18 [(.t 5)]), (.mv 7 (.t 6))]⟩, ⟨(some (7, false)), [(.mv 8 (.t 1)), (.len 9 (.t 8)), (.bin 10 .gtr (.t 9) (.k (I 70)))]⟩, ⟨none, [(.pick 11 (.t 7) (.k (B true)) (.t 10))]⟩] [1, 2, 11]) (.cond (.t 11) (.seq (.rgn [⟨none, [(.call 12 19 []), (.mv 4 (.t 12))]⟩] [4]) .ret) .skip)) (.seq (.drw [⟨none, [(.ld 13 true 2 (.t 2)), (.call 14 20 [(.t 13)]), (.ld 15 true 2 (.t 2)), (.call 16 21 [(.t 15)]), (.bin 17 .eql (.t 14) (.t 16)), (.mv 18 (.t 17))]⟩, ⟨(some (18, true)), [(.ld 19 true 2 (.t 2)), (.mv 20 (.t 1)), (.call 21 22 [(.t 19), (.t 20)]), (.ld 22 true 2 (.t 2)), (.mv 23 (.t 1)), (.call 24 23 [(.t 22), (.t 23)]), (.bin 25 .eql (.t 21) (.t 24))]⟩, ⟨none, [(.pick 26 (.t 18) (.t 25) (.k (B false))), (.mv 27 (.t 26))]⟩, ⟨(some (27, true)), [(.call 28 19 [])]⟩, ⟨none, [(.pick 29 (.t 27) (.t 28) (.k (B false))), (.mv 4 (.t 29))]⟩] [(0, 2), (1, 2), (6, 9), (8, 9)] [4]) .ret)))
theorem form3 : formOf Try.prog Try.f3 [4] = some G3 := by kernel_rfl
theorem res3 : resTmps Try.f3.results.toList = some [4] := by kernel_rfl

end Go.AM

/- LAWS, PART 1: StrokeBenches. Own work. -/
set_option linter.unusedSimpArgs false
set_option linter.unusedVariables false
namespace Go.AM
open Go.RowKit Go.Proofs

theorem great_ok (f : Bool) (b : Bch) (hb : b.c.length ≤ 9223372036854775807) : PureOK Try.prog 18 [Bn f b] (B (decide (40 < b.c.length))) := by
  refine pure_of (walk Try.func18 form18 res18 (by show 1 ≤ _; decide) ?_)
  simp (disch := omega) [G18, wrap_id]
  omega

theorem law3' (f g : Bool) (b : Bch) (l : List Int) (hb : b.c.length ≤ 9223372036854775807) (hl : l.length ≤ 9223372036854775807) : PureOK Try.prog 3 [Bn f b, Ls g l] (B true) := by
  refine pure_of (walk Try.func3 form3 res3 (by show 2 ≤ _; decide) ?_)
  simp (disch := omega) [G3, wrap_id]
  refine callW_pure rfl (great_ok f b hb) ?_
  by_cases h1 : 40 < b.c.length
  · simp (disch := omega) [wrap_id, h1]
    exact callW_pure rfl works_ok (by simp)
  · by_cases h2 : 70 < l.length
    · have h2' : (70 : Int) < l.length := by omega
      simp (disch := omega) [wrap_id, h1, h2, h2']
      exact callW_pure rfl works_ok (by simp)
    · have h2' : ¬ (70 : Int) < l.length := by omega
      simp (disch := omega) [wrap_id, h1, h2, h2']
      refine pureW_of rfl (bench_ok f b (by omega)) ?_
      simp (disch := omega) [wrap_id]
      refine pureW_of rfl (refBench_ok f b (by omega)) ?_
      simp (disch := omega) [wrap_id]
      refine pureW_of rfl (list_ok f g b l (by omega) (by omega)) ?_
      simp (disch := omega) [wrap_id]
      refine pureW_of rfl (refList_ok f g b l (by omega) (by omega)) ?_
      simp (disch := omega) [wrap_id]
      refine pureW_of rfl works_ok ?_
      simp (disch := omega) [wrap_id]

theorem law3 (b : Bch) (l : List Int) (hb : BOK b) (hl : l.length ≤ 9223372036854775807 ∧ ∀ n ∈ l, In64 n) : PureOK Try.prog 3 [Bn false b, Ls false l] (B true) := law3' false false b l hb.len hl.1

end Go.AM

/- LAWS: StrokeMeet. Own work. -/
set_option linter.unusedSimpArgs false
set_option linter.unusedVariables false
namespace Go.AM
open Go.RowKit Go.Proofs

theorem common_eq {b : Bch} {l m : List Int} (h1 : chkL b l = 0) (h2 : chkL b m = 0) : commonR b l m = form b (comF b (form b l) (form b m)) := by
  unfold commonR; rw [if_neg (by simp [two_zero h1 h2])]
theorem wayR_eq {b : Bch} {l m : List Int} (h1 : chkL b l = 0) (h2 : chkL b m = 0) : wayR b l m = form b (backL l ++ m) := by
  unfold wayR; rw [if_neg (by simp [two_zero h1 h2])]
theorem shortR_eq {b : Bch} {l : List Int} (h1 : chkL b l = 0) : shortR b l = form b l := by
  unfold shortR; rw [if_neg (by simp [h1])]

set_option maxHeartbeats 2000000 in
theorem law15 (b : Bch) (l m o : List Int) (hb : BOK b) (hl : l.length ≤ 9223372036854775807 ∧ ∀ n ∈ l, In64 n) (hm : m.length ≤ 9223372036854775807 ∧ ∀ n ∈ m, In64 n) (ho : o.length ≤ 9223372036854775807 ∧ ∀ n ∈ o, In64 n) : PureOK Try.prog 15 [Bn false b, Ls false l, Ls false m, Ls false o] (B true) := by
  refine pure_of (callW_aws Try.func15 form15 res15 (by show 4 ≤ _; decide) ?_)
  refine aws_step ?_
  simp -implicitDefEqProofs (disch := omega) [G15, wrap_id]
  refine aws_step ?_
  simp -implicitDefEqProofs (disch := omega) [wrap_id]
  refine callW_pure rfl (fine_ok false false b l hb.len hl.1) ?_
  cases h1 : fineB b l with
  | false =>
    simp -implicitDefEqProofs (disch := omega) [wrap_id]
    exact callW_pure rfl works_ok (by simp)
  | true =>
  simp -implicitDefEqProofs (disch := omega) [wrap_id]
  refine callW_pure rfl (fine_ok false false b m hb.len hm.1) ?_
  cases h2 : fineB b m with
  | false =>
    simp -implicitDefEqProofs (disch := omega) [wrap_id]
    exact callW_pure rfl works_ok (by simp)
  | true =>
  simp -implicitDefEqProofs (disch := omega) [wrap_id]
  refine callW_pure rfl (fine_ok false false b o hb.len ho.1) ?_
  cases h3 : fineB b o with
  | false =>
    simp -implicitDefEqProofs (disch := omega) [wrap_id]
    exact callW_pure rfl works_ok (by simp)
  | true =>
  obtain ⟨b1, l1, c1⟩ := fine_iff.1 h1
  obtain ⟨_, m1, c2⟩ := fine_iff.1 h2
  obtain ⟨_, o1, c3⟩ := fine_iff.1 h3
  have sl := (chkL_S8 c1).1
  have sm := (chkL_S8 c2).1
  have so := (chkL_S8 c3).1
  by_cases q1 : 20 < l.length
  · have q1' : (20 : Int) < l.length := by omega
    simp -implicitDefEqProofs (disch := omega) [wrap_id, q1']
    exact callW_pure rfl works_ok (by simp)
  by_cases q2 : 20 < m.length
  · have q1' : ¬ (20 : Int) < l.length := by omega
    have q2' : (20 : Int) < m.length := by omega
    simp -implicitDefEqProofs (disch := omega) [wrap_id, q1', q2']
    exact callW_pure rfl works_ok (by simp)
  by_cases q3 : 20 < o.length
  · have q1' : ¬ (20 : Int) < l.length := by omega
    have q2' : ¬ (20 : Int) < m.length := by omega
    have q3' : (20 : Int) < o.length := by omega
    simp -implicitDefEqProofs (disch := omega) [wrap_id, q1', q2', q3']
    exact callW_pure rfl works_ok (by simp)
  have q1' : ¬ (20 : Int) < l.length := by omega
  have q2' : ¬ (20 : Int) < m.length := by omega
  have q3' : ¬ (20 : Int) < o.length := by omega
  simp -implicitDefEqProofs (disch := omega) [wrap_id, q1', q2', q3']
  obtain ⟨x', y', M⟩ := meets (b := b) sl sm
  obtain ⟨d1, d2, d3, d4⟩ := meet_way sl sm M
  have ec := common_eq c1 c2
  have ec' : commonR b m l = form b (comF b (form b l) (form b m)) := by rw [common_eq c2 c1, cm_comm _ (Nat.le_refl _) (form_S8 sm) (form_S8 sl)]
  have fl := form_len b l
  have fm := form_len b m
  have fo := form_len b o
  have cc : chkL b (form b (comF b (form b l) (form b m))) = 0 := chkL_form (chkL_sub c1 (by omega) fun s hs => by
    obtain ⟨_, _, _, _, _, _, _, h6⟩ := cm_spec (b := b) _ (Nat.le_refl _) (form_S8 (b := b) sl) (form_S8 (b := b) sm)
    exact form_mem sl (h6 s hs))
  have M2 := M.swap
  have e1 := meet_back sl M (form_S8 M.sc) (form_sim M.sc).symm
  have e2 := meet_back sm M2 (form_S8 M.sc) (form_sim M.sc).symm
  have ew := wayR_eq c1 c2
  have ep := wayR_eq cc c1
  have eq := wayR_eq cc c2
  have t0 := two_zero c1 c2
  have t1 := two_zero c2 c1
  have t2 := two_zero cc c1
  have t3 := two_zero cc c2
  have nf := meet_front (b := b) so sl sm
  have cu := chkL_app c3 c1 (by omega)
  have cv := chkL_app c3 c2 (by omega)
  have eg := common_eq cu cv
  have su := form_len b (o ++ l)
  have sv := form_len b (o ++ m)
  have t4 := two_zero cu cv
  have cg : chkL b (form b (comF b (form b (o ++ l)) (form b (o ++ m)))) = 0 := chkL_form (chkL_sub cu (by
      obtain ⟨u', v', M3⟩ := meets (b := b) (so.append sl) (so.append sm)
      obtain ⟨_, k2, _, _⟩ := meet_way (so.append sl) (so.append sm) M3
      rw [List.length_append] at su
      omega) fun s hs => by
    obtain ⟨_, _, _, _, _, _, _, h6⟩ := cm_spec (b := b) _ (Nat.le_refl _) (form_S8 (b := b) (so.append sl)) (form_S8 (b := b) (so.append sm))
    exact form_mem (so.append sl) (h6 s hs))
  have er := wayR_eq c3 cg
  have t5 := two_zero c3 cg
  rw [List.length_append] at su sv
  have gl := (chkL_S8 cg).2
  generalize form b (comF b (form b (o ++ l)) (form b (o ++ m))) = gg at *
  generalize form b (backL o ++ gg) = r at *
  generalize form b (comF b (form b l) (form b m)) = c at *
  generalize form b (backL l ++ m) = ww at *
  generalize form b (backL c ++ l) = pp at *
  generalize form b (backL c ++ m) = qq at *
  have eu := shortR_eq cu
  have ev := shortR_eq cv
  have ex := shortR_eq c1
  have ey := shortR_eq c2
  have ef := shortR_eq c3
  generalize form b (o ++ l) = fu at *
  generalize form b (o ++ m) = fv at *
  generalize form b l = xx at *
  generalize form b m = yy at *
  generalize form b o = ff at *
  refine aws_step ?_
  simp -implicitDefEqProofs (disch := omega) [wrap_id]
  refine callW_pure rfl (short_ok false false b l (by omega) (by omega)) ?_
  rw [ex, c1]
  simp -implicitDefEqProofs (disch := omega) [wrap_id]
  refine aws_step ?_
  simp -implicitDefEqProofs (disch := omega) [wrap_id]
  refine callW_pure rfl (short_ok false false b m (by omega) (by omega)) ?_
  rw [ey, c2]
  simp -implicitDefEqProofs (disch := omega) [wrap_id]
  refine aws_step ?_
  simp -implicitDefEqProofs (disch := omega) [wrap_id]
  refine callW_pure rfl (common_ok false false false b l m (by omega) (by omega) (by omega)) ?_
  rw [ec, t0]
  simp -implicitDefEqProofs (disch := omega) [wrap_id]
  refine aws_step ?_
  simp -implicitDefEqProofs (disch := omega) [wrap_id]
  refine callW_pure rfl (common_ok false false false b m l (by omega) (by omega) (by omega)) ?_
  rw [ec', t1]
  simp -implicitDefEqProofs (disch := omega) [wrap_id]
  refine aws_step ?_
  simp -implicitDefEqProofs (disch := omega) [wrap_id]
  refine callW_pure rfl (way_ok false false false b l m (by omega) (by omega) (by omega)) ?_
  rw [ew, t0]
  simp -implicitDefEqProofs (disch := omega) [wrap_id]
  refine aws_step ?_
  have lc := (chkL_S8 cc).2
  have fc : fineB b c = true := fine_iff.2 ⟨b1, lc, cc⟩
  simp -implicitDefEqProofs (disch := omega) [wrap_id]
  refine callW_pure rfl (fine_ok false c.isEmpty b c hb.len (by omega)) ?_
  rw [fc]
  simp -implicitDefEqProofs (disch := omega) [wrap_id]
  refine callW_pure rfl (equal_ok c.isEmpty c.isEmpty c c (by omega) (by omega)) ?_
  have le1 : (((xx.length : Int) + yy.length) != ((ww.length : Int) + 2 * c.length)) = false := by
    rw [bne_eq_false_iff_eq]; omega
  simp -implicitDefEqProofs (disch := omega) [wrap_id, le1]
  refine aws_step ?_
  simp -implicitDefEqProofs (disch := omega) [wrap_id]
  refine callW_pure rfl (way_ok false c.isEmpty false b c l (by omega) (by omega) (by omega)) ?_
  rw [ep, t2]
  simp -implicitDefEqProofs (disch := omega) [wrap_id]
  refine aws_step ?_
  simp -implicitDefEqProofs (disch := omega) [wrap_id]
  refine callW_pure rfl (way_ok false c.isEmpty false b c m (by omega) (by omega) (by omega)) ?_
  rw [eq, t3]
  simp -implicitDefEqProofs (disch := omega) [wrap_id]
  refine aws_step ?_
  have le2 : (((c.length : Int) + pp.length) != (xx.length : Int)) = false := by
    rw [bne_eq_false_iff_eq]; omega
  have le3 : (((c.length : Int) + qq.length) != (yy.length : Int)) = false := by
    rw [bne_eq_false_iff_eq]; omega
  simp -implicitDefEqProofs (disch := omega) [wrap_id, le2, le3]
  refine aws_step ?_
  simp -implicitDefEqProofs (disch := omega) [wrap_id]
  refine bsl_of (ys := []) rfl rfl ?_
  simp -implicitDefEqProofs (disch := omega) [wrap_id, zrep, place]
  refine ⟨⟨by omega, by omega⟩, ⟨by omega, by omega⟩, ?_⟩
  refine bsl_of (ys := []) rfl rfl ?_
  simp -implicitDefEqProofs (disch := omega) [wrap_id, zrep, place]
  refine ⟨⟨by omega, by omega⟩, ⟨by omega, by omega⟩, ?_⟩
  have hj : ∀ q : List Int, List.take o.length (List.map (fun n => I n) o) ++ List.map (fun n => I n) q = (o ++ q).map fun n => I n := fun q => by
    rw [List.map_append, List.take_of_length_le (by simp)]
  rw [hj, hj]
  have lul : (o ++ l).length = o.length + l.length := List.length_append
  have lum : (o ++ m).length = o.length + m.length := List.length_append
  rw [← lul, ← lum]
  generalize o ++ l = u at *
  generalize o ++ m = v at *
  have pu2 : purify (hpf [HObj.cells [I b.L, Ps false b.c], HObj.gone, HObj.cells (u.map fun n => I n), HObj.gone, HObj.cells (v.map fun n => I n)]) (.ms 2 0 u.length 1) = some (Ls false u, [2]) := ms_pur rfl rfl
  have pv2 : purify (hpf [HObj.cells [I b.L, Ps false b.c], HObj.gone, HObj.cells (u.map fun n => I n), HObj.gone, HObj.cells (v.map fun n => I n)]) (.ms 4 0 v.length 1) = some (Ls false v, [4]) := ms_pur rfl rfl
  refine aws_le (le_freeze (ids := [2, 4]) (fr' := [(3, Ls false o), (4, .ref 0 0), (9, Ls false xx), (11, Ls false yy), (21, Ls false u), (22, Ls false v)]) ?_ ?_) ?_
  · exact .keep (.keep (.keep (.keep (.new pu2 (by simp) (.new pv2 (by simp) .refl)))))
  · intro i hi
    simp at hi
    rcases hi with rfl | rfl
    · exact ⟨_, rfl⟩
    · exact ⟨_, rfl⟩
  rw [show writeL [HObj.cells [I b.L, Ps false b.c], HObj.gone, HObj.cells (u.map fun n => I n), HObj.gone, HObj.cells (v.map fun n => I n)] (gones [2, 4]) = [HObj.cells [I b.L, Ps false b.c], HObj.gone, HObj.gone, HObj.gone, HObj.gone] from rfl]
  refine aws_step ?_
  simp -implicitDefEqProofs (disch := omega) [wrap_id]
  refine callW_pure rfl (short_ok false false b o (by omega) (by omega)) ?_
  rw [ef, c3]
  simp -implicitDefEqProofs (disch := omega) [wrap_id]
  refine aws_step ?_
  simp -implicitDefEqProofs (disch := omega) [wrap_id]
  refine callW_pure rfl (short_ok false false b u (by omega) (by omega)) ?_
  rw [eu, cu]
  simp -implicitDefEqProofs (disch := omega) [wrap_id]
  refine aws_step ?_
  simp -implicitDefEqProofs (disch := omega) [wrap_id]
  refine callW_pure rfl (short_ok false false b v (by omega) (by omega)) ?_
  rw [ev, cv]
  simp -implicitDefEqProofs (disch := omega) [wrap_id]
  refine aws_step ?_
  simp -implicitDefEqProofs (disch := omega) [wrap_id]
  refine callW_pure rfl (common_ok false false false b u v (by omega) (by omega) (by omega)) ?_
  rw [eg, t4]
  simp -implicitDefEqProofs (disch := omega) [wrap_id]
  refine aws_step ?_
  have fg : fineB b gg = true := fine_iff.2 ⟨b1, gl, cg⟩
  simp -implicitDefEqProofs (disch := omega) [wrap_id]
  refine callW_pure rfl (fine_ok false gg.isEmpty b gg hb.len (by omega)) ?_
  rw [fg]
  simp -implicitDefEqProofs (disch := omega) [wrap_id]
  refine aws_step ?_
  by_cases k1 : fu.length = ff.length + xx.length
  · have k1' : ((fu.length : Int) != ((ff.length : Int) + xx.length)) = false := by rw [bne_eq_false_iff_eq]; omega
    by_cases k2 : fv.length = ff.length + yy.length
    · have k2' : ((fv.length : Int) != ((ff.length : Int) + yy.length)) = false := by rw [bne_eq_false_iff_eq]; omega
      have nf := nf k1 k2
      simp -implicitDefEqProofs (disch := omega) [wrap_id, k1', k2']
      refine aws_step ?_
      simp -implicitDefEqProofs (disch := omega) [wrap_id]
      refine callW_pure rfl (way_ok false false gg.isEmpty b o gg (by omega) (by omega) (by omega)) ?_
      rw [er, t5]
      have nf' : (((ff.length : Int) + r.length) == (gg.length : Int)) = true := by rw [beq_iff_eq]; omega
      simp -implicitDefEqProofs (disch := omega) [wrap_id]
      refine aws_step ?_
      simp -implicitDefEqProofs (disch := omega) [wrap_id, nf']
      refine callW_pure rfl works_ok ?_
      simp -implicitDefEqProofs (disch := omega) [wrap_id]
      exact aws_of (by simp -implicitDefEqProofs (disch := omega) [wrap_id])
    · have k2' : ((fv.length : Int) != ((ff.length : Int) + yy.length)) = true := by rw [bne_iff_ne]; omega
      simp -implicitDefEqProofs (disch := omega) [wrap_id, k1', k2']
      exact callW_pure rfl works_ok (by simp)
  · have k1' : ((fu.length : Int) != ((ff.length : Int) + xx.length)) = true := by rw [bne_iff_ne]; omega
    simp -implicitDefEqProofs (disch := omega) [wrap_id, k1']
    exact callW_pure rfl works_ok (by simp)

end Go.AM
