/-
  KxMv2: texts joined: Cb17 Cb18 FmCL Lc1 Ld1 Ld2 Tk8 Tk9 Tk10 Tk11 Tk12 Tk13 Ld6 Ld7 Ld8. Own work.
-/
import Derived.Test.YtfpfnlnmilndmaaGreatDoorKxMv1
import Derived.Test.YtfpfnlnmilndmaaGreatDoorProg
set_option linter.unusedSimpArgs false
set_option linter.unusedVariables false

namespace Go.AM
open Go.RowKit Go.Proofs
theorem ansW_ex (s : SH) (R : List (Int × Int)) : ∃ n c,AnsW s R n c := by
 by_cases h : ∃ k,(1 ≤ k ∧ k ≤ s.m.length) ∧ 0 < cwA s R 0 k
 · obtain ⟨k,hk⟩ := h
   obtain ⟨j,h1,⟨h2,h3⟩,h4⟩ := leastN (P := fun k => (1 ≤ k ∧ k ≤ s.m.length) ∧ 0 < cwA s R 0 k) hk
   exact ⟨j,_,.inr ⟨h2.1,h2.2,h3,fun i h5 h6 => by
    have := h4 i h6
    apply Classical.byContradiction
    intro h
    exact this ⟨⟨h5,by omega⟩,by omega⟩,rfl⟩⟩
 · exact ⟨0,0,.inl ⟨fun k h1 h2 => by
    apply Classical.byContradiction
    intro h3
    exact h ⟨k,⟨h1,h2⟩,by omega⟩,rfl,rfl⟩⟩
end Go.AM

namespace Go.AM
open Go.RowKit Go.Proofs
theorem ansCt_ex (s : SH) : ∃ v e,AnsCt s v e := by
 by_cases h0 : shtE s = 0
 · by_cases h1 : lostL s = []
   · obtain ⟨n,c,h⟩ := ansW_ex s (allR s)
     by_cases h2 : c = 1099511627777
     · exact ⟨0,4,.inr ⟨h0,.inr ⟨h1,n,c,h,.inl ⟨h2,rfl,rfl⟩⟩⟩⟩
     · exact ⟨c,0,.inr ⟨h0,.inr ⟨h1,n,c,h,.inr ⟨h2,rfl,rfl⟩⟩⟩⟩
   · exact ⟨0,19,.inr ⟨h0,.inl ⟨h1,rfl,rfl⟩⟩⟩
 · exact ⟨0,_,.inl ⟨h0,rfl,rfl⟩⟩
end Go.AM

set_option maxRecDepth 100000
namespace Go.AM
open Go.RowKit Go.Proofs
abbrev n_l_CombMoved : Nat := 13
def G_l_CombMoved : AC := (.seq (.rgn [⟨none,[(.box 3 2 (.t 0)),(.mv 6 (.k (B false)))]⟩] [1,2,3]) (.seq (.seq (.rgn [⟨none,[(.ld 33 true 2 (.t 3)),(.call 34 48 [(.t 33)]),(.un 35 .not (.t 34))]⟩] [1,2,3,35]) (.cond (.t 35) (.seq (.rgn [⟨none,[(.call 36 17 []),(.mv 6 (.t 36))]⟩] [6]) .ret) .skip)) (.seq (.drw [⟨none,[(.mv 37 (.t 1)),(.cnv 38 .i64 (.t 37)),(.bin 39 .rem (.t 38) (.k (I 501))),(.mv 40 (.t 2)),(.cnv 41 .i64 (.t 40)),(.fa 42 (.t 3) 0),(.ld 43 false 1 (.t 42)),(.len 44 (.t 43)),(.bin 45 .rem (.t 41) (.t 44)),(.mv 7 (.t 39)),(.mv 8 (.t 45))]⟩] [] [3,7,8]) (.seq (.drw [⟨none,[(.fa 46 (.t 3) 0),(.ld 47 false 1 (.t 46)),(.bld 48 [(.sl true 0 []),(.sl true 0 [])] [(0,1,(.t 47))]),(.fa 49 (.t 3) 0),(.ld 50 false 1 (.t 49)),(.bld 51 [(.sl true 0 []),(.sl true 0 [])] [(0,1,(.t 50))]),(.al 9 [(.sl true 0 []),(.sl true 0 [])]),(.al 10 [(.sl true 0 []),(.sl true 0 [])]),(.st 2 (.t 9) (.t 48)),(.st 2 (.t 10) (.t 51))]⟩] [(1,4),(1,6),(4,6),(1,7),(4,7),(6,7),(4,8)] [3,7,8,9,10]) (.seq (.seq (.rgn [⟨none,[(.mv 11 (.k (I 0)))]⟩] [3,7,8,9,10,11]) (.block 0 (.loop (.seq (.seq (.rgn [⟨none,[(.mv 52 (.t 11)),(.fa 53 (.t 3) 1),(.ld 54 false 1 (.t 53)),(.len 55 (.t 54)),(.bin 56 .lss (.t 52) (.t 55))]⟩] [3,7,8,9,10,11,56]) (.cond (.t 56) .skip (.exit 0))) (.seq (.block 1 (.seq (.drw [⟨none,[(.fa 59 (.t 3) 1),(.ld 60 false 1 (.t 59)),(.mv 61 (.t 11)),(.ia 62 2 (.t 60) (.t 61)),(.ld 63 true 2 (.t 62)),(.fa 64 (.t 3) 1),(.ld 65 false 1 (.t 64)),(.fa 66 (.t 3) 1),(.ld 67 false 1 (.t 66)),(.len 68 (.t 67)),(.bin 69 .sub (.t 68) (.k (I 1))),(.mv 70 (.t 11)),(.bin 71 .sub (.t 69) (.t 70)),(.ia 72 2 (.t 65) (.t 71)),(.ld 73 true 2 (.t 72)),(.al 12 [(I 0),(I 0)]),(.al 13 [(I 0),(I 0)]),(.st 2 (.t 12) (.t 63)),(.st 2 (.t 13) (.t 73))]⟩] [(1,6),(4,6),(1,8),(4,8),(6,8),(1,14),(4,14),(1,15),(4,15),(6,15),(8,15),(14,15),(1,16),(4,16),(6,16),(8,16),(14,16),(15,16),(6,17),(8,17),(14,17)] [3,7,8,9,10,11,12,13]) (.seq (.drw [⟨none,[(.fa 74 (.t 9) 1),(.ld 75 false 1 (.t 74)),(.fa 76 (.t 12) 0),(.ld 77 false 1 (.t 76)),(.mv 78 (.t 7)),(.bin 79 .add (.t 77) (.t 78)),(.fa 80 (.t 12) 1),(.ld 81 false 1 (.t 80)),(.mv 82 (.t 7)),(.bin 83 .add (.t 81) (.t 82)),(.call 84 54 [(.t 79),(.t 83)]),(.bsl 85 1 2 [(I 0),(I 0)] [(0,(.t 84))]),(.app 86 2 16 (.t 75) (.t 85)),(.fa 87 (.t 9) 1),(.st 1 (.t 87) (.t 86))]⟩] [(1,3),(1,7),(3,7),(1,10),(1,11)] [3,7,8,9,10,11,13]) (.drw [⟨none,[(.fa 88 (.t 10) 1),(.ld 89 false 1 (.t 88)),(.fa 90 (.t 13) 1),(.ld 91 false 1 (.t 90)),(.bin 92 .sub (.k (I 500)) (.t 91)),(.fa 93 (.t 13) 0),(.ld 94 false 1 (.t 93)),(.bin 95 .sub (.k (I 500)) (.t 94)),(.call 96 54 [(.t 92),(.t 95)]),(.bsl 97 1 2 [(I 0),(I 0)] [(0,(.t 96))]),(.app 98 2 16 (.t 89) (.t 97)),(.fa 99 (.t 10) 1),(.st 1 (.t 99) (.t 98))]⟩] [(1,3),(1,6),(3,6),(1,8),(1,9)] [3,7,8,9,10,11])))) (.rgn [⟨none,[(.mv 57 (.t 11)),(.bin 58 .add (.t 57) (.k (I 1))),(.mv 11 (.t 58))]⟩] [3,7,8,9,10,11])))))) (.seq (.rgn [⟨none,[(.ld 101 true 2 (.t 3)),(.call 102 53 [(.t 101)]),(.mv 100 (.t 102)),(.ext 103 (.t 100) 0),(.ext 104 (.t 100) 1),(.mv 14 (.t 103)),(.mv 15 (.t 104))]⟩] [3,7,8,9,10,14,15]) (.seq (.rgn [⟨none,[(.ld 106 true 2 (.t 10)),(.call 107 53 [(.t 106)]),(.mv 105 (.t 107)),(.ext 108 (.t 105) 0),(.ext 109 (.t 105) 1),(.mv 16 (.t 108)),(.mv 17 (.t 109))]⟩] [3,7,8,9,10,14,15,16,17]) (.seq (.rgn [⟨none,[(.ld 111 true 2 (.t 3)),(.mv 112 (.t 8)),(.call 113 20 [(.t 111),(.t 112)]),(.mv 110 (.t 113)),(.ext 114 (.t 110) 0),(.ext 115 (.t 110) 1),(.mv 18 (.t 114)),(.mv 19 (.t 115))]⟩] [3,7,8,9,10,14,15,16,17,18,19]) (.seq (.rgn [⟨none,[(.ld 117 true 2 (.t 10)),(.mv 118 (.t 8)),(.call 119 20 [(.t 117),(.t 118)]),(.mv 116 (.t 119)),(.ext 120 (.t 116) 0),(.ext 121 (.t 116) 1),(.mv 20 (.t 120)),(.mv 21 (.t 121))]⟩] [3,7,8,9,10,14,15,16,17,18,19,20,21]) (.seq (.rgn [⟨none,[(.ld 123 true 2 (.t 3)),(.call 124 37 [(.t 123)]),(.mv 122 (.t 124)),(.ext 125 (.t 122) 0),(.ext 126 (.t 122) 1),(.mv 22 (.t 125)),(.mv 23 (.t 126))]⟩] [3,7,8,9,10,14,15,16,17,18,19,20,21,22,23]) (.seq (.rgn [⟨none,[(.ld 128 true 2 (.t 10)),(.call 129 37 [(.t 128)]),(.mv 127 (.t 129)),(.ext 130 (.t 127) 0),(.ext 131 (.t 127) 1),(.mv 24 (.t 130)),(.mv 25 (.t 131))]⟩] [3,7,8,9,10,14,15,16,17,18,19,20,21,22,23,24,25]) (.seq (.rgn [⟨none,[(.ld 133 true 2 (.t 3)),(.call 134 30 [(.t 133)]),(.mv 132 (.t 134)),(.ext 135 (.t 132) 0),(.ext 136 (.t 132) 1),(.mv 26 (.t 135)),(.mv 27 (.t 136))]⟩] [3,7,8,9,10,14,15,16,17,18,19,20,21,22,23,24,25,26,27]) (.seq (.rgn [⟨none,[(.ld 138 true 2 (.t 10)),(.call 139 30 [(.t 138)]),(.mv 137 (.t 139)),(.ext 140 (.t 137) 0),(.ext 141 (.t 137) 1),(.mv 28 (.t 140)),(.mv 29 (.t 141))]⟩] [3,7,8,9,14,15,16,17,18,19,20,21,22,23,24,25,26,27,28,29]) (.seq (.seq (.rgn [⟨none,[(.mv 142 (.t 15)),(.un 143 .not (.t 142)),(.mv 144 (.t 143))]⟩,⟨(some (144,false)),[(.mv 145 (.t 17)),(.un 146 .not (.t 145))]⟩,⟨none,[(.pick 147 (.t 144) (.k (B true)) (.t 146)),(.mv 148 (.t 147))]⟩,⟨(some (148,false)),[(.mv 149 (.t 14)),(.mv 150 (.t 16)),(.bin 151 .neq (.t 149) (.t 150))]⟩,⟨none,[(.pick 152 (.t 148) (.k (B true)) (.t 151)),(.mv 153 (.t 152))]⟩,⟨(some (153,false)),[(.mv 154 (.t 19)),(.bin 155 .neq (.t 154) (.k (I 0)))]⟩,⟨none,[(.pick 156 (.t 153) (.k (B true)) (.t 155)),(.mv 157 (.t 156))]⟩,⟨(some (157,false)),[(.mv 158 (.t 21)),(.bin 159 .neq (.t 158) (.k (I 0)))]⟩,⟨none,[(.pick 160 (.t 157) (.k (B true)) (.t 159)),(.mv 161 (.t 160))]⟩,⟨(some (161,false)),[(.mv 162 (.t 18)),(.len 163 (.t 162)),(.mv 164 (.t 20)),(.len 165 (.t 164)),(.bin 166 .neq (.t 163) (.t 165))]⟩,⟨none,[(.pick 167 (.t 161) (.k (B true)) (.t 166)),(.mv 168 (.t 167))]⟩,⟨(some (168,false)),[(.mv 169 (.t 23)),(.bin 170 .neq (.t 169) (.k (I 0)))]⟩,⟨none,[(.pick 171 (.t 168) (.k (B true)) (.t 170)),(.mv 172 (.t 171))]⟩,⟨(some (172,false)),[(.mv 173 (.t 25)),(.bin 174 .neq (.t 173) (.k (I 0)))]⟩,⟨none,[(.pick 175 (.t 172) (.k (B true)) (.t 174)),(.mv 176 (.t 175))]⟩,⟨(some (176,false)),[(.mv 177 (.t 22)),(.len 178 (.t 177)),(.mv 179 (.t 24)),(.len 180 (.t 179)),(.bin 181 .neq (.t 178) (.t 180))]⟩,⟨none,[(.pick 182 (.t 176) (.k (B true)) (.t 181)),(.mv 183 (.t 182))]⟩,⟨(some (183,false)),[(.mv 184 (.t 26)),(.mv 185 (.t 28)),(.bin 186 .neq (.t 184) (.t 185))]⟩,⟨none,[(.pick 187 (.t 183) (.k (B true)) (.t 186)),(.mv 188 (.t 187))]⟩,⟨(some (188,false)),[(.mv 189 (.t 27)),(.mv 190 (.t 29)),(.bin 191 .neq (.t 189) (.t 190))]⟩,⟨none,[(.pick 192 (.t 188) (.k (B true)) (.t 191))]⟩] [3,7,8,9,14,18,20,22,26,27,192]) (.cond (.t 192) (.seq (.rgn [⟨none,[(.mv 6 (.k (B false)))]⟩] [6]) .ret) .skip)) (.seq (.drw [⟨none,[(.fa 193 (.t 3) 0),(.ld 194 false 1 (.t 193)),(.mv 195 (.t 8)),(.ia 196 2 (.t 194) (.t 195)),(.fa 197 (.t 196) 1),(.ld 198 false 1 (.t 197)),(.bin 199 .sub (.t 198) (.k (I 1))),(.fa 200 (.t 3) 0),(.ld 201 false 1 (.t 200)),(.mv 202 (.t 8)),(.ia 203 2 (.t 201) (.t 202)),(.fa 204 (.t 203) 0),(.ld 205 false 1 (.t 204)),(.bin 206 .mul (.t 199) (.t 205)),(.mv 30 (.t 206))]⟩] [(1,8),(5,8),(1,12),(5,12)] [7,8,9,14,18,20,22,26,27,30]) (.seq (.seq (.rgn [⟨none,[(.mv 31 (.k (I 0)))]⟩] [7,8,9,14,18,20,22,26,27,30,31]) (.block 2 (.loop (.seq (.seq (.rgn [⟨none,[(.mv 207 (.t 31)),(.mv 208 (.t 18)),(.len 209 (.t 208)),(.bin 210 .lss (.t 207) (.t 209))]⟩] [7,8,9,14,18,20,22,26,27,30,31,210]) (.cond (.t 210) .skip (.exit 2))) (.seq (.block 3 (.seq (.drw [⟨none,[(.mv 213 (.t 20)),(.mv 214 (.t 20)),(.len 215 (.t 214)),(.bin 216 .sub (.t 215) (.k (I 1))),(.mv 217 (.t 31)),(.bin 218 .sub (.t 216) (.t 217)),(.ia 219 1 (.t 213) (.t 218)),(.ld 220 false 1 (.t 219)),(.mv 221 (.t 18)),(.mv 222 (.t 31)),(.ia 223 1 (.t 221) (.t 222)),(.ld 224 false 1 (.t 223)),(.bin 225 .sub (.k (I 500)) (.t 224)),(.mv 226 (.t 30)),(.bin 227 .sub (.t 225) (.t 226)),(.bin 228 .neq (.t 220) (.t 227))]⟩] [(7,11)] [7,8,9,14,18,20,22,26,27,30,31,228]) (.cond (.t 228) (.seq (.rgn [⟨none,[(.mv 6 (.k (B false)))]⟩] [6]) .ret) .skip))) (.rgn [⟨none,[(.mv 211 (.t 31)),(.bin 212 .add (.t 211) (.k (I 1))),(.mv 31 (.t 212))]⟩] [7,8,9,14,18,20,22,26,27,30,31])))))) (.seq (.seq (.rgn [⟨none,[(.ld 229 true 2 (.t 9)),(.call 230 48 [(.t 229)]),(.un 231 .not (.t 230))]⟩] [7,8,9,14,18,22,26,27,231]) (.cond (.t 231) (.seq (.rgn [⟨none,[(.call 232 17 []),(.mv 6 (.t 232))]⟩] [6]) .ret) .skip)) (.seq (.rgn [⟨none,[(.ld 234 true 2 (.t 9)),(.call 235 53 [(.t 234)]),(.mv 233 (.t 235)),(.ext 236 (.t 233) 0),(.ext 237 (.t 233) 1),(.mv 16 (.t 236)),(.mv 15 (.t 237))]⟩] [7,8,9,14,15,16,18,22,26,27]) (.seq (.rgn [⟨none,[(.ld 239 true 2 (.t 9)),(.mv 240 (.t 8)),(.call 241 20 [(.t 239),(.t 240)]),(.mv 238 (.t 241)),(.ext 242 (.t 238) 0),(.ext 243 (.t 238) 1),(.mv 20 (.t 242)),(.mv 21 (.t 243))]⟩] [7,9,14,15,16,18,20,21,22,26,27]) (.seq (.rgn [⟨none,[(.ld 245 true 2 (.t 9)),(.call 246 37 [(.t 245)]),(.mv 244 (.t 246)),(.ext 247 (.t 244) 0),(.ext 248 (.t 244) 1),(.mv 24 (.t 247)),(.mv 25 (.t 248))]⟩] [7,9,14,15,16,18,20,21,22,24,25,26,27]) (.seq (.rgn [⟨none,[(.ld 250 true 2 (.t 9)),(.call 251 30 [(.t 250)]),(.mv 249 (.t 251)),(.ext 252 (.t 249) 0),(.ext 253 (.t 249) 1),(.mv 28 (.t 252)),(.mv 29 (.t 253))]⟩] [7,14,15,16,18,20,21,22,24,25,26,27,28,29]) (.seq (.seq (.rgn [⟨none,[(.mv 254 (.t 15)),(.un 255 .not (.t 254)),(.mv 256 (.t 255))]⟩,⟨(some (256,false)),[(.mv 257 (.t 14)),(.mv 258 (.t 16)),(.bin 259 .neq (.t 257) (.t 258))]⟩,⟨none,[(.pick 260 (.t 256) (.k (B true)) (.t 259)),(.mv 261 (.t 260))]⟩,⟨(some (261,false)),[(.mv 262 (.t 21)),(.bin 263 .neq (.t 262) (.k (I 0)))]⟩,⟨none,[(.pick 264 (.t 261) (.k (B true)) (.t 263)),(.mv 265 (.t 264))]⟩,⟨(some (265,false)),[(.mv 266 (.t 18)),(.len 267 (.t 266)),(.mv 268 (.t 20)),(.len 269 (.t 268)),(.bin 270 .neq (.t 267) (.t 269))]⟩,⟨none,[(.pick 271 (.t 265) (.k (B true)) (.t 270)),(.mv 272 (.t 271))]⟩,⟨(some (272,false)),[(.mv 273 (.t 25)),(.bin 274 .neq (.t 273) (.k (I 0)))]⟩,⟨none,[(.pick 275 (.t 272) (.k (B true)) (.t 274)),(.mv 276 (.t 275))]⟩,⟨(some (276,false)),[(.mv 277 (.t 22)),(.mv 278 (.t 24)),(.call 279 26 [(.t 277),(.t 278)]),(.un 280 .not (.t 279))]⟩,⟨none,[(.pick 281 (.t 276) (.k (B true)) (.t 280)),(.mv 282 (.t 281))]⟩,⟨(some (282,false)),[(.mv 283 (.t 26)),(.mv 284 (.t 28)),(.bin 285 .neq (.t 283) (.t 284))]⟩,⟨none,[(.pick 286 (.t 282) (.k (B true)) (.t 285)),(.mv 287 (.t 286))]⟩,⟨(some (287,false)),[(.mv 288 (.t 27)),(.mv 289 (.t 29)),(.bin 290 .neq (.t 288) (.t 289))]⟩,⟨none,[(.pick 291 (.t 287) (.k (B true)) (.t 290))]⟩] [7,18,20,291]) (.cond (.t 291) (.seq (.rgn [⟨none,[(.mv 6 (.k (B false)))]⟩] [6]) .ret) .skip)) (.seq (.seq (.rgn [⟨none,[(.mv 32 (.k (I 0)))]⟩] [7,18,20,32]) (.block 4 (.loop (.seq (.seq (.rgn [⟨none,[(.mv 292 (.t 32)),(.mv 293 (.t 18)),(.len 294 (.t 293)),(.bin 295 .lss (.t 292) (.t 294))]⟩] [7,18,20,32,295]) (.cond (.t 295) .skip (.exit 4))) (.seq (.block 5 (.seq (.drw [⟨none,[(.mv 298 (.t 20)),(.mv 299 (.t 32)),(.ia 300 1 (.t 298) (.t 299)),(.ld 301 false 1 (.t 300)),(.mv 302 (.t 18)),(.mv 303 (.t 32)),(.ia 304 1 (.t 302) (.t 303)),(.ld 305 false 1 (.t 304)),(.mv 306 (.t 7)),(.bin 307 .add (.t 305) (.t 306)),(.bin 308 .neq (.t 301) (.t 307))]⟩] [(3,7)] [7,18,20,32,308]) (.cond (.t 308) (.seq (.rgn [⟨none,[(.mv 6 (.k (B false)))]⟩] [6]) .ret) .skip))) (.rgn [⟨none,[(.mv 296 (.t 32)),(.bin 297 .add (.t 296) (.k (I 1))),(.mv 32 (.t 297))]⟩] [7,18,20,32])))))) (.seq (.rgn [⟨none,[(.call 309 17 []),(.mv 6 (.t 309))]⟩] [6]) .ret))))))))))))))))))))))))
theorem func_l_CombMoved : Tryz.prog.funcs[n_l_CombMoved]? = some Tryz.f13 := Tryz.func13
theorem form_l_CombMoved : formOf Tryz.prog Tryz.f13 [6] = some G_l_CombMoved := by kernel_rfl
theorem res_l_CombMoved : resTmps Tryz.f13.results.toList = some [6] := by kernel_rfl
abbrev n_l_great : Nat := 16
def G_l_great : AC := (.seq (.rgn [⟨none,[(.box 1 2 (.t 0)),(.mv 2 (.k (B false)))]⟩] [1]) (.seq (.rgn [⟨none,[(.fa 3 (.t 1) 0),(.ld 4 false 1 (.t 3)),(.len 5 (.t 4)),(.bin 6 .gtr (.t 5) (.k (I 12))),(.mv 7 (.t 6))]⟩,⟨(some (7,false)),[(.fa 8 (.t 1) 1),(.ld 9 false 1 (.t 8)),(.len 10 (.t 9)),(.bin 11 .gtr (.t 10) (.k (I 18)))]⟩,⟨none,[(.pick 12 (.t 7) (.k (B true)) (.t 11)),(.mv 2 (.t 12))]⟩] [2]) .ret))
theorem func_l_great : Tryz.prog.funcs[n_l_great]? = some Tryz.f16 := Tryz.func16
theorem form_l_great : formOf Tryz.prog Tryz.f16 [2] = some G_l_great := by kernel_rfl
theorem res_l_great : resTmps Tryz.f16.results.toList = some [2] := by kernel_rfl
abbrev n_l_fine : Nat := 48
def G_l_fine : AC := (.seq (.rgn [⟨none,[(.box 1 2 (.t 0)),(.mv 2 (.k (B false)))]⟩] [1]) (.seq (.rgn [⟨none,[(.ld 3 true 2 (.t 1)),(.call 4 16 [(.t 3)]),(.un 5 .not (.t 4)),(.mv 6 (.t 5))]⟩,⟨(some (6,true)),[(.ld 7 true 2 (.t 1)),(.call 8 25 [(.t 7)]),(.bin 9 .eql (.t 8) (.k (I 0)))]⟩,⟨none,[(.pick 10 (.t 6) (.t 9) (.k (B false))),(.mv 2 (.t 10))]⟩] [2]) .ret))
theorem func_l_fine : Tryz.prog.funcs[n_l_fine]? = some Tryz.f48 := Tryz.func48
theorem form_l_fine : formOf Tryz.prog Tryz.f48 [2] = some G_l_fine := by kernel_rfl
theorem res_l_fine : resTmps Tryz.f48.results.toList = some [2] := by kernel_rfl
abbrev n_l_fewest : Nat := 53
def G_l_fewest : AC := (.seq (.rgn [⟨none,[(.box 1 2 (.t 0)),(.mv 2 (.k (I 0))),(.mv 3 (.k (B false)))]⟩] [1]) (.seq (.rgn [⟨none,[(.ld 7 true 2 (.t 1)),(.call 8 29 [(.t 7)]),(.mv 6 (.t 8)),(.ext 9 (.t 6) 0),(.ext 10 (.t 6) 1),(.mv 4 (.t 9)),(.mv 5 (.t 10))]⟩] [4,5]) (.seq (.seq (.rgn [⟨none,[(.mv 11 (.t 5)),(.bin 12 .eql (.t 11) (.k (I 19)))]⟩] [4,5,12]) (.cond (.t 12) (.seq (.rgn [⟨none,[(.mv 13 (.t 4)),(.len 14 (.t 13)),(.bin 15 .eql (.t 14) (.k (I 0))),(.mv 2 (.k (I 100))),(.mv 3 (.t 15))]⟩] [2,3]) .ret) .skip)) (.seq (.rgn [⟨none,[(.mv 16 (.t 4)),(.len 17 (.t 16)),(.mv 18 (.t 5)),(.bin 19 .eql (.t 18) (.k (I 0))),(.mv 2 (.t 17)),(.mv 3 (.t 19))]⟩] [2,3]) .ret))))
theorem func_l_fewest : Tryz.prog.funcs[n_l_fewest]? = some Tryz.f53 := Tryz.func53
theorem form_l_fewest : formOf Tryz.prog Tryz.f53 [2,3] = some G_l_fewest := by kernel_rfl
theorem res_l_fewest : resTmps Tryz.f53.results.toList = some [2,3] := by kernel_rfl
end Go.AM

namespace Go.AM
open Go.RowKit Go.Proofs
def grtK (s : SH) : Bool := decide (12 < s.k.length) || decide (18 < s.m.length)
theorem grtK_sz {s : SH} (h : grtK s = false) : SzS s ∧ s.k.length ≤ 12 ∧ s.m.length ≤ 18 := by
 unfold grtK at h
 simp only [Bool.or_eq_false_iff,decide_eq_false_iff_not] at h
 exact ⟨⟨by omega,by omega⟩,by omega,by omega⟩
theorem lk_great_ok (f g : Bool) (s : SH) : PureOK Tryz.prog n_l_great [Sn f g s] (B (grtK s)) := by
 refine pure_of (walk func_l_great form_l_great res_l_great (by show 1 ≤ _; decide) ?_)
 simp -implicitDefEqProofs (disch := omega) [G_l_great,wrap_id]
 unfold grtK
 have e1 : decide ((12 : Int) < (s.k.length : Int)) = decide (12 < s.k.length) := by rw [decide_eq_decide]; omega
 have e2 : decide ((18 : Int) < (s.m.length : Int)) = decide (18 < s.m.length) := by rw [decide_eq_decide]; omega
 cases h : decide (12 < s.k.length) with
 | true =>
   rw [h] at e1
   simp -implicitDefEqProofs (disch := omega) [wrap_id,e1]
 | false =>
   rw [h] at e1
   simp -implicitDefEqProofs (disch := omega) [wrap_id,e1,e2]
def finK (s : SH) : Bool := !grtK s && decide (shtE s = 0)
theorem lk_fine_ok (f g : Bool) (s : SH) : PureOK Tryz.prog n_l_fine [Sn f g s] (B (finK s)) := by
 refine pure_of (walk func_l_fine form_l_fine res_l_fine (by show 1 ≤ _; decide) ?_)
 simp -implicitDefEqProofs (disch := omega) [G_l_fine,wrap_id]
 refine callW_pure rfl (lk_great_ok f g s) ?_
 unfold finK
 cases hg : grtK s with
 | true => simp -implicitDefEqProofs (disch := omega) [wrap_id]
 | false =>
   obtain ⟨hz,_⟩ := grtK_sz hg
   simp -implicitDefEqProofs (disch := omega) [wrap_id]
   refine callW_pure rfl (r_CheckSheet_ok f g s hz) ?_
   by_cases h : shtE s = 0
   · rw [h]
     simp -implicitDefEqProofs (disch := omega) [wrap_id]
   · have h' : (shtE s == 0) = false := by rw [beq_eq_false_iff_ne]; exact h
     simp -implicitDefEqProofs (disch := omega) [wrap_id,h',h]
end Go.AM

namespace Go.AM
open Go.RowKit Go.Proofs
theorem bitL_60 {n : Nat} : (bitL n).length ≤ 60 := bitT_len
theorem apaL_len {s : SH} : (apaL s).length ≤ 60 := by
 unfold apaL
 split
 · obtain ⟨⟨b,_,_,e⟩,_⟩ := bst_max (s := s) (i := pwN s.m.length)
   rw [← e]; exact bitL_60
 · exact Nat.zero_le _
end Go.AM

namespace Go.AM
open Go.RowKit Go.Proofs
theorem mpp2 {c : List AV} : NoMpp [HObj.cells c] := mpp_list rfl
end Go.AM

namespace Go.AM
open Go.RowKit Go.Proofs
theorem apK_R {s : SH} {R : List (Int × Int)} {b : Nat} : apK s R b R.length = true ↔ apR s R b = false := by
 unfold apK apR
 rw [List.all_eq_true,List.any_eq_false]
 constructor
 · intro h r hr
   obtain ⟨j,hj,rfl⟩ := List.mem_iff_getElem.1 hr
   have := h j (List.mem_range.2 hj)
   rw [getD_at hj] at this
   simp at this ⊢; omega
 · intro h k hk
   have hk := List.mem_range.1 hk
   have := h R[k] (List.getElem_mem hk)
   rw [getD_at hk]
   simp at this ⊢; omega
theorem apa_bits {s : SH} (h0 : shtE s = 0) : ∃ b,apR s (allR s) b = false ∧ b < pwN s.m.length ∧ apaL s = bitL b ∧ ∀ c,c < pwN s.m.length → apR s (allR s) c = false → (bitL c).length ≤ (apaL s).length := by
 have hv := val_of h0
 have w := pw_12 hv
 obtain ⟨⟨b,h1,h2,h3⟩,h4⟩ := bst_max (s := s) (i := pwN s.m.length)
 have ea : apaL s = bstT s (pwN s.m.length) := by unfold apaL; rw [if_pos h0]
 refine ⟨b,apK_R.1 h1,by omega,by rw [ea,h3],fun c hc hr => ?_⟩
 have := h4 c hc (apK_R.2 hr)
 rw [ea]
 unfold Bt at this
 omega
end Go.AM

namespace Go.AM
open Go.RowKit Go.Proofs
theorem wK_cons {k : Nat} {K : List Nat} {n : Nat} {φ : Nat → Nat} : wK (k :: K) (n + 1) φ = wK K (n + 1) φ + wK K n (fun c => φ (orN c k)) := rfl
theorem keys_map {s : SH} {R : List (Int × Int)} : ((List.range R.length).map fun j => bitO s (R.getD j (0,0))) = R.map fun r => bitO s r := by
 refine List.ext_getElem (by simp) fun i h1 h2 => ?_
 rw [List.length_map] at h2
 rw [List.getElem_map,List.getElem_map,List.getElem_range,getD_at h2]
theorem cwA_wK {s : SH} (hv : ValS s) {R : List (Int × Int)} {n : Nat} : cwA s R 0 n = wK (R.map fun r => bitO s r) n (is1 (allN s)) := by
 unfold cwA
 rw [cw_wK (fun r => bitO_small hv r) (Nat.two_pow_pos _),keys_map,wK_perm (List.reverse_perm _)]
 rfl
end Go.AM

namespace Go.AM
open Go.RowKit Go.Proofs
theorem plc_mem {s : SH} {c a : Int} (hk : isK s c = true) : a ∈ plcT s c 501 ↔ bitO s (c,a) ≠ 0 := by
 unfold plcT
 rw [List.mem_map]
 constructor
 · rintro ⟨k,hk,rfl⟩
   have := (List.mem_filter.1 hk).2
   simpa using this
 · intro hb
   have ha : 0 ≤ a ∧ a ≤ 500 := by
    refine Classical.byContradiction fun h => hb ?_
    unfold bitO
    rw [if_pos (by simp only; omega)]
   obtain ⟨a',rfl⟩ : ∃ a' : Nat,a = (a' : Int) := ⟨a.toNat,by omega⟩
   exact ⟨a',List.mem_filter.2 ⟨List.mem_range.2 (by omega),by simpa using hb⟩,rfl⟩
theorem plc_sorted {s : SH} {c : Int} {n : Nat} : (plcT s c n).Pairwise (· < ·) := by
 unfold plcT
 rw [List.pairwise_map]
 exact (List.pairwise_lt_range.filter _).imp fun h => by omega
theorem allB_bit {s : SH} {R : List (Int × Int)} {k : Nat} : (allB s R).testBit k = true ↔ ∃ r ∈ R,(bitO s r).testBit k = true := by
 rw [← foldl_or_le,foldl_bit,Nat.zero_testBit,Bool.false_or,List.any_eq_true]
 constructor
 · rintro ⟨x,hx,h⟩
   obtain ⟨r,hr,rfl⟩ := List.mem_map.1 hx
   exact ⟨r,hr,h⟩
 · rintro ⟨r,hr,h⟩
   exact ⟨_,List.mem_map.2 ⟨r,hr,rfl⟩,h⟩
theorem bit_4096 {s : SH} (hv : ValS s) {r : Int × Int} : bitO s r < 4096 := Nat.lt_of_lt_of_le (bitO_small hv r) (Nat.le_trans (Nat.pow_le_pow_right (by decide) hv.m12) (by decide))
theorem allB_lt {s : SH} (hv : ValS s) {R : List (Int × Int)} : allB s R < 2 ^ s.m.length := orT_small hv
theorem rest_bit {n x k : Nat} (hx : x < 2 ^ n) : (pwN n - 1 - x).testBit k = (decide (k < n) && !x.testBit k) := by
 unfold pwN
 rw [show 2 ^ n - 1 - x = 2 ^ n - (x + 1) from by omega,Nat.testBit_two_pow_sub_succ hx]
theorem lost_mem {s : SH} (hv : ValS s) {k : Nat} : (k : Int) ∈ lostL s ↔ k < s.m.length ∧ ¬ ∃ r ∈ allR s,(bitO s r).testBit k = true := by
 have w := pw_12 hv
 have hx := allB_lt hv (R := allR s)
 unfold lostL
 rw [bitL_mem (by have := w; omega),rest_bit hx,Bool.and_eq_true,decide_eq_true_eq,Bool.not_eq_true',← allB_bit]
 rw [Bool.not_eq_true]
theorem lost_all {s : SH} {x : Int} (hv : ValS s) (h : x ∈ lostL s) : ∃ k : Nat,x = k ∧ k < s.m.length := by
 have h2 := h
 unfold lostL bitL at h
 obtain ⟨k,rfl,_,_⟩ := bitT_mem.1 h
 exact ⟨k,rfl,((lost_mem hv).1 h2).1⟩
structure HadK (s : SH) (c i : Nat) (l : List Int) (o : Nat) : Prop where
 bit : ∀ t,o.testBit t = true ↔ (∃ r ∈ rwsK s c,(bitO s r).testBit t = true) ∨ (∃ r ∈ (rowOf s c).take i,(bitO s r).testBit t = true) ∨ (t : Int) ∈ l
theorem HadK.zero {s : SH} : HadK s 0 0 [] 0 := ⟨fun t => by
 rw [Nat.zero_testBit]
 constructor
 · intro h; cases h
 · rintro (⟨r,h,_⟩ | ⟨r,h,_⟩ | h)
   · cases h
   · cases h
   · cases h⟩
theorem HadK.row {s : SH} (hv : ValS s) {c i o : Nat} (hi : i < (rowOf s c).length) (h : HadK s c i (bitL (bitO s (rowOf s c)[i])) o) : HadK s c (i + 1) [] o := ⟨fun t => by
 rw [h.bit,List.take_succ_eq_append_getElem hi,bitL_mem (bit_4096 hv)]
 constructor
 · rintro (h | ⟨r,hr,hb⟩ | h)
   · exact .inl h
   · exact .inr (.inl ⟨r,List.mem_append.2 (.inl hr),hb⟩)
   · exact .inr (.inl ⟨_,List.mem_append.2 (.inr (.head _)),h⟩)
 · rintro (h | ⟨r,hr,hb⟩ | h)
   · exact .inl h
   · rcases List.mem_append.1 hr with hr | hr
     · exact .inr (.inl ⟨r,hr,hb⟩)
     · rw [List.mem_singleton] at hr; rw [hr] at hb; exact .inr (.inr hb)
   · cases h⟩
theorem HadK.mark {s : SH} {c i o k : Nat} {l : List Int} (h : HadK s c i l o) : HadK s c i (l ++ [(k : Int)]) (orN o (pwN k)) := ⟨fun t => by
 rw [orN_bit,pwN_bit,Bool.or_eq_true,h.bit,List.mem_append,List.mem_singleton,decide_eq_true_eq]
 constructor
 · rintro ((h | h | h) | h)
   · exact .inl h
   · exact .inr (.inl h)
   · exact .inr (.inr (.inl h))
   · exact .inr (.inr (.inr (by omega)))
 · rintro (h | h | h | h)
   · exact .inl (.inl h)
   · exact .inl (.inr (.inl h))
   · exact .inl (.inr (.inr h))
   · exact .inr (by omega)⟩
theorem HadK.end {s : SH} {o : Nat} (h : HadK s s.k.length 0 [] o) : o = allB s (allR s) := Nat.eq_of_testBit_eq fun t => by
 rw [Bool.eq_iff_iff,h.bit,allB_bit]
 constructor
 · rintro (h | ⟨r,hr,_⟩ | h)
   · exact h
   · cases hr
   · cases h
 · exact fun h => .inl h
theorem HadK.lt {s : SH} (hv : ValS s) {c i o : Nat} {l : List Int} (hl : ∀ x ∈ l,∀ k : Nat,x = k → k < s.m.length) (h : HadK s c i l o) : o < 4096 := by
 have hm := hv.m12
 refine Nat.lt_of_lt_of_le (m := 2 ^ s.m.length) (Nat.lt_pow_two_of_testBit _ fun t ht => ?_) (Nat.le_trans (Nat.pow_le_pow_right (by decide) hm) (by decide))
 have nb : ∀ r,(bitO s r).testBit t = false := fun r => Nat.testBit_lt_two_pow (Nat.lt_of_lt_of_le (bitO_small hv r) (Nat.pow_le_pow_right (by decide) ht))
 rw [← Bool.not_eq_true,h.bit]
 rintro (⟨r,_,h⟩ | ⟨r,_,h⟩ | h)
 · rw [nb] at h; cases h
 · rw [nb] at h; cases h
 · have := hl _ h t rfl; omega
end Go.AM

namespace Go.AM
open Go.RowKit Go.Proofs
def nTe (s : SH) (r : Int × Int) : Nat := (s.k.getD r.1.toNat (0,0)).2.toNat
def tooth (s : SH) (r : Int × Int) (j : Nat) : Int := r.2 + (j : Int) * (s.k.getD r.1.toNat (0,0)).1
def inM (s : SH) (i : Nat) (a : Int) : Prop := ∃ h : i < s.m.length,inP a s.m[i] = true
theorem inK_iff {s : SH} (hv : ValS s) {a : Int} {i : Nat} : inK s.m a = i ↔ inM s i a := by
 constructor
 · intro h
   have hm : ¬ ∀ k (hk : k < s.m.length),inP a s.m[k] = false := fun hn => by
    unfold inK at h
    rw [idxI_none hn] at h
    omega
   have : ∃ k,∃ hk : k < s.m.length,inP a s.m[k] = true := Classical.byContradiction fun hc => hm fun k hk => by
    cases e : inP a s.m[k] with
    | false => rfl
    | true => exact absurd ⟨k,hk,e⟩ hc
   obtain ⟨k,hk,e⟩ := this
   have := inK_at hv hk e
   obtain rfl : k = i := by omega
   exact ⟨hk,e⟩
 · rintro ⟨hi,e⟩
   exact inK_at hv hi e
theorem inK_neg {s : SH} (hv : ValS s) {a : Int} : 0 ≤ inK s.m a ↔ ∃ i,inM s i a := by
 constructor
 · intro h
   exact ⟨(inK s.m a).toNat,(inK_iff hv).1 (by omega)⟩
 · rintro ⟨i,h⟩
   have := (inK_iff hv).2 h
   omega
theorem rowB_some {m : List (Int × Int)} {sp a : Int} : ∀ {t o : Nat},rowB m sp a t = some o → (∀ j,j < t → 0 ≤ inK m (a + (j : Int) * sp)) ∧ ∀ i,o.testBit i = true ↔ ∃ j,j < t ∧ inK m (a + (j : Int) * sp) = (i : Int)
 | 0,o,h => by
   unfold rowB at h
   injection h with h
   subst h
   refine ⟨fun j hj => by omega,fun i => ?_⟩
   rw [Nat.zero_testBit]
   exact ⟨fun h => (by cases h),fun ⟨j,hj,_⟩ => by omega⟩
 | t + 1, o, h => by
   unfold rowB at h
   cases e : rowB m sp a t with
   | none => rw [e] at h; cases h
   | some q =>
     rw [e] at h
     simp only at h
     obtain ⟨h1,h2⟩ := rowB_some e
     split at h
     · cases h
     · rename_i hn
       injection h with h
       subst h
       refine ⟨fun j hj => ?_,fun i => ?_⟩
       · by_cases e : j = t
         · subst e; omega
         · exact h1 j (by omega)
       · rw [orN_bit,pwN_bit,Bool.or_eq_true,h2,decide_eq_true_eq]
         constructor
         · rintro (⟨j,hj,h⟩ | h)
           · exact ⟨j,by omega,h⟩
           · exact ⟨t,by omega,by omega⟩
         · rintro ⟨j,hj,h⟩
           by_cases e : j = t
           · subst e; exact .inr (by omega)
           · exact .inl ⟨j,by omega,h⟩
theorem rowB_no {m : List (Int × Int)} {sp a : Int} : ∀ {t : Nat},rowB m sp a t = none → ∃ j,j < t ∧ inK m (a + (j : Int) * sp) < 0
 | 0,h => by unfold rowB at h; cases h
 | t + 1, h => by
   unfold rowB at h
   cases e : rowB m sp a t with
   | none =>
     obtain ⟨j,hj,h⟩ := rowB_no e
     exact ⟨j,by omega,h⟩
   | some q =>
     rw [e] at h
     simp only at h
     split at h
     · rename_i hn; exact ⟨t,by omega,hn⟩
     · cases h
theorem kc_get {s : SH} (hv : ValS s) {n : Int} (hk : isK s n = true) : 1 ≤ (s.k.getD n.toNat (0,0)).1 ∧ (s.k.getD n.toNat (0,0)).1 ≤ 50 ∧ 2 ≤ (s.k.getD n.toNat (0,0)).2 ∧ (s.k.getD n.toNat (0,0)).2 ≤ 20 := by
 unfold isK at hk
 simp only [Bool.and_eq_true,decide_eq_true_eq] at hk
 have hi : n.toNat < s.k.length := by omega
 rw [getD_at hi]
 exact hv.kc _ (List.getElem_mem hi)
theorem inM_rng {s : SH} (hv : ValS s) {i : Nat} {a : Int} (h : inM s i a) : 0 ≤ a ∧ a ≤ 500 := by
 obtain ⟨hi,h⟩ := h
 have := hv.at hi
 unfold inP at h
 simp only [Bool.and_eq_true,decide_eq_true_eq] at h
 omega
theorem bits_iff {s : SH} (hv : ValS s) {r : Int × Int} (hk : isK s r.1 = true) {i : Nat} : (bitO s r).testBit i = true ↔ (∀ j,j < nTe s r → ∃ q,inM s q (tooth s r j)) ∧ ∃ j,j < nTe s r ∧ inM s i (tooth s r j) := by
 have kc := kc_get hv hk
 have t2 : 2 ≤ nTe s r := by unfold nTe; omega
 have t0 : tooth s r 0 = r.2 := by unfold tooth; simp
 unfold bitO
 by_cases hr : r.2 < 0 ∨ 500 < r.2
 · rw [if_pos hr,Nat.zero_testBit]
   constructor
   · intro h; cases h
   · rintro ⟨h,_⟩
     obtain ⟨q,hq⟩ := h 0 (by omega)
     have := inM_rng hv hq
     omega
 · rw [if_neg hr]
   show ((rowB s.m (s.k.getD r.1.toNat (0,0)).1 r.2 (nTe s r)).getD 0).testBit i = true ↔ _
   cases e : rowB s.m (s.k.getD r.1.toNat (0,0)).1 r.2 (nTe s r) with
   | none =>
     rw [Option.getD_none,Nat.zero_testBit]
     obtain ⟨j,hj,hn⟩ := rowB_no e
     constructor
     · intro h; cases h
     · rintro ⟨h,_⟩
       have := (inK_neg hv).2 (h j hj)
       unfold tooth at this
       omega
   | some o =>
     obtain ⟨h1,h2⟩ := rowB_some e
     rw [Option.getD_some,h2]
     constructor
     · rintro ⟨j,hj,h⟩
       exact ⟨fun j hj => (inK_neg hv).1 (h1 j hj),j,hj,(inK_iff hv).1 h⟩
     · rintro ⟨_,j,hj,h⟩
       exact ⟨j,hj,(inK_iff hv).2 h⟩
theorem bit_mark {s : SH} (hv : ValS s) {r : Int × Int} {i : Nat} (h : (bitO s r).testBit i = true) : i < s.m.length := Classical.byContradiction fun hk => by
 have := Nat.testBit_lt_two_pow (Nat.lt_of_lt_of_le (bitO_small hv r) (Nat.pow_le_pow_right (by decide) (show s.m.length ≤ i by omega)))
 rw [this] at h
 cases h
theorem sht_val {s : SH} (hv : ValS s) : shtE s = 0 := by
 unfold shtE
 have := hv.k1; have := hv.k8; have := hv.m1; have := hv.m12
 rw [if_neg (by omega),if_neg]
 · refine mrkE_good fun k hk => ?_
   have h1 := hv.at hk
   unfold mkB
   rw [getD_at hk]
   simp only [Bool.or_eq_false_iff,Bool.and_eq_false_iff,decide_eq_false_iff_not]
   refine ⟨⟨⟨⟨by omega,by omega⟩,by omega⟩,by omega⟩,?_⟩
   by_cases h0 : 0 < k
   · right
     have := hv.nx (k - 1) k (by omega) hk (by omega)
     rw [getD_at (by omega)]
     omega
   · exact .inl h0
 · rw [Bool.not_eq_false,List.all_eq_true]
   intro p hp
   have := hv.kc p hp
   unfold cmbO
   simp only [Bool.and_eq_true,decide_eq_true_eq]
   omega
theorem sorted_ext : ∀ {l m : List Int},l.Pairwise (· < ·) → m.Pairwise (· < ·) → (∀ x,x ∈ l ↔ x ∈ m) → l = m
 | [],[],_,_,_ => rfl
 | [],y :: m,_,_,h => by have := (h y).2 (.head _); cases this
 | x :: l,[],_,_,h => by have := (h x).1 (.head _); cases this
 | x :: l, y :: m, hl, hm, h => by
   obtain ⟨a1,a2⟩ := List.pairwise_cons.1 hl
   obtain ⟨b1,b2⟩ := List.pairwise_cons.1 hm
   have e : x = y := by
    rcases List.mem_cons.1 ((h x).1 (.head _)) with e | h1
    · exact e
    rcases List.mem_cons.1 ((h y).2 (.head _)) with e | h2
    · exact e.symm
    have := b1 x h1
    have := a1 y h2
    omega
   subst e
   rw [sorted_ext a2 b2 fun z => ?_]
   have := h z
   rw [List.mem_cons,List.mem_cons] at this
   constructor
   · intro hz
     rcases this.1 (.inr hz) with e | h
     · subst e; have := a1 z hz; omega
     · exact h
   · intro hz
     rcases this.2 (.inr hz) with e | h
     · subst e; have := b1 z hz; omega
     · exact h
def FewV (s : SH) (v : Nat) : Prop := (lostL s ≠ [] ∧ v = 100) ∨ (lostL s = [] ∧ v ≤ s.m.length ∧ RkR s (allR s) 0 v (allN s) ∧ ∀ k,k < v → ¬ RkR s (allR s) 0 k (allN s))
theorem rk_lost {s : SH} (hv : ValS s) {n : Nat} (h : RkR s (allR s) 0 n (allN s)) : lostL s = [] := by
 refine Classical.byContradiction fun hne => ?_
 cases e : lostL s with
 | nil => exact hne e
 | cons x l =>
   have hx : x ∈ lostL s := by rw [e]; exact .head _
   obtain ⟨k,rfl,hk⟩ := lost_all hv hx
   refine ((lost_mem hv).1 hx).2 ?_
   obtain ⟨ks,_,h2,h3⟩ := h
   have : (allN s).testBit k = true := by unfold allN pwN; rw [Nat.testBit_two_pow_sub_one,decide_eq_true hk]
   rw [← h3,foldl_bit,Nat.zero_testBit,Bool.false_or,List.any_eq_true] at this
   obtain ⟨y,hy,hb⟩ := this
   obtain ⟨r,hr,rfl⟩ := h2 y hy
   exact ⟨r,hr,hb⟩
theorem rk_of_cover {s : SH} (hv : ValS s) {R : List (Int × Int)} (h : ∀ k,k < s.m.length → ∃ r ∈ R,(bitO s r).testBit k = true) : RkR s R 0 R.length (allN s) := by
 refine ⟨R.map fun r => bitO s r,by simp,fun k hk => by obtain ⟨r,hr,e⟩ := List.mem_map.1 hk; exact ⟨r,hr,e⟩,Nat.eq_of_testBit_eq fun i => ?_⟩
 rw [foldl_bit,Nat.zero_testBit,Bool.false_or]
 unfold allN pwN
 rw [Nat.testBit_two_pow_sub_one,Bool.eq_iff_iff,List.any_eq_true,decide_eq_true_eq]
 constructor
 · rintro ⟨x,hx,hb⟩
   obtain ⟨r,hr,rfl⟩ := List.mem_map.1 hx
   exact bit_mark hv hb
 · intro hi
   obtain ⟨r,hr,hb⟩ := h i hi
   exact ⟨_,List.mem_map.2 ⟨r,hr,rfl⟩,hb⟩
theorem few_ex {s : SH} (hv : ValS s) : ∃ v,FewV s v := by
 by_cases hL : lostL s = []
 · have h1 : RkR s (allR s) 0 (allR s).length (allN s) := rk_of_cover hv fun k hk => Classical.byContradiction fun hn => by
    have : (k : Int) ∈ lostL s := (lost_mem hv).2 ⟨hk,hn⟩
    rw [hL] at this
    cases this
   obtain ⟨n,h2,h3⟩ := leastR (P := fun n => RkR s (allR s) 0 n (allN s)) ⟨_,h1⟩
   refine ⟨n,.inr ⟨hL,?_,h2,fun k hk h => by have := h3 k h; omega⟩⟩
   have w := pw_12 hv
   obtain ⟨m,a1,a2,a3⟩ := RkR.short (t := allN s) (by unfold allN pwN at *; omega) h2
   rw [cnt_all hv] at a2
   have := h3 m a3
   omega
 · exact ⟨100,.inl ⟨hL,rfl⟩⟩
theorem few_bst {s : SH} {v : Nat} (h : FewV s v) (hL : lostL s = []) {B : List (Int × Int)} (hB : Bst s B) : B.length = v := by
 rcases h with ⟨h,_⟩ | ⟨_,_,h1,h2⟩
 · exact absurd hL h
 · have a := h2 B.length
   have b := hB.few v
   have c := bst_rk hB
   refine Classical.byContradiction fun hne => ?_
   rcases Nat.lt_or_gt_of_ne hne with h | h
   · exact a h c
   · exact b h h1
theorem few_100 {s : SH} (hv : ValS s) {v : Nat} (h : FewV s v) : v = 100 ↔ lostL s ≠ [] := by
 have := hv.m12
 rcases h with ⟨h,e⟩ | ⟨h,e,_⟩
 · exact ⟨fun _ => h,fun _ => e⟩
 · exact ⟨fun e2 => by omega,fun e2 => absurd h e2⟩
end Go.AM

namespace Go.AM
open Go.RowKit Go.Proofs
theorem pick_rows {s : SH} {R : List (Int × Int)} : ∀ {ks : List Nat},(∀ k ∈ ks,∃ r ∈ R,bitO s r = k) → ∃ Q : List (Int × Int),(∀ r ∈ Q,r ∈ R) ∧ (Q.map fun r => bitO s r) = ks
 | [],_ => ⟨[],fun _ h => (by cases h),rfl⟩
 | k :: ks,h => by
   obtain ⟨Q,a,b⟩ := pick_rows (ks := ks) fun k hk => h k (.tail _ hk)
   obtain ⟨r,hr,e⟩ := h k (.head _)
   refine ⟨r :: Q,fun x hx => ?_,by rw [List.map_cons,e,b]⟩
   rcases List.mem_cons.1 hx with rfl | hx
   · exact hr
   · exact a x hx
theorem rk_has {s : SH} {R : List (Int × Int)} {n : Nat} (h : RkR s R 0 n (allN s)) : ∃ Q : List (Int × Int),Q.length = n ∧ (∀ r ∈ Q,r ∈ R) ∧ ∀ i,i < s.m.length → ∃ r ∈ Q,(bitO s r).testBit i = true := by
 obtain ⟨ks,h1,h2,h3⟩ := h
 obtain ⟨Q,a,b⟩ := pick_rows h2
 refine ⟨Q,by rw [← h1,← b,List.length_map],a,fun i hi => ?_⟩
 have : (allN s).testBit i = true := by unfold allN pwN; rw [Nat.testBit_two_pow_sub_one,decide_eq_true hi]
 rw [← h3,foldl_bit,Nat.zero_testBit,Bool.false_or,List.any_eq_true] at this
 obtain ⟨y,hy,hb⟩ := this
 rw [← b] at hy
 obtain ⟨r,hr,rfl⟩ := List.mem_map.1 hy
 exact ⟨r,hr,hb⟩
theorem RkR.of_cover {s : SH} (hv : ValS s) {Q : List (Int × Int)} (h1 : ∀ r ∈ Q,r ∈ allR s) (h : ∀ i,i < s.m.length → ∃ r ∈ Q,(bitO s r).testBit i = true) : RkR s (allR s) 0 Q.length (allN s) :=
 (rk_of_cover hv h).sub fun r hr => ⟨r,h1 r hr,rfl⟩
end Go.AM

namespace Go.AM
open Go.RowKit Go.Proofs
structure RelB (n : Nat) (σ : Nat → Nat) (b b' : Nat) : Prop where
 lt : b < 2 ^ n
 lt' : b' < 2 ^ n
 bit : ∀ i,i < n → b'.testBit i = b.testBit (σ i)
structure Inv2 (n : Nat) (σ : Nat → Nat) : Prop where
 lt : ∀ i,i < n → σ i < n
 inv : ∀ i,i < n → σ (σ i) = i
theorem RelB.symm {n : Nat} {σ : Nat → Nat} (hσ : Inv2 n σ) {b b' : Nat} (h : RelB n σ b b') : RelB n σ b' b := ⟨h.lt',h.lt,fun i hi => by rw [h.bit _ (hσ.lt i hi),hσ.inv i hi]⟩
theorem RelB.zero {n : Nat} {σ : Nat → Nat} : RelB n σ 0 0 := ⟨Nat.two_pow_pos _,Nat.two_pow_pos _,fun i _ => by rw [Nat.zero_testBit,Nat.zero_testBit]⟩
theorem RelB.or {n : Nat} {σ : Nat → Nat} {a a' b b' : Nat} (h : RelB n σ a a') (k : RelB n σ b b') : RelB n σ (orN a b) (orN a' b') := ⟨Nat.or_lt_two_pow h.lt k.lt,Nat.or_lt_two_pow h.lt' k.lt',fun i hi => by rw [orN_bit,orN_bit,h.bit i hi,k.bit i hi]⟩
theorem RelB.and {n : Nat} {σ : Nat → Nat} {a a' b b' : Nat} (h : RelB n σ a a') (k : RelB n σ b b') : RelB n σ (andN a b) (andN a' b') := ⟨Nat.and_lt_two_pow _ k.lt,Nat.and_lt_two_pow _ k.lt',fun i hi => by rw [andN_bit,andN_bit,h.bit i hi,k.bit i hi]⟩
theorem bits_ex {p : Nat → Bool} : ∀ {n : Nat},∃ b,b < 2 ^ n ∧ ∀ i,i < n → b.testBit i = p i
 | 0 => ⟨0,Nat.two_pow_pos _,fun i h => by omega⟩
 | n + 1 => by
   obtain ⟨b,h1,h2⟩ := bits_ex (p := p) (n := n)
   have hb : b.testBit n = false := Nat.testBit_lt_two_pow h1
   have h1' : b < 2 ^ (n + 1) := Nat.lt_of_lt_of_le h1 (Nat.pow_le_pow_right (by decide) (by omega))
   cases hp : p n with
   | false =>
     refine ⟨b,h1',fun i hi => ?_⟩
     by_cases e : i = n
     · subst e; rw [hb,hp]
     · exact h2 i (by omega)
   | true =>
     refine ⟨orN b (pwN n),Nat.or_lt_two_pow h1' (Nat.pow_lt_pow_right (by decide) (by omega)),fun i hi => ?_⟩
     rw [orN_bit,pwN_bit]
     by_cases e : i = n
     · subst e; rw [hp,decide_eq_true rfl,Bool.or_true]
     · rw [h2 i (by omega),decide_eq_false (fun h => e h.symm),Bool.or_false]
theorem rel_ex {n : Nat} {σ : Nat → Nat} {b : Nat} (hb : b < 2 ^ n) : ∃ b',RelB n σ b b' := by
 obtain ⟨b',h1,h2⟩ := bits_ex (p := fun i => b.testBit (σ i)) (n := n)
 exact ⟨b',hb,h1,h2⟩
theorem rel_cnt_le {n : Nat} (hn : n ≤ 12) {σ : Nat → Nat} (hσ : Inv2 n σ) {b b' : Nat} (h : RelB n σ b b') : (bitL b').length ≤ (bitL b).length := by
 have hb : b < 4096 := Nat.lt_of_lt_of_le h.lt (Nat.le_trans (Nat.pow_le_pow_right (by decide) hn) (by decide))
 have hb' : b' < 4096 := Nat.lt_of_lt_of_le h.lt' (Nat.le_trans (Nat.pow_le_pow_right (by decide) hn) (by decide))
 have mem : ∀ x ∈ bitL b',∃ k : Nat,x = k ∧ k < n ∧ b'.testBit k = true := fun x hx => by
  unfold bitL at hx
  obtain ⟨k,rfl,_,hk⟩ := bitT_mem.1 hx
  refine ⟨k,rfl,Classical.byContradiction fun hlt => ?_,hk⟩
  rw [Nat.testBit_lt_two_pow (Nat.lt_of_lt_of_le h.lt' (Nat.pow_le_pow_right (by decide) (by omega)))] at hk
  cases hk
 have nd : ((bitL b').map fun x => ((σ x.toNat : Nat) : Int)).Nodup := by
  refine List.pairwise_map.2 (List.Pairwise.imp_of_mem (fun {x y} hx hy (hxy : x < y) e => ?_) (bitL_sorted (n := b')))
  obtain ⟨i,rfl,hi,_⟩ := mem x hx
  obtain ⟨j,rfl,hj,_⟩ := mem y hy
  rw [Int.toNat_natCast,Int.toNat_natCast] at e
  have e2 : σ i = σ j := by omega
  have := hσ.inv i hi
  rw [e2,hσ.inv j hj] at this
  omega
 have := nd.length_le_of_subset (l₂ := bitL b) fun y hy => by
  obtain ⟨x,hx,rfl⟩ := List.mem_map.1 hy
  obtain ⟨i,rfl,hi,hbi⟩ := mem x hx
  rw [Int.toNat_natCast,bitL_mem hb,← h.bit i hi]
  exact hbi
 rw [List.length_map] at this
 exact this
theorem rel_cnt {n : Nat} (hn : n ≤ 12) {σ : Nat → Nat} (hσ : Inv2 n σ) {b b' : Nat} (h : RelB n σ b b') : (bitL b').length = (bitL b).length := Nat.le_antisymm (rel_cnt_le hn hσ h) (rel_cnt_le hn hσ (h.symm hσ))
theorem wK_rel {n : Nat} {σ : Nat → Nat} {α : Type} {f g : α → Nat} : ∀ {L : List α} {k : Nat} {φ ψ : Nat → Nat},(∀ r ∈ L,RelB n σ (f r) (g r)) → (∀ b b',RelB n σ b b' → φ b = ψ b') → wK (L.map f) k φ = wK (L.map g) k ψ
 | [],k,φ,ψ,_,h => by
   rw [List.map_nil,List.map_nil]
   unfold wK
   rw [h 0 0 .zero]
 | r :: L,0,φ,ψ,_,h => by rw [wK_zero,wK_zero,h 0 0 .zero]
 | r :: L,k + 1,φ,ψ,hr,h => by
   rw [List.map_cons,List.map_cons,wK_cons,wK_cons,wK_rel (fun r h => hr r (.tail _ h)) h,wK_rel (fun r h => hr r (.tail _ h)) fun b b' hb => h _ _ (hb.or (hr r (.head _)))]
structure RelS (s x : SH) (σ : Nat → Nat) (ρ ρ' : Int × Int → Int × Int) : Prop where
 v : ValS s
 v' : ValS x
 k : x.k = s.k
 n : x.m.length = s.m.length
 inv : Inv2 s.m.length σ
 bit : ∀ r,isK s r.1 = true → ∀ i,i < s.m.length → (bitO x (ρ r)).testBit i = (bitO s r).testBit (σ i)
 fst : ∀ r,(ρ r).1 = r.1
 fst' : ∀ r,(ρ' r).1 = r.1
 l : ∀ r,ρ' (ρ r) = r
 r : ∀ r,ρ (ρ' r) = r
theorem RelS.isK {s x σ ρ ρ'} (h : RelS s x σ ρ ρ') {n : Int} : isK x n = isK s n := by unfold AM.isK; rw [h.k]
theorem RelS.symm {s x σ ρ ρ'} (h : RelS s x σ ρ ρ') : RelS x s σ ρ' ρ := by
 refine ⟨h.v',h.v,h.k.symm,h.n.symm,by rw [h.n]; exact h.inv,fun r hr i hi => ?_,h.fst',h.fst,h.r,h.l⟩
 rw [h.n] at hi
 rw [h.isK] at hr
 have := h.bit (ρ' r) (by rw [h.fst']; exact hr) (σ i) (h.inv.lt i hi)
 rw [h.r,h.inv.inv i hi] at this
 exact this.symm
theorem RelS.rel {s x σ ρ ρ'} (h : RelS s x σ ρ ρ') {r : Int × Int} (hr : AM.isK s r.1 = true) : RelB s.m.length σ (bitO s r) (bitO x (ρ r)) := ⟨bitO_small h.v r,by rw [← h.n]; exact bitO_small h.v' _,h.bit r hr⟩
theorem RelS.fit {s x σ ρ ρ'} (h : RelS s x σ ρ ρ') {r : Int × Int} (hr : AM.isK s r.1 = true) (hb : bitO s r ≠ 0) : bitO x (ρ r) ≠ 0 := by
 obtain ⟨i,hi⟩ := ne_zero.1 hb
 have hn := bit_mark h.v hi
 refine ne_zero.2 ⟨σ i,?_⟩
 rw [h.bit r hr _ (h.inv.lt i hn),h.inv.inv i hn]
 exact hi
theorem RelS.row {s x σ ρ ρ'} (h : RelS s x σ ρ ρ') {r : Int × Int} (hr : r ∈ allR s) : ρ r ∈ allR x := by
 obtain ⟨a,b⟩ := isK_allR hr
 exact mem_allR (by rw [h.isK,h.fst]; exact a) (h.fit a b)
theorem RelS.perm {s x σ ρ ρ'} (h : RelS s x σ ρ ρ') : (allR x).Perm ((allR s).map ρ) := by
 refine perm_of nodup_allR ?_ fun r => ?_
 · refine List.pairwise_map.2 ((nodup_allR (s := s)).imp fun {a b} hab e => hab ?_)
   have := congrArg ρ' e
   rw [h.l,h.l] at this
   exact this
 · constructor
   · intro hr
     exact List.mem_map.2 ⟨ρ' r,h.symm.row hr,h.r r⟩
   · intro hr
     obtain ⟨q,hq,rfl⟩ := List.mem_map.1 hr
     exact h.row hq
theorem RelS.all {s x σ ρ ρ'} (h : RelS s x σ ρ ρ') : allN x = allN s := by unfold allN; rw [h.n]
theorem all_iff {n : Nat} {σ : Nat → Nat} (hσ : Inv2 n σ) {b b' : Nat} (h : RelB n σ b b') : b' = pwN n - 1 → b = pwN n - 1 := by
 intro e
 refine Nat.eq_of_testBit_eq fun i => ?_
 unfold pwN at *
 rw [Nat.testBit_two_pow_sub_one]
 by_cases hi : i < n
 · rw [decide_eq_true hi]
   have := h.bit (σ i) (hσ.lt i hi)
   rw [e,Nat.testBit_two_pow_sub_one,decide_eq_true (hσ.lt i hi),hσ.inv i hi] at this
   exact this.symm
 · rw [decide_eq_false hi]
   exact Nat.testBit_lt_two_pow (Nat.lt_of_lt_of_le h.lt (Nat.pow_le_pow_right (by decide) (by omega)))
theorem RelS.cw {s x σ ρ ρ'} (h : RelS s x σ ρ ρ') {n : Nat} : cwA x (allR x) 0 n = cwA s (allR s) 0 n := by
 rw [cwA_wK h.v',cwA_wK h.v,wK_perm (h.perm.map _),List.map_map]
 refine (wK_rel (n := s.m.length) (σ := σ) (fun r hr => h.rel (isK_allR hr).1) fun b b' hb => ?_).symm
 unfold is1
 rw [h.all]
 by_cases e : b = allN s
 · have a1 : b' = allN s := all_iff h.inv (hb.symm h.inv) e
   rw [if_pos e,if_pos a1]
 · have a1 : ¬ b' = allN s := fun e' => e (all_iff h.inv hb e')
   rw [if_neg e,if_neg a1]
theorem RelS.rk {s x σ ρ ρ'} (h : RelS s x σ ρ ρ') {n : Nat} (hr : RkR s (allR s) 0 n (allN s)) : RkR x (allR x) 0 n (allN x) := by
 obtain ⟨Q,q1,q2,q3⟩ := rk_has hr
 have := RkR.of_cover h.v' (Q := Q.map ρ) (fun r hr => by obtain ⟨q,hq,rfl⟩ := List.mem_map.1 hr; exact h.row (q2 q hq)) fun i hi => by
  rw [h.n] at hi
  obtain ⟨r,hr,hb⟩ := q3 (σ i) (h.inv.lt i hi)
  exact ⟨ρ r,List.mem_map.2 ⟨r,hr,rfl⟩,by rw [h.bit r (isK_allR (q2 r hr)).1 i hi]; exact hb⟩
 rw [List.length_map,q1] at this
 exact this
theorem RelS.lost {s x σ ρ ρ'} (h : RelS s x σ ρ ρ') (hl : lostL s = []) : lostL x = [] := by
 obtain ⟨v,hv⟩ := few_ex h.v
 rcases hv with ⟨hv,_⟩ | ⟨_,_,hv,_⟩
 · exact absurd hl hv
 · exact rk_lost h.v' (h.rk hv)
theorem RelS.few {s x σ ρ ρ'} (h : RelS s x σ ρ ρ') {v : Nat} (hf : FewV s v) : FewV x v := by
 rcases hf with ⟨h1,h2⟩ | ⟨h1,h2,h3,h4⟩
 · exact .inl ⟨fun hl => h1 (h.symm.lost hl),h2⟩
 · exact .inr ⟨h.lost h1,by rw [h.n]; exact h2,h.rk h3,fun k hk hr => h4 k hk (h.symm.rk hr)⟩
theorem RelS.ct {s x σ ρ ρ'} (h : RelS s x σ ρ ρ') {v e : Int} (hA : AnsCt s v e) : AnsCt x v e := by
 have h0 := sht_val h.v
 have h0' := sht_val h.v'
 rcases hA with ⟨h1,_⟩ | ⟨_,⟨h1,h2⟩ | ⟨h1,n,c,hW,hc⟩⟩
 · exact absurd h0 h1
 · exact .inr ⟨h0',.inl ⟨fun hl => h1 (h.symm.lost hl),h2⟩⟩
 · refine .inr ⟨h0',.inr ⟨h.lost h1,n,c,?_,hc⟩⟩
   unfold AnsW
   simp only [h.cw,h.n]
   exact hW
theorem RelS.apR {s x σ ρ ρ'} (h : RelS s x σ ρ ρ') {b b' : Nat} (hb : RelB s.m.length σ b b') (ha : apR s (allR s) b = false) : apR x (allR x) b' = false := by
 unfold AM.apR at *
 rw [List.any_eq_false] at ha ⊢
 intro r hr
 have hq := h.symm.row hr
 have := ha _ hq
 have e := rel_cnt h.v.m12 h.inv ((h.rel (isK_allR hq).1).and hb)
 rw [h.r] at e
 rw [e]
 exact this
theorem RelS.apL {s x σ ρ ρ'} (h : RelS s x σ ρ ρ') : (apaL s).length ≤ (apaL x).length := by
 obtain ⟨b,h1,h2,h3,_⟩ := apa_bits (sht_val h.v)
 obtain ⟨_,_,_,_,h4⟩ := apa_bits (sht_val h.v')
 obtain ⟨b',hb⟩ := rel_ex (σ := σ) (n := s.m.length) h2
 have := h4 b' (by rw [h.n]; exact hb.lt') (h.apR hb h1)
 rw [h3,← rel_cnt h.v.m12 h.inv hb]
 exact this
theorem RelS.apLen {s x σ ρ ρ'} (h : RelS s x σ ρ ρ') : (apaL x).length = (apaL s).length := Nat.le_antisymm h.symm.apL h.apL
abbrev shiS (s : SH) (far : Int) : SH := ⟨s.k,s.m.map fun p => (p.1 + far,p.2 + far)⟩
abbrev turS (s : SH) : SH := ⟨s.k,(s.m.map fun p => (500 - p.2,500 - p.1)).reverse⟩
theorem inM_shi {s : SH} {far a : Int} {i : Nat} : inM (shiS s far) i (a + far) ↔ inM s i a := by
 unfold inM
 simp only [List.length_map,List.getElem_map,inP,Bool.and_eq_true,decide_eq_true_eq]
 constructor
 · rintro ⟨h,a,b⟩; exact ⟨h,by omega,by omega⟩
 · rintro ⟨h,a,b⟩; exact ⟨h,by omega,by omega⟩
theorem shi_rel {s : SH} (hv : ValS s) {far : Int} (hx : ValS (shiS s far)) : RelS s (shiS s far) id (fun r => (r.1,r.2 + far)) (fun r => (r.1,r.2 - far)) := by
 refine ⟨hv,hx,rfl,by simp,⟨fun i h => h,fun i h => rfl⟩,fun r hr i hi => ?_,fun r => rfl,fun r => rfl,fun r => ?_,fun r => ?_⟩
 · rw [Bool.eq_iff_iff,bits_iff hx (by exact hr),bits_iff hv hr]
   have et : ∀ j,tooth (shiS s far) (r.1,r.2 + far) j = tooth s r j + far := fun j => by
    show r.2 + far + (j : Int) * (s.k.getD r.1.toNat (0,0)).1 = r.2 + (j : Int) * (s.k.getD r.1.toNat (0,0)).1 + far
    omega
   have en : nTe (shiS s far) (r.1,r.2 + far) = nTe s r := rfl
   rw [en]
   simp only [et,inM_shi,id]
 · show (r.1,r.2 + far - far) = r
   rw [Int.add_sub_cancel]
 · show (r.1,r.2 - far + far) = r
   rw [Int.sub_add_cancel]
theorem tur_len {s : SH} : (turS s).m.length = s.m.length := by simp
theorem inM_tur {s : SH} {a : Int} {i : Nat} (hi : i < s.m.length) : inM (turS s) i (500 - a) ↔ inM s (s.m.length - 1 - i) a := by
 have l : ((s.m.map fun p => ((500 : Int) - p.2,(500 : Int) - p.1)).reverse).length = s.m.length := by simp
 unfold inM
 have e : ∀ h : i < (turS s).m.length,(turS s).m[i] = (500 - (s.m[s.m.length - 1 - i]'(by omega)).2,500 - (s.m[s.m.length - 1 - i]'(by omega)).1) := fun h => by
  show ((s.m.map fun p => ((500 : Int) - p.2,(500 : Int) - p.1)).reverse)[i] = _
  rw [List.getElem_reverse,List.getElem_map]
  simp only [List.length_map]
 constructor
 · rintro ⟨h,hp⟩
   rw [e h] at hp
   refine ⟨by omega,?_⟩
   simp only [inP,Bool.and_eq_true,decide_eq_true_eq] at hp ⊢
   omega
 · rintro ⟨h,hp⟩
   have h' : i < (turS s).m.length := by rw [tur_len]; exact hi
   refine ⟨h',?_⟩
   rw [e h']
   simp only [inP,Bool.and_eq_true,decide_eq_true_eq] at hp ⊢
   omega
theorem val_tur {s : SH} (hv : ValS s) : ValS (turS s) := by
 refine ⟨hv.k1,hv.k8,by rw [tur_len]; exact hv.m1,by rw [tur_len]; exact hv.m12,hv.kc,fun p hp => ?_,fun i j hi hj hij => ?_⟩
 · rw [List.mem_reverse,List.mem_map] at hp
   obtain ⟨q,hq,rfl⟩ := hp
   have := hv.mc q hq
   simp only
   omega
 · have hi' : i < s.m.length := by rw [tur_len] at hi; exact hi
   have hj' : j < s.m.length := by rw [tur_len] at hj; exact hj
   have e : ∀ k (h : k < (turS s).m.length) (h' : s.m.length - 1 - k < s.m.length),(turS s).m[k] = (500 - s.m[s.m.length - 1 - k].2,500 - s.m[s.m.length - 1 - k].1) := fun k h h' => by
    show ((s.m.map fun p => ((500 : Int) - p.2,(500 : Int) - p.1)).reverse)[k] = _
    rw [List.getElem_reverse,List.getElem_map]
    simp only [List.length_map]
   rw [e i hi (by omega),e j hj (by omega)]
   have := hv.nx (s.m.length - 1 - j) (s.m.length - 1 - i) (by omega) (by omega) (by omega)
   simp only
   omega
def lonK (s : SH) (c : Int) : Int := ((s.k.getD c.toNat (0,0)).2 - 1) * (s.k.getD c.toNat (0,0)).1
theorem tur_rel {s : SH} (hv : ValS s) : RelS s (turS s) (fun i => s.m.length - 1 - i) (fun r => (r.1,500 - r.2 - lonK s r.1)) (fun r => (r.1,500 - r.2 - lonK s r.1)) := by
 have hx := val_tur hv
 refine ⟨hv,hx,rfl,tur_len,⟨fun i h => by omega,fun i h => by omega⟩,fun r hr i hi => ?_,fun r => rfl,fun r => rfl,fun r => ?_,fun r => ?_⟩
 · rw [Bool.eq_iff_iff, bits_iff hx (by exact hr), bits_iff hv hr]
   have kc := kc_get hv hr
   have nt : ((nTe s r : Nat) : Int) = (s.k.getD r.1.toNat (0,0)).2 := by unfold nTe; omega
   have et : ∀ j,j < nTe s r → tooth (turS s) (r.1,500 - r.2 - lonK s r.1) j = 500 - tooth s r (nTe s r - 1 - j) := fun j hj => by
    show 500 - r.2 - ((s.k.getD r.1.toNat (0,0)).2 - 1) * (s.k.getD r.1.toNat (0,0)).1 + (j : Int) * (s.k.getD r.1.toNat (0,0)).1 = 500 - (r.2 + ((nTe s r - 1 - j : Nat) : Int) * (s.k.getD r.1.toNat (0,0)).1)
    have e1 : ((nTe s r - 1 - j : Nat) : Int) = (s.k.getD r.1.toNat (0,0)).2 - 1 - (j : Int) := by omega
    rw [e1,Int.sub_mul _ (j : Int)]
    omega
   have en : nTe (turS s) (r.1,500 - r.2 - lonK s r.1) = nTe s r := rfl
   rw [en]
   constructor
   · rintro ⟨h1,j,hj,h2⟩
     refine ⟨fun j hj => ?_,nTe s r - 1 - j,by omega,?_⟩
     · obtain ⟨q,hq⟩ := h1 (nTe s r - 1 - j) (by omega)
       rw [et _ (by omega),show nTe s r - 1 - (nTe s r - 1 - j) = j from by omega] at hq
       have hq' : q < s.m.length := by have := hq.1; rw [tur_len] at this; exact this
       exact ⟨_,(inM_tur hq').1 hq⟩
     · rw [et _ hj] at h2
       exact (inM_tur hi).1 h2
   · rintro ⟨h1,j,hj,h2⟩
     refine ⟨fun j hj => ?_,nTe s r - 1 - j,by omega,?_⟩
     · obtain ⟨q,hq⟩ := h1 (nTe s r - 1 - j) (by omega)
       have hq' := hq.1
       rw [et _ hj]
       refine ⟨s.m.length - 1 - q,(inM_tur (by omega)).2 ?_⟩
       rw [show s.m.length - 1 - (s.m.length - 1 - q) = q from by omega]
       exact hq
     · rw [et _ (by omega),show nTe s r - 1 - (nTe s r - 1 - j) = j from by omega]
       exact (inM_tur hi).2 h2
 · show (r.1,500 - (500 - r.2 - lonK s r.1) - lonK s r.1) = r
   rw [show 500 - (500 - r.2 - lonK s r.1) - lonK s r.1 = r.2 from by omega]
 · show (r.1,500 - (500 - r.2 - lonK s r.1) - lonK s r.1) = r
   rw [show 500 - (500 - r.2 - lonK s r.1) - lonK s r.1 = r.2 from by omega]
theorem shi_pls {s : SH} (hv : ValS s) {far : Int} (hx : ValS (shiS s far)) {c : Int} (hc : isK s c = true) : plcT (shiS s far) c 501 = (plcT s c 501).map fun a => a + far := by
 have h := shi_rel hv hx
 refine sorted_ext plc_sorted (List.pairwise_map.2 (plc_sorted.imp fun h => by omega)) fun a => ?_
 rw [plc_mem (by exact hc),List.mem_map]
 constructor
 · intro hb
   refine ⟨a - far,(plc_mem hc).2 ?_,by omega⟩
   exact h.symm.fit (r := (c,a)) (by exact hc) hb
 · rintro ⟨b,hb,rfl⟩
   exact h.fit (r := (c,b)) hc ((plc_mem hc).1 hb)
theorem tur_pls {s : SH} (hv : ValS s) {c : Int} (hc : isK s c = true) : plcT (turS s) c 501 = ((plcT s c 501).map fun a => 500 - a - lonK s c).reverse := by
 have h := tur_rel hv
 refine sorted_ext plc_sorted (List.pairwise_reverse.2 (List.pairwise_map.2 (plc_sorted.imp fun h => by omega))) fun a => ?_
 rw [plc_mem (by exact hc),List.mem_reverse,List.mem_map]
 constructor
 · intro hb
   refine ⟨500 - a - lonK s c,(plc_mem hc).2 ?_,by omega⟩
   exact h.symm.fit (r := (c,a)) (by exact hc) hb
 · rintro ⟨b,hb,rfl⟩
   exact h.fit (r := (c,b)) hc ((plc_mem hc).1 hb)
theorem shi_apa {s : SH} (hv : ValS s) {far : Int} (hx : ValS (shiS s far)) : apaL (shiS s far) = apaL s := by
 have h := shi_rel hv hx
 have key : ∀ b,b < pwN s.m.length → apK (shiS s far) (allR (shiS s far)) b (allR (shiS s far)).length = apK s (allR s) b (allR s).length := fun b hb => by
  have hr : RelB s.m.length id b b := ⟨hb,hb,fun i _ => rfl⟩
  rw [Bool.eq_iff_iff,apK_R,apK_R]
  exact ⟨fun ha => h.symm.apR (by rw [h.n]; exact hr) ha,fun ha => h.apR hr ha⟩
 have kb : ∀ i,i ≤ pwN s.m.length → bstT (shiS s far) i = bstT s i := by
  intro i
  induction i with
  | zero => exact fun _ => rfl
  | succ i ih =>
    intro hi
    show (if _ then _ else _) = (if _ then _ else _)
    rw [ih (by omega),key i (by omega)]
 unfold apaL
 rw [if_pos (sht_val hv),if_pos (sht_val hx)]
 show bstT _ (pwN (shiS s far).m.length) = _
 rw [h.n,kb _ (Nat.le_refl _)]
end Go.AM

namespace Go.AM
open Go.RowKit Go.Proofs
theorem wh_19 {s : SH} (h0 : shtE s = 0) (hb : whE s [] ≠ 0) : whE s [] = 19 ∧ lostL s ≠ [] := by
 unfold whE at hb ⊢
 rw [if_neg (by omega),if_neg (by simp)] at hb ⊢
 by_cases hL : lostL s = []
 · rw [if_neg (by simp [hL])] at hb; exact absurd rfl hb
 · rw [if_pos hL]; exact ⟨rfl,hL⟩
set_option maxHeartbeats 8000000 in
theorem lk_fewest_ok (f g : Bool) (s : SH) (hz : SzS s) (h0 : shtE s = 0) {v : Nat} (hF : FewV s v) : PureOK Tryz.prog n_l_fewest [Sn f g s] (.tup [I (v : Int),B true]) := by
 have hv := val_of h0
 refine pure_of (walk func_l_fewest form_l_fewest res_l_fewest (by show 1 ≤ _; decide) ?_)
 simp -implicitDefEqProofs (disch := omega) [G_l_fewest,wrap_id]
 refine k_Best_v hz mpp2 (fun hb => ?_) (fun hb _ hL B hB0 hB hO => ?_)
 · obtain ⟨h19,hL⟩ := wh_19 h0 hb
   obtain rfl := (few_100 hv hF).2 hL
   rw [h19]
   simp -implicitDefEqProofs (disch := omega) [wrap_id]
   exact out_of (is := []) rfl
 · obtain rfl := few_bst hF hL hB
   simp -implicitDefEqProofs (disch := omega) [wrap_id]
   exact out_of (is := []) rfl
theorem getElem_eqL {L : List (Int × Int)} {P : List Int} {c : Int} {i : Nat} (h : L = P.map fun a => (c,a)) (h1 : i < L.length) (h2 : i < P.length) : L[i] = (c,P[i]) := by
 subst h
 exact List.getElem_map ..
theorem HadK.rowP {s : SH} (hv : ValS s) {c i o : Nat} {P : List Int} (hP : rowOf s c = P.map fun a => ((c : Int),a)) (hi : i < P.length) (h : HadK s c i (bitL (bitO s ((c : Int),P[i]'hi))) o) : HadK s c (i + 1) [] o := by
 have hi' : i < (rowOf s c).length := by rw [hP,List.length_map]; exact hi
 refine HadK.row hv hi' ?_
 rw [getElem_eqL hP hi' hi]
 exact h
theorem fin_val {s : SH} (hg : finK s = true) : shtE s = 0 ∧ SzS s ∧ ValS s := by
 have hf : grtK s = false ∧ shtE s = 0 := by
  unfold finK at hg
  simpa using hg
 exact ⟨hf.2,(grtK_sz hf.1).1,val_of hf.2⟩
theorem pls_eq {s : SH} (h0 : shtE s = 0) {n : Int} (hk : isK s n = true) : plsL s n = plcT s n 501 ∧ plsE s n = 0 := by
 have : plsE s n = 0 := by unfold plsE; rw [if_neg (by omega),if_neg (by rw [hk]; decide)]
 exact ⟨by unfold plsL; rw [if_pos this],this⟩
end Go.AM

namespace Go.AM
open Go.RowKit Go.Proofs
theorem view_flat2 {c : List (Int × Int)} : view (flat2 c) 0 (c.length * 2) = flat2 c := by
 have fl := flat2_len c
 simp only [view,List.drop_zero]
 exact List.take_of_length_le (by omega)
theorem purL_m {hp : List HObj} {id n : Nat} {c m : List (Int × Int)} {g : Bool} (h : nthH hp id = some (.cells (flat2 c))) (hn : n = c.length) : purifyL (hpf hp) [Ps g m,.ms id 0 n 2] = some ([Ps g m,Ps false c],[id]) := by
 have fl := flat2_len c
 subst hn
 simp only [purifyL,purify1,purify0,hpf_nthH,h]
 rw [if_pos ⟨by omega,pcL_pure (flat2_pc c)⟩,view_flat2]
 rfl
end Go.AM

namespace Go.AM
open Go.RowKit Go.Proofs
theorem nthH_two0 {H : List HObj} {a b : HObj} : nthH (H ++ [a,b]) H.length = some a := by
 rw [nthH_eq,List.getElem?_append_right (Nat.le_refl _),Nat.sub_self]; rfl
theorem nthH_two1 {H : List HObj} {a b : HObj} : nthH (H ++ [a,b]) (H.length + 1) = some b := by
 rw [nthH_eq,List.getElem?_append_right (by omega),Nat.add_sub_cancel_left]; rfl
theorem set_two0 {H : List HObj} {a b o : HObj} : (H ++ [a,b]).set H.length o = H ++ [o,b] := by
 rw [List.set_append_right _ _ (Nat.le_refl _),Nat.sub_self]; rfl
theorem set_two1 {H : List HObj} {a b o : HObj} : (H ++ [a,b]).set (H.length + 1) o = H ++ [a,o] := by
 rw [List.set_append_right _ _ (by omega),Nat.add_sub_cancel_left]; rfl
structure MvH (f g : Bool) (s : SH) (far : Int) (i : Nat) (H : List HObj) (x y : AV) : Prop where
 h0 : nthH H 0 = some (.cells [Ps f s.k,Ps g s.m])
 h1 : nthH H 1 = some (.cells [Ps f s.k,x])
 h2 : nthH H 2 = some (.cells [Ps f s.k,y])
 ax : AccK H x ((shiS s far).m.take i)
 ay : AccK H y ((turS s).m.take i)
 nx : ∀ j,rid x = some j → 3 ≤ j
 ny : ∀ j,rid y = some j → 3 ≤ j
 ne : ∀ j,rid x = some j → rid y = some j → False
theorem MvH.mono {f g s far i H H' x y} (h : MvH f g s far i H x y) (e : ∀ j,j < H.length → nthH H' j = nthH H j) : MvH f g s far i H' x y := by
 have l0 := nthH_lt h.h0
 have l1 := nthH_lt h.h1
 have l2 := nthH_lt h.h2
 exact ⟨(e 0 l0).trans h.h0,(e 1 l1).trans h.h1,(e 2 l2).trans h.h2,h.ax.mono fun j hj => e j (h.ax.lt hj),h.ay.mono fun j hj => e j (h.ay.lt hj),h.nx,h.ny,h.ne⟩
theorem app_accD {hp : List HObj} {x : AV} {sz bytes n : Nat} {cs ys : List AV} {g : Bool} {K : AV → List (Nat × HObj) → Prop} (h : AccG hp x sz n cs) (hn : n ≤ 100000000) (hb : bytes ≤ 1000) (hy : ys.length = sz) (hpc : (ys.all AV.isPC) = true)
 (hK : ∀ ws,(∀ i,i < hp.length → rid x ≠ some i → nthH (writeL hp ws) i = nthH hp i) → hp.length < (writeL hp ws).length → AccG (writeL hp ws) (.ms hp.length 0 (n + 1) sz) sz (n + 1) (cs ++ ys) → (∀ i ∈ ws.map (·.1),i = hp.length ∨ rid x = some i) → K (.ms hp.length 0 (n + 1) sz) ws) :
 AppW hp sz bytes x (.sl g 1 ys) K := by
 have bd : (n + 1) * bytes ≤ 140737488355328 := Nat.le_trans (Nat.mul_le_mul (show n + 1 ≤ 100000001 by omega) hb) (by decide)
 rcases h with ⟨rfl,rfl,rfl⟩ | ⟨id,rfl,h0,h2,h3,h4⟩
 · rw [app_sl]
   have hn : nthH (writeL hp [(hp.length,HObj.cells ([] ++ ys))]) hp.length = some (.cells ([] ++ ys)) := by
    rw [nthH_writeL (by simp)]; simp [Hp.write,Hp.set_same]
   refine ⟨⟨rfl,by omega,hpc,by simp,bd,by omega,.inl rfl⟩,hK _ (fun i hi _ => ?_) (nthH_lt hn) (.inr ⟨hp.length,rfl,by omega,hn,by simp [hy],by simpa using hpc⟩) (fun i hi => by simp at hi; exact .inl hi)⟩
   rw [nthH_writeL (by simp),nthH_eq]; simp only [Hp.write]; rw [Hp.set_other _ _ (by omega)]; rfl
 · have hlt := nthH_lt h2
   rw [app_ms,h2,appr_some]
   have hv : view cs 0 (n * sz) = cs := by simp only [view,List.drop_zero]; rw [List.take_of_length_le (by omega)]
   rw [hv]
   have hn : nthH (writeL hp [(id,HObj.gone),(hp.length,HObj.cells (cs ++ ys))]) hp.length = some (.cells (cs ++ ys)) := by
    rw [nthH_writeL (by simp; omega)]
    simp only [Hp.write,Hp.set_same]
   refine ⟨⟨by omega,hpc,rfl,by omega,bd,by omega⟩,hK _ (fun i hi hr => ?_) (nthH_lt hn) (.inr ⟨hp.length,rfl,by omega,hn,?_,?_⟩) (fun i hi => by simp at hi; rcases hi with rfl | rfl; exact .inr rfl; exact .inl rfl)⟩
   · rw [nthH_writeL (by simp; omega),nthH_eq]; simp only [Hp.write]
     rw [Hp.set_other _ _ (by omega),Hp.set_other _ _ (fun e => hr (by rw [e]; rfl))]; rfl
   · rw [List.length_append,h3,hy,Nat.add_mul,Nat.one_mul]
   · rw [List.all_append,h4,hpc]; rfl
theorem shi_take {s : SH} {far : Int} {i : Nat} (hi : i < s.m.length) : flat2 ((shiS s far).m.take (i + 1)) = flat2 ((shiS s far).m.take i) ++ [I (s.m[i].1 + far),I (s.m[i].2 + far)] ∧ ((shiS s far).m.take (i + 1)).length = ((shiS s far).m.take i).length + 1 := by
 have h : i < (shiS s far).m.length := by simp [hi]
 rw [List.take_succ_eq_append_getElem h,flat2_appK]
 exact ⟨by simp [flat2],by simp⟩
theorem tur_take {s : SH} {i : Nat} (hi : i < s.m.length) (hj : s.m.length - 1 - i < s.m.length) : flat2 ((turS s).m.take (i + 1)) = flat2 ((turS s).m.take i) ++ [I (500 - s.m[s.m.length - 1 - i].2),I (500 - s.m[s.m.length - 1 - i].1)] ∧ ((turS s).m.take (i + 1)).length = ((turS s).m.take i).length + 1 := by
 have h : i < (turS s).m.length := by simp [hi]
 rw [List.take_succ_eq_append_getElem h,flat2_appK]
 exact ⟨by simp [flat2],by simp⟩
theorem frz_at {H : List HObj} {ix id : Nat} {cs : List AV} (h1 : ix < H.length) (h2 : id < H.length) : nthH (writeL H (gones [ix] ++ [(id,.cells cs)])) id = some (.cells cs) ∧ ∀ j,j ≠ id → j ≠ ix → nthH (writeL H (gones [ix] ++ [(id,.cells cs)])) j = nthH H j := by
 have bd : ∀ p ∈ gones [ix] ++ [(id,HObj.cells cs)],p.1 ≤ H.length := fun p hp => by
  simp [gones] at hp
  rcases hp with rfl | rfl
  · exact Nat.le_of_lt h1
  · exact Nat.le_of_lt h2
 constructor
 · rw [nthH_writeL bd]
   simp only [gones,List.map_cons,List.map_nil,List.cons_append,List.nil_append,Hp.write]
   rw [Hp.set_same]
 · intro j hj1 hj2
   rw [nthH_writeL bd,nthH_eq]
   simp only [gones,List.map_cons,List.map_nil,List.cons_append,List.nil_append,Hp.write]
   rw [Hp.set_other _ _ hj1,Hp.set_other _ _ hj2]
   rfl
set_option maxHeartbeats 16000000 in
theorem lawMoved (f g : Bool) (s : SH) {a b : Int} (ha : 0 ≤ a ∧ a ≤ 65535) (hb : 0 ≤ b ∧ b ≤ 255) : PureOK Tryz.prog n_l_CombMoved [Sn f g s,.v (.int .u16 a),.v (.int .u8 b)] (B true) := by
 refine pure_of (walk func_l_CombMoved form_l_CombMoved res_l_CombMoved (by show 3 ≤ _; decide) ?_)
 simp -implicitDefEqProofs (disch := omega) [G_l_CombMoved,wrap_id]
 refine callW_pure (ys := [Sn f g s]) (ids := []) rfl (lk_fine_ok f g s) ?_
 cases hg : finK s with
 | false =>
   simp -implicitDefEqProofs (disch := omega) [wrap_id]
   refine callW_pure rfl lk_Works_ok ?_
   simp -implicitDefEqProofs (disch := omega) [wrap_id]
 | true =>
   obtain ⟨h0,hz,hv⟩ := fin_val hg
   have hm12 := hv.m12
   have hk8 := hv.k8
   have hm1 := hv.m1
   have hk1 := hv.k1
   obtain ⟨a',rfl⟩ : ∃ a' : Nat,a = (a' : Int) := ⟨a.toNat,by omega⟩
   obtain ⟨b',rfl⟩ : ∃ b' : Nat,b = (b' : Int) := ⟨b.toNat,by omega⟩
   have tb : ((b' : Int)).tmod (s.k.length : Int) = ((b' % s.k.length : Nat) : Int) := by rw [Int.tmod_eq_emod_of_nonneg (by omega)]; omega
   have ta : ((a' : Int)).tmod 501 = ((a' % 501 : Nat) : Int) := by rw [Int.tmod_eq_emod_of_nonneg (by omega)]; omega
   have hc : b' % s.k.length < s.k.length := Nat.mod_lt _ (by omega)
   have hf : a' % 501 < 501 := Nat.mod_lt _ (by omega)
   have kz : ((s.k.length : Int) == 0) = false := by rw [beq_eq_false_iff_ne]; omega
   have lkz : s.k ≠ [] := by intro h; rw [h] at hk1; simp at hk1
   generalize b' % s.k.length = c at *
   generalize a' % 501 = far at *
   simp -implicitDefEqProofs (disch := omega) [wrap_id,ta,tb,kz,lkz,cmp2,nthT,disj]
   refine loop_eq (fun q : Nat × AV × AV × List HObj => ⟨[(3,.ref 0 0),(7,I (far : Int)),(8,I (c : Int)),(9,.ref 1 0),(10,.ref 2 0),(11,I (q.1 : Int))],q.2.2.2⟩) (fun q => q.1 ≤ s.m.length ∧ MvH f g s far q.1 q.2.2.2 q.2.1 q.2.2.1) (fun q => s.m.length - q.1) (0,.sl true 0 [],.sl true 0 [],[.cells [Ps f s.k,Ps g s.m],.cells [Ps f s.k,.sl true 0 []],.cells [Ps f s.k,.sl true 0 []]]) ⟨Nat.zero_le _,⟨rfl,rfl,rfl,AccG.nil,AccG.nil,by simp [rid],by simp [rid],by simp [rid]⟩⟩ rfl ?_
   rintro ⟨i,x,y,H⟩ ⟨c1,c2⟩
   simp only at c1 c2 ⊢
   refine hideK' fun K0 hK0 => ?_
   simp -implicitDefEqProofs (disch := omega) [wrap_id,c2.h0,ldr_some]
   refine c_split (fun hcc => ?_) (fun hcc => ?_)
   · have hi : i < s.m.length := by simpa using hcc
     have ix : ((i : Int) + 1) = ((i + 1 : Nat) : Int) := by omega
     have lH := nthH_lt c2.h2
     have iy : ((s.m.length : Int) - 1 - (i : Int)) = ((s.m.length - 1 - i : Nat) : Int) := by omega
     have hj : s.m.length - 1 - i < s.m.length := by omega
     have m1 := hv.at hi
     have m2 := hv.at hj
     have hn : ∀ (l : List HObj) n,n < H.length → nthH (H ++ l) n = nthH H n := fun l n h => nthH_front h
     simp -implicitDefEqProofs (disch := omega) [wrap_id,c2.h0,ldr_some,cells_pair,hi,hj,iy,cmp2,nthT,disj]
     have hH0 : H.length ≠ 0 := by omega
     have hH0' : (0 : Nat) ≠ H.length := by omega
     refine ⟨flat2_len _,?_⟩
     rw [nthH_two0]
     simp -implicitDefEqProofs (disch := omega) [wrap_id,str_some,nthH_two0,nthH_two1,set_two0,set_two1,cmp2,nthT,disj,hH0,hH0']
     have g1 := nthH_two0 (H := H) (a := .cells [I s.m[i].1,I s.m[i].2]) (b := .cells [I s.m[s.m.length - 1 - i].1,I s.m[s.m.length - 1 - i].2])
     have g2 := nthH_two1 (H := H) (a := .cells [I s.m[i].1,I s.m[i].2]) (b := .cells [I s.m[s.m.length - 1 - i].1,I s.m[s.m.length - 1 - i].2])
     have c3 := c2.mono (H' := H ++ [.cells [I s.m[i].1,I s.m[i].2],.cells [I s.m[s.m.length - 1 - i].1,I s.m[s.m.length - 1 - i].2]]) fun j hj => nthH_front hj
     have lx : ∀ j,rid x = some j → j < H.length := fun j hj => c2.ax.lt hj
     have ly : ∀ j,rid y = some j → j < H.length := fun j hj => c2.ay.lt hj
     generalize H ++ [.cells [I s.m[i].1,I s.m[i].2],.cells [I s.m[s.m.length - 1 - i].1,I s.m[s.m.length - 1 - i].2]] = H1 at *
     generalize H.length = L at *
     rw [c3.h1]
     simp -implicitDefEqProofs (disch := omega) [wrap_id,ldr_some,str_some,g1,g2,cmp2,nthT,disj]
     refine pureW_of rfl (lk_rg_ok _ _) ?_
     simp -implicitDefEqProofs (disch := omega) [wrap_id,cmp2,nthT,disj]
     refine bsl_of (sz := 2) (ys := [Pr (s.m[i].1 + far,s.m[i].2 + far)]) (by rfl) (by rfl) ?_
     simp -implicitDefEqProofs (disch := omega) [wrap_id,zrep,cmp2,nthT,disj]
     have lt1 : ((shiS s far).m.take i).length ≤ 100000000 := by rw [List.length_take,List.length_map]; omega
     refine app_accD (ys := [I (s.m[i].1 + far),I (s.m[i].2 + far)]) c3.ax lt1 (by decide) rfl rfl fun ws w1 w2 w3 w4 => ?_
     have lH1 := nthH_lt g2
     have u1 : nthH (writeL H1 ws) 1 = some (.cells [Ps f s.k,x]) := (w1 1 (by omega) (fun h => by have := c3.nx 1 h; omega)).trans c3.h1
     have lw1 : 1 < (writeL H1 ws).length := by omega
     simp -implicitDefEqProofs (disch := omega) [wrap_id,zrep,u1,str_some,lw1]
     have st := shi_take (s := s) (far := far) hi
     have lti : ((shiS s far).m.take i).length = i := by rw [List.length_take,List.length_map]; omega
     rw [lti] at w3 st
     have f0 : nthH ((writeL H1 ws).set 1 (.cells [Ps f s.k,.ms H1.length 0 (i + 1) 2])) 0 = some (.cells [Ps f s.k,Ps g s.m]) := (nthH_set_ne (by omega)).trans ((w1 0 (by omega) (fun h => by have := c3.nx 0 h; omega)).trans c3.h0)
     have f1 : nthH ((writeL H1 ws).set 1 (.cells [Ps f s.k,.ms H1.length 0 (i + 1) 2])) 1 = some (.cells [Ps f s.k,.ms H1.length 0 (i + 1) 2]) := nthH_set_same lw1
     have f2 : nthH ((writeL H1 ws).set 1 (.cells [Ps f s.k,.ms H1.length 0 (i + 1) 2])) 2 = some (.cells [Ps f s.k,y]) := (nthH_set_ne (by omega)).trans ((w1 2 (by omega) (fun h => by have := c3.nx 2 h; omega)).trans c3.h2)
     have f3 : nthH ((writeL H1 ws).set 1 (.cells [Ps f s.k,.ms H1.length 0 (i + 1) 2])) (L + 1) = some (.cells [I s.m[s.m.length - 1 - i].1,I s.m[s.m.length - 1 - i].2]) := (nthH_set_ne (by omega)).trans ((w1 (L + 1) (by omega) (fun h => by have := lx (L + 1) h; omega)).trans g2)
     have fx : AccK ((writeL H1 ws).set 1 (.cells [Ps f s.k,.ms H1.length 0 (i + 1) 2])) (.ms H1.length 0 (i + 1) 2) ((shiS s far).m.take (i + 1)) := by
      unfold AccK
      rw [st.1,st.2]
      exact w3.mono fun j hj => nthH_set_ne (by simp only [rid] at hj; injection hj; omega)
     have fy : AccK ((writeL H1 ws).set 1 (.cells [Ps f s.k,.ms H1.length 0 (i + 1) 2])) y ((turS s).m.take i) := c3.ay.mono fun j hj => (nthH_set_ne (by have := c3.ny j hj; omega)).trans (w1 j (by have := ly j hj; omega) (fun h => c3.ne j h hj))
     have hl : (writeL H1 ws).length = ((writeL H1 ws).set 1 (.cells [Ps f s.k,.ms H1.length 0 (i + 1) 2])).length := by rw [List.length_set]
     have nxy : ∀ j,rid y = some j → j ≠ H1.length := fun j hj => by have := ly j hj; omega
     have nx3 : 3 ≤ H1.length := by omega
     rw [hl] at w2
     generalize (writeL H1 ws).set 1 (.cells [Ps f s.k,.ms H1.length 0 (i + 1) 2]) = H2 at *
     rw [f2]
     simp -implicitDefEqProofs (disch := omega) [wrap_id,ldr_some,str_some,f3,cmp2,nthT,disj]
     refine pureW_of rfl (lk_rg_ok _ _) ?_
     simp -implicitDefEqProofs (disch := omega) [wrap_id,cmp2,nthT,disj]
     refine bsl_of (sz := 2) (ys := [Pr (500 - s.m[s.m.length - 1 - i].2,500 - s.m[s.m.length - 1 - i].1)]) (by rfl) (by rfl) ?_
     simp -implicitDefEqProofs (disch := omega) [wrap_id,zrep,cmp2,nthT,disj]
     have lt2 : ((turS s).m.take i).length ≤ 100000000 := by rw [List.length_take,tur_len]; omega
     refine app_accD (ys := [I (500 - s.m[s.m.length - 1 - i].2),I (500 - s.m[s.m.length - 1 - i].1)]) fy lt2 (by decide) rfl rfl fun vs v1 v2 v3 v4 => ?_
     have u2 : nthH (writeL H2 vs) 2 = some (.cells [Ps f s.k,y]) := (v1 2 (by have := nthH_lt f2; omega) (fun h => by have := c3.ny 2 h; omega)).trans f2
     have lw2 : 2 < (writeL H2 vs).length := by have := nthH_lt f2; omega
     simp -implicitDefEqProofs (disch := omega) [wrap_id,zrep,u2,str_some,lw2]
     have tt := tur_take (s := s) hi hj
     have ltj : ((turS s).m.take i).length = i := by rw [List.length_take,tur_len]; omega
     rw [ltj] at v3 tt
     rw [hK0]
     refine next_eq (i + 1,.ms H1.length 0 (i + 1) 2,.ms H2.length 0 (i + 1) 2,(writeL H2 vs).set 2 (.cells [Ps f s.k,.ms H2.length 0 (i + 1) 2])) ⟨by simp only; omega,?_⟩ (by simp only; omega) (by simp only [ix])
     have l2 := nthH_lt f2
     refine ⟨(nthH_set_ne (by omega)).trans ((v1 0 (by omega) (fun h => by have := c3.ny 0 h; omega)).trans f0),(nthH_set_ne (by omega)).trans ((v1 1 (by omega) (fun h => by have := c3.ny 1 h; omega)).trans f1),nthH_set_same lw2,?_,?_,fun j hj => ?_,fun j hj => ?_,fun j hj hj2 => ?_⟩
     · refine fx.mono fun j hj => ?_
       simp only [rid] at hj
       injection hj with hj
       exact (nthH_set_ne (by omega)).trans (v1 j (by omega) (fun h => nxy j h hj.symm))
     · unfold AccK
       rw [tt.1,tt.2]
       exact v3.mono fun j hj => nthH_set_ne (by simp only [rid] at hj; injection hj; omega)
     · simp only [rid] at hj; injection hj; omega
     · simp only [rid] at hj; injection hj; omega
     · simp only [rid] at hj hj2; injection hj; injection hj2; omega
   · have hi : i = s.m.length := by simp at hcc; omega
     subst hi
     subst hK0
     have tx : (shiS s far).m.take s.m.length = (shiS s far).m := List.take_of_length_le (by simp)
     have ty : (turS s).m.take s.m.length = (turS s).m := List.take_of_length_le (by simp)
     obtain ⟨h0',h1',h2',ax,ay,nx,ny,ne⟩ := c2
     rw [tx] at ax
     rw [ty] at ay
     have lx : (shiS s far).m.length = s.m.length := by simp
     have ly : (turS s).m.length = s.m.length := tur_len
     rcases ax with ⟨_,h,_⟩ | ⟨ix,rfl,_,gx,_,_⟩
     · omega
     rcases ay with ⟨_,h,_⟩ | ⟨iy,rfl,_,gy,_,_⟩
     · omega
     have nx := nx ix rfl
     have ny := ny iy rfl
     have ne : ix ≠ iy := fun e => ne ix rfl (by rw [e]; rfl)
     simp -implicitDefEqProofs (disch := omega) [wrap_id,h0',ldr_some]
     have lix := nthH_lt gx
     have liy := nthH_lt gy
     refine callW_freeze (id := 1) (cs := [Ps f s.k,.ms ix 0 (shiS s far).m.length 2]) (cs' := [Ps f s.k,Ps false (shiS s far).m]) (is := [ix]) (ys := [Sn f g s]) h1' (purL_m gx rfl) (by simp; omega) rfl (fun i h1 h2 => by
      have : i = 0 := by simp at h1; omega
      subst this; exact .inl rfl) ?_
     obtain ⟨p1,p2⟩ := frz_at (cs := [Ps f s.k,Ps false (shiS s far).m]) lix (nthH_lt h1')
     have p0 := (p2 0 (by omega) (by omega)).trans h0'
     have p3 := (p2 2 (by omega) (by omega)).trans h2'
     have py := (p2 iy (by omega) (by omega)).trans gy
     generalize writeL H (gones [ix] ++ [(1,.cells [Ps f s.k,Ps false (shiS s far).m])]) = H3 at *
     refine callW_freeze (id := 2) (cs := [Ps f s.k,.ms iy 0 (turS s).m.length 2]) (cs' := [Ps f s.k,Ps false (turS s).m]) (is := [iy]) (ys := [Sn f g s]) p3 (purL_m py rfl) (by simp; omega) rfl (fun i h1 h2 => by
      have : i = 0 := by simp at h1; omega
      subst this; exact .inl rfl) ?_
     obtain ⟨q1,q2⟩ := frz_at (cs := [Ps f s.k,Ps false (turS s).m]) (nthH_lt py) (nthH_lt p3)
     have q0 := (q2 0 (by omega) (by omega)).trans p0
     have q3 := (q2 1 (by omega) (by omega)).trans p1
     generalize writeL H3 (gones [iy] ++ [(2,.cells [Ps f s.k,Ps false (turS s).m])]) = H4 at *
     clear p1 p2 p0 p3 py q2 h0' h1' h2' gx gy
     have vy := val_tur hv
     have y0 := sht_val vy
     have rl := tur_rel hv
     have yz : SzS (turS s) := ⟨hz.k,by rw [ly]; exact hz.m⟩
     obtain ⟨v,hF⟩ := few_ex hv
     have hk : isK s (c : Int) = true := by unfold isK; simp; omega
     obtain ⟨e1,e2⟩ := pls_eq h0 hk
     obtain ⟨e3,e4⟩ := pls_eq y0 (n := (c : Int)) hk
     have cP := k_Places_ok f g s hz (c : Int)
     rw [e1,e2] at cP
     have cQ := k_Places_ok f false (turS s) yz (c : Int)
     rw [e3,e4,tur_pls hv hk] at cQ
     have cA := k_Apart_ok f g s hz
     rw [h0] at cA
     have cB := k_Apart_ok f false (turS s) yz
     rw [y0] at cB
     have lA := rl.apLen
     obtain ⟨u,e,hC⟩ := ansCt_ex s
     have cC := k_Count_ok f g s hz hC
     have cD := k_Count_ok f false (turS s) yz (rl.ct hC)
     have pl : (plcT s (c : Int) 501).length ≤ 501 := plcT_len
     have pb : ∀ x ∈ plcT s (c : Int) 501,0 ≤ x ∧ x ≤ 500 := fun x hx => by
      unfold plcT at hx
      obtain ⟨k,hk,rfl⟩ := List.mem_map.1 hx
      have := List.mem_range.1 (List.mem_filter.1 hk).1
      omega
     have kc := kc_get hv hk
     have lkE : lonK s (c : Int) = ((s.k[c]'hc).2 - 1) * (s.k[c]'hc).1 := by unfold lonK; rw [Int.toNat_natCast,getD_at hc]
     rw [Int.toNat_natCast,getD_at hc] at kc
     have lkB : 0 ≤ ((s.k[c]'hc).2 - 1) * (s.k[c]'hc).1 ∧ ((s.k[c]'hc).2 - 1) * (s.k[c]'hc).1 ≤ 950 := ⟨Int.mul_nonneg (by omega) (by omega),Int.le_trans (Int.mul_le_mul (show (s.k[c]'hc).2 - 1 ≤ 19 by omega) (show (s.k[c]'hc).1 ≤ 50 by omega) (by omega) (by omega)) (by decide)⟩
     rw [lkE] at cQ
     generalize hLK : ((s.k[c]'hc).2 - 1) * (s.k[c]'hc).1 = LK at *
     generalize hPP : plcT s (c : Int) 501 = P at *
     have hQ1 : ((P.map fun a => 500 - a - LK).reverse).length = P.length := by simp
     have hQ2 : ∀ i (h : i < P.length) (h' : P.length - 1 - i < ((P.map fun a => 500 - a - LK).reverse).length),((P.map fun a => 500 - a - LK).reverse)[P.length - 1 - i] = 500 - P[i] - LK := fun i h h' => by
      have e : (P.map fun a => 500 - a - LK).length - 1 - (P.length - 1 - i) = i := by rw [List.length_map]; omega
      rw [List.getElem_reverse,List.getElem_map]
      simp only [e]
     generalize (P.map fun a => 500 - a - LK).reverse = Q at *
     have lA60 := apaL_len (s := s)
     generalize apaL (turS s) = AY at *
     refine callW_pure (ys := [Sn f g s]) (ids := []) rfl (lk_fewest_ok f g s hz h0 hF) ?_
     simp -implicitDefEqProofs (disch := omega) [wrap_id,q0,q1,q3,ldr_some]
     refine callW_pure (ys := [Sn f false (turS s)]) (ids := []) rfl (lk_fewest_ok f false (turS s) yz y0 (rl.few hF)) ?_
     simp -implicitDefEqProofs (disch := omega) [wrap_id,q0,q1,q3,ldr_some]
     refine callW_pure (ys := [Sn f g s,I (c : Int)]) (ids := []) rfl cP ?_
     simp -implicitDefEqProofs (disch := omega) [wrap_id,q0,q1,q3,ldr_some]
     refine callW_pure (ys := [Sn f false (turS s),I (c : Int)]) (ids := []) rfl cQ ?_
     simp -implicitDefEqProofs (disch := omega) [wrap_id,q0,q1,q3,ldr_some]
     refine callW_pure (ys := [Sn f g s]) (ids := []) rfl cA ?_
     generalize hAA : apaL s = AX at *
     simp -implicitDefEqProofs (disch := omega) [wrap_id,q0,q1,q3,ldr_some]
     refine callW_pure (ys := [Sn f false (turS s)]) (ids := []) rfl cB ?_
     simp -implicitDefEqProofs (disch := omega) [wrap_id,q0,q1,q3,ldr_some]
     refine callW_pure (ys := [Sn f g s]) (ids := []) rfl cC ?_
     simp -implicitDefEqProofs (disch := omega) [wrap_id,q0,q1,q3,ldr_some]
     refine callW_pure (ys := [Sn f false (turS s)]) (ids := []) rfl cD ?_
     have pq : ((P.length : Int) != (Q.length : Int)) = false := by rw [hQ1]; exact bne_self_eq_false _
     simp -implicitDefEqProofs (disch := omega) [wrap_id,q0,q1,q3,ldr_some,lA,pq]
     refine ⟨hc,flat2_len _,?_⟩
     rw [flat2_n2 hc]
     simp -implicitDefEqProofs (disch := omega) [wrap_id,q0,q1,q3,ldr_some,flat2_n1,flat2_n2,flat2_len,hc,hLK,cmp2,nthT,disj]
     have pqn : (P.length : Int) = (Q.length : Int) := by rw [hQ1]
     refine loop_eq (fun i : Nat => ⟨[(7,I (far : Int)),(8,I (c : Int)),(9,.ref 1 0),(14,I (v : Int)),(18,Ls P.isEmpty P),(20,Ls Q.isEmpty Q),(22,Ls AX.isEmpty AX),(26,I u),(27,I e),(30,I LK),(31,I (i : Int))],H4⟩) (fun i => i ≤ P.length) (fun i => P.length - i) 0 (Nat.zero_le _) rfl ?_
     intro i hi0
     refine hideK' fun K1 hK1 => ?_
     simp -implicitDefEqProofs (disch := omega) [wrap_id]
     refine c_split (fun hcd => ?_) (fun hcd => ?_)
     · have hi : i < P.length := by simpa using hcd
       have ix : ((i : Int) + 1) = ((i + 1 : Nat) : Int) := by omega
       have iz : ((Q.length : Int) - 1 - (i : Int)) = ((P.length - 1 - i : Nat) : Int) := by rw [hQ1]; omega
       have hj : P.length - 1 - i < Q.length := by rw [hQ1]; omega
       have b1 := pb P[i] (List.getElem_mem hi)
       have b2 := hQ2 i hi hj
       have b3 : (Q[P.length - 1 - i] != 500 - P[i] - LK) = false := by rw [b2]; exact bne_self_eq_false _
       have jq : ((Q.length : Int) ≤ ((P.length - 1 - i : Nat) : Int)) = False := by simp only [eq_iff_iff,iff_false]; omega
       simp -implicitDefEqProofs (disch := omega) [wrap_id,iz,cells_ls,hi,hj,b3,cmp2,nthT,disj]
       rw [hK1]
       exact next_eq (i + 1) (by omega) (by omega) (by simp only [ix])
     · have hi : i = P.length := by simp at hcd; omega
       subst hi
       subst hK1
       simp -implicitDefEqProofs (disch := omega) [wrap_id,q3,ldr_some]
       refine callW_pure (ys := [Sn f false (shiS s (far : Int))]) (ids := []) rfl (lk_fine_ok f false (shiS s (far : Int))) ?_
       cases hg2 : finK (shiS s (far : Int)) with
       | false =>
         simp -implicitDefEqProofs (disch := omega) [wrap_id]
         refine callW_pure rfl lk_Works_ok ?_
         simp -implicitDefEqProofs (disch := omega) [wrap_id]
       | true =>
         obtain ⟨x0,xz,xv⟩ := fin_val hg2
         have sl := shi_rel hv xv
         have hkx : isK (shiS s (far : Int)) (c : Int) = true := hk
         obtain ⟨e5,e6⟩ := pls_eq x0 (n := (c : Int)) hkx
         have cR := k_Places_ok f false (shiS s (far : Int)) xz (c : Int)
         rw [e5,e6,shi_pls hv xv hk,hPP] at cR
         have cE := k_Apart_ok f false (shiS s (far : Int)) xz
         rw [x0,shi_apa hv xv,hAA] at cE
         have cF := k_Count_ok f false (shiS s (far : Int)) xz (sl.ct hC)
         have cS := lk_fewest_ok f false (shiS s (far : Int)) xz x0 (sl.few hF)
         have cI := lk_ints_ok AX.isEmpty AX.isEmpty AX AX (by omega) (by omega)
         rw [decide_eq_true rfl] at cI
         have hR1 : (P.map fun a => a + (far : Int)).length = P.length := by simp
         have hR2 : ∀ i (h : i < P.length) (h' : i < (P.map fun a => a + (far : Int)).length),(P.map fun a => a + (far : Int))[i] = P[i] + (far : Int) := fun i h h' => List.getElem_map ..
         generalize (P.map fun a => a + (far : Int)) = R at *
         have pr : ((P.length : Int) != (R.length : Int)) = false := by rw [hR1]; exact bne_self_eq_false _
         simp -implicitDefEqProofs (disch := omega) [wrap_id,q3,ldr_some]
         refine callW_pure (ys := [Sn f false (shiS s (far : Int))]) (ids := []) rfl cS ?_
         simp -implicitDefEqProofs (disch := omega) [wrap_id,q3,ldr_some]
         refine callW_pure (ys := [Sn f false (shiS s (far : Int)),I (c : Int)]) (ids := []) rfl cR ?_
         simp -implicitDefEqProofs (disch := omega) [wrap_id,q3,ldr_some]
         refine callW_pure (ys := [Sn f false (shiS s (far : Int))]) (ids := []) rfl cE ?_
         simp -implicitDefEqProofs (disch := omega) [wrap_id,q3,ldr_some]
         refine callW_pure (ys := [Sn f false (shiS s (far : Int))]) (ids := []) rfl cF ?_
         simp -implicitDefEqProofs (disch := omega) [wrap_id,q3,ldr_some,pr]
         refine callW_pure rfl cI ?_
         simp -implicitDefEqProofs (disch := omega) [wrap_id]
         refine loop_eq (fun i : Nat => ⟨[(7,I (far : Int)),(18,Ls P.isEmpty P),(20,Ls R.isEmpty R),(32,I (i : Int))],H4⟩) (fun i => i ≤ P.length) (fun i => P.length - i) 0 (Nat.zero_le _) rfl ?_
         intro i hi0
         refine hideK' fun K2 hK2 => ?_
         simp -implicitDefEqProofs (disch := omega) [wrap_id]
         refine c_split (fun hce => ?_) (fun hce => ?_)
         · have hi : i < P.length := by simpa using hce
           have ix : ((i : Int) + 1) = ((i + 1 : Nat) : Int) := by omega
           have hj : i < R.length := by rw [hR1]; exact hi
           have b1 := pb P[i] (List.getElem_mem hi)
           have b2 := hR2 i hi hj
           have b3 : (R[i] != P[i] + (far : Int)) = false := by rw [b2]; exact bne_self_eq_false _
           simp -implicitDefEqProofs (disch := omega) [wrap_id,cells_ls,hi,hj,b3,cmp2,nthT,disj]
           rw [hK2]
           exact next_eq (i + 1) (by omega) (by omega) (by simp only [ix])
         · have hi : i = P.length := by simp at hce; omega
           subst hi
           subst hK2
           simp -implicitDefEqProofs (disch := omega) [wrap_id]
           refine callW_pure rfl lk_Works_ok ?_
           simp -implicitDefEqProofs (disch := omega) [wrap_id]
end Go.AM
