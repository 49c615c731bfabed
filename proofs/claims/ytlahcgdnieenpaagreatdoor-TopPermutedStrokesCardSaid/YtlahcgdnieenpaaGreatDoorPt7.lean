/-
  Pt7: texts joined: Rp0 Pp0 PCt1 PCt2 PCt3 PCt5 PCt6 PCt7 PCt8 PCt9 PCt10 PPl1 PPl2 PPl3 PPl4 PPl5 PTh1 PTh2 PTh3 PPl6 PPl7 PTh4 PPl8 PPl9 PPl10 PPl11 PTh5 Qp0 QTo1 QTo2 QCo1 QCo2 QCo3 QCo4 QCo6 QCo7 QTo5 QCo9 QCo10 QDo1 QDo5 QDo6 QDo7 QDo8 Rp1 Rp2 Zk2. Own work.
-/
import Derived.Test.YtlahcgdnieenpaaGreatDoorPt6
import Derived.Test.YtlahcgdnieenpaaGreatDoorProg
import Derived.ChangeKeysEq
import Derived.Laws.StructEq
set_option linter.all false
set_option linter.unusedSimpArgs false
set_option linter.unusedVariables false
set_option linter.unusedSectionVars false

set_option maxRecDepth 100000
set_option maxHeartbeats 0
namespace Go.AM
def qnd:=@List.length_pos_iff
def qnl:=@List.mem_of_mem_eraseIdx
def qno:=@List.take_add_one
def qnx:=@List.take_succ_eq_append_getElem
def qoq:=@List.foldl_append
def qot:=@List.dropLast_concat_getLast
def qoG:=@Bool.or_false
def qoT:=@List.drop_eq_nil_of_le
def qoZ:=@List.take_length
def qpg:=@List.length_reverse
def qpm:=@Int.tmod_lt_of_pos
def qpn:=@List.count_pos_iff
def qpD:=@decide_eq_decide
def qpE:=@Int.tmod_nonneg
end Go.AM
namespace Go.AM
open Go.RowKit Go.Proofs Go.Proofs.Tryz
def cZ:AC:=(.rgn [⟨none,[(.box 5 6 (.t 2)),(.mv 6 (.k (B false)))]⟩] [0,1,5])
def Iz:AC:=(.seq (.rgn [⟨none,[(.mv 24 (.t 0)),(.len 25 (.t 24)),(.bin 26 .gtr (.t 25) (.k (I 40))),(.mv 27 (.t 26))]⟩,⟨(some (27,false)),[(.mv 28 (.t 1)),(.len 29 (.t 28)),(.bin 30 .gtr (.t 29) (.k (I 40)))]⟩,⟨none,[(.pick 31 (.t 27) (.k (B true)) (.t 30))]⟩] [0,1,5,31]) (.cond (.t 31) (.seq (.rgn [⟨none,[(.call 32 11 []),(.mv 6 (.t 32))]⟩] [6]) .ret) .skip))
def da:AC:=(.rgn [⟨none,[(.bld 33 [(I 0),(I 0)] [(0,1,(.k (I 0))),(1,1,(.k (I 1)))]),(.bld 34 [(I 0),(I 0)] [(0,1,(.k (I 1))),(1,1,(.k (I 2)))]),(.bld 35 [(I 0),(I 0)] [(0,1,(.k (I 2))),(1,1,(.k (I 3)))]),(.bld 36 [(I 0),(I 0)] [(0,1,(.k (I 3))),(1,1,(.k (I 4)))]),(.bsl 37 4 2 [(I 0),(I 0)] [(0,(.t 33)),(1,(.t 34)),(2,(.t 35)),(3,(.t 36))]),(.bld 38 [(I 0),(.sl true 0 [])] [(0,1,(.k (I 5))),(1,1,(.t 37))]),(.al 7 [(I 0),(.sl true 0 [])]),(.st 2 (.t 7) (.t 38))]⟩] [0,1,5,7])
def db:AC:=(.rgn [⟨none,[(.call 39 12 [(.k (I 6))]),(.al 8 [(I 0),(.sl true 0 [])]),(.st 2 (.t 8) (.t 39))]⟩] [0,1,5,7,8])
def dc:AC:=(.rgn [⟨none,[(.mv 40 (.t 0)),(.call 41 13 [(.t 40)]),(.mv 42 (.t 1)),(.call 43 13 [(.t 42)]),(.mv 9 (.t 41)),(.mv 10 (.t 43))]⟩] [5,7,8,9,10])
def dg:AC:=(.rgn [⟨none,[(.mv 11 (.k (.sl true 0 [])))]⟩] [5,7,8,9,10,11])
def dh:AC:=(.seq (.rgn [⟨none,[(.mv 12 (.k (I 0)))]⟩] [5,7,8,9,10,11,12]) (.block 0 (.loop (.seq (.seq (.rgn [⟨none,[(.mv 44 (.t 12)),(.bin 45 .lss (.t 44) (.k (I 6)))]⟩] [5,7,8,9,10,11,12,45]) (.cond (.t 45) .skip (.exit 0))) (.seq (.block 1 (.rgn [⟨none,[(.mv 48 (.t 11)),(.mv 49 (.t 12)),(.iaa 50 6 1 (.t 5) (.t 49)),(.ld 51 false 1 (.t 50)),(.cnv 52 .i64 (.t 51)),(.bin 53 .rem (.t 52) (.k (I 6))),(.bsl 54 1 1 [(I 0)] [(0,(.t 53))]),(.app 55 1 8 (.t 48) (.t 54)),(.mv 11 (.t 55))]⟩] [5,7,8,9,10,11,12])) (.rgn [⟨none,[(.mv 46 (.t 12)),(.bin 47 .add (.t 46) (.k (I 1))),(.mv 12 (.t 47))]⟩] [5,7,8,9,10,11,12]))))))
def dj:AC:=(.rgn [⟨none,[(.ld 57 true 2 (.t 7)),(.mv 58 (.t 9)),(.call 59 14 [(.t 57),(.t 58)]),(.mv 56 (.t 59)),(.ext 60 (.t 56) 0),(.ext 61 (.t 56) 1),(.mv 13 (.t 60)),(.mv 14 (.t 61))]⟩] [7,8,9,10,11,13,14])
def dm:AC:=(.rgn [⟨none,[(.ld 63 true 2 (.t 7)),(.mv 64 (.t 9)),(.mv 65 (.t 10)),(.call 66 15 [(.t 63),(.t 64),(.t 65)]),(.mv 62 (.t 66)),(.ext 67 (.t 62) 0),(.ext 68 (.t 62) 1),(.mv 15 (.t 67)),(.mv 16 (.t 68))]⟩] [7,8,9,10,11,13,14,15,16])
def gC:AC:=(.seq (.rgn [⟨none,[(.mv 69 (.t 14)),(.bin 70 .neq (.t 69) (.k (I 0))),(.mv 71 (.t 70))]⟩,⟨(some (71,false)),[(.mv 72 (.t 16)),(.bin 73 .neq (.t 72) (.k (I 0)))]⟩,⟨none,[(.pick 74 (.t 71) (.k (B true)) (.t 73)),(.mv 75 (.t 74))]⟩,⟨(some (75,false)),[(.mv 76 (.t 13)),(.call 77 16 [(.t 76)]),(.un 78 .not (.t 77))]⟩,⟨none,[(.pick 79 (.t 75) (.k (B true)) (.t 78)),(.mv 80 (.t 79))]⟩,⟨(some (80,false)),[(.mv 81 (.t 15)),(.call 82 16 [(.t 81)]),(.un 83 .not (.t 82))]⟩,⟨none,[(.pick 84 (.t 80) (.k (B true)) (.t 83)),(.mv 85 (.t 84))]⟩,⟨(some (85,false)),[(.mv 86 (.t 13)),(.len 87 (.t 86)),(.mv 88 (.t 9)),(.len 89 (.t 88)),(.bin 90 .gtr (.t 87) (.t 89))]⟩,⟨none,[(.pick 91 (.t 85) (.k (B true)) (.t 90)),(.mv 92 (.t 91))]⟩,⟨(some (92,false)),[(.mv 93 (.t 15)),(.len 94 (.t 93)),(.mv 95 (.t 9)),(.len 96 (.t 95)),(.mv 97 (.t 10)),(.len 98 (.t 97)),(.bin 99 .add (.t 96) (.t 98)),(.bin 100 .gtr (.t 94) (.t 99))]⟩,⟨none,[(.pick 101 (.t 92) (.k (B true)) (.t 100))]⟩] [7,8,9,10,11,13,15,101]) (.cond (.t 101) (.seq (.rgn [⟨none,[(.mv 6 (.k (B false)))]⟩] [6]) .ret) .skip))
def gD:AC:=(.drw [⟨none,[(.ld 103 true 2 (.t 8)),(.mv 104 (.t 11)),(.mv 105 (.t 9)),(.call 106 17 [(.t 105)]),(.call 107 9 [(.t 103),(.t 104),(.t 106)]),(.mv 102 (.t 107)),(.ext 108 (.t 102) 0),(.ext 109 (.t 102) 1),(.mv 17 (.t 108)),(.mv 14 (.t 109))]⟩] [(0,3)] [7,8,9,10,11,13,14,15,17])
def gE:AC:=(.drw [⟨none,[(.ld 111 true 2 (.t 8)),(.mv 112 (.t 11)),(.mv 113 (.t 10)),(.call 114 17 [(.t 113)]),(.call 115 9 [(.t 111),(.t 112),(.t 114)]),(.mv 110 (.t 115)),(.ext 116 (.t 110) 0),(.ext 117 (.t 110) 1),(.mv 18 (.t 116)),(.mv 16 (.t 117))]⟩] [(0,3)] [7,8,9,10,11,13,14,15,16,17,18])
def gF:AC:=(.drw [⟨none,[(.ld 119 true 2 (.t 8)),(.mv 120 (.t 11)),(.mv 121 (.t 13)),(.call 122 17 [(.t 121)]),(.call 123 9 [(.t 119),(.t 120),(.t 122)]),(.mv 118 (.t 123)),(.ext 124 (.t 118) 0),(.ext 125 (.t 118) 1),(.mv 19 (.t 124)),(.mv 20 (.t 125))]⟩] [(0,3)] [7,8,9,10,11,14,15,16,17,18,19,20])
def gG:AC:=(.seq (.drw [⟨none,[(.mv 126 (.t 14)),(.bin 127 .neq (.t 126) (.k (I 0))),(.mv 128 (.t 127))]⟩,⟨(some (128,false)),[(.mv 129 (.t 16)),(.bin 130 .neq (.t 129) (.k (I 0)))]⟩,⟨none,[(.pick 131 (.t 128) (.k (B true)) (.t 130)),(.mv 132 (.t 131))]⟩,⟨(some (132,false)),[(.mv 133 (.t 20)),(.bin 134 .neq (.t 133) (.k (I 0)))]⟩,⟨none,[(.pick 135 (.t 132) (.k (B true)) (.t 134)),(.mv 136 (.t 135))]⟩,⟨(some (136,false)),[(.mv 137 (.t 17)),(.ld 138 true 2 (.t 8)),(.mv 139 (.t 11)),(.mv 140 (.t 9)),(.call 141 17 [(.t 140)]),(.call 142 18 [(.t 138),(.t 139),(.t 141)]),(.call 143 10 [(.t 137),(.t 142)]),(.un 144 .not (.t 143))]⟩,⟨none,[(.pick 145 (.t 136) (.k (B true)) (.t 144))]⟩] [(12,15)] [7,8,9,10,15,17,18,19,145]) (.cond (.t 145) (.seq (.rgn [⟨none,[(.mv 6 (.k (B false)))]⟩] [6]) .ret) .skip))
def gH:AC:=(.drw [⟨none,[(.ld 147 true 2 (.t 8)),(.mv 148 (.t 17)),(.mv 149 (.t 15)),(.call 150 17 [(.t 149)]),(.call 151 9 [(.t 147),(.t 148),(.t 150)]),(.mv 146 (.t 151)),(.ext 152 (.t 146) 0),(.ext 153 (.t 146) 1),(.mv 21 (.t 152)),(.mv 14 (.t 153))]⟩] [(0,3)] [7,8,9,10,14,17,18,19,21])
def gI:AC:=(.drw [⟨none,[(.ld 154 true 2 (.t 7)),(.mv 155 (.t 9)),(.mv 156 (.t 10)),(.call 157 19 [(.t 154),(.t 155),(.t 156)]),(.ld 158 true 2 (.t 8)),(.mv 159 (.t 9)),(.call 160 17 [(.t 159)]),(.mv 161 (.t 10)),(.call 162 17 [(.t 161)]),(.call 163 20 [(.t 158),(.t 160),(.t 162)]),(.mv 22 (.t 157)),(.mv 23 (.t 163))]⟩] [(0,4),(3,4),(4,6),(4,8)] [14,17,18,19,21,22,23])
def Rf:AC:=(.seq (.rgn [⟨none,[(.mv 164 (.t 22)),(.bin 165 .neq (.t 164) (.k (I 0))),(.mv 166 (.t 165))]⟩,⟨(some (166,true)),[(.mv 167 (.t 22)),(.bin 168 .neq (.t 167) (.k (I 18)))]⟩,⟨none,[(.pick 169 (.t 166) (.t 168) (.k (B false))),(.mv 170 (.t 169))]⟩,⟨(some (170,false)),[(.mv 171 (.t 23)),(.bin 172 .neq (.t 171) (.k (I 0))),(.mv 173 (.t 172))]⟩,⟨(some (173,true)),[(.mv 174 (.t 23)),(.bin 175 .neq (.t 174) (.k (I 18)))]⟩,⟨(some (170,false)),[(.pick 176 (.t 173) (.t 175) (.k (B false)))]⟩,⟨none,[(.pick 177 (.t 170) (.k (B true)) (.t 176))]⟩] [14,17,18,19,21,22,23,177]) (.cond (.t 177) (.seq (.rgn [⟨none,[(.mv 6 (.k (B false)))]⟩] [6]) .ret) .skip))
def Rg:AC:=(.rgn [⟨none,[(.mv 178 (.t 14)),(.bin 179 .eql (.t 178) (.k (I 0))),(.mv 180 (.t 179))]⟩,⟨(some (180,true)),[(.mv 181 (.t 17)),(.mv 182 (.t 19)),(.call 183 10 [(.t 181),(.t 182)])]⟩,⟨none,[(.pick 184 (.t 180) (.t 183) (.k (B false))),(.mv 185 (.t 184))]⟩,⟨(some (185,true)),[(.mv 186 (.t 21)),(.mv 187 (.t 18)),(.call 188 10 [(.t 186),(.t 187)])]⟩,⟨none,[(.pick 189 (.t 185) (.t 188) (.k (B false))),(.mv 190 (.t 189))]⟩,⟨(some (190,true)),[(.mv 191 (.t 22)),(.bin 192 .neq (.t 191) (.k (I 0))),(.mv 193 (.t 192))]⟩,⟨(some (193,false)),[(.mv 194 (.t 23)),(.bin 195 .eql (.t 194) (.k (I 0))),(.mv 196 (.t 195))]⟩,⟨(some (196,true)),[(.mv 197 (.t 17)),(.mv 198 (.t 18)),(.call 199 10 [(.t 197),(.t 198)])]⟩,⟨(some (193,false)),[(.pick 200 (.t 196) (.t 199) (.k (B false)))]⟩,⟨(some (190,true)),[(.pick 201 (.t 193) (.k (B true)) (.t 200))]⟩,⟨none,[(.pick 202 (.t 190) (.t 201) (.k (B false))),(.mv 203 (.t 202))]⟩,⟨(some (203,true)),[(.call 204 11 [])]⟩,⟨none,[(.pick 205 (.t 203) (.t 204) (.k (B false))),(.mv 6 (.t 205))]⟩] [6])
def qkz:AC := .seq cZ (.seq Iz (.seq da (.seq db (.seq dc (.seq dg (.seq dh (.seq dj (.seq dm (.seq gC (.seq gD (.seq gE (.seq gF (.seq gG (.seq gH (.seq gI (.seq Rf (.seq Rg (.ret))))))))))))))))))
theorem mO:qg prog f4 [6]=some qkz:=by kernel_rfl
def dn:AC:=Subtype.val (p:=fun g=>qg prog f13 [2]=some g) (by refine ⟨?g,?h⟩;case h=>conv=>lhs;reduce)
theorem yd:qg prog f13 [2]=some dn:=by kernel_rfl
def dr:AC:=Subtype.val (p:=fun g=>qg prog f16 [2]=some g) (by refine ⟨?g,?h⟩;case h=>conv=>lhs;reduce)
theorem yg:qg prog f16 [2]=some dr:=by kernel_rfl
def du:AC:=Subtype.val (p:=fun g=>qg prog f17 [2]=some g) (by refine ⟨?g,?h⟩;case h=>conv=>lhs;reduce)
theorem yh:qg prog f17 [2]=some du:=by kernel_rfl
end Go.AM

set_option maxRecDepth 100000
namespace Go.AM
open Go.RowKit Go.Proofs Go.Proofs.Tryz
variable {K:AV->List HObj->Prop} {s:Int} {i a k p:Nat} {R:Nat->List Int}
def dp:AC:=Subtype.val (p:=fun g=>qg prog f14 [4,5]=some g) (by refine ⟨?g,?h⟩;case h=>conv=>lhs;reduce)
theorem ye:qg prog f14 [4,5]=some dp:=by kernel_rfl
def dq:AC:=Subtype.val (p:=fun g=>qg prog f15 [6,7]=some g) (by refine ⟨?g,?h⟩;case h=>conv=>lhs;reduce)
theorem yf:qg prog f15 [6,7]=some dq:=by kernel_rfl
def dv:AC:=Subtype.val (p:=fun g=>qg prog f19 [6]=some g) (by refine ⟨?g,?h⟩;case h=>conv=>lhs;reduce)
theorem yi:qg prog f19 [6]=some dv:=by kernel_rfl
def dw:AC:=Subtype.val (p:=fun g=>qg prog f38 [4,5]=some g) (by refine ⟨?g,?h⟩;case h=>conv=>lhs;reduce)
theorem yj:qg prog f38 [4,5]=some dw:=by kernel_rfl
def dy:AC:=Subtype.val (p:=fun g=>qg prog f39 [4]=some g) (by refine ⟨?g,?h⟩;case h=>conv=>lhs;reduce)
theorem yk:qg prog f39 [4]=some dy:=by kernel_rfl
def dz:AC:=Subtype.val (p:=fun g=>qg prog f40 [2]=some g) (by refine ⟨?g,?h⟩;case h=>conv=>lhs;reduce)
theorem ym:qg prog f40 [2]=some dz:=by kernel_rfl
def dB:AC:=Subtype.val (p:=fun g=>qg prog f41 [2]=some g) (by refine ⟨?g,?h⟩;case h=>conv=>lhs;reduce)
theorem yn:qg prog f41 [2]=some dB:=by kernel_rfl
def dC:AC:=Subtype.val (p:=fun g=>qg prog f43 [4]=some g) (by refine ⟨?g,?h⟩;case h=>conv=>lhs;reduce)
theorem yo:qg prog f43 [4]=some dC:=by kernel_rfl
def dD:AC:=Subtype.val (p:=fun g=>qg prog f82 [4]=some g) (by refine ⟨?g,?h⟩;case h=>conv=>lhs;reduce)
theorem yp:qg prog f82 [4]=some dD:=by kernel_rfl
def dE:AC:=Subtype.val (p:=fun g=>qg prog f83 [2]=some g) (by refine ⟨?g,?h⟩;case h=>conv=>lhs;reduce)
theorem yq:qg prog f83 [2]=some dE:=by kernel_rfl
def dF:AC:=Subtype.val (p:=fun g=>qg prog f84 [4]=some g) (by refine ⟨?g,?h⟩;case h=>conv=>lhs;reduce)
theorem yr:qg prog f84 [4]=some dF:=by kernel_rfl
def dG:AC:=Subtype.val (p:=fun g=>qg prog f85 [2]=some g) (by refine ⟨?g,?h⟩;case h=>conv=>lhs;reduce)
theorem yt:qg prog f85 [2]=some dG:=by kernel_rfl
def dH:AC:=Subtype.val (p:=fun g=>qg prog f86 [4]=some g) (by refine ⟨?g,?h⟩;case h=>conv=>lhs;reduce)
theorem yu:qg prog f86 [4]=some dH:=by kernel_rfl
def dJ:AC:=Subtype.val (p:=fun g=>qg prog f87 [2]=some g) (by refine ⟨?g,?h⟩;case h=>conv=>lhs;reduce)
theorem yw:qg prog f87 [2]=some dJ:=by kernel_rfl
def dK:AC:=Subtype.val (p:=fun g=>qg prog f88 []=some g) (by refine ⟨?g,?h⟩;case h=>conv=>lhs;reduce)
theorem yx:qg prog f88 []=some dK:=by kernel_rfl
def dL:AC:=Subtype.val (p:=fun g=>qg prog f89 [4]=some g) (by refine ⟨?g,?h⟩;case h=>conv=>lhs;reduce)
theorem yy:qg prog f89 [4]=some dL:=by kernel_rfl
def dM:AC:=Subtype.val (p:=fun g=>qg prog f90 [2]=some g) (by refine ⟨?g,?h⟩;case h=>conv=>lhs;reduce)
theorem yz:qg prog f90 [2]=some dM:=by kernel_rfl
def nY:AC:=Subtype.val (p:=fun g=>qg prog f91 []=some g) (by refine ⟨?g,?h⟩;case h=>conv=>lhs;reduce)
theorem RY:qg prog f91 []=some nY:=by kernel_rfl
def dN:AC:=Subtype.val (p:=fun g=>qg prog f98 [4]=some g) (by refine ⟨?g,?h⟩;case h=>conv=>lhs;reduce)
theorem yA:qg prog f98 [4]=some dN:=by kernel_rfl
def gW:AC:=Subtype.val (p:=fun g=>qg prog f139 [2]=some g) (by refine ⟨?g,?h⟩;case h=>conv=>lhs;reduce)
theorem Ao:qg prog f139 [2]=some gW:=by kernel_rfl
def gX:AC:=Subtype.val (p:=fun g=>qg prog f140 [6]=some g) (by refine ⟨?g,?h⟩;case h=>conv=>lhs;reduce)
theorem Ap:qg prog f140 [6]=some gX:=by kernel_rfl
def gY:AC:=Subtype.val (p:=fun g=>qg prog f141 [4]=some g) (by refine ⟨?g,?h⟩;case h=>conv=>lhs;reduce)
theorem Aq:qg prog f141 [4]=some gY:=by kernel_rfl
def gZ:AC:=Subtype.val (p:=fun g=>qg prog f142 []=some g) (by refine ⟨?g,?h⟩;case h=>conv=>lhs;reduce)
theorem Ar:qg prog f142 []=some gZ:=by kernel_rfl
def Mm:AC:=Subtype.val (p:=fun g=>qg prog f143 []=some g) (by refine ⟨?g,?h⟩;case h=>conv=>lhs;reduce)
theorem As:qg prog f143 []=some Mm:=by kernel_rfl
theorem xn:zc f143.results.toList=some []:=by kernel_rfl
def ba:AC:=Subtype.val (p:=fun g=>qg prog f144 [2]=some g) (by refine ⟨?g,?h⟩;case h=>conv=>lhs;reduce)
theorem At:qg prog f144 [2]=some ba:=by kernel_rfl
def be:AC:=Subtype.val (p:=fun g=>qg prog f151 [4]=some g) (by refine ⟨?g,?h⟩;case h=>conv=>lhs;reduce)
theorem Au:qg prog f151 [4]=some be:=by kernel_rfl
def bf:AC:=Subtype.val (p:=fun g=>qg prog f153 [4]=some g) (by refine ⟨?g,?h⟩;case h=>conv=>lhs;reduce)
theorem Av:qg prog f153 [4]=some bf:=by kernel_rfl
def bg:AC:=Subtype.val (p:=fun g=>qg prog f196 [4]=some g) (by refine ⟨?g,?h⟩;case h=>conv=>lhs;reduce)
theorem Aw:qg prog f196 [4]=some bg:=by kernel_rfl
def bh:AC:=Subtype.val (p:=fun g=>qg prog f197 [4]=some g) (by refine ⟨?g,?h⟩;case h=>conv=>lhs;reduce)
theorem Ax:qg prog f197 [4]=some bh:=by kernel_rfl
def bi:AC:=Subtype.val (p:=fun g=>qg prog f202 [4]=some g) (by refine ⟨?g,?h⟩;case h=>conv=>lhs;reduce)
theorem Ay:qg prog f202 [4]=some bi:=by kernel_rfl
theorem Bl (n:Int) (h : -1000000<=n/\n<=1000000):qx prog 144 [I n] (I (max n (-n) - 1)):=by refine qM (QF func144 At (by kernel_rfl) (by show 1<=_;decide) ?_);simp (disch:=omega)[ba,qb]
theorem bS (n:Int) (h : -1000000<=n/\n<=1000000):qx prog 87 [I n] (I (if n<0 then -2*n - 1 else 2*n - 2)):=by
 refine qM (QF func87 yw (by kernel_rfl) (by show 1<=_;decide) ?_);simp (disch:=omega)[dJ,qb];refine qA (fun h=>?_) (fun h=>?_)
 . simp at h;simp (disch:=omega)[qb,h]
 simp at h;simp (disch:=omega)[qb];omega
theorem Ib (x l i:Int) (a b:Nat) (p:List HObj) (v:qu p a=some (.cells [I l])) (j:qu p b=some (.cells [I i])) (K:AV->List HObj->Prop) (u:K (B (decide (x<l) || decide (x>i))) p) :
 qB prog 196 [I x,.ref a 0,.ref b 0] p K:=by
 refine QF func196 Aw (by kernel_rfl) (by show 3<=_;decide) ?_;simp [bg,v,j];refine Jc (fun h=>?_) (fun h=>?_)
 . simp at h;simp [v,j,h] at u ⊢;exact u
 simp at h;simp [v,j,show ¬ x<l by omega] at u ⊢;exact u
theorem Pd (f:Bool) (l:List Int) (m:l.length<=1000000) (L o:Int) (a b:Nat) (p:List HObj) (q:qu p a=some (.cells [I L])) (g:qu p b=some (.cells [I o])) (K:AV->List HObj->Prop)
 (y:K (I (Pc (fun x=>decide (x<L) || decide (x>o)) l)) p) :
 qB prog 153 [Ls f l,.fn (.func 196) [] [.ref a 0,.ref b 0]] p K:=by
 refine QF func153 Av (by kernel_rfl) (by show 2<=_;decide) ?_;simp [bf];refine qL (fun i:Nat=>⟨[(0,Ls f l),(1,.fn (.func 196) [] [.ref a 0,.ref b 0]),(7,I l.length),(8,I i)],p⟩) (fun i=>i<=l.length/\∀ k (h:k<l.length),k<i->¬ (l[k]<L\/l[k]>o)) (fun i=>l.length - i) 0 ⟨by omega,fun k _ h=>by omega⟩ rfl ?_;intro i ⟨s,u⟩;simp (disch:=omega)[qb];refine qA (fun h=>?_) (fun h=>?_)
 . simp at h;simp (disch:=omega)[qb,zy,h];refine ⟨by kernel_rfl,Ib _ _ _ _ _ _ q g _ ?_⟩;simp;refine qA (fun z=>?_) (fun z=>?_)
   . simp;rw [JP h (by simpa using z) (fun k v j=>by simpa using u k v j)] at y;exact y
   simp (disch:=omega)[qb];simp at z;refine qI (i+1) ⟨by omega,fun k v j=>?_⟩ (by omega) (by simp);by_cases e:k=i
   . subst e;exact z
   have:=u k v (by omega);omega
 simp at h;simp;rw [JO (fun k v=>by have:=u k v (by omega);simpa using this)] at y;exact y
theorem NL (f:Bool) (l:List Int) (z:l.length<=1000000) (L i:Int) (a b:Nat) (h:List HObj) (v:qu h a=some (.cells [I L])) (j:qu h b=some (.cells [I i])) (K:AV->List HObj->Prop)
 (u:K (B (l.any fun x=>decide (x<L) || decide (x>i))) h) :
 qB prog 98 [Ls f l,.fn (.func 196) [] [.ref a 0,.ref b 0]] h K:=by
 refine QF func98 yA (by kernel_rfl) (by show 2<=_;decide) ?_;simp [dN];refine Pd f l z L i a b h v j _ ?_;simp;rw [<-XM] at u;exact u
theorem NB (L h:Int) (f:Bool) (l:List Int) (u:l.length<=1000000):qx prog 140 [I L,I h,Ls f l] (B (JC L h l)):=by refine qM (QF func140 Ap (by kernel_rfl) (by show 3<=_;decide) ?_);simp [gX];refine NL f l u L h 0 1 _ rfl rfl _ ?_;simp;exact Dg L h l
theorem yU (f:Bool) (l:List Int) (q:l.length<=1000000) (v:Int):qx prog 197 [Ls f l,I v] (I (Pc (fun x=>v==x) l)):=by
 refine qM (QF func197 Ax (by kernel_rfl) (by show 2<=_;decide) ?_);simp [bh];refine qL (fun i:Nat=>⟨[(0,Ls f l),(1,I v),(7,I l.length),(8,I i)],[]⟩) (fun i=>i<=l.length/\∀ k (h:k<l.length),k<i->v≠l[k]) (fun i=>l.length - i) 0 ⟨by omega,fun k _ h=>by omega⟩ rfl ?_;intro i ⟨o,u⟩;simp (disch:=omega)[qb];refine qA (fun h=>?_) (fun h=>?_)
 . simp at h;simp (disch:=omega)[qb,zy,h];refine qA (fun y=>?_) (fun y=>?_)
   . simp;rw [JP h (by simpa using y) (fun k j z=>by simpa using u k j z)]
   simp (disch:=omega)[qb];simp at y;refine qI (i+1) ⟨by omega,fun k j z=>?_⟩ (by omega) (by simp);by_cases e:k=i
   . subst e;exact y
   exact u k j (by omega)
 simp at h;simp;rw [JO (fun k j=>by have:=u k j (by omega);simpa using this)]
theorem OE (f:Bool) (l:List Int) (h:l.length<=1000000) (v:Int):qx prog 141 [Ls f l,I v] (B (l.contains v)):=by refine qM (QF func141 Aq (by kernel_rfl) (by show 2<=_;decide) ?_);simp [gY];refine qh rfl (yU f l h v) ?_;simp;exact (Sf l v).symm
theorem AR (f:Bool) (l:List (Int×Int)) (q:l.length<=1000000) (v:Int×Int):qx prog 202 [Ps f l,Pr v] (I (Pc (fun x=>v==x) l)):=by
 refine qM (QF func202 Ay (by kernel_rfl) (by show 2<=_;decide) ?_);simp [bi];refine qL (fun i:Nat=>⟨[(0,Ps f l),(3,.ref 0 0),(7,I l.length),(8,I i)],[.cells [I v.1,I v.2]]⟩) (fun i=>i<=l.length/\∀ k (h:k<l.length),k<i->v≠l[k]) (fun i=>l.length - i) 0 ⟨by omega,fun k _ h=>by omega⟩ rfl ?_;intro i ⟨o,u⟩;simp (disch:=omega)[qb];refine qA (fun h=>?_) (fun h=>?_)
 . simp at h;simp (disch:=omega)[qb,Wo,JI,h,MM];refine qA (fun y=>?_) (fun y=>?_)
   . simp;rw [JP h (by simpa using y) (fun k j z=>by simpa using u k j z)]
   simp (disch:=omega)[qb];simp at y;refine qI (i+1) ⟨by omega,fun k j z=>?_⟩ (by omega) (by simp);by_cases e:k=i
   . subst e;exact y
   exact u k j (by omega)
 simp at h;simp;rw [JO (fun k j=>by have:=u k j (by omega);simpa using this)]
theorem Dr (f:Bool) (l:List (Int×Int)) (h:l.length<=1000000) (v:Int×Int):qx prog 151 [Ps f l,Pr v] (B (l.contains v)):=by refine qM (QF func151 Au (by kernel_rfl) (by show 2<=_;decide) ?_);simp [be];refine qh rfl (AR f l h v) ?_;simp;exact (Sf l v).symm
structure Bch where
 L:Int
 c:List (Int×Int)
abbrev Bn (f:Bool) (b:Bch):AV := .agg [I b.L,Ps f b.c]
def BM (b:Bch) (i:Nat):Bool:=decide (0<=(b.c.getD i (0,0)).1)&&decide ((b.c.getD i (0,0)).1<(b.c.getD i (0,0)).2)&&decide ((b.c.getD i (0,0)).2<b.L) && !(b.c.take i).contains (b.c.getD i (0,0))
def NK (b:Bch):Int:=if b.L<1\/b.L>8\/b.c.length>28 then 6 else if (List.range b.c.length).all (BM b) then 0 else 2
def qp (n:Int):Int:=if n<0 then -1 - n else n - 1
def Yg (b:Bch) (x y:Int):Bool := !(qp x==qp y) && !(b.c.contains (min (qp x) (qp y),max (qp x) (qp y)))
theorem JS {b:Bch} (h:i<b.c.length):BM b i=(decide (0<=b.c[i].1)&&decide (b.c[i].1<b.c[i].2)&&decide (b.c[i].2<b.L) && !(b.c.take i).contains b.c[i]):=by
 have:b.c.getD i (0,0)=b.c[i]:=by simp [h]
 simp only [BM,this]
theorem Gp {b:Bch} (v:¬ b.L<1) (j:¬ 8<b.L) (z:¬ 28<b.c.length) (h:i<b.c.length) (u:BM b i=false):NK b=2:=by simp only [NK];rw [if_neg (by omega),if_neg];intro a;have:=Ul.1 a i h;rw [u] at this;cases this
theorem OD (f:Bool) {n:Nat} (l:List (Int×Int)) (u:n=l.length) (h:l.length<=1000000) (v:Int×Int):qx prog 151 [.sl f n (VF l),Pr v] (B (l.contains v)):=by subst u;exact Dr f l h v
theorem IQ (f:Bool) (b:Bch) (d:b.c.length<=1000000):qx prog 139 [Bn f b] (I (NK b)):=by
 refine qM (QF func139 Ao (by kernel_rfl) (by show 1<=_;decide) ?_);simp (disch:=omega)[gW,qb];refine Qa rfl rfl ?_;simp (disch:=omega)[qb,zh];refine qh rfl (NB 1 8 true [b.L] (by simp)) ?_;simp (disch:=omega)[qb,JC];by_cases j:b.L<1
 . simp (disch:=omega)[qb,NK,j,show ¬ 1<=b.L by omega]
 by_cases y:8<b.L
 . simp (disch:=omega)[qb,NK,j,y,show 1<=b.L by omega,show ¬ b.L<=8 by omega]
 have z:1<=b.L:=by omega
 have o:b.L<=8:=by omega
 by_cases t:(28:Int)<b.c.length
 . have u:28<b.c.length:=by omega
   simp (disch:=omega)[qb,z,o,t,u,NK]
 have u:¬ 28<b.c.length:=by omega
 simp (disch:=omega)[qb,z,o,t];refine qL (fun p:Nat×List HObj=>⟨[(1,.ref 0 0),(17,Ps f b.c),(18,I b.c.length),(19,I p.1)],.cells [I b.L,Ps f b.c]::p.2⟩) (fun p=>p.1<=b.c.length/\∀ k,k<p.1->BM b k=true) (fun p=>b.c.length - p.1) (0,[]) ⟨by simp,fun k h=>by simp at h⟩ rfl ?_;rintro ⟨i,junk⟩ ⟨q,v⟩;simp at q v;simp (disch:=omega)[qb];refine qA (fun h=>?_) (fun h=>?_)
 . simp at h;simp (disch:=omega)[qb,Wo,JI,h];refine Qa rfl rfl ?_;simp (disch:=omega)[qb,zh];refine qZ rfl (NB 0 (b.L - 1) true [b.c[i].1,b.c[i].2] (by simp)) ?_;simp (disch:=omega)[qb,JC];by_cases A:0<=b.c[i].1/\b.c[i].1<=b.L - 1/\0<=b.c[i].2/\b.c[i].2<=b.L - 1
   . obtain ⟨g,s,r,l⟩:=A;by_cases a:b.c[i].2<=b.c[i].1
     . simp (disch:=omega)[qb,g,s,r,l,a];exact Gp j y u h (by rw [JS h];simp;omega)
     simp (disch:=omega)[qb,g,s,r,l,a,TY,JI,show i<=b.c.length by omega];refine qZ rfl (OD _ (b.c.take i) (by simp;omega) (by simp;omega) (b.c[i].1,b.c[i].2)) ?_;simp (disch:=omega)[qb];have P:(b.c[i].1,b.c[i].2)=b.c[i]:=rfl;refine qA (fun e=>?_) (fun e=>?_)
     . simp (disch:=omega)[qb];exact Gp j y u h (by rw [JS h];simp at e ⊢;intros;exact e)
     simp (disch:=omega)[qb];refine qI (i+1,junk++[.cells [I b.c[i].1,I b.c[i].2]]) ⟨by simp;omega,fun m hm=>?_⟩ (by simp;omega) (by simp);simp at hm;by_cases E:m=i
     . subst E;rw [JS h];simp at e ⊢;exact ⟨⟨⟨by omega,by omega⟩,by omega⟩,e⟩
     exact v m (by omega)
   have e:(!decide (0<=b.c[i].1) || !decide (b.c[i].1<=b.L - 1) || (!decide (0<=b.c[i].2) || !decide (b.c[i].2<=b.L - 1)))=true:=by simp;omega
   simp only [e];simp (disch:=omega)[qb];exact Gp j y u h (by rw [JS h];simp;omega)
 simp at h;simp [NK,j,y,u];intro k w;exact v k (by omega)
def jE (b:Bch) (n:Int):Bool:=(decide (1<=n)&&decide (n<=b.L)) || (decide (n<=-1)&&decide (-b.L<=n))
def qX (b:Bch) (l:List Int):Int:=if NK b≠0 then NK b else if 60<l.length then 6 else if l.all (jE b) then 0 else 3
theorem Fj {b:Bch} (h:NK b=0):1<=b.L/\b.L<=8/\b.c.length<=28:=by
 simp only [NK] at h;split at h
 . omega
 omega
theorem Wi (b:Bch) (l:List Int):l.all (jE b)=(JC (-b.L) b.L l && !l.contains 0):=by
 induction l with
 | nil=>rfl
 | cons x l i =>
   simp only [JC,qmC,qoJ] at i ⊢;rw [i];by_cases u:x=0
   . subst u;simp [jE]
   have e:jE b x=(decide (-b.L<=x)&&decide (x<=b.L)):=by rw [qnB];simp [jE];omega
   have h:((0:Int)==x)=false:=by simp;omega
   rw [e,h];simp [Bool.and_assoc,Bool.and_left_comm]
theorem uS (f g:Bool) (b:Bch) (l:List Int) (y:b.c.length<=1000000) (z:l.length<=1000000):qx prog 82 [Bn f b,Ls g l] (I (qX b l)):=by
 refine qM (QF func82 yp (by kernel_rfl) (by show 2<=_;decide) ?_);simp (disch:=omega)[dD,qb];refine qh rfl (IQ f b y) ?_;simp (disch:=omega)[qb];refine qA (fun u=>?_) (fun u=>?_)
 . simp at u;simp [qX,u]
 simp at u;obtain ⟨k,K,o⟩:=Fj u;simp (disch:=omega)[qb];refine qA (fun j=>?_) (fun j=>?_)
 . simp at j;have h:60<l.length:=by omega
   simp [qX,u,h]
 simp at j;have h:¬ 60<l.length:=by omega
 simp (disch:=omega)[qb];refine qh rfl (NB (-b.L) b.L g l z) ?_;simp (disch:=omega)[qb];cases ha:JC (-b.L) b.L l with
 | false =>simp (disch:=omega)[qb];simp [qX,u,h,Wi,ha]
 | true =>
   simp (disch:=omega)[qb];refine qh rfl (OE g l z 0) ?_;simp (disch:=omega)[qb];refine qA (fun v=>?_) (fun v=>?_)
   . simp at v;simp [qX,u,h,Wi,ha,v]
   simp at v;simp [qX,u,h,Wi,ha,v]
def PJ (b:Bch) (s:Int):List Int->Option Nat
 | []=>none
 | x::r=>if x = -s then some 0 else if Yg b s x=true then (PJ b s r).map (·+1) else none
def xT (b:Bch):List Int->Option (Nat×Nat)
 | []=>none
 | s::r=>match PJ b s r with
   | some k=>some (0,k+1)
   | none=>(xT b r).map fun p=>(p.1+1,p.2+1)
def SI (b:Bch):Nat->List Int->List Int
 | 0,l=>l
 | n+1,l=>match xT b l with
   | some (i,k)=>SI b n ((l.eraseIdx k).eraseIdx i)
   | none=>l
def red (b:Bch) (l:List Int):List Int:=SI b l.length l
def KU (n:Int):Int:=if n<0 then 2*qp n+1 else 2*qp n
def Sa (b:Bch) (l:List Int) (i k:Nat):Bool:=(List.range k).all fun k=>Yg b (l.getD k 0) (l.getD i 0)
def JL (b:Bch) (l:List Int) (i:Nat):Bool:=Sa b l i i
def XI (b:Bch) (l:List Int) (e:Int) (i:Nat):Int :=
 if JL b l i=true/\(e<0\/KU (l.getD i 0)<KU (l.getD e.toNat 0)) then i else e
def JH (b:Bch) (l:List Int) (n:Nat):Int:=(List.range n).foldl (XI b l) (-1)
theorem OR (b:Bch) (l:List Int) (n:Nat):JH b l (n+1)=XI b l (JH b l n) n:=by simp [JH,List.range_succ]
def jA (b:Bch):Nat->List Int->List Int
 | 0,_=>[]
 | n+1,l=>match l with
   | []=>[]
   | x::r=>(x::r).getD (JH b (x::r) (r.length+1)).toNat 0::jA b n ((x::r).eraseIdx (JH b (x::r) (r.length+1)).toNat)
def ZS (b:Bch) (l:List Int):List Int:=jA b (red b l).length (red b l)
theorem Es (b:Bch):∀ (n:Nat) (l:List Int),(SI b n l).length<=l.length
 | 0,l=>Qs _
 | n+1,l=>by
   simp only [SI];split
   . refine qmT (Es b n _) ?_;rw [qnh,qnh];(repeat' split) <;> omega
   exact Qs _
theorem jO (b:Bch) (l:List Int) (h:0<l.length):jA b l.length l=l.getD (JH b l l.length).toNat 0::jA b (l.length - 1) (l.eraseIdx (JH b l l.length).toNat):=by
 cases l with
 | nil=>simp at h
 | cons x r=>rfl
def Nv (b:Bch) (l:List Int):List Int:=if qX b l≠0 then [] else ZS b l
def Ra (b:Bch) (l m:List Int):Int:=if qX b l≠0 then qX b l else qX b m
def LM (b:Bch) (l m:List Int):Int:=if Ra b l m≠0 then Ra b l m else if ZS b l=ZS b m then 0 else 18
theorem Yn (b:Bch) (l:List Int):(ZS b l).length<=l.length:=by
 have:∀ (n:Nat) (l:List Int),(jA b n l).length<=n:=fun n=>by
  induction n with
  | zero=>intro l;simp [jA]
  | succ n i =>
    intro l;cases l with
    | nil=>simp [jA]
    | cons x r=>simp only [jA,qm5];have:=i ((x::r).eraseIdx (JH b (x::r) (r.length+1)).toNat);omega
 exact qmT (this _ _) (Es b _ _)
def crC (c:List (Int×Int)) (x y:Int):Bool:=c.contains (min x y,max x y)
def Zv (c:List (Int×Int)):List AV:=(List.range 64).map fun i=>I (if crC c ((i / 8:Nat):Int) ((i % 8:Nat):Int) then 1 else 0)
theorem TR (c:List (Int×Int)):(Zv c).length=64:=by simp [Zv]
def TB (f:Bool) (b:Bch):List AV:=I b.L::Ps f b.c::Zv b.c
theorem OG:Zv []=(List.range 64).map fun _=>I 0:=by simp [Zv,crC]
theorem kC {c:List (Int×Int)} {p:Int×Int} {x y:Int}:crC (c++[p]) x y=(crC c x y || decide (p=(min x y,max x y))):=by simp only [crC,List.contains_eq_mem,xm,qnv,Bool.decide_or];congr 1;simp only [qpD];exact eq_comm
theorem OF {c:List (Int×Int)} {d:Nat} (v:a<d) (j:d<8):((Zv c).set (8*a+d) (I 1)).set (8*d+a) (I 1)=Zv (c++[((a:Int),(d:Int))]):=by
 apply qm4
 . simp [Zv]
 intro i u h;simp only [Zv,qmq,List.length_range] at h;simp only [qnU];simp only [Zv,qmv,qom,kC];by_cases e:8*d+a=i
 . rw [if_pos e];have:((a:Int),(d:Int))=(min ((i / 8:Nat):Int) ((i % 8:Nat):Int),max ((i / 8:Nat):Int) ((i % 8:Nat):Int)):=by rw [qmm];omega
   simp [this]
 rw [if_neg e];by_cases E:8*a+d=i
 . rw [if_pos E];have:((a:Int),(d:Int))=(min ((i / 8:Nat):Int) ((i % 8:Nat):Int),max ((i / 8:Nat):Int) ((i % 8:Nat):Int)):=by rw [qmm];omega
   simp [this]
 rw [if_neg E];have:¬ ((a:Int),(d:Int))=(min ((i / 8:Nat):Int) ((i % 8:Nat):Int),max ((i / 8:Nat):Int) ((i % 8:Nat):Int)):=by rw [qmm];omega
 simp only [this,decide_false,qoG]
theorem lj (f:Bool) (b:Bch):((TB f b).all AV.isPure)=true:=by
 rw [LL];intro x h;simp only [TB,sg] at h;rcases h with rfl | rfl | h
 . rfl
 . rfl
 simp only [Zv,gm] at h;obtain ⟨i,_,rfl⟩:=h;rfl
theorem ko {b:Bch} (u:NK b=0) (h:i<b.c.length):0<=b.c[i].1/\b.c[i].1<b.c[i].2/\b.c[i].2<b.L:=by
 simp only [NK] at u;split at u
 . cases u
 split at u
 . rename_i a;have:=Ul.1 a i h;rw [JS h] at this;simp at this;omega
 cases u
theorem av {b:Bch} (h:NK b=0):1<=b.L/\b.L<=8/\b.c.length<=28:=by
 simp only [NK] at h;split at h
 . cases h
 omega
theorem Pq (f:Bool) (b:Bch) (u:NK b=0):qx prog 83 [Bn f b] (.ptr (TB f b) 0):=by
 refine qM (QF func83 yq (by kernel_rfl) (by show 1<=_;decide) ?_);have L:=av u;simp (disch:=omega)[dE,qb];refine qL (fun p:Nat×List HObj=>⟨[(3,.ref 1 0),(10,Ps f b.c),(11,I b.c.length),(12,I p.1)],.cells [I b.L,Ps f b.c] :: .cells (I b.L::Ps f b.c::Zv (b.c.take p.1))::p.2⟩) (fun p=>p.1<=b.c.length) (fun p=>b.c.length - p.1) (0,[]) (by simp) (by simp [OG,splice,List.range,List.range.loop]) ?_;rintro ⟨i,junk⟩ q;simp only at q;simp (disch:=omega)[qb];refine qA (fun h=>?_) (fun h=>?_)
 . simp at h;obtain ⟨Q,s,m⟩:=ko u h;obtain ⟨a,y⟩:∃ a:Nat,b.c[i].1=a:=⟨b.c[i].1.toNat,by omega⟩;obtain ⟨d,o⟩:∃ d:Nat,b.c[i].2=d:=⟨b.c[i].2.toNat,by omega⟩;have E:b.c[i]=((a:Int),(d:Int)):=qpM y o;simp (disch:=omega)[qb,Wo,JI,h,E];have l:=TR (b.c.take i);refine ⟨by omega,by omega,by omega,by omega,by omega,by omega,?_⟩;refine qI (i+1,junk++[.cells [I a,I d]]) (by simp only;omega) (by simp only;omega) ?_;have v:b.c.take (i+1)=b.c.take i++[((a:Int),(d:Int))]:=by rw [qno];simp [h,E]
   have j:=OF (c:=b.c.take i) (show a<d by omega) (show d<8 by omega);have z:(((I b.L::Ps f b.c::Zv (b.c.take i)).set (2+a*8+d) (I 1)).set (2+d*8+a) (I 1))=I b.L::Ps f b.c::Zv (b.c.take (i+1)):=by rw [v,<-j,show 2+a*8+d=8*a+d+1+1 by omega,show 2+d*8+a=8*d+a+1+1 by omega];rfl
   rw [sZ (by simp;omega),qiY (by simp;omega),z];simp
 simp at h;have:i=b.c.length:=by omega
 subst this;simp;refine Zd (is:=[1]) ?_;have e:hpf (HObj.cells [I b.L,Ps f b.c]::HObj.cells (I b.L::Ps f b.c::Zv b.c)::junk) 1=some (.cells (TB f b)):=rfl;have g:((TB f b).all AV.isPure)=true:=lj f b;simp only [qH,qR];exact SF e g
theorem RI {f:Bool} {b:Bch} {x y:Nat} {K:AV->List (Nat×HObj)->Prop} (j:x<8) (o:y<8):zF (TB f b) (2+x*8+y) 1 false K=K (I (if crC b.c x y then 1 else 0)) []:=by
 have e:(TB f b)[2+x*8+y]?=some (I (if crC b.c x y then 1 else 0)):=by show (I b.L::Ps f b.c::Zv b.c)[2+x*8+y]?=_;rw [show 2+x*8+y=(x*8+y)+1+1 by omega,qog,qog];simp only [Zv,qnn];rw [qpf (by omega)];simp only [qm6];rw [show (x*8+y) / 8=x by omega,show (x*8+y) % 8=y by omega]
 apply propext;constructor
 . rintro ⟨z,u,v⟩;rw [e] at u;cases u;exact v
 intro h;exact ⟨_,e,h⟩
theorem Bk (n:Int):max n (-n) - 1=qp n:=by unfold qp;split <;> omega
def St8 (s:Int):Prop:=s≠0/\-8<=s/\s<=8
theorem St8.line (h:St8 s):0<=qp s/\qp s<8:=by unfold qp;obtain ⟨y,q,e⟩:=h;split <;> omega
theorem qai {b:Bch} (u:NK b=0) (h:jE b s=true):St8 s:=by have:=av u;simp [jE] at h;exact ⟨by omega,by omega,by omega⟩
theorem Kq (b:Bch) (x y:Int):Yg b x y=(!(qp x==qp y) && !crC b.c (qp x) (qp y)):=rfl
structure PLr (hp:List HObj) (p:Nat) (T:List AV) (rs:List AV) (R:Nat->List Int):Prop where
 obj:qu hp p=some (.cells (.ptr T 0::rs))
 len:rs.length=8
 row:∀ k (h:k<rs.length),RowIs hp rs[k] (R k)
 apart:∀ k j (h:k<rs.length) (h':j<rs.length) i,rid rs[k]=some i->rid rs[j]=some i->k=j
 own:∀ k (h:k<rs.length),rid rs[k]≠some p
def Own (p:Nat) (rs:List AV) (i:Nat):Prop:=i=p\/∃ k,∃ h:k<rs.length,rid rs[k]=some i
theorem PLr.mono {e H p T rs R} (h:PLr e p T rs R) (q:∀ i,Own p rs i->qu H i=qu e i):PLr H p T rs R :=
 ⟨(q p (.inl rfl)).trans h.obj,h.len,fun k y=>(h.row k y).mono fun i O=>q i (.inr ⟨k,y,O⟩),h.apart,h.own⟩
theorem PLr.put {hp H p T q R} (h:PLr hp p T q R) (hk:k<8) {x:AV} {l:List Int} (ho:qu H p=some (.cells (.ptr T 0::q.set k x))) (hx:RowIs H x l)
 (x0:∀ i,(∃ j,∃ hj:j<q.length,j≠k/\rid q[j]=some i)->qu H i=qu hp i) (O:∀ i,rid x=some i->i≠p/\((∃ hk:k<q.length,rid q[k]=some i)\/hp.length<=i)) :
 PLr H p T (q.set k x) (fun j=>if j=k then l else R j):=by
 have hl:=h.len;refine ⟨ho,by simp [hl],fun j hj=>?_,fun j j' hj x1 i X K=>?_,fun j hj=>?_⟩
 . have y:j<q.length:=by simpa using hj
   by_cases e:j=k
   . subst e;simp;exact hx
   rw [qnr (qmG e),if_neg e];exact (h.row j y).mono fun i hi=>x0 i ⟨j,y,e,hi⟩
 . have y:j<q.length:=by simpa using hj
   have A:j'<q.length:=by simpa using x1
   have one:∀ (m:Nat) (hm:m<q.length),m≠k->rid q[m]=some i->rid x=some i->False:=fun m hm x3 X K=>by
    rcases (O i K).2 with ⟨x2,h3⟩ | h3
    . exact x3 (h.apart m k hm x2 i X h3)
    have:=(h.row m hm).lt X;omega
   by_cases e:j=k
   . subst e;by_cases e':j'=j
     . exact e'.symm
     rw [qnr (qmG e')] at K;simp at X;exact (one j' A e' K X).elim
   rw [qnr (qmG e)] at X;by_cases e':j'=k
   . subst e';simp at K;exact (one j y e X K).elim
   rw [qnr (qmG e')] at K;exact h.apart j j' y A i X K
 have y:j<q.length:=by simpa using hj
 by_cases e:j=k
 . subst e;simp;intro hr;exact (O p hr).1 rfl
 rw [qnr (qmG e)];exact h.own j y
section
variable {hp:List HObj} {K:AV->List (Nat×HObj)->Prop}
end
def ja (R:Nat->List Int) (s:Int):Bool:=decide ((R (qp s).toNat).getLast?=some (-s))
def Zi (b:Bch) (R:Nat->List Int) (s:Int) (k:Nat):List Int :=
 if (k:Int)≠qp s/\crC b.c (qp s) k=false then R k else if ja R s=true then (R k).dropLast else if (k:Int)=qp s then R k++[s] else R k++[0]
def ce:AC:=(.cond (.t 68) (.drw [⟨none,[(.mv 70 (.t 0)),(.mv 71 (.t 7)),(.mv 72 (.t 0)),(.mv 73 (.t 7)),(.nilc 74 (.t 72)),(.fa 75 (.t 74) 1),(.iaa 76 8 1 (.t 75) (.t 73)),(.ld 77 false 1 (.t 76)),(.mv 78 (.t 0)),(.mv 79 (.t 7)),(.nilc 80 (.t 78)),(.fa 81 (.t 80) 1),(.iaa 82 8 1 (.t 81) (.t 79)),(.ld 83 false 1 (.t 82)),(.len 84 (.t 83)),(.bin 85 .sub (.t 84) (.k (I 1))),(.slc 86 1 (.t 77) none (some (.t 85)) none),(.nilc 87 (.t 70)),(.fa 88 (.t 87) 1),(.iaa 89 8 1 (.t 88) (.t 71)),(.st 1 (.t 89) (.t 86))]⟩] [(7,13)] [0,1,4,6,34]) (.seq (.rgn [⟨none,[(.mv 91 (.t 7)),(.mv 92 (.t 4)),(.bin 93 .eql (.t 91) (.t 92)),(.mv 90 (.t 93))]⟩] [0,1,4,6,7,34,90]) (.cond (.t 90) (.drw [⟨none,[(.mv 94 (.t 0)),(.mv 95 (.t 7)),(.mv 96 (.t 0)),(.mv 97 (.t 7)),(.nilc 98 (.t 96)),(.fa 99 (.t 98) 1),(.iaa 100 8 1 (.t 99) (.t 97)),(.ld 101 false 1 (.t 100)),(.mv 102 (.t 1)),(.bsl 103 1 1 [(I 0)] [(0,(.t 102))]),(.app 104 1 8 (.t 101) (.t 103)),(.nilc 105 (.t 94)),(.fa 106 (.t 105) 1),(.iaa 107 8 1 (.t 106) (.t 95)),(.st 1 (.t 107) (.t 104))]⟩] [(7,9)] [0,1,4,6,34]) (.drw [⟨none,[(.mv 37 (.t 0)),(.mv 38 (.t 7)),(.mv 39 (.t 0)),(.mv 40 (.t 7)),(.nilc 41 (.t 39)),(.fa 42 (.t 41) 1),(.iaa 43 8 1 (.t 42) (.t 40)),(.ld 44 false 1 (.t 43)),(.bsl 45 1 1 [(I 0)] [(0,(.k (I 0)))]),(.app 46 1 8 (.t 44) (.t 45)),(.nilc 47 (.t 37)),(.fa 48 (.t 47) 1),(.iaa 49 8 1 (.t 48) (.t 38)),(.st 1 (.t 49) (.t 46))]⟩] [(7,8)] [0,1,4,6,34]))))
def qfs:AC:=(.seq (.rgn [⟨none,[(.mv 34 (.k (I 0)))]⟩] [0,1,4,6,34]) (.block 0 (.loop (.seq (.rgn [⟨none,[(.bin 35 .lss (.t 34) (.k (I 8)))]⟩] [0,1,4,6,34,35]) (.seq (.cond (.t 35) .skip (.exit 0)) (.seq (.block 1 (.seq (.rgn [⟨none,[(.mv 36 (.t 34)),(.mv 7 (.t 36))]⟩] [0,1,4,6,7,34]) (.block 2 (.seq (.rgn [⟨none,[(.mv 51 (.t 7)),(.mv 52 (.t 4)),(.bin 53 .neq (.t 51) (.t 52)),(.mv 54 (.t 53))]⟩,⟨(some (54,true)),[(.mv 55 (.t 0)),(.nilc 56 (.t 55)),(.fa 57 (.t 56) 0),(.ld 58 false 1 (.t 57)),(.mv 59 (.t 4)),(.mv 60 (.t 7)),(.nilc 61 (.t 58)),(.fa 62 (.t 61) 2),(.iaa 63 8 8 (.t 62) (.t 59)),(.iaa 64 8 1 (.t 63) (.t 60)),(.ld 65 false 1 (.t 64)),(.bin 66 .eql (.t 65) (.k (I 0)))]⟩,⟨none,[(.pick 67 (.t 54) (.t 66) (.k (B false))),(.mv 50 (.t 67))]⟩] [0,1,4,6,7,34,50]) (.cond (.t 50) .skip (.seq (.rgn [⟨none,[(.mv 69 (.t 6)),(.mv 68 (.t 69))]⟩] [0,1,4,6,7,34,68]) ce)))))) (.rgn [⟨none,[(.bin 108 .add (.t 34) (.k (I 1))),(.mv 34 (.t 108))]⟩] [0,1,4,6,34])))))))
theorem qgB:gZ=(.seq (.rgn [⟨none,[(.mv 8 (.t 1)),(.call 9 144 [(.t 8)]),(.mv 4 (.t 9))]⟩] [0,1,4]) (.seq (.rgn [⟨none,[(.mv 10 (.t 0)),(.mv 11 (.t 4)),(.nilc 12 (.t 10)),(.fa 13 (.t 12) 1),(.iaa 14 8 1 (.t 13) (.t 11)),(.ld 15 false 1 (.t 14)),(.len 16 (.t 15)),(.mv 5 (.t 16))]⟩] [0,1,4,5]) (.seq (.rgn [⟨none,[(.mv 17 (.t 5)),(.bin 18 .gtr (.t 17) (.k (I 0))),(.mv 19 (.t 18))]⟩,⟨(some (19,true)),[(.mv 20 (.t 0)),(.mv 21 (.t 4)),(.nilc 22 (.t 20)),(.fa 23 (.t 22) 1),(.iaa 24 8 1 (.t 23) (.t 21)),(.ld 25 false 1 (.t 24)),(.mv 26 (.t 5)),(.bin 27 .sub (.t 26) (.k (I 1))),(.ia 28 1 (.t 25) (.t 27)),(.ld 29 false 1 (.t 28)),(.mv 30 (.t 1)),(.un 31 .neg (.t 30)),(.bin 32 .eql (.t 29) (.t 31))]⟩,⟨none,[(.pick 33 (.t 19) (.t 32) (.k (B false))),(.mv 6 (.t 33))]⟩] [0,1,4,6]) qfs))):=rfl
theorem PLr.congr {O p T rs R y} (h:PLr O p T rs R) (e:∀ k,k<8->R k=y k):PLr O p T rs y :=
 ⟨h.obj,h.len,fun k q=>by rw [<-e k (by rw [<-h.len];exact q)];exact h.row k q,h.apart,h.own⟩
theorem PLr.cut {H:List HObj} {T y:List AV} {Rc:Nat->List Int} (c:PLr H p T y Rc) (hk:k<8) {id x1 n off':Nat} {A:List AV} {l:List Int} (K:k<y.length) (e1:y[k] = .ms id x1 n 1) (e2:qu H id=some (.cells A))
 (e3:off'+l.length<=A.length) (e4:qJ A off' l.length=l.map fun n=>I n) :
 PLr (H.set p (.cells (.ptr T 0::y.set k (.ms id off' l.length 1)))) p T (y.set k (.ms id off' l.length 1)) (fun j=>if j=k then l else Rc j) /\
  Fr H (H.set p (.cells (.ptr T 0::y.set k (.ms id off' l.length 1)))) (Own p y)/\∀ i,Own p (y.set k (.ms id off' l.length 1)) i->Own p y i\/H.length<=i:=by
 have x0:=qw c.obj;have O:id≠p:=fun e=>c.own k K (by rw [e1,e];rfl);refine ⟨c.put hk (qD x0) (.inr ⟨id,off',A,rfl,by rw [qq (qmG O)];exact e2,e3,e4⟩) (fun i ⟨j,hj,_,q⟩=>qq (fun e=>c.own j hj (by rw [q,<-e]))) (fun i hi=>?_),⟨by simp,fun i _ ho=>qq (fun e=>ho (.inl e.symm))⟩,?_⟩
 . cases hi;exact ⟨O,.inl ⟨K,by rw [e1];rfl⟩⟩
 rintro i (h | ⟨j,hj,q⟩)
 . exact .inl (.inl h)
 have X:j<y.length:=by simpa using hj
 by_cases e:j=k
 . subst e;simp at q;exact .inl (.inr ⟨j,X,by rw [e1];exact q⟩)
 rw [qnr (qmG e)] at q;exact .inl (.inr ⟨j,X,q⟩)
theorem PLr.add {H O:List HObj} {T y:List AV} {Rc:Nat->List Int} (c:PLr H p T y Rc) (hk:k<8) (K:k<y.length) {l:List Int} (k1:∀ i,i<H.length->rid y[k]≠some i->qu O i=qu H i) (k2:H.length<O.length)
 (k3:qu O H.length=some (.cells (l.map fun n=>I n))) :
 PLr (O.set p (.cells (.ptr T 0::y.set k (.ms H.length 0 l.length 1)))) p T (y.set k (.ms H.length 0 l.length 1)) (fun j=>if j=k then l else Rc j) /\
  Fr H (O.set p (.cells (.ptr T 0::y.set k (.ms H.length 0 l.length 1)))) (Own p y)/\∀ i,Own p (y.set k (.ms H.length 0 l.length 1)) i->Own p y i\/H.length<=i:=by
 have x2:=qw c.obj;refine ⟨c.put hk (qD (by omega)) (.inr ⟨H.length,0,_,rfl,by rw [qq (by omega)];exact k3,by simp,by simp [qJ];rw [qmn (by simp)]⟩) (fun i ⟨j,X,x1,q⟩=>?_) (fun i A=>?_),⟨by simp;omega,fun i A ho=>?_⟩,?_⟩
 . rw [qq (fun e=>c.own j X (by rw [q,<-e]))];exact k1 i ((c.row j X).lt q) (fun h=>x1 (c.apart j k X K i q h))
 . cases A;exact ⟨by omega,.inr (Qs _)⟩
 . rw [qq (fun e=>ho (.inl e.symm))];exact k1 i A (fun h=>ho (.inr ⟨k,K,h⟩))
 rintro i (h | ⟨j,X,q⟩)
 . exact .inl (.inl h)
 have x0:j<y.length:=by simpa using X
 by_cases e:j=k
 . subst e;simp at q;cases q;exact .inr (Qs _)
 rw [qnr (qmG e)] at q;exact .inl (.inr ⟨j,x0,q⟩)
theorem qix (f:Bool) (b:Bch) (s:Int) (ha:qp s=a) {H:List HObj} {q:List AV} {V:Nat->List Int} (c:PLr H p (TB f b) q V) (D:k<8) (hR:V k=R k) (z:(R k).length<=1000000)
 (C:k=a\/crC b.c (qp s) k=true) (m:ja R s=true->R k≠[]) {Q:Exit->St->Prop}
 (P:∀ T M,PLr T p (TB f b) M (fun j=>if j=k then Zi b R s k else V j)->Fr H T (Own p q)->(∀ i,Own p M i->Own p q i\/H.length<=i) ->
  Q .normal ⟨[(0,.ref p 0),(1,I s),(4,I a),(6,B (ja R s)),(34,I k)],T⟩) :
 AWP prog (E1 prog) ce ⟨[(0,.ref p 0),(1,I s),(4,I a),(6,B (ja R s)),(7,I k),(34,I k),(68,B (ja R s))],H⟩ Q:=by
 have r:k<q.length:=by rw [c.len];exact D
 have u:(k:Int)<8:=by omega
 have o:=c.row k r;rw [hR] at o;have t:p<H.length:=qw c.obj
 have y:Zi b R s k=if ja R s=true then (R k).dropLast else if k=a then R k++[s] else R k++[0]:=by
  unfold Zi;rw [if_neg]
  . by_cases e:k=a
    . rw [if_pos (show (k:Int)=qp s by omega),if_pos e]
    rw [if_neg (show ¬ (k:Int)=qp s by omega),if_neg e]
  rintro ⟨h1,A⟩;rcases C with h | h
  . omega
  rw [h] at A;cases A
 cases hu:ja R s with
 | true =>
   obtain ⟨id,off,E,J,e2,e3,e4⟩:=SN o (m hu);have x0:0<(R k).length:=qnd.2 (m hu);simp (disch:=omega)[ce,qb,hu,u,c.obj,ZR,r,J];refine ZY (l:=0) (h:=(R k).length - 1) rfl (by simp;omega) trivial (qmQ _) (by omega) ?_;simp (disch:=omega)[qb,u,c.obj,t];refine ⟨by omega,?_⟩;rw [Nu r];have K:(R k).dropLast.length=(R k).length - 1:=List.length_dropLast
   obtain ⟨d,x,L⟩:=c.cut D (off':=off) (l:=(R k).dropLast) r J e2 (by omega) (by
    rw [K];have:qJ E off ((R k).length - 1)=(qJ E off (R k).length).take ((R k).length - 1):=by simp only [qJ,qoO];congr 1;omega
    rw [this,e4,<-qpQ,List.dropLast_eq_take])
   rw [K] at d x L;rw [hu] at P y;exact P _ _ (by rw [y];exact d) x L
 | false =>
   rw [hu] at P y
   have fin:∀ v,Zi b R s k=R k++[v]->∀ w,(∀ i,i<H.length->rid q[k]≠some i->qu (qf H w) i=qu H i)->H.length<(qf H w).length->qu (qf H w) H.length=some (.cells ((R k++[v]).map fun n=>I n)) ->
    p<(qf H w).length/\qu (qf H w) p=some (.cells (.ptr (TB f b) 0::q))/\Q .normal ⟨[(0,.ref p 0),(1,I s),(4,I a),(6,B false),(34,I k)],(qf H w).set p (.cells (.ptr (TB f b) 0::q.set k (.ms H.length 0 ((R k).length+1) 1)))⟩:=fun v hv w g N O=>by
    obtain ⟨d,x,L⟩:=c.add D r g N O;simp only [qmI,qnC] at d x L;refine ⟨by omega,?_,P _ _ (by rw [hv];exact d) x L⟩;rw [g p t (c.own k r)];exact c.obj
   by_cases e:k=a
   . subst e;simp (disch:=omega)[ce,qb,u,c.obj,ZR,r];refine Qa rfl rfl ?_;simp (disch:=omega)[qb,zh];refine jw o z fun w g N O=>?_;obtain ⟨X,Y,Z⟩:=fin s (by rw [y];simp) w g N O;simp (disch:=omega)[qb,u,X,Y];refine ⟨by omega,?_⟩;rw [Nu r];exact Z
   have e':((k:Int)==(a:Int))=false:=by rw [qnm];omega
   simp (disch:=omega)[ce,qb,u,c.obj,ZR,r,e'];refine Qa (ys:=[I 0]) rfl rfl ?_;simp (disch:=omega)[qb,zh];refine jw o z fun w g N O=>?_;obtain ⟨X,Y,Z⟩:=fin 0 (by rw [y];simp [e]) w g N O;simp (disch:=omega)[qb,u,X,Y];refine ⟨by omega,?_⟩;rw [Nu r];exact Z
theorem qiw (f:Bool) (b:Bch) (s:Int) (Z:St8 s) (t:qp s=a) {u:List HObj} {v:List AV} (hP:PLr u p (TB f b) v R) (l:∀ k,k<8->(R k).length<=1000000)
 (O:ja R s=true->∀ k:Nat,k<8->((k:Int)=qp s\/crC b.c (qp s) k=true)->R k≠[])  (hK:∀ H m,PLr H p (TB f b) m (Zi b R s)->Fr u H (Own p v)->(∀ i,Own p m i->Own p v i\/u.length<=i)->K (.tup []) H) :
 AWP prog (E1 prog) qfs ⟨[(0,.ref p 0),(1,I s),(4,I a),(6,B (ja R s))],u⟩ (Mp [] K):=by
 have h1:=Z.line;obtain ⟨p1,p2,p3⟩:=Z;have x0:a<8:=by omega
 simp (disch:=omega)[qfs,qb]
 refine qL (fun q:Nat×List AV×List HObj=>⟨[(0,.ref p 0),(1,I s),(4,I a),(6,B (ja R s)),(34,I q.1)],q.2.2⟩)
  (fun q=>q.1<=8/\PLr q.2.2 p (TB f b) q.2.1 (fun j=>if j<q.1 then Zi b R s j else R j)/\Fr u q.2.2 (Own p v)/\∀ i,Own p q.2.1 i->Own p v i\/u.length<=i) (fun q=>8 - q.1) (0,v,u)
  ⟨by simp,hP.congr (fun k _=>by simp),.refl _ _,fun i h => .inl h⟩ rfl ?_
 rintro ⟨k,y,H⟩ ⟨C,c2,c3,c4⟩;simp only at C c2 c3 c4;simp (disch:=omega)[qb];by_cases x:k<8
 . have N:k<y.length:=by rw [c2.len];exact x
   have g:(k:Int)<8:=by omega
   have w:=c2.row k N;simp only [qny,qnc] at w;simp (disch:=omega)[qb,g]
   have next:∀ (z:List HObj) (r:List AV),PLr z p (TB f b) r (fun j=>if j=k then Zi b R s k else (fun j=>if j<k then Zi b R s j else R j) j)->Fr H z (Own p y)->(∀ i,Own p r i->Own p y i\/H.length<=i) ->
    Fr u z (Own p v)/\(∀ i,Own p r i->Own p v i\/u.length<=i)/\PLr z p (TB f b) r (fun j=>if j<k+1 then Zi b R s j else R j):=fun z r P Q T=>by
    refine ⟨⟨qmT c3.1 Q.1,fun i n Y=>(Q.2 i (qnY n c3.1) (fun h=>?_)).trans (c3.2 i n Y)⟩,fun i n=>?_,P.congr fun j M=>?_⟩
    . rcases c4 i h with h | h
      . exact Y h
      omega
    . rcases T i n with h | h
      . exact c4 i h
      exact .inr (qmT c3.1 h)
    by_cases V:j=k
    . subst V;simp
    simp only [V,qnc];by_cases E:j<k
    . rw [if_pos E,if_pos (by omega)]
    rw [if_neg E,if_neg (by omega)]
   have o:k=a\/crC b.c (qp s) k=true->AWP prog (E1 prog) ce ⟨[(0,.ref p 0),(1,I s),(4,I a),(6,B (ja R s)),(7,I k),(34,I k),(68,B (ja R s))],H⟩ (Exit.blk 2 (Exit.blk 1 (Exit.th
    (fun st=>AWP prog (E1 prog) (.rgn [⟨none,[(.bin 108 .add (.t 34) (.k (I 1))),(.mv 34 (.t 108))]⟩] [0,1,4,6,34]) st
     (Exit.th (Next (fun q:Nat×List AV×List HObj=>(⟨[(0,.ref p 0),(1,I s),(4,I a),(6,B (ja R s)),(34,I q.1)],q.2.2⟩:St))
      (fun q=>q.1<=8/\PLr q.2.2 p (TB f b) q.2.1 (fun j=>if j<q.1 then Zi b R s j else R j)/\Fr u q.2.2 (Own p v)/\∀ i,Own p q.2.1 i->Own p v i\/u.length<=i) (fun q=>8 - q.1) (k,y,H)) (Exit.blk 0 (Mp [] K))))
    (Exit.th (Next (fun q:Nat×List AV×List HObj=>(⟨[(0,.ref p 0),(1,I s),(4,I a),(6,B (ja R s)),(34,I q.1)],q.2.2⟩:St))
     (fun q=>q.1<=8/\PLr q.2.2 p (TB f b) q.2.1 (fun j=>if j<q.1 then Zi b R s j else R j)/\Fr u q.2.2 (Own p v)/\∀ i,Own p q.2.1 i->Own p v i\/u.length<=i) (fun q=>8 - q.1) (k,y,H)) (Exit.blk 0 (Mp [] K)))))):=fun c=>by
    refine qix f b s t c2 x (by simp) (l k x) c (fun hu=>O hu k x (by rcases c with h | h;exact .inl (by omega);exact .inr h)) fun z r P Q T=>?_;obtain ⟨J,A,g3⟩:=next z r P Q T
    rw [pA,pA,qla];rw [qdp];simp (disch:=omega)[qb];exact qI (k+1,r,z) ⟨by simp only;omega,g3,J,A⟩ (by simp only;omega) (by simp)
   by_cases e:k=a
   . subst e;simp (disch:=omega)[qb];exact o (.inl rfl)
   have E:((k:Int) != (a:Int))=true:=by rw [qpe];omega
   refine Jc (fun _=>?_) (fun h=>absurd (E.symm.trans h) (by simp));have L:(a:Int)<8:=by omega
   simp (disch:=omega)[qb,c2.obj,g,L,RI,E];by_cases d:crC b.c a k=true
   . simp (disch:=omega)[qb,d];exact o (.inr (by rw [t];exact d))
   simp (disch:=omega)[qb,d];refine qI (k+1,y,H) ⟨by simp only;omega,c2.congr fun j M=>?_,c3,c4⟩ (by simp only;omega) (by simp);simp only;by_cases D:j=k
   . subst D;rw [if_neg (by omega),if_pos (by omega)];unfold Zi;rw [if_pos ⟨by rw [t];omega,by rw [t];simpa using d⟩]
   by_cases X:j<k
   . rw [if_pos X,if_pos (by omega)]
   rw [if_neg X,if_neg (by omega)]
 have:k=8:=by omega
 subst this;simp;exact hK H y (c2.congr fun j M=>by simp [M]) c3 c4
theorem qiy (f:Bool) (b:Bch) (s:Int) (m:St8 s) {y:List HObj} {g:List AV} (P:PLr y p (TB f b) g R) (l:∀ k,k<8->(R k).length<=1000000)
 (n:ja R s=true->∀ k:Nat,k<8->((k:Int)=qp s\/crC b.c (qp s) k=true)->R k≠[])  (x:∀ H o,PLr H p (TB f b) o (Zi b R s)->Fr y H (Own p g)->(∀ i,Own p o i->Own p g i\/y.length<=i)->K (.tup []) H):qB prog 142 [.ref p 0,I s] y K:=by
 refine QF func142 Ar (by kernel_rfl) (by show 2<=_;decide) ?_;have X:=m.line;obtain ⟨a,q⟩:∃ a:Nat,qp s=a:=⟨(qp s).toNat,by omega⟩;have t:=m;obtain ⟨Y,Z,D⟩:=m;have j:a<8:=by omega
 have z:(a:Int)<8:=by omega
 have v:a<g.length:=by rw [P.len];exact j
 have r:=P.row a v;have N:=l a j;have T:∀ u,u=ja R s->AWP prog (E1 prog) qfs ⟨[(0,.ref p 0),(1,I s),(4,I a),(6,B u)],y⟩ (Mp [] K):=fun u O=>by subst O;exact qiw f b s t q P l n x
 rw [qgB];simp (disch:=omega)[qb];refine qh rfl (Bl s (by omega)) ?_;rw [Bk,q];simp (disch:=omega)[qb,P.obj,ZR,v,Pi r,z];refine Jc (fun h=>?_) (fun h=>?_)
 . simp at h;obtain ⟨id,off,C,e,E,V,c⟩:=SN r (qnd.1 h);have d:(R a).length - 1<(R a).length:=by omega
   have M:((R a).length:Int) - 1=((R a).length - 1:Nat):=by omega
   simp (disch:=omega)[qb,P.obj,ZR,v,z,e];refine ⟨by omega,?_⟩;rw [E,zi,Hh c d];have w:IntKind.i64.wrap (0 - s) = -s:=Hu s (by omega);simp (disch:=omega)[qb,w];have L:decide (0<(R a).length)=true:=by simpa using h
   rw [L];refine T ((R a)[(R a).length - 1] == -s) ?_;simp only [ja,q,qn3];rw [List.getLast?_eq_getElem?,Wd d];by_cases Q:(R a)[(R a).length - 1] = -s <;> simp [Q]
 simp at h;simp (disch:=omega)[qb,h];exact T _ (by simp [ja,q,h])
def Nx (b:Bch) (R:Nat->List Int) (s:Int) (k:Nat):List Int:=if (k:Int)=qp s\/crC b.c (qp s) k=true then (R k).tail else R k
theorem qbP (f:Bool) (b:Bch) (s:Int) (hs:St8 s) {u:List HObj} {p:Nat} {rs:List AV} {R:Nat->List Int} (hP:PLr u p (TB f b) rs R)
 (n:∀ k:Nat,k<8->((k:Int)=qp s\/crC b.c (qp s) k=true)->R k≠[])  (hK:∀ H d,PLr H p (TB f b) d (Nx b R s)->Fr u H (Own p rs)->(∀ i,Own p d i->Own p rs i\/u.length<=i)->H.length=u.length->K (.tup []) H):qB prog 88 [.ref p 0,I s] u K:=by
 refine QF func88 yx (by kernel_rfl) (by show 2<=_;decide) ?_;have h1:=hs.line;obtain ⟨a,O⟩:∃ a:Nat,qp s=a:=⟨(qp s).toNat,by omega⟩;obtain ⟨p1,p2,p3⟩:=hs;have x0:a<8:=by omega
 have P:(a:Int)<8:=by omega
 simp (disch:=omega)[dK,qb];refine qh rfl (Bl s (by omega)) ?_;rw [Bk,O];simp (disch:=omega)[qb]
 refine qL (fun q:Nat×List AV×List HObj=>⟨[(0,.ref p 0),(4,I a),(8,I q.1)],q.2.2⟩)
  (fun q=>q.1<=8/\PLr q.2.2 p (TB f b) q.2.1 (fun j=>if j<q.1 then Nx b R s j else R j)/\Fr u q.2.2 (Own p rs)/\(∀ i,Own p q.2.1 i->Own p rs i\/u.length<=i)/\q.2.2.length=u.length) (fun q=>8 - q.1) (0,rs,u)
  ⟨by simp,hP.congr (fun k _=>by simp),.refl _ _,fun i h => .inl h,rfl⟩ rfl ?_
 rintro ⟨k,y,H⟩ ⟨c1,c2,c3,c4,c5⟩;simp only at c1 c2 c3 c4 c5;simp (disch:=omega)[qb];by_cases M:k<8
 . have r:k<y.length:=by rw [c2.len];exact M
   have v:(k:Int)<8:=by omega
   have o:=c2.row k r;have t:=qw c2.obj;simp only [qny,qnc] at o;simp (disch:=omega)[qb,v]
   have go:((k:Int)=qp s\/crC b.c (qp s) k=true)->∀ (g:List HObj) (z:List AV),PLr g p (TB f b) z (fun j=>if j=k then (R k).tail else (fun j=>if j<k then Nx b R s j else R j) j)->Fr H g (Own p y)->(∀ i,Own p z i->Own p y i\/H.length<=i) ->
    Fr u g (Own p rs)/\(∀ i,Own p z i->Own p rs i\/u.length<=i)/\PLr g p (TB f b) z (fun j=>if j<k+1 then Nx b R s j else R j):=fun c g z X Q Y=>by
    refine ⟨⟨qmT c3.1 Q.1,fun i L ho=>(Q.2 i (qnY L c3.1) (fun h=>?_)).trans (c3.2 i L ho)⟩,fun i L=>?_,X.congr fun j T=>?_⟩
    . rcases c4 i h with h | h
      . exact ho h
      omega
    . rcases Y i L with h | h
      . exact c4 i h
      exact .inr (qmT c3.1 h)
    by_cases m:j=k
    . subst m;simp;unfold Nx;rw [if_pos c]
    simp only [m,qnc];by_cases E:j<k
    . rw [if_pos E,if_pos (by omega)]
    rw [if_neg E,if_neg (by omega)]
   have cut:((k:Int)=qp s\/crC b.c (qp s) k=true)->∃ id off C,y[k] = .ms id off (R k).length 1/\0<(R k).length/\qu H id=some (.cells C) /\
    Next (fun q:Nat×List AV×List HObj=>(⟨[(0,.ref p 0),(4,I a),(8,I q.1)],q.2.2⟩:St))
     (fun q=>q.1<=8/\PLr q.2.2 p (TB f b) q.2.1 (fun j=>if j<q.1 then Nx b R s j else R j)/\Fr u q.2.2 (Own p rs)/\(∀ i,Own p q.2.1 i->Own p rs i\/u.length<=i)/\q.2.2.length=u.length) (fun q=>8 - q.1) (k,y,H)
     ⟨[(0,.ref p 0),(4,I a),(8,I ((k:Int)+1))],H.set p (.cells (.ptr (TB f b) 0::y.set k (.ms id (off+1) ((R k).length - 1) 1)))⟩:=fun c=>by
    obtain ⟨id,off,C,m,E,Z,w⟩:=SN o (n k M c);have V:0<(R k).length:=qnd.2 (n k M c);have e5:(R k).tail.length=(R k).length - 1:=List.length_tail;obtain ⟨X,Q,Y⟩:=c2.cut M (off':=off+1) (l:=(R k).tail) r m E (by omega) (CY w);obtain ⟨J,A,g3⟩:=go c _ _ X Q Y;rw [e5] at J A g3;exact ⟨id,off,C,m,V,E,qI (k+1,_,_) ⟨by simp only;omega,g3,J,A,by simp [c5]⟩ (by simp only;omega) (by simp)⟩
   by_cases e:k=a
   . have E:((k:Int)==(a:Int))=true:=by rw [qon];omega
     obtain ⟨id,off,C,D,d2,d3,N⟩:=cut (.inl (by omega));refine Jc (fun _=>?_) (fun h=>absurd (E.symm.trans h) (by simp));simp (disch:=omega)[qb,E,c2.obj,ZR,r,v,D];refine ZY (l:=1) (h:=(R k).length) rfl rfl trivial (by omega) (Qs _) ?_;simp (disch:=omega)[qb,E,c2.obj,v,t];refine ⟨by omega,?_⟩;rw [Nu r];exact N
   have E:((k:Int)==(a:Int))=false:=by rw [qnm];omega
   refine Jc (fun h=>absurd (E.symm.trans h) (by simp)) (fun _=>?_);simp (disch:=omega)[qb,E,c2.obj,v,P,RI];by_cases x:crC b.c a k=true
   . obtain ⟨id,off,C,D,d2,d3,N⟩:=cut (.inr (by rw [O];exact x));simp (disch:=omega)[qb,x,E,c2.obj,ZR,r,v,D];refine ZY (l:=1) (h:=(R k).length) rfl rfl trivial (by omega) (Qs _) ?_;simp (disch:=omega)[qb,E,c2.obj,v,t];refine ⟨by omega,?_⟩;rw [Nu r];exact N
   simp (disch:=omega)[qb,x,E];refine qI (k+1,y,H) ⟨by simp only;omega,c2.congr fun j T=>?_,c3,c4,c5⟩ (by simp only;omega) (by simp);simp only;by_cases Z:j=k
   . subst Z;rw [if_neg (by omega),if_pos (by omega)];unfold Nx;rw [if_neg];rintro (h | h)
     . omega
     rw [O] at h;exact x h
   by_cases w:j<k
   . rw [if_pos w,if_pos (by omega)]
   rw [if_neg w,if_neg (by omega)]
 have:k=8:=by omega
 subst this;simp;exact hK H y (c2.congr fun j T=>by simp [T]) c3 c4 c5
def QT (b:Bch) (l:List Int):Nat->List Int:=l.foldl (Zi b) fun _=>[]
def bk (b:Bch) (l:List Int):Prop:=∀ i (h:i<l.length),ja (QT b (l.take i)) l[i]=true->∀ k:Nat,k<8->((k:Int)=qp l[i]\/crC b.c (qp l[i]) k=true)->QT b (l.take i) k≠[]
theorem vf (b:Bch) (R:Nat->List Int) (s:Int) (k:Nat):(Zi b R s k).length<=(R k).length+1:=by
 unfold Zi
 (repeat' split) <;> simp <;> omega
theorem VI (b:Bch) (k:Nat):∀ (l:List Int) (R:Nat->List Int),(l.foldl (Zi b) R k).length<=(R k).length+l.length
 | [],R=>by simp
 | s::l,R=>by have h:=VI b k l (Zi b R s);have u:=vf b R s k;simp only [qnZ,qm5];omega
theorem BP (b:Bch) (l:List Int) (k:Nat):(QT b l k).length<=l.length:=by have:=VI b k l (fun _=>[]);simpa [QT] using this
def rs0:List AV:=List.replicate 8 (.sl true 0 [])
theorem Ey (h:k<rs0.length):rs0[k] = .sl true 0 []:=qoU ..
theorem sx (f g:Bool) (b:Bch) (l:List Int) (d:∀ s∈l,St8 s) (L:l.length<=1000000) (n:bk b l) {p:List HObj}  (m:∀ H rs,PLr H p.length (TB f b) rs (QT b l)->(∀ i,i<p.length->qu H i=qu p i)->(∀ i,Own p.length rs i->p.length<=i)->K (.ref p.length 0) H):qB prog 84 [.ptr (TB f b) 0,Ls g l] p K:=by
 refine QF func84 yr (by kernel_rfl) (by show 2<=_;decide) ?_;simp (disch:=omega)[dF,qb]
 refine qL (fun q:Nat×List AV×List HObj=>⟨[(5,.ref p.length 0),(11,Ls g l),(12,I l.length),(13,I q.1)],q.2.2⟩)
  (fun q=>q.1<=l.length/\PLr q.2.2 p.length (TB f b) q.2.1 (QT b (l.take q.1))/\(∀ i,i<p.length->qu q.2.2 i=qu p i)/\∀ i,Own p.length q.2.1 i->p.length<=i) (fun q=>l.length - q.1)
  (0,rs0,p++[.cells (.ptr (TB f b) 0::rs0)]) ⟨by simp,?_,?_,?_⟩ (by simp [rs0,List.replicate,splice]) ?_
 . refine ⟨XR,rfl,fun k v => .inl ⟨Ey v,rfl⟩,fun k j h x i u=>?_,fun k v=>?_⟩
   . rw [Ey h] at u;cases u
   rw [Ey v];intro h;cases h
 . intro i u;exact QS u
 . rintro i (h | ⟨k,v,u⟩)
   . omega
   rw [Ey v] at u;cases u
 rintro ⟨i,rs,H⟩ ⟨c,c2,c3,c4⟩;simp only at c c2 c3 c4;simp (disch:=omega)[qb];refine qA (fun h=>?_) (fun h=>?_)
 . simp at h;simp (disch:=omega)[qb,zy,h];refine qiy f b l[i] (d _ (qmr h)) c2 (fun k _=>qmT (BP b _ k) (by simp;omega)) (n i h) fun o r Q w a=>?_;simp (disch:=omega)[qb];refine qI (i+1,r,o) ⟨by simp only;omega,?_,fun j z=>?_,fun j z=>?_⟩ (by simp only;omega) (by simp)
   . have e:QT b (l.take (i+1))=Zi b (QT b (l.take i)) l[i]:=by
      have E:l.take (i+1)=l.take i++[l[i]]:=by rw [qno];simp [h]
      rw [E];simp only [QT,qoq,qnZ,List.foldl_nil]
     simp only [e];exact Q
   . have y:=qw c2.obj;rw [w.2 j (by omega) (fun t=>by have:=c4 j t;omega)];exact c3 j z
   have y:=qw c2.obj;rcases a j z with h | h
   . exact c4 j h
   omega
 simp at h;simp;have e:l.take i=l:=qmn h;rw [e] at c2;exact m H rs c2 c3 c4
theorem bR (n:Int):(if n<0 then -2*n - 1 else 2*n - 2)=KU n:=by unfold KU qp;split <;> omega
def Wk (b y:Int):Int:=if KU y<KU b then y else b
def Xo:List Int->Int
 | []=>0
 | x::l=>l.foldl Wk x
theorem uQ {l:List Int} (O:l.length<=1000000) (u:∀ s∈l,St8 s) (v:l≠[]) {p:List HObj} {id:Nat} (d:qu p id=some (.cells (l.map fun n=>I n))) (t:K (I (Xo l)) p) :
 qB prog 86 [.ms id 0 l.length 1,.fn (.func 87) [] []] p K:=by
 refine QF func86 yu (by kernel_rfl) (by show 2<=_;decide) ?_;obtain ⟨x,r,rfl⟩:∃ x r,l=x::r:=by cases l with | nil=>exact absurd rfl v | cons x r=>exact ⟨x,r,rfl⟩
 have q:(x::r).length=r.length+1:=rfl
 have b:∀ i,i<=r.length->St8 ((r.take i).foldl Wk x):=fun i o=>by
  have:∀ (m:List Int) (y:Int),(∀ s∈m,St8 s)->St8 y->St8 (m.foldl Wk y):=fun m=>by
   induction m with
   | nil=>intro y _ h;exact h
   | cons a m k =>
     intro y z f;refine k _ (fun s u=>z s (by simp [u])) ?_;unfold Wk;split
     . exact z a (by simp)
     exact f
  exact this _ x (fun s j=>u s (by simp [qnw j])) (u x (by simp))
 simp (disch:=omega)[dH,qb,d];refine ZY (l:=1) (h:=r.length+1) rfl rfl trivial (by omega) (Qs _) ?_;simp (disch:=omega)[qb];refine qL (fun i:Nat=>⟨[(1,.fn (.func 87) [] []),(5,I ((r.take i).foldl Wk x)),(12,.ms id 1 r.length 1),(13,I r.length),(14,I i)],p⟩) (fun i=>i<=r.length) (fun i=>r.length - i) 0 (by omega) (by simp) ?_;intro i o;simp (disch:=omega)[qb];refine qA (fun h=>?_) (fun h=>?_)
 . simp at h;simp (disch:=omega)[qb,d,h];have g:Pu (List.map (fun n=>I n) r) i=some (I r[i]):=by rw [Jf];simp [h]
   rw [g,Sv];have c:=u r[i] (by simp [qmr]);have w:=b i o;obtain ⟨X,P,Q⟩:=c;obtain ⟨L,M,N⟩:=w;simp (disch:=omega)[qb];refine ⟨by kernel_rfl,qh rfl (bS r[i] (by omega)) ?_⟩;rw [bR];simp (disch:=omega)[qb];refine ⟨by kernel_rfl,qh rfl (bS _ (by omega)) ?_⟩;rw [bR];simp (disch:=omega)[qb];have E:r.take (i+1)=r.take i++[r[i]]:=by rw [qno];simp [h]
   refine qA (fun e=>?_) (fun e=>?_)
   . simp at e;simp (disch:=omega)[qb];exact qI (i+1) (by omega) (by omega) (by rw [E,qoq];simp [Wk,e])
   simp at e;simp (disch:=omega)[qb];exact qI (i+1) (by omega) (by omega) (by rw [E,qoq];simp only [qnZ,List.foldl_nil,Wk];rw [if_neg (by omega)];simp)
 simp at h;have e:r.take i=r:=qmn h;simp;rw [e];exact t
theorem yC {h:List HObj} {p:Nat} (u:K (.fn (.func 143) [] [.ref h.length 0]) (h++[.cells [.ref p 0]])):qB prog 85 [.ref p 0] h K:=by refine QF func85 yt (by kernel_rfl) (by show 1<=_;decide) ?_;simp (disch:=omega)[dG,qb];exact u
def WD:List Int->List Int
 | []=>[]
 | s::_=>if s=0 then [] else [s]
def VK (R:Nat->List Int):Nat->List Int
 | 0=>[]
 | k+1=>VK R k++WD (R k)
def fsR (R:Nat->List Int):List Int:=VK R 8
theorem Pa (R:Nat->List Int) {m:Nat} (h:k<=m):VK R k <+: VK R m:=by
 induction m with
 | zero=>have:k=0:=by omega
         subst this;exact List.prefix_refl _
 | succ m i =>
   by_cases e:k=m+1
   . subst e;exact List.prefix_refl _
   exact (i (by omega)).trans (List.prefix_append _ _)
theorem ib (v:k<8) (h:WD (R k)=[s]):∃ l:(VK R k).length<(fsR R).length,(fsR R)[(VK R k).length]=s:=by
 obtain ⟨t,u⟩:=Pa R (show k+1<=8 by omega);have e:fsR R=VK R k++s::t:=by show VK R 8=_;rw [<-u];simp [VK,h]
 have l:(VK R k).length<(fsR R).length:=by rw [e];simp
 refine ⟨l,?_⟩;simp only [e];rw [qmx (Qs _)];simp
theorem yB {f:Bool} {b:Bch} {v:List HObj} {p q:Nat} {rs:List AV} {R:Nat->List Int} (hP:PLr v p (TB f b) rs R) (T:qu v q=some (.cells [.ref p 0])) {H:List AV->List HObj->(AV->List HObj->Prop)->Prop} {J:Nat->List HObj->Prop}
 (N:J 0 (v++[.lp .ready (v.length+1),.gone])) (O:∀ j u,J j u->PLr u p (TB f b) rs R)
 (hH:∀ j u (h:j<(fsR R).length),J j u->H [I (fsR R)[j]] u fun r m=>r=B true/\J (j+1) m) :
 (E1 prog).R (.fn (.func 143) [] [.ref q 0]) v H (J (fsR R).length):=by
 refine ⟨143,[.ref q 0],f143,Mm,[],_,rfl,by kernel_rfl,func143,As,JV xn,by show 2<=_;decide,?_⟩;have M:=qw T;have L:qu (v++[HObj.lp .ready (v.length+1),.gone]) q=some (.cells [.ref p 0]):=by rw [QS M];exact T
 have u:=(O 0 _ N).obj;have Q:=hP.len;simp (disch:=omega)[Mm,qb,L,u];rw [qmn (by omega)];refine ⟨by omega,?_⟩;refine qL (fun a:Nat×List HObj=>⟨[(0,.yl v.length),(8,.agg rs),(9,I a.1)],a.2⟩) (fun a=>a.1<=8/\J (VK R a.1).length a.2) (fun a=>8 - a.1) (0,_) ⟨by simp,N⟩ rfl ?_;rintro ⟨k,G⟩ ⟨C,c2⟩;simp only at C c2;simp (disch:=omega)[qb];by_cases hk:k<8
 . have i:(k:Int)<8:=by omega
   have s:k<rs.length:=by omega
   have A:=O _ _ c2;have o:=A.row k s;have Y:∀ K:AV->List (Nat×HObj)->Prop,cg (Pu rs k) K=K rs[k] []:=fun K=>by rw [Jf,Wd s];rfl
   simp (disch:=omega)[qb,i,Y,Pi o]
   have fin:∀ y,J (VK R (k+1)).length y->Next (fun a:Nat×List HObj=>(⟨[(0,.yl v.length),(8,.agg rs),(9,I a.1)],a.2⟩:St)) (fun a=>a.1<=8/\J (VK R a.1).length a.2) (fun a=>8 - a.1) (k,G)
    ⟨[(0,.yl v.length),(8,.agg rs),(9,I ((k:Int)+1))],y⟩:=fun y n=>qI (k+1,y) ⟨by simp only;omega,n⟩ (by simp only;omega) (by simp)
   refine Jc (fun h=>?_) (fun h=>?_)
   . simp at h;obtain ⟨id,off,V,E,e,e3,X⟩:=SN o (qnd.1 h);obtain ⟨x,t,ext⟩:∃ x t,R k=x::t:=by cases hr:R k with | nil=>rw [hr] at h;simp at h | cons x t=>exact ⟨x,t,rfl⟩
     have c:∀ K:AV->List (Nat×HObj)->Prop,zF V off 1 false K=K (I x) []:=fun K=>by have:=Hh (K:=K) X h;simpa [ext] using this
     have l:(0:Int)<(R k).length:=by omega
     simp (disch:=omega)[qb,E,e,h,l,c];have w:J (VK R k).length G:=c2;refine Jc (fun g=>?_) (fun g=>?_)
     . have z:x≠0:=by simpa using g
       have d:WD (R k)=[x]:=by rw [ext];simp [WD,z]
       obtain ⟨Z,D⟩:=ib hk d;have P:=hH _ _ Z w;rw [D] at P;simp (disch:=omega)[qb,e,h,l,c,g];refine ⟨_,⟨rfl,P⟩,?_⟩;rintro r y ⟨rfl,n⟩;simp (disch:=omega)[qb,g];exact fin y (by simpa [VK,d] using n)
     have z:x=0:=by simpa using g
     have d:WD (R k)=[]:=by rw [ext];simp [WD,z]
     simp (disch:=omega)[qb,e,h,l,c,g];exact fin G (by simpa [VK,d] using c2)
   simp at h;simp (disch:=omega)[qb,h];exact fin G (by simpa [VK,h,WD] using c2)
 have:k=8:=by omega
 subst this;simp;exact ⟨[],trivial,c2⟩
end Go.AM

namespace Go.AM
variable {s:Int} {k:Nat}
variable {b:Bch}
def S8 (l:List Int):Prop:=∀ s∈l,St8 s
theorem Gs (c:List (Int×Int)) (x y:Int):crC c x y=crC c y x:=by unfold crC;rw [Int.min_comm,Int.max_comm]
theorem Kp (b:Bch) (x y:Int):Yg b x y=Yg b y x:=by rw [Kq,Kq,Gs];congr 2;exact Bool.beq_comm ..
theorem ZT (h:s≠0):qp (-s)=qp s:=by unfold qp;split <;> split <;> omega
theorem VB {s:Int} (h:s≠0) (x:Int):Yg b x (-s)=Yg b x s:=by rw [Kq,Kq,ZT h]
theorem Yh {x y:Int}:Yg b x y=true↔qp x≠qp y/\crC b.c (qp x) (qp y)=false:=by rw [Kq];simp
theorem St8.neg (h:St8 s):St8 (-s):=⟨by have:=h.1;omega,by have:=h.2;omega,by have:=h.2;omega⟩
def Pj1 (b:Bch) (k:Nat) (s:Int):Option Int:=if qp s=k then some s else if crC b.c (qp s) k=true then some 0 else none
def Pj (b:Bch) (w:List Int) (k:Nat):List Int:=w.filterMap (Pj1 b k)
theorem Kh (k:Nat):Pj b [] k=[]:=rfl
theorem qQ (u v:List Int) (k:Nat):Pj b (u++v) k=Pj b u k++Pj b v k:=List.filterMap_append
theorem jG {s:Int} {v:List Int} (h:qp s=k):Pj b (s::v) k=s::Pj b v k:=by simp [Pj,Pj1,h]
theorem Zq {v:List Int} (h:qp s≠k) (c:crC b.c (qp s) k=true):Pj b (s::v) k=0::Pj b v k:=by simp [Pj,Pj1,h,c]
theorem jX {v:List Int} (h:qp s≠k) (c:crC b.c (qp s) k=false):Pj b (s::v) k=Pj b v k:=by simp [Pj,Pj1,h,c]
theorem Zo (h:St8 s):(((qp s).toNat:Nat):Int)=qp s:=by have:=h.line;omega
theorem Kb (h:St8 s):(qp s).toNat<8:=by have:=h.line;omega
theorem zT {s:Int} (u:St8 s):∀ {v:List Int},(∀ t∈v,Yg b t s=true)->Pj b v (qp s).toNat=[]
 | [],_=>rfl
 | t::v,h=>by obtain ⟨j,z⟩:=Yh.1 (h t (by simp));rw [jX (by rw [Zo u];exact j) (by rw [Zo u];exact z)];exact zT u fun x y=>h x (by simp [y])
theorem QU {s:Int} {k:Nat} (u:crC b.c (qp s) k=true):∀ {v:List Int},(∀ t∈v,Yg b t s=true)->∃ m,Pj b v k=List.replicate m 0
 | [],_=>⟨0,rfl⟩
 | t::v,h=>by
   obtain ⟨m,hm⟩:=QU u (v:=v) fun x y=>h x (by simp [y]);obtain ⟨o,z⟩:=Yh.1 (h t (by simp));have j:qp t≠k:=fun e=>by rw [Gs,<-e,z] at u;cases u
   by_cases c:crC b.c (qp t) k=true
   . exact ⟨m+1,by rw [Zq j c,hm];rfl⟩
   exact ⟨m,by rw [jX j (by simpa using c),hm]⟩
theorem Mo {s:Int} (z:St8 s) {v:List Int} (h:∀ t∈v,Yg b t s=true) (k:Nat):Pj b (v++[s]) k=Pj b (s::v) k:=by
 rw [qQ];by_cases u:qp s=k
 . have j:=zT z h;have e:(qp s).toNat=k:=by omega
   rw [e] at j;rw [jG u,jG u,j];rfl
 by_cases c:crC b.c (qp s) k=true
 . obtain ⟨m,hm⟩:=QU c h;rw [Zq u c,Zq u c,hm,Kh];exact (qn8 ..).symm
 rw [jX u (by simpa using c),jX u (by simpa using c),Kh,qm3]
theorem VM {k:Nat} {s:Int} {r:List Int} (o:s≠0):∀ {w:List Int},Pj b w k=s::r->∃ u v,w=u++s::v/\(∀ t∈u,Yg b t s=true)/\qp s=k
 | [],h=>by simp [Pj] at h
 | t::w,h=>by
   by_cases j:qp t=k
   . rw [jG j] at h;cases h;exact ⟨[],w,rfl,fun t g=>by simp at g,j⟩
   by_cases c:crC b.c (qp t) k=true
   . rw [Zq j c] at h;cases h;exact absurd rfl o
   rw [jX j (by simpa using c)] at h;obtain ⟨u,v,rfl,q,z⟩:=VM o h;refine ⟨t::u,v,rfl,fun x y=>?_,z⟩;rcases sg.1 y with rfl | y
   . exact Yh.2 ⟨by rw [z];exact j,by rw [z];simpa using c⟩
   exact q x y
theorem bF {R:Nat->List Int} {s:Int}:∀ {m:Nat},s∈VK R m↔∃ k,k<m/\s∈WD (R k)
 | 0=>by simp [VK]
 | m+1=>by
   simp only [VK,xm,bF (m:=m)];constructor
   . rintro (⟨k,v,u⟩ | h)
     . exact ⟨k,by omega,u⟩
     exact ⟨m,by omega,h⟩
   rintro ⟨k,v,u⟩;by_cases e:k=m
   . subst e;exact .inr u
   exact .inl ⟨k,by omega,u⟩
theorem DM {l:List Int} :s∈WD l↔s≠0/\∃ r,l=s::r:=by
 cases l with
 | nil=>simp [WD]
 | cons x r =>
   simp only [WD];split
   . rename_i h;subst h;constructor
     . intro h;simp at h
     rintro ⟨h,R,e⟩;cases e;exact absurd rfl h
   rename_i h;constructor
   . intro u;simp at u;subst u;exact ⟨h,r,rfl⟩
   rintro ⟨_,R,e⟩;cases e;simp
def qle (b:Bch) (w:List Int) (s:Int):Prop:=∃ u v,w=u++s::v/\∀ t∈u,Yg b t s=true
theorem mP {w:List Int} (g:S8 w) :s∈fsR (Pj b w)↔qle b w s:=by
 unfold fsR;rw [bF];constructor
 . rintro ⟨k,m,h⟩;obtain ⟨z,r,q⟩:=DM.1 h;obtain ⟨u,v,y,o,_⟩:=VM z q;exact ⟨u,v,y,o⟩
 rintro ⟨u,v,rfl,h⟩;have j:St8 s:=g s (by simp);refine ⟨(qp s).toNat,Kb j,DM.2 ⟨j.1,Pj b v (qp s).toNat,?_⟩⟩;rw [qQ,zT j h,jG (Zo j).symm];rfl
theorem RN {u v:List Int} (h:(k:Int)=qp s\/crC b.c (qp s) k=true):Pj b (u++s::v) k≠[]:=by
 rw [qQ];by_cases j:qp s=k
 . rw [jG j];simp
 rcases h with h | h
 . exact absurd h.symm j
 rw [Zq j h];simp
theorem lh {u v:List Int} (y:St8 s) (h:∀ t∈u,Yg b t s=true) (k:Nat):Nx b (Pj b (u++s::v)) s k=Pj b (u++v) k:=by
 unfold Nx;rw [qQ,qQ];by_cases j:qp s=k
 . rw [if_pos (.inl j.symm),jG j];have z:=zT y h;have e:(qp s).toNat=k:=by omega
   rw [e] at z;rw [z];rfl
 by_cases c:crC b.c (qp s) k=true
 . rw [if_pos (.inr c),Zq j c];obtain ⟨m,hm⟩:=QU c h;rw [hm];cases m with
   | zero=>rfl
   | succ m =>show List.replicate m 0++0::Pj b v k=_;rw [qn8,qmo];rfl
 rw [if_neg (by rintro (h | h);exact j h.symm;exact c h),jX j (by simpa using c)]
theorem Bf (o:s≠0):∀ {w:List Int},(Pj b w k).getLast?=some s->∃ u v,w=u++s::v/\(∀ t∈v,Yg b t s=true)/\qp s=k:=by
 intro w
 induction hn:w.length generalizing w with
 | zero=>intro h;rw [qmk hn] at h;simp [Pj] at h
 | succ n i =>
   intro h;obtain ⟨w,t,rfl⟩:∃ f t,w=f++[t]:=⟨w.dropLast,w.getLast (fun e=>by rw [e] at hn;cases hn),(qot _).symm⟩;have m:=@i w (by simp at hn;exact hn);rw [qQ] at h;by_cases z:qp t=k
   . rw [jG z,Kh] at h;simp at h;subst h;exact ⟨w,[],by simp,fun t g=>by simp at g,z⟩
   by_cases c:crC b.c (qp t) k=true
   . rw [Zq z c,Kh] at h;simp at h;exact absurd h.symm o
   rw [jX z (by simpa using c),Kh,qm3] at h;obtain ⟨u,v,rfl,q,y⟩:=m h;refine ⟨u,v++[t],by simp,fun x j=>?_,y⟩;rcases xm.1 j with j | j
   . exact q x j
   simp at j;subst j;exact Yh.2 ⟨by rw [y];exact z,by rw [y];simpa using c⟩
def qkw (b:Bch) (w:List Int) (s:Int):Prop:=∃ u v,w=u ++ -s::v/\∀ t∈v,Yg b t s=true
theorem UF {w:List Int} (j:St8 s):ja (Pj b w) s=true↔qkw b w s:=by
 unfold ja;simp only [qmE];constructor
 . intro h;obtain ⟨u,v,z,y,_⟩:=Bf j.neg.1 h;exact ⟨u,v,z,fun t o=>by rw [<-VB j.1];exact y t o⟩
 rintro ⟨u,v,rfl,h⟩;have e:qp (-s)=(qp s).toNat:=by rw [ZT j.1,Zo j]
 rw [qQ,jG e,zT j h];simp
theorem GW {u v:List Int} (z:St8 s) (h:∀ t∈v,Yg b t s=true) (k:Nat):Zi b (Pj b (u ++ -s::v)) s k=Pj b (u++v) k:=by
 have o:ja (Pj b (u ++ -s::v)) s=true:=(UF z).2 ⟨u,v,rfl,h⟩;have E:=ZT z.1;unfold Zi;rw [o,qQ,qQ];by_cases j:qp s=k
 . rw [if_neg (by rintro ⟨h,_⟩;exact h j.symm),if_pos rfl,jG (by rw [E];exact j)];have y:=zT z h;have e:(qp s).toNat=k:=by omega
   rw [e] at y;rw [y];simp
 by_cases c:crC b.c (qp s) k=true
 . rw [if_neg (by rintro ⟨_,h⟩;rw [c] at h;cases h),if_pos rfl,Zq (by rw [E];exact j) (by rw [E];exact c)];obtain ⟨m,hm⟩:=QU c h;rw [hm];have:(0:Int)::List.replicate m 0=List.replicate m 0++[0]:=(qn8 (n:=m) (a:=(0:Int))) ▸ rfl;rw [this,<-qmo,List.dropLast_concat]
 rw [if_pos ⟨fun e=>j e.symm,by simpa using c⟩,jX (by rw [E];exact j) (by rw [E];simpa using c)]
theorem XP {w:List Int} (h:ja (Pj b w) s=false) (k:Nat):Zi b (Pj b w) s k=Pj b (w++[s]) k:=by
 unfold Zi;rw [h,qQ];by_cases u:qp s=k
 . rw [if_neg (by rintro ⟨h,_⟩;exact h u.symm),if_neg (by simp),if_pos u.symm,jG u];rfl
 by_cases c:crC b.c (qp s) k=true
 . rw [if_neg (by rintro ⟨_,h⟩;rw [c] at h;cases h),if_neg (by simp),if_neg (fun e=>u e.symm),Zq u c];rfl
 rw [if_pos ⟨fun e=>u e.symm,by simpa using c⟩,jX u (by simpa using c),Kh,qm3]
end Go.AM

namespace Go.AM
variable {s t:Int} {w:List Int} {R:Nat->List Int}
variable {b:Bch}
def Eq8 (R u:Nat->List Int):Prop:=∀ k,k<8->R k=u k
theorem Eq8.refl (R:Nat->List Int):Eq8 R R:=fun _ _=>rfl
theorem Eq8.symm {R y:Nat->List Int} (h:Eq8 R y):Eq8 y R:=fun k q=>(h k q).symm
theorem Eq8.trans {R q y:Nat->List Int} (h:Eq8 R q) (O:Eq8 q y):Eq8 R y:=fun k e=>(h k e).trans (O k e)
theorem UG {u:Nat->List Int} (h:Eq8 R u) (v:St8 s):ja R s=ja u s:=by unfold ja;rw [h _ (Kb v)]
theorem QK {u:Nat->List Int} (h:Eq8 R u) (j:St8 s):Eq8 (Zi b R s) (Zi b u s):=fun k v=>by unfold Zi;rw [UG h j,h k v]
theorem Ym:∀ {l:List Int} {R u:Nat->List Int},S8 l->Eq8 R u->Eq8 (l.foldl (Zi b) R) (l.foldl (Zi b) u)
 | [],R,u,_,h=>h
 | s::l,R,u,v,h=>Ym (l:=l) (fun x j=>v x (by simp [j])) (QK h (v s (by simp)))
theorem S8.append {u v:List Int} (h:S8 u) (q:S8 v):S8 (u++v):=fun s y=>by
 rcases xm.1 y with y | y
 . exact h s y
 exact q s y
theorem S8.left {u v:List Int} (h:S8 (u++v)):S8 u:=fun s y=>h s (qnR _ y)
theorem S8.right {u v:List Int} (h:S8 (u++v)):S8 v:=fun s y=>h s (qnM _ y)
theorem S8.one (h:St8 s):S8 [s]:=fun x y=>by simp at y;subst y;exact h
def mw (b:Bch) (s:Int):List Int->Option (List Int)
 | []=>none
 | t::r=>match mw b s r with
   | some R=>some (t::R)
   | none=>if t = -s/\(r.all fun x=>Yg b x s)=true then some r else none
theorem Kx {s:Int}:∀ {w j:List Int},mw b s w=some j->∃ u v,w=u ++ -s::v/\j=u++v/\∀ t∈v,Yg b t s=true
 | [],j,h=>by cases h
 | t::r,j,h=>by
   simp only [mw] at h;split at h
   . rename_i R q;cases h;obtain ⟨u,v,z,y,o⟩:=Kx q;exact ⟨t::u,v,by rw [z];rfl,by rw [y];rfl,o⟩
   split at h
   . rename_i c;cases h;exact ⟨[],r,by rw [c.1];rfl,rfl,LL.1 c.2⟩
   cases h
theorem Fu (h:mw b s w=none):¬ qkw b w s:=by
 rintro ⟨u,v,rfl,z⟩
 induction u with
 | nil =>
   simp only [qmF,mw] at h;split at h
   . cases h
   have j:(v.all fun x=>Yg b x s)=true:=LL.2 z;simp [j] at h
 | cons t u i =>
   simp only [qmP,mw] at h;split at h
   . cases h
   rename_i c;exact i c
def push (b:Bch) (w:List Int) (s:Int):List Int:=match mw b s w with
 | some w'=>w'
 | none=>w++[s]
def nf (b:Bch) (l:List Int):List Int:=l.foldl (push b) []
theorem fA {w:List Int} (j:S8 w) (z:St8 s):S8 (push b w s):=by
 unfold push;split
 . rename_i o h;obtain ⟨u,v,rfl,rfl,_⟩:=Kx h;exact j.left.append fun x y=>j x (by simp [y])
 exact j.append (.one z)
theorem iO {w:List Int} (j:St8 s) (k:Nat):Zi b (Pj b w) s k=Pj b (push b w s) k:=by
 unfold push;split
 . rename_i y h;obtain ⟨u,v,rfl,rfl,z⟩:=Kx h;exact GW j z k
 rename_i h
 exact XP (by
  have:=Fu h;cases hu:ja (Pj b w) s with
  | false=>rfl
  | true=>exact absurd ((UF j).1 hu) this) k
theorem OU:∀ {l w:List Int},S8 l->S8 w->Eq8 (l.foldl (Zi b) (Pj b w)) (Pj b (l.foldl (push b) w))/\S8 (l.foldl (push b) w)
 | [],w,_,u=>⟨.refl _,u⟩
 | s::l,w,v,u=>by have j:=v s (by simp);have h:S8 l:=fun x o=>v x (by simp [o]);obtain ⟨z,y⟩:=OU (l:=l) (w:=push b w s) h (fA u j);exact ⟨(Ym h (fun k _=>iO j k)).trans z,y⟩
theorem PB {l:List Int} (h:S8 l):Eq8 (QT b l) (Pj b (nf b l)):=by have:=(OU (b:=b) (w:=[]) h (fun x u=>by simp at u)).1;exact this
theorem si {l:List Int} (h:S8 l):S8 (nf b l):=(OU (b:=b) (w:=[]) h (fun x u=>by simp at u)).2
theorem sv {l:List Int} (j:S8 l):bk b l:=by intro i h z k o c;have t:S8 (l.take i):=fun x q=>j x (qnw q);have s:=j l[i] (qmr h);have e:=PB (b:=b) t;rw [UG e s,UF s] at z;obtain ⟨u,v,y,_⟩:=z;rw [e k o,y];refine RN ?_;rw [ZT s.1];exact c
def NoAdj (l:List Int):Prop:=∀ p x q,l=p++x :: -x::q->x=0
theorem NoAdj.init {l m:List Int} (h:NoAdj (l++m)):NoAdj l:=fun p x q e=>h p x (q++m) (by rw [e];simp)
theorem NoAdj.dropLast {l:List Int} (h:NoAdj l):NoAdj l.dropLast:=by
 cases l with
 | nil=>exact h
 | cons x r =>have:=qot (l:=x::r) (by simp);rw [<-this] at h;exact h.init
theorem NoAdj.snoc {l:List Int} {v:Int} (h:NoAdj l) (hv:∀ y,l.getLast?=some y->v = -y->y=0):NoAdj (l++[v]):=by
 intro p x q e;rcases List.eq_nil_or_concat q with rfl | ⟨A,y,rfl⟩
 . have O:l++[v]=(p++[x])++[-x]:=by rw [e];simp
   obtain ⟨X,K⟩:=List.append_inj' O rfl;simp at K;exact hv x (by rw [X];simp) K
 have O:l++[v]=(p++x :: -x::A)++[y]:=by rw [e];simp
 obtain ⟨X,_⟩:=List.append_inj' O rfl;exact h p x A X
def Red8 (R:Nat->List Int):Prop:=∀ k,k<8->NoAdj (R k)
theorem Red8.congr {R y:Nat->List Int} (h:Red8 R) (e:Eq8 R y):Red8 y:=fun k q=>by rw [<-e k q];exact h k q
theorem uP (o:St8 s) (h:Red8 R):Red8 (Zi b R s):=by
 intro k u;unfold Zi;split
 . exact h k u
 split
 . exact (h k u).dropLast
 rename_i v;split
 . rename_i z;refine (h k u).snoc fun y j e=>?_;exfalso;apply v;unfold ja;have:(qp s).toNat=k:=by omega
   rw [this,j];simp;omega
 exact (h k u).snoc fun y _ e=>by omega
theorem vQ {l:List Int} (u:S8 l):Red8 (QT b l):=by
 have:∀ (l:List Int) (R:Nat->List Int),S8 l->Red8 R->Red8 (l.foldl (Zi b) R):=fun l=>by
  induction l with
  | nil=>intro R _ h;exact h
  | cons s l i=>intro R u h;exact i _ (fun x v=>u x (by simp [v])) (uP (u s (by simp)) h)
 exact this l _ u (fun k _ p x q e=>by cases p <;> cases e)
theorem vg (m:S8 w) (j:St8 s) (g:Red8 (Pj b w)):Eq8 (Zi b (Zi b (Pj b w) s) (-s)) (Pj b w):=by
 intro k o;cases hu:ja (Pj b w) s with
 | true =>
   obtain ⟨u,v,rfl,z⟩:=(UF j).1 hu
   have n:ja (Pj b (u++v)) (-s)=false:=by
    cases h:ja (Pj b (u++v)) (-s) with
    | false=>rfl
    | true =>
      exfalso;have l:(qp (-s)).toNat=(qp s).toNat:=by rw [ZT j.1]
      unfold ja at h;rw [l,qQ,zT j z,qm3] at h;simp only [qmE,Int.neg_neg] at h;have r:=g (qp s).toNat (Kb j);rw [qQ,jG (by rw [ZT j.1,Zo j]),zT j z] at r;obtain ⟨p,q⟩:∃ p,Pj b u (qp s).toNat=p++[s]:=by rw [List.getLast?_eq_some_iff] at h;exact h
      have:=r p s [] (by rw [q];simp);exact j.1 this
   have e:Eq8 (Zi b (Pj b (u ++ -s::v)) s) (Pj b (u++v)):=fun k _=>GW j z k;rw [QK e j.neg k o,XP n,qmo];rw [qQ u (v++[-s]),Mo j.neg (fun t y=>by rw [VB j.1];exact z t y),<-qQ]
 | false =>have e:Eq8 (Zi b (Pj b w) s) (Pj b (w++[s])):=fun k _=>XP hu k;rw [QK e j.neg k o];have:=GW (b:=b) (u:=w) (v:=[]) j.neg (fun t y=>by simp at y) k;rw [Int.neg_neg,qm3] at this;exact this
theorem DJ (j:St8 t) (h:Yg b s t=true):((qp t).toNat:Int)≠qp s/\crC b.c (qp s) ((qp t).toNat:Int)=false:=by obtain ⟨u,v⟩:=Yh.1 h;rw [Zo j];exact ⟨fun e=>u e.symm,v⟩
theorem Yr {R:Nat->List Int} {k:Nat} (h:(k:Int)≠qp s/\crC b.c (qp s) k=false):Zi b R s k=R k:=by unfold Zi;rw [if_pos h]
theorem Bh {R u:Nat->List Int} {k:Nat} (h:R k=u k) (v:ja R s=ja u s):Zi b R s k=Zi b u s k:=by unfold Zi;rw [h,v]
theorem vh (N:S8 w) (g:St8 s) (f:St8 t) (h:Yg b s t=true):Eq8 (Zi b (Zi b (Pj b w) s) t) (Zi b (Zi b (Pj b w) t) s):=by
 intro k M;have p:Yg b t s=true:=by rw [Kp];exact h
 have r:ja (Zi b (Pj b w) s) t=ja (Pj b w) t:=by unfold ja;rw [Yr (DJ f h)]
 have d:ja (Zi b (Pj b w) t) s=ja (Pj b w) s:=by unfold ja;rw [Yr (DJ g p)]
 by_cases A:(k:Int)≠qp s/\crC b.c (qp s) k=false
 . rw [Yr (R:=Zi b (Pj b w) t) A];exact Bh (Yr A) r
 by_cases j:(k:Int)≠qp t/\crC b.c (qp t) k=false
 . rw [Yr (R:=Zi b (Pj b w) s) j];exact (Bh (Yr j) d).symm
 obtain ⟨C,c2⟩:=Yh.1 h;have K:(k:Int)≠qp s:=fun e=>j ⟨fun E=>C (e.symm.trans E),by rw [e,Gs];exact c2⟩;have y:(k:Int)≠qp t:=fun e=>A ⟨fun E=>C (E.symm.trans e),by rw [e];exact c2⟩;have X:crC b.c (qp s) k=true:=by cases c:crC b.c (qp s) k with | true=>rfl | false=>exact absurd ⟨K,c⟩ A
 have q:crC b.c (qp t) k=true:=by cases c:crC b.c (qp t) k with | true=>rfl | false=>exact absurd ⟨y,c⟩ j
 have ZS:∀ (R:Nat->List Int) (x:Int),(k:Int)≠qp x->crC b.c (qp x) k=true->Zi b R x k=if ja R x=true then (R k).dropLast else R k++[0]:=fun R x z c=>by unfold Zi;rw [if_neg (by rintro ⟨_,h⟩;rw [c] at h;cases h),if_neg z]
 have zero:∀ x,St8 x->(k:Int)≠qp x->crC b.c (qp x) k=true->ja (Pj b w) x=true->(Pj b w k).dropLast++[0]=Pj b w k:=fun x z o c i=>by obtain ⟨u,v,rfl,L⟩:=(UF z).1 i;obtain ⟨m,hm⟩:=QU c L;have l:=ZT z.1;rw [qQ,Zq (by rw [l];exact fun e=>o e.symm) (by rw [l];exact c),hm];have:(0:Int)::List.replicate m 0=List.replicate m 0++[0]:=(qn8 (n:=m) (a:=(0:Int))) ▸ rfl;rw [this,<-qmo,List.dropLast_concat]
 rw [ZS (Zi b (Pj b w) s) t y q,ZS (Pj b w) s K X,r,ZS (Zi b (Pj b w) t) s K X,ZS (Pj b w) t y q,d];cases hu1:ja (Pj b w) s <;> cases hu2:ja (Pj b w) t <;> simp
 . rw [zero t f y q hu2]
 rw [zero s g K X hu1]
theorem ZU (l m:List Int):QT b (l++m)=m.foldl (Zi b) (QT b l):=by simp [QT,qoq]
theorem Uf {u v:List Int} (y:S8 u) (j:St8 s) (z:St8 t) (o:S8 v) (h:Yg b s t=true):Eq8 (QT b (u++s::t::v)) (QT b (u++t::s::v)):=by rw [ZU,ZU];refine Ym (l:=v) o ?_;have e:=PB (b:=b) y;refine ((QK (QK e j) z).trans (vh (si y) j z h)).trans (QK (QK e.symm z) j)
theorem Ud {u v:List Int} (j:S8 u) (h:St8 s) (z:S8 v):Eq8 (QT b (u++s :: -s::v)) (QT b (u++v)):=by rw [ZU,ZU];refine Ym (l:=v) z ?_;have e:=PB (b:=b) j;have r:Red8 (Pj b (nf b u)):=(vQ j).congr e;exact ((QK (QK e h) h.neg).trans (vg (si j) h r)).trans e.symm
theorem Ue {s:Int} (q:St8 s):∀ {u v z:List Int},S8 u->S8 v->S8 z->(∀ t∈v,Yg b t s=true)->Eq8 (QT b (u++(v++s::z))) (QT b (u++s::(v++z)))
 | u,[],z,_,_,_,_ => .refl _
 | u,t::v,z,m,f,r,h=>by have g:=f t (by simp);have j:S8 v:=fun x y=>f x (by simp [y]);have o:=Ue q (u:=u++[t]) (v:=v) (z:=z) (m.append (.one g)) j r (fun x y=>h x (by simp [y]));simp only [qmo,qmP,qmF] at o ⊢;refine o.trans (Uf m g q (j.append r) (h t (by simp)))
theorem BQ {u v z:List Int} (o:S8 u) (j:St8 s) (q:S8 v) (g:S8 z) (h:∀ t∈v,Yg b t s=true):Eq8 (QT b (u++s::(v ++ -s::z))) (QT b (u++(v++z))):=by have y:=Ue j.neg (u:=u++[s]) (v:=v) (z:=z) (o.append (.one j)) q g (fun t m=>by rw [VB j.1];exact h t m);simp only [qmo,qmP,qmF] at y;exact y.trans (Ud o j (q.append g))
theorem PC:∀ {w:List Int},S8 w->Red8 (Pj b w)->Eq8 (QT b w) (Pj b w):=by
 intro w
 induction hn:w.length generalizing w with
 | zero=>intro _ _;rw [qmk hn];exact .refl _
 | succ n i =>
   intro z j;obtain ⟨w,t,rfl⟩:∃ s t,w=s++[t]:=⟨w.dropLast,w.getLast (fun e=>by rw [e] at hn;cases hn),(qot _).symm⟩;have u:St8 t:=z t (by simp);have v:Red8 (Pj b w):=fun k y=>by have:=j k y;rw [qQ] at this;exact this.init
   have g:=@i w (by simp at hn;exact hn) z.left v;rw [ZU]
   have q:ja (Pj b w) t=false:=by
    cases h:ja (Pj b w) t with
    | false=>rfl
    | true =>exfalso;unfold ja at h;simp only [qmE] at h;rw [List.getLast?_eq_some_iff] at h;obtain ⟨p,o⟩:=h;have r:=j (qp t).toNat (Kb u);rw [qQ,o,jG (Zo u).symm,Kh] at r;have:=r p (-t) [] (by simp);have:=u.1;omega
   exact (QK g u).trans fun k _=>XP q k
end Go.AM

namespace Go.AM
variable {l:List Int}
variable {b:Bch}
theorem Nm {s:Int}:∀ {r:List Int} {k:Nat},PJ b s r=some k->∃ v z,r=v ++ -s::z/\v.length=k/\∀ t∈v,Yg b t s=true
 | [],k,h=>by cases h
 | x::r,k,h=>by
   simp only [PJ] at h;split at h
   . rename_i e;cases h;exact ⟨[],r,by rw [e];rfl,rfl,fun t u=>by simp at u⟩
   split at h
   . rename_i c;simp only [RL] at h;obtain ⟨j,q,rfl⟩:=h;obtain ⟨v,z,rfl,y,o⟩:=Nm q;refine ⟨x::v,z,rfl,by simp [y],fun t u=>?_⟩;rcases sg.1 u with rfl | u
     . rw [Kp];exact c
     exact o t u
   cases h
theorem WY:∀ {l:List Int} {i k:Nat},xT b l=some (i,k)->∃ u s v z,l=u++s::(v ++ -s::z)/\u.length=i/\k=i+1+v.length/\∀ t∈v,Yg b t s=true
 | [],i,k,h=>by cases h
 | s::r,i,k,h=>by
   simp only [xT] at h;split at h
   . rename_i j m;cases h;obtain ⟨v,z,rfl,y,o⟩:=Nm m;exact ⟨[],s,v,z,rfl,rfl,by omega,o⟩
   simp only [RL] at h;obtain ⟨⟨f,K⟩,q,e⟩:=h;cases e;obtain ⟨u,x,v,z,rfl,y,o,g⟩:=WY q;exact ⟨s::u,x,v,z,rfl,by simp [y],by omega,g⟩
theorem KF {u v z:List Int} {s t:Int}:((u++s::(v++t::z)).eraseIdx (u.length+1+v.length)).eraseIdx u.length=u++(v++z):=by
 have e:(u++s::(v++t::z)).eraseIdx (u.length+1+v.length)=u++s::(v++z):=by
  rw [qnK (by omega)];have:u.length+1+v.length - u.length=v.length+1:=by omega
  rw [this,List.eraseIdx_cons_succ,qnK (by omega)];simp
 rw [e,qnK (by omega)];simp
theorem HI {s:Int} {z:List Int}:∀ {v:List Int},PJ b s (v ++ -s::z)=none->(∀ t∈v,Yg b t s=true)->False
 | [],h,_=>by simp [PJ] at h
 | y::v,h,u=>by
   simp only [qmP,PJ] at h;split at h
   . cases h
   rw [if_pos (by rw [Kp];exact u y (by simp))] at h;rw [Option.map_eq_none_iff] at h;exact HI h fun t j=>u t (by simp [j])
theorem UH {s:Int} {v z:List Int} (j:∀ t∈v,Yg b t s=true):∀ {u:List Int},xT b (u++s::(v ++ -s::z))=none->False
 | [],h=>by
   simp only [qmF,xT] at h;split at h
   . cases h
   rename_i r;exact HI r j
 | x::u,h=>by
   simp only [qmP,xT] at h;split at h
   . cases h
   rw [Option.map_eq_none_iff] at h;exact UH j h
theorem Um (r:S8 l) (h:xT b l=none):Red8 (Pj b l):=by
 intro k n p x q e;by_cases j:x=0
 . exact j
 exfalso;have E:l.filterMap (Pj1 b k)=p++(x :: -x::q):=e;rw [List.filterMap_eq_append_iff] at E;obtain ⟨L,i,rfl,a,o⟩:=E;obtain ⟨u,v,rfl,g,m⟩:=VM j o;have y:Pj b (u++x::v) k=x :: -x::q:=o;have c:St8 x:=r x (by simp)
 have w:Pj b u k=[]:=by
  have:(qp x).toNat=k:=by omega
  rw [<-this];exact zT c g
 rw [qQ,w,jG m] at y;simp at y;obtain ⟨V,z,rfl,f,_⟩:=VM (show -x≠0 by omega) y;refine UH (b:=b) (s:=x) (v:=V) (z:=z) (fun t d=>by rw [<-VB j];exact f t d) (u:=L++u) ?_;rw [<-h];simp
theorem Un:∀ (n:Nat) {l:List Int},S8 l->l.length<=n->Eq8 (QT b l) (QT b (SI b n l))/\xT b (SI b n l)=none/\S8 (SI b n l)
 | 0,l,h,m=>by have:l=[]:=qmk (by omega);subst this;exact ⟨.refl _,rfl,h⟩
 | n+1,l,h,m=>by
   simp only [SI];split
   . rename_i i k q;obtain ⟨u,s,v,z,rfl,rfl,rfl,f⟩:=WY q;rw [KF];have p:St8 s:=h s (by simp);have j:S8 u:=h.left;have y:S8 v:=fun x g=>h x (by simp [g]);have o:S8 z:=fun x g=>h x (by simp [g]);obtain ⟨r,t,d⟩:=Un n (l:=u++(v++z)) (j.append (y.append o)) (by simp at m ⊢;omega);exact ⟨(BQ j p y o f).trans r,t,d⟩
   rename_i q;exact ⟨.refl _,q,h⟩
theorem Vp (z:S8 l):Eq8 (QT b l) (Pj b (red b l))/\S8 (red b l)/\Red8 (Pj b (red b l)):=by obtain ⟨v,j,h⟩:=Un (b:=b) l.length z (Qs _);have u:=Um h j;exact ⟨v.trans (PC h u),h,u⟩
theorem uO {s t:Int} (u:s≠0) (v:t≠0) (h:KU s=KU t):s=t:=by
 unfold KU qp at h
 (repeat' split at h) <;> omega
theorem Ph (o:l≠[]):Xo l∈l/\∀ y∈l,KU (Xo l)<=KU y:=by
 obtain ⟨x,r,rfl⟩:∃ x r,l=x::r:=by cases l with | nil=>exact absurd rfl o | cons x r=>exact ⟨x,r,rfl⟩
 have:∀ (r:List Int) (x:Int),r.foldl Wk x∈x::r/\∀ y∈x::r,KU (r.foldl Wk x)<=KU y:=fun r=>by
  induction r with
  | nil=>intro x;simp
  | cons a r i =>
    intro x;obtain ⟨z,v⟩:=i (Wk x a);simp only [qnZ];have j:Wk x a=x/\KU x<=KU a\/Wk x a=a/\KU a<KU x:=by unfold Wk;split <;> simp <;> omega
    rcases j with ⟨j,k⟩ | ⟨j,k⟩
    . rw [j] at z v ⊢;refine ⟨?_,fun y u=>?_⟩
      . rcases sg.1 z with h | h
        . rw [h];simp
        simp [h]
      rcases sg.1 u with rfl | u
      . exact v _ (by simp)
      rcases sg.1 u with rfl | u
      . exact Int.le_trans (v x (by simp)) k
      exact v y (by simp [u])
    rw [j] at z v ⊢;refine ⟨?_,fun y u=>?_⟩
    . rcases sg.1 z with h | h
      . rw [h];simp
      simp [h]
    rcases sg.1 u with rfl | u
    . have:=v a (by simp);omega
    rcases sg.1 u with rfl | u
    . exact v _ (by simp)
    exact v y (by simp [u])
 exact this r x
theorem KN {w:List Int} {i:Nat} (h:i<w.length):JL b w i=true↔∀ t∈w.take i,Yg b t w[i]=true:=by
 unfold JL Sa;rw [LL];constructor
 . intro a t j;obtain ⟨k,u,rfl⟩:=qnA j;have v:=u;rw [qmS] at v;have:=a k (qmO.2 (by omega));rw [qos];simpa [h,show k<w.length by omega] using this
 intro a k u;have u:=qmO.1 u;have l:k<w.length:=by omega
 have e:(w.take i)[k]'(by rw [qmS];omega)=w[k]:=qos ..;have:=a w[k] (by rw [<-e];exact qmr _);simpa [h,l] using this
theorem Ve {w:List Int}:∀ n,0<n->n<=w.length->∃ j:Nat,JH b w n=j/\j<n/\JL b w j=true/\∀ i,i<n->JL b w i=true->KU (w.getD j 0)<=KU (w.getD i 0)
 | 0,h,_=>by omega
 | n+1,_,g=>by
   rw [OR];by_cases z:n=0
   . subst z;refine ⟨0,by simp [XI,JH,JL,Sa],by omega,by simp [JL,Sa],fun i v _=>?_⟩;have:i=0:=by omega
     subst this;exact Int.le_refl _
   obtain ⟨j,y,q,o,u⟩:=Ve (w:=w) n (by omega) (by omega);unfold XI;rw [y];split
   . rename_i c;obtain ⟨C,c2⟩:=c
     have c3:KU (w.getD n 0)<KU (w.getD j 0):=by
      rcases c2 with c2 | c2
      . omega
      simpa using c2
     refine ⟨n,rfl,by omega,C,fun i v f=>?_⟩;by_cases e:i=n
     . subst e;exact Int.le_refl _
     have:=u i (by omega) f;omega
   rename_i c;refine ⟨j,rfl,by omega,o,fun i v f=>?_⟩;by_cases e:i=n
   . subst e;have:¬ KU (w.getD i 0)<KU (w.getD j 0):=fun h=>c ⟨f,.inr (by simpa using h)⟩;omega
   exact u i (by omega) f
theorem jP {w:List Int} (y:S8 w) (o:w≠[]):∃ j:Nat,∃ N:j<w.length,JH b w w.length=j/\fsR (Pj b w)≠[]/\Xo (fsR (Pj b w))=w[j]/\(∀ k,Nx b (Pj b w) w[j] k=Pj b (w.eraseIdx j) k) /\
 ∀ k:Nat,((k:Int)=qp w[j]\/crC b.c (qp w[j]) k=true)->Pj b w k≠[]:=by
 obtain ⟨j,c,z,a,i⟩:=Ve (b:=b) (w:=w) w.length (qnd.2 o) (Qs _);have q:=(KN z).1 a;have split:w=w.take j++w[j]::w.drop (j+1):=by rw [<-qn5 z,qnD]
 have m:w[j]∈fsR (Pj b w):=(mP y).2 ⟨w.take j,w.drop (j+1),split,q⟩;have n:fsR (Pj b w)≠[]:=fun e=>by rw [e] at m;simp at m
 obtain ⟨d,p⟩:=Ph n;have s:St8 w[j]:=y _ (qmr z);refine ⟨j,z,c,n,?_,fun k=>?_,fun k x=>?_⟩
 . obtain ⟨u,v,e,M⟩:=(mP y).1 d;have h:u.length<w.length:=by rw [e];simp
   have E:w[u.length]=Xo (fsR (Pj b w)):=by
    have:w[u.length]?=some (Xo (fsR (Pj b w))):=by
     conv=>lhs;rw [e]
     simp
    rw [Wd h] at this;exact qnq this
   have f:JL b w u.length=true:=by
    rw [KN h,E];intro t g;have:w.take u.length=u:=by rw [e];simp
    rw [this] at g;exact M t g
   have K:=i u.length h f;have O:=p _ m;have r:w.getD j 0=w[j]:=by simp [z]
   have l:w.getD u.length 0=Xo (fsR (Pj b w)):=by simp [h,E]
   rw [r,l] at K;have L:St8 (Xo (fsR (Pj b w))):=by rw [<-E];exact y _ (qmr h)
   exact uO L.1 s.1 (by omega)
 . have:=lh (b:=b) (u:=w.take j) (v:=w.drop (j+1)) s q k;rw [<-split] at this;rw [this,List.eraseIdx_eq_take_drop_succ]
 rw [split];exact RN x
theorem ic {w:List Int} (v:S8 w) (h:fsR (Pj b w)=[]):w=[]:=by
 by_cases n:w=[]
 . exact n
 obtain ⟨_,_,_,u,_⟩:=jP (b:=b) v n;exact absurd h u
end Go.AM

namespace Go.AM
open Go.RowKit Go.Proofs Go.Proofs.Tryz
variable {l:List Int}
def FsJ (b:Bch) (f:Bool) (p:Nat) (rs:List AV) (w:List Int) (x:AV) (a:List Int) (A id:Nat) (j:Nat) (G:List HObj):Prop :=
 PLr G p (TB f b) rs (Pj b w)/\AccR G x a/\(∃ y,qu G A=some (.cells [y])/\AccR G y ((fsR (Pj b w)).take j)/\∀ i,rid y=some i->id+2<=i)/\qu G id=some (.lp .ready (id+1))/\id+2<=G.length
theorem BL {H p T rs R i} (h:PLr H p T rs R) (o:Own p rs i):i<H.length:=by
 rcases o with rfl | ⟨k,u,r⟩
 . exact qw h.obj
 exact (h.row k u).lt r
theorem Sb (R:Nat->List Int):∀ k,(VK R k).length<=k
 | 0=>by simp [VK]
 | k+1=>by
   have:=Sb R k;have h:(WD (R k)).length<=1:=by unfold WD;(repeat' split) <;> simp
   simp only [VK,qmI];omega
theorem AA (R:Nat->List Int):(fsR R).length<=8:=Sb R 8
theorem mQ {b:Bch} {f:Bool} {p:Nat} {rs:List AV} {w:List Int} {x:AV} {A:List Int} {a id j:Nat} {G:List HObj} (k:w.length<=1000000) (h:FsJ b f p rs w x A a id j G) (o:j<(fsR (Pj b w)).length) (c:p<a) (d:a<id)
 (q:∀ i,Own p rs i->i<a) (g:∀ i,rid x=some i->i<a) {y:AV} (L:qu G a=some (.cells [y])) (r:AccR G y ((fsR (Pj b w)).take j)) (z:∀ i,rid y=some i->id+2<=i) {v:List HObj}
 (s:∀ i,i<G.length->i≠id->rid y≠some i->qu v i=qu G i) (M:G.length<v.length) (m:qu v G.length=some (.cells (((fsR (Pj b w)).take j++[(fsR (Pj b w))[j]]).map fun n=>I n))) :
 FsJ b f p rs w x A a id (j+1) ((v.set a (.cells [.ms G.length 0 (j+1) 1])).set id (.lp .ready (id+1))):=by
 obtain ⟨f1,f2,_,f4,f5⟩:=h;have keep:∀ i,i<a->qu ((v.set a (.cells [.ms G.length 0 (j+1) 1])).set id (.lp .ready (id+1))) i=qu G i:=fun i u=>by rw [qq (by omega),qq (by omega)];exact s i (by omega) (by omega) (fun e=>by have:=z i e;omega)
 have t:((fsR (Pj b w)).take j++[(fsR (Pj b w))[j]])=(fsR (Pj b w)).take (j+1):=by rw [qno];simp [o]
 have l:((fsR (Pj b w)).take (j+1)).length=j+1:=by rw [qmS];omega
 refine ⟨f1.mono fun i u=>keep i (q i u),f2.mono fun i u=>keep i (g i u),⟨.ms G.length 0 (j+1) 1,?_,?_,fun i u=>?_⟩,qD (by simp;omega),by simp;omega⟩
 . rw [qq (by omega)];exact qD (by omega)
 . refine .inr ⟨G.length,by rw [l],fun e=>?_,?_⟩
   . rw [e] at l;simp at l
   rw [qq (by omega),qq (by omega),<-t];exact m
 cases u;exact f5
theorem RW (f g:Bool) (b:Bch) (l:List Int) (hs:S8 l) (hl:l.length<=1000000):qx prog 39 [.ptr (TB f b) 0,Ls g l] (Ls (ZS b l).isEmpty (ZS b l)):=by
 refine qM (QF func39 yk (by kernel_rfl) (by show 2<=_;decide) ?_);simp (disch:=omega)[dy,qb];refine sx f g b l hs hl (sv hs) fun H rs hP _ _=>?_;obtain ⟨r1,r2,r3⟩:=Vp (b:=b) hs;have hP:=hP.congr r1;simp (disch:=omega)[qb]
 refine qL (fun q:List Int×List AV×AV×List HObj×List Int=>⟨[(4,.sl true 0 []),(5,.ref 0 0),(6,q.2.2.1)],q.2.2.2.1⟩)
  (fun q=>PLr q.2.2.2.1 0 (TB f b) q.2.1 (Pj b q.1)/\S8 q.1/\AccR q.2.2.2.1 q.2.2.1 q.2.2.2.2/\(∀ i,rid q.2.2.1=some i->¬ Own 0 q.2.1 i)/\q.1.length+q.2.2.2.2.length<=1000000/\ZS b l=q.2.2.2.2++jA b q.1.length q.1)
  (fun q=>q.1.length) (red b l,rs,.sl true 0 [],H,[]) ⟨hP,r2,.inl ⟨rfl,rfl⟩,fun i h=>(by cases h),by have:=Es b l.length l;simp [red];omega,rfl⟩ rfl ?_
 rintro ⟨w,rs,x,H,a⟩ ⟨C,c2,c3,c4,c5,c6⟩;simp only at C c2 c3 c4 c5 c6;simp (disch:=omega)[qb];refine yC ?_;simp (disch:=omega)[qb];have d:(H++[HObj.cells [AV.sl true 0 []],HObj.cells [AV.ref 0 0]]).length=H.length+2:=by simp
 have x7:0<H.length:=qw C.obj;have x9:w.length<=1000000:=by omega
 have D:∀ i,Own 0 rs i->i<H.length:=fun i z=>BL C z;have hx:∀ i,rid x=some i->i<H.length:=fun i z=>c3.row.lt z;have r:∀ (i:Nat) (l:List HObj),i<H.length->qu (H++l) i=qu H i:=fun i l z=>QS z;refine sJ (K0:=FsJ b f 0 rs w x a H.length (H.length+2) (fsR (Pj b w)).length) (yB (f:=f) (b:=b) (p:=0) (rs:=rs) (R:=Pj b w) (J:=FsJ b f 0 rs w x a H.length (H.length+2)) (C.mono fun i z=>r i _ (D i z)) ?_ ?_ (fun j G h=>h.1) ?_) ?_
 . rw [qn,qmy (by omega)];simp
 . rw [d];refine ⟨C.mono fun i z=>by rw [qmo];exact r i _ (D i z),c3.mono fun i z=>by rw [qmo];exact r i _ (hx i z),⟨.sl true 0 [],?_,.inl ⟨rfl,rfl⟩,fun i z=>(by cases z)⟩,?_,by simp⟩
   . rw [qmo,qn,qmy (by omega)];simp
   rw [qmo,qn,qmy (by omega)];simp
 . intro j G P hJ;have x2:=hJ;obtain ⟨f1,f2,⟨y,f3,f4,f5⟩,f6,f7⟩:=hJ;rw [d];refine ⟨by rw [ze];exact f6,rfl,?_⟩;have N:qu (G.set (H.length+2) (HObj.lp LpSt.busy (H.length+2+1))) H.length=some (.cells [y]):=by rw [qq (by omega)];exact f3
   have A:H.length+2<G.length:=by omega
   have t:AccR (G.set (H.length+2) (HObj.lp LpSt.busy (H.length+2+1))) y ((fsR (Pj b w)).take j):=f4.mono fun i z=>qq (by have:=f5 i z;omega);simp (disch:=omega)[qb,putPs,ze,f6,A,N];refine Qa rfl rfl ?_;simp (disch:=omega)[qb,zh];have c:((fsR (Pj b w)).take j).length=j:=by rw [qmS];omega
   have h8:=AA (Pj b w);refine jw t.row (by rw [c];omega) fun ws M E Y=>?_;generalize x1:qf (G.set (H.length+2) (HObj.lp LpSt.busy (H.length+2+1))) ws=m at M E Y;simp only [qnp] at M E Y;have X:∀ i,i<G.length->i≠H.length+2->rid y≠some i->qu m i=qu G i:=fun i z x6 hr=>by rw [M i z hr,qq (qmG x6)]
   have a1:qu m H.length=some (.cells [y]):=by rw [X H.length (by omega) (by omega) (fun e=>by have:=f5 _ e;omega)];exact f3
   have a2:qu m (H.length+2)=some (.lp .busy (H.length+2+1)):=by rw [M (H.length+2) A (fun e=>by have:=f5 _ e;omega)];exact qD A
   have a3:H.length<m.length:=by omega
   have a4:H.length+2<m.length:=by omega
   simp (disch:=omega)[qb,x1,a1,a3];refine ⟨?_,rfl,?_⟩
   . rw [ze,qq (by omega)];exact a2
   have:=mQ (by omega) x2 P (p:=0) x7 (by omega) D hx f3 f4 f5 X E Y;have e:qz (m.set H.length (HObj.cells [AV.ms G.length 0 ((List.take j (fsR (Pj b w))).length+1) 1])) (H.length+2) (.lp .ready (H.length+2+1))=(m.set H.length (.cells [.ms G.length 0 (j+1) 1])).set (H.length+2) (.lp .ready (H.length+2+1)):=by rw [c];simp only [qz,qnp];rw [if_pos a4]
   rw [c] at e;simpa [e,a4] using this
 rintro G ⟨f1,f2,⟨y,f3,f4,f5⟩,f6,f7⟩;rw [d];rw [qoZ] at f4;refine Nq f6 ?_;have gp:PLr (G.set (H.length+2) .gone) 0 (TB f b) rs (Pj b w):=f1.mono fun i z=>qq (by have:=D i z;omega);have O:AccR (G.set (H.length+2) .gone) x a:=f2.mono fun i z=>qq (by have:=hx i z;omega);have t:AccR (G.set (H.length+2) .gone) y (fsR (Pj b w)):=f4.mono fun i z=>qq (by have:=f5 i z;omega);have N:qu (G.set (H.length+2) .gone) H.length=some (.cells [y]):=by rw [qq (by omega)];exact f3
 generalize G.set (H.length+2) HObj.gone=G2 at gp O t N;simp (disch:=omega)[qb,N,Pi t.row];by_cases L:w=[]
 . subst L;have e0:fsR (Pj b [])=[]:=rfl;simp (disch:=omega)[qb,e0];have e1:ZS b l=a:=by rw [c6];simp [jA]
   rw [e1];exact O.out
 obtain ⟨j,P,g1,K,g3,g4,g5⟩:=jP (b:=b) c2 L;have x8:St8 w[j]:=c2 _ (qmr P);have x4:∀ s∈fsR (Pj b w),St8 s:=fun s n=>by obtain ⟨u,v,e,_⟩:=(mP c2).1 n;exact c2 s (by rw [e];simp)
 have x5:(((fsR (Pj b w)).length:Int)==0)=false:=by rw [qnm];have:=qnd.2 K;omega
 rcases t with ⟨_,e⟩ | ⟨iy,rfl,_,t⟩
 . exact absurd e K
 simp (disch:=omega)[qb,x5,N];have h8:=AA (Pj b w);refine uQ (by omega) x4 K t ?_;rw [g3];simp (disch:=omega)[qb];refine qbP f b w[j] x8 gp (fun k _=>g5 k) fun Z V T q2 q3 q4=>?_;have T:=T.congr fun k _=>g4 k;have x0:AccR Z x a:=O.mono fun i z=>q2.2 i (O.row.lt z) (c4 i z);simp (disch:=omega)[qb];refine Qa rfl rfl ?_;simp (disch:=omega)[qb,zh];refine jw x0.row (by omega) fun ws M E Y=>?_;simp (disch:=omega)[qb]
 have x3:∀ i,rid x=some i->¬ Own 0 V i:=fun i z o=>by
  rcases q3 i o with h | h
  . exact c4 i z h
  have:=O.row.lt z;omega
 have Q:(w.eraseIdx j).length=w.length - 1:=by rw [qnh,if_pos P]
 refine qI (w.eraseIdx j,V,.ms Z.length 0 (a.length+1) 1,qf Z ws,a++[w[j]]) ⟨T.mono fun i z=>M i (BL T z) (fun e=>x3 i e z),fun s n=>c2 s (qnl n),
  .inr ⟨Z.length,by simp,by simp,Y⟩,fun i z o=>?_,by simp only [qmI,qnC];omega,?_⟩ (by simp only;omega) rfl
 . cases z;have:=BL T o;omega
 simp only;rw [c6,jO b w (qnd.2 L),g1,Q];simp [P]
theorem oM (f g:Bool) (l m:List Int) (o:l.length<=1000000) (q:m.length<=1000000):qx prog 43 [Ls f l,Ls g m] (B (decide (l=m))):=by
 refine qM (QF func43 yo (by kernel_rfl) (by show 2<=_;decide) ?_);simp (disch:=omega)[dC,qb];refine qA (fun h=>?_) (fun h=>?_)
 . simp at h;simp (disch:=omega)[qb,h];intro e;subst e;exact h rfl
 simp at h;simp (disch:=omega)[qb,h];refine qL (fun i:Nat=>⟨[(0,Ls f l),(1,Ls g m),(12,I m.length),(13,I i)],[]⟩) (fun i=>i<=l.length/\l.take i=m.take i) (fun i=>l.length - i) 0 ⟨by omega,rfl⟩ (by simp) ?_;intro i ⟨y,j⟩;simp (disch:=omega)[qb];refine qA (fun h=>?_) (fun h=>?_)
 . simp at h;have v:i<l.length:=by omega
   simp (disch:=omega)[qb,zy,h,v];refine qA (fun u=>?_) (fun u=>?_)
   . simp at u;simp (disch:=omega)[qb];intro e;subst e;exact u rfl
   simp at u;simp (disch:=omega)[qb];refine qI (i+1) ⟨by omega,?_⟩ (by omega) (by simp);rw [qno,qno,j];simp [h,v,u]
 simp at h;simp (disch:=omega)[qb];have E:l.take i=l:=qmn (by omega);have z:m.take i=m:=qmn (by omega);rw [<-E,j,z]
def Ku (b:Bch):List (Bool×List Int)->Int
 | []=>0
 | p::r=>if qX b p.2≠0 then qX b p.2 else Ku b r
theorem Dp {b:Bch}:∀ {ls:List (Bool×List Int)} {i:Nat} (h:i<ls.length),(∀ k (j:k<ls.length),k<i->qX b ls[k].2=0)->qX b ls[i].2≠0->Ku b ls=qX b ls[i].2
 | p::r,0,h,_,u=>by simp [Ku];intro e;exact absurd e u
 | p::r,i+1,h,z,u=>by have v:=z 0 (by simp) (by omega);simp only [qnL] at v;simp only [Ku,v,ne_eq,not_true_eq_false,qnc,qna];exact Dp (by simpa using h) (fun k j y=>by have:=z (k+1) (by simpa using j) (by omega);simpa using this) (by simpa using u)
theorem RK {b:Bch}:∀ {ls:List (Bool×List Int)},(∀ k (v:k<ls.length),qX b ls[k].2=0)->Ku b ls=0
 | [],_=>rfl
 | p::r,h=>by have u:=h 0 (by simp);simp only [qnL] at u;simp only [Ku,u,ne_eq,not_true_eq_false,qnc];exact RK fun k v=>by have:=h (k+1) (by simpa using v);simpa using this
theorem Fm {b:Bch} (h:qX b l=0):NK b=0:=by
 unfold qX at h;split at h
 . rename_i u;exact absurd h u
 rename_i u;simpa using u
theorem Wp {b:Bch} (h:qX b l=0):S8 l/\l.length<=60:=by
 have v:=Fm h;unfold qX at h;rw [if_neg (by simp [v])] at h;split at h
 . cases h
 split at h
 . rename_i j;exact ⟨fun s u=>qai v (LL.1 j s u),by omega⟩
 cases h
def YM (f:Bool) (b:Bch) (e:Int):AV := .tup [if e=0 then .ptr (TB f b) 0 else .v (.pointer none),I e]
theorem BJ (f g:Bool) (b:Bch) (ls:List (Bool×List Int)) (y:b.c.length<=1000000) (n:ls≠[]) (s:ls.length<=1000000) (l:∀ p∈ls,p.2.length<=1000000):qx prog 38 [Bn f b,LLs g ls] (YM f b (Ku b ls)):=by
 refine qM (QF func38 yj (by kernel_rfl) (by show 2<=_;decide) ?_);simp (disch:=omega)[dw,qb];refine qL (fun i:Nat=>⟨[(2,.ref 0 0),(9,LLs g ls),(10,I ls.length),(11,I i)],[.cells [I b.L,Ps f b.c]]⟩) (fun i=>i<=ls.length/\∀ k (u:k<ls.length),k<i->qX b ls[k].2=0) (fun i=>ls.length - i) 0 ⟨by omega,fun k _ h=>by omega⟩ rfl ?_;intro i ⟨q,z⟩;simp (disch:=omega)[qb];refine qA (fun h=>?_) (fun h=>?_)
 . simp at h;have E:Pu (ls.map fun p=>Ls p.1 p.2) i=some (Ls ls[i].1 ls[i].2):=by rw [Jf];simp [h]
   simp (disch:=omega)[qb,h,E];refine qh rfl (uS f ls[i].1 b ls[i].2 y (l _ (qmr h))) ?_;simp (disch:=omega)[qb];by_cases c:qX b ls[i].2=0
   . simp (disch:=omega) [qb,c];refine qI (i+1) ⟨by omega,fun k u o=>?_⟩ (by omega) (by simp);by_cases e:k=i
     . subst e;exact c
     exact z k u (by omega)
   have e:=Dp h z c;have j:(qX b ls[i].2 != 0)=true:=by simpa using c
   simp (disch:=omega)[qb,j];rw [e];refine Zd (is:=[]) ?_;unfold YM;rw [if_neg c];rfl
 simp at h;have e:=RK (b:=b) (ls:=ls) fun k u=>z k u (by omega);have v:NK b=0:=Fm (z 0 (qnd.2 n) (by have:=qnd.2 n;omega));simp (disch:=omega)[qb];refine qh rfl (Pq f b v) ?_;simp (disch:=omega)[qb];rw [e];refine Zd (is:=[]) ?_;rfl
theorem ar {b:Bch} {g:Bool} :Ku b [(g,l)]=qX b l:=by simp only [Ku];split <;> simp_all
theorem au {b:Bch} {g h:Bool} {m:List Int}:Ku b [(g,l),(h,m)]=Ra b l m:=by simp only [Ku,Ra];split <;> simp_all
theorem vK (f g h:Bool) (b:Bch) (l:List Int) (u:b.c.length<=1000000) (v:l.length<=1000000):qx prog 38 [Bn f b,.sl g 1 [Ls h l]] (YM f b (qX b l)):=by have:=BJ f g b [(h,l)] u (by simp) (by simp) (by simpa using v);rw [ar] at this;exact this
theorem Sz (f g h k:Bool) (b:Bch) (l m:List Int) (u:b.c.length<=1000000) (v:l.length<=1000000) (j:m.length<=1000000):qx prog 38 [Bn f b,.sl g 2 [Ls h l,Ls k m]] (YM f b (Ra b l m)):=by have:=BJ f g b [(h,l),(k,m)] u (by simp) (by simp) (by simpa using ⟨v,j⟩);rw [au] at this;exact this
theorem xE (f g:Bool) (b:Bch) (l:List Int) (z:b.c.length<=1000000) (u:l.length<=1000000):qx prog 14 [Bn f b,Ls g l] (.tup [Ls (decide (qX b l≠0)) (Nv b l),I (qX b l)]):=by
 refine qM (QF func14 ye (by kernel_rfl) (by show 2<=_;decide) ?_);simp (disch:=omega)[dp,qb];refine Qa rfl rfl ?_;simp (disch:=omega)[qb,zh];refine qh rfl (vK f true g b l z u) ?_;by_cases h:qX b l=0
 . obtain ⟨q,v⟩:=Wp h;simp (disch:=omega)[qb,YM,h];refine qh rfl (RW f g b l q u) ?_;simp (disch:=omega)[qb];have y:=Yn b l;refine ⟨(ZS b l).length,rfl,rfl,by omega,by omega,rfl,?_⟩;simp (disch:=omega)[qb,To];have e:(ZS b l).length.min (ZS b l).length=(ZS b l).length:=Nat.min_self _;refine az (sz:=1) (n:=(ZS b l).length) (m:=(ZS b l).length) (ys:=(ZS b l).map fun n=>I n) rfl ?_ ?_ rfl (by simp) ?_
   . simp [elems]
   . rw [e,qnj,qmn (by simp)];exact GT _
   rw [e,qnj,qmn (by simp)];have E:splice (List.replicate (ZS b l).length (I 0)) 0 ((ZS b l).map fun n=>I n)=(ZS b l).map fun n=>I n:=by simp [splice]
   rw [E];simp (disch:=omega)[qb];have s:Nv b l=ZS b l:=by simp [Nv,h]
   rw [s];refine Zd (is:=[1]) ?_;have o:hpf [HObj.cells [I b.L,Ps f b.c],HObj.cells ((ZS b l).map fun n=>I n)] 1=some (.cells ((ZS b l).map fun n=>I n)):=rfl;have j:=JT (off:=0) (n:=(ZS b l).length) (sz:=1) o ⟨by simp,VQ _⟩;simp only [qH,qR,zC,j,show ∀ p,zA p (I 0)=some (I 0,[]) from fun _=>rfl];simp [qJ];rw [qmn (by simp)]
 have c:(qX b l != 0)=true:=by simpa using h
 simp (disch:=omega)[qb,YM,h,c];have:Nv b l=[]:=by simp [Nv,h]
 rw [this];refine Zd (is:=[]) ?_;rfl
theorem nB {b:Bch} {m:List Int} (h:Ra b l m=0):qX b l=0/\qX b m=0:=by
 unfold Ra at h;split at h
 . rename_i c;exact absurd h c
 rename_i c;exact ⟨by simpa using c,h⟩
theorem fL (f g h:Bool) (b:Bch) (l m:List Int) (o:b.c.length<=1000000) (v:l.length<=1000000) (j:m.length<=1000000):qx prog 19 [Bn f b,Ls g l,Ls h m] (I (LM b l m)):=by
 refine qM (QF func19 yi (by kernel_rfl) (by show 3<=_;decide) ?_);simp (disch:=omega)[dv,qb];refine Qa (ys:=[Ls g l,Ls h m]) rfl rfl ?_;simp (disch:=omega)[qb,zh];refine qh rfl (Sz f true g h b l m o v j) ?_;by_cases c:Ra b l m=0
 . obtain ⟨z,y⟩:=nB c;obtain ⟨s,L⟩:=Wp z;obtain ⟨q,r⟩:=Wp y;have f1:=Yn b l;have f2:=Yn b m;simp (disch:=omega)[qb,YM,c];refine qh rfl (RW f g b l s v) ?_;simp (disch:=omega)[qb];refine qh rfl (RW f h b m q j) ?_;simp (disch:=omega)[qb];refine qh rfl (oM _ _ _ _ (by omega) (by omega)) ?_;by_cases e:ZS b l=ZS b m
   . simp (disch:=omega)[qb,e];simp [LM,c,e]
   simp (disch:=omega)[qb,e];simp [LM,c,e]
 have u:(Ra b l m != 0)=true:=by simpa using c
 simp (disch:=omega)[qb,YM,c,u];simp [LM,c]
end Go.AM

namespace Go.AM
variable {l m:List Int}
variable {b:Bch}
inductive Pat (b:Bch):List Int->List Int->Prop
 | refl (l:List Int):Pat b l l
 | symm {l m:List Int}:Pat b l m->Pat b m l
 | trans {l m n:List Int}:Pat b l m->Pat b m n->Pat b l n
 | swap (u v:List Int) {s t:Int}:Yg b s t=true->Pat b (u++s::t::v) (u++t::s::v)
 | back (u v:List Int) {s:Int}:St8 s->Pat b (u++s :: -s::v) (u++v)
theorem Pat.of_eq (h:l=m):Pat b l m:=by subst h;exact .refl _
theorem Pat.ctx {l:List Int} (h:Pat b l m) (u v:List Int):Pat b (u++(l++v)) (u++(m++v)):=by
 induction h with
 | refl l=>exact .refl _
 | symm _ K=>exact K.symm
 | trans _ _ y e=>exact y.trans e
 | swap p q O=>have:=Pat.swap (b:=b) (u++p) (q++v) O;simpa using this
 | back p q X=>have:=Pat.back (b:=b) (u++p) (q++v) X;simpa using this
theorem Pat.left {l m:List Int} (h:Pat b l m) (v:List Int):Pat b (l++v) (m++v):=h.ctx [] v
theorem Pat.right (h:Pat b l m) (u:List Int):Pat b (u++l) (u++m):=by have:=h.ctx u [];simpa using this
theorem S8.tail {s:Int} {l:List Int} (h:S8 (s::l)):S8 l:=fun x y=>h x (by simp [y])
theorem S8.head {s:Int} {l:List Int} (h:S8 (s::l)):St8 s:=h s (by simp)
theorem Pat.S8 {l m:List Int} (h:Pat b l m):S8 l↔S8 m:=by
 induction h with
 | refl l=>exact Iff.rfl
 | symm _ K=>exact K.symm
 | trans _ _ e O=>exact e.trans O
 | swap p q A=>constructor <;> (intro h x y;apply h;simp at y ⊢;rcases y with y | rfl | rfl | y <;> simp_all)
 | back p q X =>
   constructor
   . intro h x y;apply h;simp at y ⊢;rcases y with y | y <;> simp_all
   intro h x y;simp at y;rcases y with y | rfl | rfl | y
   . exact h x (by simp [y])
   . exact X
   . exact X.neg
   exact h x (by simp [y])
theorem Pat.pile (h:Pat b l m):Go.AM.S8 l->Eq8 (QT b l) (QT b m):=by
 induction h with
 | refl l=>exact fun _ => .refl _
 | symm h A=>exact fun y=>(A (h.S8.2 y)).symm
 | trans h _ e O=>exact fun y=>(e y).trans (O (h.S8.1 y))
 | swap p q X =>intro y;exact Uf y.left (y.right.head) (y.right.tail.head) y.right.tail.tail X
 | back p q K=>exact fun y=>Ud y.left K y.right.tail.tail
theorem EJ {s:Int}:∀ {v:List Int} (u z:List Int),(∀ t∈v,Yg b t s=true)->Pat b (u++(v++s::z)) (u++s::(v++z))
 | [],u,z,_ => .refl _
 | t::v,u,z,h=>by have j:=EJ (v:=v) (u++[t]) z (fun x y=>h x (by simp [y]));simp only [qmo,qmP,qmF] at j ⊢;exact j.trans (.swap u (v++z) (h t (by simp)))
theorem xF {s:Int} (y:St8 s) {v:List Int} (u z:List Int) (h:∀ t∈v,Yg b t s=true):Pat b (u++s::(v ++ -s::z)) (u++(v++z)):=by have j:=EJ (b:=b) (s := -s) (v:=v) (u++[s]) z (fun t o=>by rw [VB y.1];exact h t o);simp only [qmo,qmP,qmF] at j;exact j.trans (.back u (v++z) y)
theorem Et:∀ (n:Nat) {l:List Int},S8 l->Pat b l (SI b n l)/\S8 (SI b n l)/\(SI b n l).length % 2=l.length % 2
 | 0,l,h=>⟨.refl _,h,rfl⟩
 | n+1,l,h=>by
   simp only [SI];split
   . rename_i i k t;obtain ⟨u,s,v,z,rfl,rfl,rfl,g⟩:=WY t;rw [KF];have j:S8 u:=h.left;have y:S8 v:=fun x o=>h x (by simp [o]);have q:S8 z:=fun x o=>h x (by simp [o]);obtain ⟨m,f,r⟩:=Et n (l:=u++(v++z)) (j.append (y.append q));exact ⟨(xF (h s (by simp)) u z g).trans m,f,by rw [r];simp;omega⟩
   exact ⟨.refl _,h,rfl⟩
theorem Dx:∀ (n:Nat) {w:List Int},S8 w->w.length=n->Pat b w (jA b w.length w)/\(jA b w.length w).length=w.length/\Eq8 (Pj b (jA b w.length w)) (Pj b w)
 | 0,w,y,z=>by have:w=[]:=qmk z;subst this;exact ⟨.refl _,rfl,.refl _⟩
 | n+1,w,y,z=>by
   have o:w≠[]:=fun e=>by rw [e] at z;cases z
   obtain ⟨j,h,g,N,O,R,T⟩:=jP (b:=b) y o;have u:(w.eraseIdx j).length=w.length - 1:=by rw [qnh,if_pos h]
   obtain ⟨q,t,m⟩:=Dx n (w:=w.eraseIdx j) (fun x L=>y x (qnl L)) (by omega);rw [u] at q t m;have e:jA b w.length w=w[j]::jA b (w.length - 1) (w.eraseIdx j):=by rw [jO b w (by omega),g];simp [h]
   rw [e];obtain ⟨J,Q,V,M,_⟩:=Ve (b:=b) (w:=w) w.length (by omega) (Qs _);have r:J=j:=by rw [g] at Q;omega
   subst r;have f:=(KN h).1 M;have split:w=w.take J++w[J]::w.drop (J+1):=by rw [<-qn5 h,qnD]
   have E:w.eraseIdx J=w.take J++w.drop (J+1):=List.eraseIdx_eq_take_drop_succ ..;refine ⟨?_,by simp;omega,?_⟩
   . have p:=EJ (b:=b) (s:=w[J]) (v:=w.take J) [] (w.drop (J+1)) f;simp only [qmF] at p;rw [<-split,<-E] at p;refine p.trans ?_;have:=q.right [w[J]];simpa using this
   have i:St8 w[J]:=y _ (qmr h);intro k d;have p:Pj b (w[J]::jA b (w.length - 1) (w.eraseIdx J)) k=Pj b (w[J]::w.eraseIdx J) k:=by have a:∀ l,Pj b (w[J]::l) k=Pj b [w[J]] k++Pj b l k:=fun l=>qQ [w[J]] l k;exact ((a _).trans (qnH (Pj b [w[J]] k++·) (m k d))).trans (a _).symm
   rw [p,E]
   have P:Pj b (w[J]::(w.take J++w.drop (J+1))) k=Pj b (w.take J++w[J]::w.drop (J+1)) k:=by
    have a:w[J]::(w.take J++w.drop (J+1))=(w[J]::w.take J)++w.drop (J+1):=rfl;have c:w.take J++w[J]::w.drop (J+1)=(w.take J++[w[J]])++w.drop (J+1):=by simp
    rw [a,c,qQ,qQ _ (w.drop (J+1)),Mo i f]
   rw [P,<-split]
theorem XK (v:S8 l):Pat b l (ZS b l):=by obtain ⟨h,u,_⟩:=Et (b:=b) l.length v;exact h.trans (Dx _ u rfl).1
theorem Hq:∀ (n:Nat) {w w':List Int},S8 w->S8 w'->w.length=n->Eq8 (Pj b w) (Pj b w')->jA b w.length w=jA b w'.length w'
 | 0,w,w',t,h,o,y=>by
   have:w=[]:=qmk o;subst this
   have:fsR (Pj b w')=fsR (Pj b []):=by
    have:∀ k,k<=8->VK (Pj b w') k=VK (Pj b []) k:=fun k=>by
     induction k with
     | zero=>intro _;rfl
     | succ k i=>intro m;simp only [VK];rw [i (by omega),y k (by omega)]
    exact this 8 (by omega)
   have:=ic h (this.trans rfl);subst this;rfl
 | n+1,w,w',t,h,o,y=>by
   have r:w≠[]:=fun e=>by rw [e] at o;cases o
   have f:fsR (Pj b w)=fsR (Pj b w'):=by
    have:∀ k,k<=8->VK (Pj b w) k=VK (Pj b w') k:=fun k=>by
     induction k with
     | zero=>intro _;rfl
     | succ k i=>intro m;simp only [VK];rw [i (by omega),y k (by omega)]
    exact this 8 (by omega)
   obtain ⟨j,c,a,p,M,N,P⟩:=jP (b:=b) t r;have u:w'≠[]:=fun e=>by subst e;rw [f] at p;exact p rfl
   obtain ⟨J,v,g,L,q,s,O⟩:=jP (b:=b) h u;have E:w[j]=w'[J]:=by rw [<-M,<-q,f]
   have z:(w.eraseIdx j).length=w.length - 1:=by rw [qnh,if_pos c]
   have l:(w'.eraseIdx J).length=w'.length - 1:=by rw [qnh,if_pos v]
   have i:=Hq n (w:=w.eraseIdx j) (w':=w'.eraseIdx J) (fun x d=>t x (qnl d)) (fun x d=>h x (qnl d)) (by omega) (fun k m=>by rw [<-N,<-s,E];unfold Nx;rw [y k m]);rw [z,l] at i;rw [jO b w (by omega),jO b w' (qnd.2 u),a,g];simp only [qn3];rw [i];simp [c,v,E]
theorem DE (u:S8 l) (v:S8 m) (h:Eq8 (QT b l) (QT b m)):ZS b l=ZS b m:=by obtain ⟨a,A,_⟩:=Vp (b:=b) u;obtain ⟨c,c2,_⟩:=Vp (b:=b) v;exact Hq _ A c2 rfl ((a.symm.trans h).trans c)
theorem fQ (u:S8 l) (v:S8 m):Pat b l m↔ZS b l=ZS b m :=
 ⟨fun h=>DE u v (h.pile u),fun h=>((XK u).trans (.of_eq h)).trans (XK v).symm⟩
def ZD (l:List Int):List Int:=(l.map fun n => -n).reverse
theorem Ty (s:Int) (l:List Int):ZD (s::l)=ZD l++[-s]:=by simp [ZD]
theorem Kl (l:List Int):(ZD l).length=l.length:=by simp [ZD]
theorem Ry (h:S8 l):S8 (ZD l):=fun x u=>by simp only [ZD,qoc,gm] at u;obtain ⟨y,v,rfl⟩:=u;exact (h y v).neg
theorem SQ:∀ {l:List Int},S8 l->Pat b (l++ZD l) []
 | [],_ => .refl _
 | s::l,h=>by
   have i:=(SQ (l:=l) h.tail).ctx [s] [-s];have e:s::l++ZD (s::l)=[s]++((l++ZD l)++[-s]):=by rw [Ty];simp
   rw [e];refine i.trans ?_;have:=Pat.back (b:=b) [] [] h.head;simpa using this
end Go.AM

namespace Go.AM
open Go.RowKit Go.Proofs Go.Proofs.Tryz
variable {K:AV->List HObj->Prop} {p:List HObj} {l:List Int} {i:Nat}
theorem aq {b:Bch} :qX b l=0↔NK b=0/\l.length<=60/\∀ s∈l,jE b s=true:=by
 constructor
 . intro h;have v:=Fm h;unfold qX at h;rw [if_neg (by simp [v])] at h;split at h
   . cases h
   split at h
   . rename_i y;exact ⟨v,by omega,fun s u=>LL.1 y s u⟩
   cases h
 rintro ⟨j,o,z⟩;unfold qX;rw [if_neg (by simp [j]),if_neg (by omega),if_pos (LL.2 z)]
theorem S8.small (h:S8 l):qa l:=fun x y=>by have:=(h x y).2;omega
theorem ml (g:Bool) (l:List Int) (z:l.length<=1000000)  (v:∀ H x,MkR H x l->(∀ i,i<p.length->qu H i=qu p i)->(∀ i,rid x=some i->p.length<=i)->K x H):qB prog 90 [Ls g l] p K:=by
 refine QF func90 yz (by kernel_rfl) (by show 1<=_;decide) ?_;simp (disch:=omega)[dM,qb];have app:K (.ms p.length 0 l.length 1) (p++[.cells (l.map fun n=>I n)]):=v _ _ (.inr ⟨p.length,rfl,XR⟩) (fun i u=>QS u) (fun i u=>by simp [rid] at u;omega);refine iE (f:=g) (n:=l.length) (cs:=l.map fun n=>I n) rfl (fun h c=>?_) (fun h=>?_)
 . have j:l=[]:=by simpa using h
   subst j;cases c with
   | true =>simp (disch:=omega)[qb];exact v _ _ (.inl ⟨rfl,rfl⟩) (fun _ _=>rfl) (fun i u=>by cases u)
   | false =>simp (disch:=omega)[qb];refine Qa (ys:=[]) rfl rfl ?_;simp (disch:=omega)[qb,zh,QO];exact app
 simp (disch:=omega)[qb];refine Qa (ys:=[]) rfl rfl ?_;simp (disch:=omega)[qb,zh,QO];refine ⟨⟨by omega,by omega⟩,app⟩
def EV (l:List Int) (i:Nat):List Int:=(List.range l.length).map fun k=>if k<i\/l.length - i<=k then l.getD (l.length - 1 - k) 0 else l.getD k 0
theorem ZK (l:List Int) (i:Nat):(EV l i).length=l.length:=by simp [EV]
theorem Yz {l:List Int} {k:Nat} (h:k<l.length):(EV l i)[k]'(by rw [ZK];exact h)=if k<i\/l.length - i<=k then l.getD (l.length - 1 - k) 0 else l.getD k 0:=by simp only [EV,qmv,qom]
theorem BY (l:List Int):EV l 0=l:=by apply qm4 (ZK l 0);intro k u h;rw [Yz h,if_neg (by omega)];simp [h]
theorem xo {l:List Int} (h:l.length<=2*i+1):EV l i=l.reverse:=by
 apply qm4 (by rw [ZK,qpg]);intro k u j;have v:k<l.length:=by rw [ZK] at u;exact u
 rw [Yz v,List.getElem_reverse];split
 . simp [show l.length - 1 - k<l.length by omega]
 have:l.length - 1 - k=k:=by omega
 simp [v,this]
theorem BX {l:List Int} (h:2*i+1<l.length):((EV l i).set i (l.getD (l.length - 1 - i) 0)).set (l.length - 1 - i) (l.getD i 0)=EV l (i+1):=by
 apply qm4 (by simp [ZK]);intro k z j;have v:k<l.length:=by simpa [ZK] using j
 rw [Yz v,qnU,qnU];by_cases E:l.length - 1 - i=k
 . rw [if_pos E,if_pos (by omega)];congr 1;omega
 rw [if_neg E];by_cases e:i=k
 . rw [if_pos e,if_pos (by omega),<-e]
 rw [if_neg e,Yz v];by_cases u:k<i\/l.length - i<=k
 . rw [if_pos u,if_pos (by omega)]
 rw [if_neg u,if_neg (by omega)]
theorem qiV {l:List Int} (O:l.length<=1000000) {id:Nat} (d:qu p id=some (.cells (l.map fun n=>I n))) (f:K (.tup []) (p.set id (.cells (l.reverse.map fun n=>I n)))) :
 qB prog 91 [.ms id 0 l.length 1] p K:=by
 refine QF func91 RY (by kernel_rfl) (by show 1<=_;decide) ?_;have t:=qw d;simp (disch:=omega)[nY,qb];refine qL (fun i:Nat=>⟨[(0,.ms id 0 l.length 1),(2,I i),(3,I ((l.length:Int) - 1 - i))],p.set id (.cells ((EV l i).map fun n=>I n))⟩) (fun i=>i<=l.length) (fun i=>l.length - i) 0 (by omega) ?_ ?_
 . rw [BY]
   have:p.set id (.cells (l.map fun n=>I n))=p:=by
    apply qm4 (by simp);intro k L o;rw [qnU];split
    . rename_i e;subst e;rw [qn,Wd o] at d;exact (qnq d).symm
    rfl
   rw [this];simp
 intro i N;have r:qu (p.set id (.cells ((EV l i).map fun n=>I n))) id=some (.cells ((EV l i).map fun n=>I n)):=qD t;have x:=ZK l i;simp (disch:=omega)[qb];refine qA (fun h=>?_) (fun h=>?_)
 . simp at h;have o:2*i+1<l.length:=by omega
   have u:i<(EV l i).length:=by omega
   have j:l.length - 1 - i<(EV l i).length:=by omega
   have s:((l.length:Int) - 1 - i).toNat=l.length - 1 - i:=by omega
   have b:(EV l i)[i]'u=l.getD i 0:=by rw [Yz (by omega),if_neg (by omega)]
   have m:(EV l i)[l.length - 1 - i]'j=l.getD (l.length - 1 - i) 0:=by rw [Yz (by omega),if_neg (by omega)]
   simp (disch:=omega)[qb,r,s,zy,u,j,b,m,t];have M:∀ (a:List Int) (q:Nat) (y:Int),q<a.length->List.take q (a.map fun n=>I n)++I y::List.drop (q+1) (a.map fun n=>I n)=(a.set q y).map fun n=>I n:=fun a q y w=>by have:=Wa (v:=y) w;simpa [splice] using this
   rw [M _ i _ u];have g:l[l.length - 1 - i]'(by omega)=l.getD (l.length - 1 - i) 0:=by simp [show l.length - 1 - i<l.length by omega]
   have z:l[i]'(by omega)=l.getD i 0:=by simp [show i<l.length by omega]
   rw [g,z];have c:qu (p.set id (.cells (((EV l i).set i (l.getD (l.length - 1 - i) 0)).map fun n=>I n))) id=some (.cells (((EV l i).set i (l.getD (l.length - 1 - i) 0)).map fun n=>I n)):=qD t;refine ⟨by omega,by omega,by omega,by omega,?_⟩;rw [c,Ka];refine ⟨⟨rfl,rfl,by simp [ZK];omega⟩,?_⟩;have E:=Wa (l:=(EV l i).set i (l.getD (l.length - 1 - i) 0)) (k:=l.length - 1 - i) (v:=l.getD i 0) (by simp [ZK];omega);rw [BX o] at E;show zo _ _ _ _ _ _ _ _ _ [(id,.cells (splice _ _ [I (l.getD i 0)]))];rw [E];simp (disch:=omega)[qb,t];exact qI (i+1) (by omega) (by omega) (by simp;omega)
 simp at h;simp (disch:=omega)[qb];rw [xo (by omega)];exact f
theorem fE {h:List HObj} (u:K (.tup []) h):qB prog 91 [.sl true 0 []] h K:=by refine QF func91 RY (by kernel_rfl) (by show 1<=_;decide) ?_;simp (disch:=omega)[nY,qb];refine qL (fun _:Unit=>⟨[(0,.sl true 0 []),(2,I 0),(3,I (-1))],h⟩) (fun _=>True) (fun _=>0) () trivial rfl ?_;intro _ _;simp (disch:=omega)[qb];exact u
def UR (l:List Int) (i:Nat):List Int:=(l.take i).map (fun n => -n)++l.drop i
theorem Sp (l:List Int) (i:Nat):(UR l i).length=l.length:=by simp [UR];omega
theorem Bu (h:i<l.length):(UR l i).set i (-l[i])=UR l (i+1):=by
 unfold UR;rw [List.set_append_right _ _ (by simp;omega)];have e:i - ((l.take i).map fun n => -n).length=0:=by simp;omega
 have E:l.take (i+1)=l.take i++[l[i]]:=by rw [qno];simp [h]
 rw [e,qn5 h,List.set_cons_zero,E,qmD,qmo];rfl
theorem vE (h:i<l.length):(UR l i)[i]'(by rw [Sp];exact h)=l[i]:=by unfold UR;rw [qmx (by simp;omega)];simp [qnu (qmu h)]
theorem MJ (l:List Int):UR l.reverse l.length=ZD l:=by unfold UR ZD;rw [qmn (by simp),qoT (by simp)];simp
theorem IP (g:Bool) (l:List Int) (d:l.length<=1000000) (N:qa l)  (r:∀ H x,MkR H x (ZD l)->(∀ i,i<p.length->qu H i=qu p i)->(∀ i,rid x=some i->p.length<=i)->K x H):qB prog 41 [Ls g l] p K:=by
 refine QF func41 yn (by kernel_rfl) (by show 1<=_;decide) ?_;simp (disch:=omega)[dB,qb];refine ml g l d fun H x A b f=>?_;simp (disch:=omega)[qb];rcases A with ⟨rfl,rfl⟩ | ⟨id,rfl,A⟩
 . refine fE ?_;simp (disch:=omega)[qb];refine qL (fun _:Unit=>⟨[(3,.sl true 0 []),(10,I 0),(11,I 0)],H⟩) (fun _=>True) (fun _=>0) () trivial rfl ?_;intro _ _;simp (disch:=omega)[qb];exact r H _ (.inl ⟨rfl,rfl⟩) b f
 have k:p.length<=id:=f id rfl;have t:=qw A;refine qiV d A ?_;simp (disch:=omega)[qb];refine qL (fun i:Nat=>⟨[(3,.ms id 0 l.length 1),(10,I l.length),(11,I i)],H.set id (.cells ((UR l.reverse i).map fun n=>I n))⟩) (fun i=>i<=l.length) (fun i=>l.length - i) 0 (by omega) (by simp [UR]) ?_;intro i P;have c:qu (H.set id (.cells ((UR l.reverse i).map fun n=>I n))) id=some (.cells ((UR l.reverse i).map fun n=>I n)):=qD t;have L:(UR l.reverse i).length=l.length:=by rw [Sp,qpg]
 simp (disch:=omega)[qb];refine qA (fun h=>?_) (fun h=>?_)
 . simp at h;have z:i<l.reverse.length:=by rw [qpg];exact h
   have o:i<(UR l.reverse i).length:=by omega
   have w:(UR l.reverse i)[i]'o=l.reverse[i]:=vE z;have m : -1000000<=l.reverse[i]/\l.reverse[i]<=1000000:=N _ (by have:=qmr z;rwa [qoc] at this);have u:IntKind.i64.wrap (0 - l.reverse[i]) = -l.reverse[i]:=Hu _ m;have O:∀ (a:List Int) (q:Nat) (y:Int),q<a.length->List.take q (a.map fun n=>I n)++I y::List.drop (q+1) (a.map fun n=>I n)=(a.set q y).map fun n=>I n:=fun a q y M=>by have:=Wa (v:=y) M;simpa [splice] using this
   simp (disch:=omega)[-List.getElem_reverse,qb,h,c,zy,o,w,u,t];rw [O _ i _ o,Bu z];refine ⟨by omega,?_⟩;exact qI (i+1) (by omega) (by omega) (by simp)
 simp at h;have e:i=l.length:=by omega
 subst e;simp (disch:=omega)[qb];rw [MJ];refine r _ _ (.inr ⟨id,by rw [Kl],qD t⟩) (fun j s=>?_) (fun j s=>?_)
 . rw [qq (by omega)];exact b j s
 simp [rid] at s;omega
theorem io {n:Nat} (j:n<=1000000) (v:∀ H x,RowIs H x []->(∀ i,i<p.length->qu H i=qu p i)->(∀ i,rid x=some i->p.length<=i)->K x H):qB prog 89 [.sl true 0 [],I n] p K:=by
 refine QF func89 yy (by kernel_rfl) (by show 2<=_;decide) ?_;simp (disch:=omega)[dL,qb];refine qA (fun h=>?_) (fun _=>?_)
 . simp at h;omega
 simp (disch:=omega)[qb];refine Dn (n:=0) (cs:=[]) (by rfl) ?_;simp (disch:=omega)[qb];refine qA (fun h=>?_) (fun h=>?_)
 . simp at h;simp (disch:=omega)[qb];refine Dn (n:=0) (cs:=[]) (by rfl) ?_;simp (disch:=omega)[qb];refine Ob (m:=n) (by rfl) (by rfl) (by omega) ?_;simp (disch:=omega)[qb];refine ZY (l:=0) (h:=0) rfl (by simp) trivial (Qs _) (by omega) ?_;simp (disch:=omega)[qb];refine v _ _ (.inr ⟨p.length,0,_,rfl,XR,by simp,by simp [qJ]⟩) (fun i u=>QS u) (fun i u=>by simp [rid] at u;omega)
 simp at h;simp (disch:=omega)[qb];exact v _ _ (.inl ⟨rfl,rfl⟩) (fun _ _=>rfl) (fun i u=>by cases u)
def jC (l m:List Int) (i:Nat):List Int:=if i=0 then [] else if i=1 then l else l++m
theorem kw (g a c:Bool) (l m:List Int) (N:l.length<=10000) (O:m.length<=10000)  (f:∀ H id,qu H id=some (.cells ((l++m).map fun n=>I n))->(∀ i,i<p.length->qu H i=qu p i)->p.length<=id->K (.ms id 0 (l.length+m.length) 1) H):qB prog 40 [.sl g 2 [Ls a l,Ls c m]] p K:=by
 refine QF func40 ym (by kernel_rfl) (by show 1<=_;decide) ?_;simp (disch:=omega)[dz,qb];refine qL (fun i:Nat=>⟨[(0,.sl g 2 [Ls a l,Ls c m]),(3,I (jC l m i).length),(9,.sl g 2 [Ls a l,Ls c m]),(10,I 2),(11,I i)],p⟩) (fun i=>i<=2) (fun i=>2 - i) 0 (by omega) rfl ?_;intro i u;simp (disch:=omega)[qb];by_cases h:i<2
 . have M:(i:Int)<2:=by omega
   obtain rfl | rfl:i=0\/i=1:=by omega
   . simp (disch:=omega) [qb,jC];refine qA (fun h=>?_) (fun _=>?_)
     . simp at h;omega
     simp (disch:=omega)[qb];exact qI 1 (by omega) (by omega) (by simp [jC])
   simp (disch:=omega)[qb,jC];refine qA (fun h=>?_) (fun _=>?_)
   . simp at h;omega
   simp (disch:=omega)[qb];exact qI 2 (by omega) (by omega) (by simp [jC])
 have:i=2:=by omega
 subst this;simp (disch:=omega)[qb,jC];have E:(l.length:Int)+m.length=((l.length+m.length:Nat):Int):=by omega
 rw [E];refine io (by omega) fun H x j A z=>?_;simp (disch:=omega)[qb]
 refine qL (fun q:Nat×AV×List HObj=>⟨[(6,q.2.1),(25,.sl g 2 [Ls a l,Ls c m]),(26,I 2),(27,I q.1)],q.2.2⟩)
  (fun q=>q.1<=2/\RowIs q.2.2 q.2.1 (jC l m q.1)/\(∀ i,i<p.length->qu q.2.2 i=qu p i)/\(∀ i,rid q.2.1=some i->p.length<=i)/\p.length<=q.2.2.length /\
   (0<q.1->∃ id,q.2.1 = .ms id 0 (jC l m q.1).length 1/\qu q.2.2 id=some (.cells ((jC l m q.1).map fun n=>I n)))) (fun q=>2 - q.1) (0,x,H)
  ⟨by simp,j,A,z,by
   by_cases k:p.length=0
   . omega
   have:=A (p.length - 1) (by omega);have o:qu p (p.length - 1)=p[p.length - 1]?:=qn ..;rw [o,Wd (by omega)] at this;have:=qw this;simp only;omega,fun h=>by simp at h⟩ rfl ?_
 rintro ⟨i,y,G⟩ ⟨C,c2,c3,c4,c5,c6⟩;simp only at C c2 c3 c4 c5 c6;simp (disch:=omega)[qb];by_cases L:i<2
 . have b:(i:Int)<2:=by omega
   obtain rfl | rfl:i=0\/i=1:=by omega
   . simp (disch:=omega) [qb];refine Rv (l:=[]) (m:=l) c2 (by simp) (by omega) fun s v r w t=>?_;simp (disch:=omega)[qb];refine qI (1,.ms G.length 0 l.length 1,qf G s) ⟨by simp,.inr ⟨G.length,0,_,by simp [jC],w,by simp [jC],by simp [jC,qJ];rw [qmn (by simp)]⟩,fun i u=>?_,fun i u=>?_,by simp only;omega,fun _=>⟨G.length,by simp [jC],by simpa [jC] using w⟩⟩ (by simp) (by simp)
     . rw [v i (by omega) (fun e=>by have:=c4 i e;omega)];exact c3 i u
     cases u;exact c5
   simp (disch:=omega)[qb];refine Rv (l:=l) (m:=m) (by simpa [jC] using c2) (by omega) (by omega) fun s v r w t=>?_;simp (disch:=omega)[qb];refine qI (2,.ms G.length 0 (l.length+m.length) 1,qf G s) ⟨by simp,.inr ⟨G.length,0,_,by simp [jC],w,by simp [jC],by simp [jC,qJ];rw [qmn (by simp)]⟩,fun i u=>?_,fun i u=>?_,by simp only;omega,fun _=>⟨G.length,by simp [jC],by simpa [jC] using w⟩⟩ (by simp) (by simp)
   . rw [v i (by omega) (fun e=>by have:=c4 i e;omega)];exact c3 i u
   cases u;exact c5
 have:i=2:=by omega
 subst this;obtain ⟨id,rfl,d⟩:=c6 (by omega);simp (disch:=omega)[qb,jC] at d ⊢;exact f G id (by simpa using d) c3 (c4 id rfl)
def nS (b:Bch) (l m:List Int):List Int:=if Ra b l m≠0 then [] else ZS b (ZD l++m)
theorem qdh (f g h:Bool) (b:Bch) (l m:List Int) (o:b.c.length<=1000000) (j:l.length<=1000000) (q:m.length<=1000000):qx prog 15 [Bn f b,Ls g l,Ls h m] (.tup [Ls (nS b l m).isEmpty (nS b l m),I (Ra b l m)]):=by
 refine qM (QF func15 yf (by kernel_rfl) (by show 3<=_;decide) ?_);simp (disch:=omega)[dq,qb];refine Qa (ys:=[Ls g l,Ls h m]) rfl rfl ?_;simp (disch:=omega)[qb,zh];refine qh rfl (Sz f true g h b l m o j q) ?_;by_cases c:Ra b l m=0
 . obtain ⟨z,y⟩:=nB c;obtain ⟨s,M⟩:=Wp z;obtain ⟨r,N⟩:=Wp y;have k:=Kl l;simp (disch:=omega)[qb,YM,c];refine IP g l j s.small fun H x A d w=>?_;obtain ⟨v,L,p,i⟩:=A.pur;simp (disch:=omega)[qb];refine Qa (ys:=[Ls v (ZD l),Ls h m]) (Yx p DS) rfl ?_;simp (disch:=omega)[qb,zh];refine kw true v h (ZD l) m (by omega) (by omega) fun t id C c2 c3=>?_;simp (disch:=omega)[qb];refine qh (Yx (a := .ptr (TB f b) 0) rfl (DT (n:=(ZD l).length+m.length) C (by simp only [qmI]))) (RW f false b (ZD l++m) ((Ry s).append r) (by rw [qmI];omega)) ?_;have e:nS b l m=ZS b (ZD l++m):=by unfold nS;rw [if_neg (by simp [c])]
   rw [e];simp (disch:=omega)[qb];refine Zd (is:=[]) ?_;rfl
 have u:(Ra b l m != 0)=true:=by simpa using c
 simp (disch:=omega)[qb,YM,c,u];have e:nS b l m=[]:=by unfold nS;rw [if_pos c]
 rw [e];refine Zd (is:=[]) ?_;rfl
variable {b:Bch}
theorem SJ:∀ (n:Nat) {l:List Int} {s:Int},s∈SI b n l->s∈l
 | 0,l,s,h=>h
 | n+1,l,s,h=>by
   simp only [SI] at h;split at h
   . exact qnl (qnl (SJ n h))
   exact h
theorem Dw:∀ (n:Nat) {w:List Int} {s:Int},S8 w->w.length=n->s∈jA b w.length w->s∈w
 | 0,w,s,y,u,h=>by have:w=[]:=qmk u;subst this;cases h
 | n+1,w,s,y,u,h=>by
   have z:w≠[]:=fun e=>by rw [e] at u;cases u
   obtain ⟨j,v,g,q,m,f,r⟩:=jP (b:=b) y z;have l:(w.eraseIdx j).length=w.length - 1:=by rw [qnh,if_pos v]
   have e:jA b w.length w=w[j]::jA b (w.length - 1) (w.eraseIdx j):=by rw [jO b w (by omega),g];simp [v]
   rw [e,<-l] at h;rcases sg.1 h with rfl | h
   . exact qmr v
   exact qnl (Dw n (fun x o=>y x (qnl o)) (by omega) h)
theorem RX {s:Int} (u:S8 l) (h:s∈ZS b l):s∈l :=
 SJ _ (Dw _ (Et (b:=b) l.length u).2.1 rfl h)
theorem Fo (h:qX b l=0):qX b (ZS b l)=0:=by obtain ⟨u,z,v⟩:=aq.1 h;have:=Yn b l;exact aq.2 ⟨u,by omega,fun s j=>v s (RX (Wp h).1 j)⟩
theorem xZ {m:List Int} (u:S8 l) (j:S8 m):Pat b (l++ZS b (ZD l++m)) m:=by have v:=(XK (b:=b) ((Ry u).append j)).symm.right l;have h:=(SQ (b:=b) u).left m;rw [qmo] at h;exact v.trans h
end Go.AM

set_option maxRecDepth 100000
namespace Go.AM
open Go.RowKit Go.Proofs Go.Proofs.Tryz
def EX:AC:=Subtype.val (p:=fun g=>qg prog f34 [6]=some g) (by refine ⟨?g,?h⟩;case h=>conv=>lhs;reduce)
theorem Dy:qg prog f34 [6]=some EX:=by kernel_rfl
theorem Uq:jg prog f34.results.toList=some [(6,some (true,6))]:=by kernel_rfl
def Kg:AC:=Subtype.val (p:=fun g=>qg prog f62 [4]=some g) (by refine ⟨?g,?h⟩;case h=>conv=>lhs;reduce)
theorem Dz:qg prog f62 [4]=some Kg:=by kernel_rfl
def Rh:AC:=Subtype.val (p:=fun g=>qg prog f35 [4]=some g) (by refine ⟨?g,?h⟩;case h=>conv=>lhs;reduce)
theorem OV:qg prog f35 [4]=some Rh:=by kernel_rfl
def NR:AC:=Subtype.val (p:=fun g=>qg prog f57 [2]=some g) (by refine ⟨?g,?h⟩;case h=>conv=>lhs;reduce)
theorem GC:qg prog f57 [2]=some NR:=by kernel_rfl
def Rj:AC:=Subtype.val (p:=fun g=>qg prog f9 [6,7]=some g) (by refine ⟨?g,?h⟩;case h=>conv=>lhs;reduce)
theorem OW:qg prog f9 [6,7]=some Rj:=by kernel_rfl
def EY:AC:=Subtype.val (p:=fun g=>qg prog f28 [4,5]=some g) (by refine ⟨?g,?h⟩;case h=>conv=>lhs;reduce)
theorem DC:qg prog f28 [4,5]=some EY:=by kernel_rfl
def Rl:AC:=Subtype.val (p:=fun g=>qg prog f20 [6]=some g) (by refine ⟨?g,?h⟩;case h=>conv=>lhs;reduce)
theorem OX:qg prog f20 [6]=some Rl:=by kernel_rfl
def NS:AC:=Subtype.val (p:=fun g=>qg prog f32 [4]=some g) (by refine ⟨?g,?h⟩;case h=>conv=>lhs;reduce)
theorem GD:qg prog f32 [4]=some NS:=by kernel_rfl
def Xa:AC:=Subtype.val (p:=fun g=>qg prog f63 [2]=some g) (by refine ⟨?g,?h⟩;case h=>conv=>lhs;reduce)
theorem KI:qg prog f63 [2]=some Xa:=by kernel_rfl
def Xb:AC:=Subtype.val (p:=fun g=>qg prog f64 [3]=some g) (by refine ⟨?g,?h⟩;case h=>conv=>lhs;reduce)
theorem KJ:qg prog f64 [3]=some Xb:=by kernel_rfl
def Rm:AC:=Subtype.val (p:=fun g=>qg prog f31 [4,5]=some g) (by refine ⟨?g,?h⟩;case h=>conv=>lhs;reduce)
theorem OY:qg prog f31 [4,5]=some Rm:=by kernel_rfl
def NT:AC:=Subtype.val (p:=fun g=>qg prog f61 [3]=some g) (by refine ⟨?g,?h⟩;case h=>conv=>lhs;reduce)
theorem GF:qg prog f61 [3]=some NT:=by kernel_rfl
def EZ:AC:=Subtype.val (p:=fun g=>qg prog f33 [2]=some g) (by refine ⟨?g,?h⟩;case h=>conv=>lhs;reduce)
theorem DD:qg prog f33 [2]=some EZ:=by kernel_rfl
theorem Ur:jg prog f33.results.toList=some [(2,some (true,6))]:=by kernel_rfl
def NU:AC:=Subtype.val (p:=fun g=>qg prog f65 [6]=some g) (by refine ⟨?g,?h⟩;case h=>conv=>lhs;reduce)
theorem GG:qg prog f65 [6]=some NU:=by kernel_rfl
def Xc:AC:=Subtype.val (p:=fun g=>qg prog f111 [4]=some g) (by refine ⟨?g,?h⟩;case h=>conv=>lhs;reduce)
theorem KL:qg prog f111 [4]=some Xc:=by kernel_rfl
def Da:AC:=Subtype.val (p:=fun g=>qg prog f42 [4]=some g) (by refine ⟨?g,?h⟩;case h=>conv=>lhs;reduce)
theorem DG:qg prog f42 [4]=some Da:=by kernel_rfl
def Mn:AC:=Subtype.val (p:=fun g=>qg prog f18 [6]=some g) (by refine ⟨?g,?h⟩;case h=>conv=>lhs;reduce)
theorem Le:qg prog f18 [6]=some Mn:=by kernel_rfl
def Db:AC:=Subtype.val (p:=fun g=>qg prog f10 [4]=some g) (by refine ⟨?g,?h⟩;case h=>conv=>lhs;reduce)
theorem DH:qg prog f10 [4]=some Db:=by kernel_rfl
def jF:AC:=Subtype.val (p:=fun g=>qg prog f98 [4]=some g) (by refine ⟨?g,?h⟩;case h=>conv=>lhs;reduce)
theorem YD:qg prog f98 [4]=some jF:=by kernel_rfl
def jh:AC:=Subtype.val (p:=fun g=>qg prog f60 [4]=some g) (by refine ⟨?g,?h⟩;case h=>conv=>lhs;reduce)
theorem JK:qg prog f60 [4]=some jh:=by kernel_rfl
def NV:AC:=Subtype.val (p:=fun g=>qg prog f43 [4]=some g) (by refine ⟨?g,?h⟩;case h=>conv=>lhs;reduce)
theorem GH:qg prog f43 [4]=some NV:=by kernel_rfl
def YJ:AC:=Subtype.val (p:=fun g=>qg prog f153 [4]=some g) (by refine ⟨?g,?h⟩;case h=>conv=>lhs;reduce)
theorem WB:qg prog f153 [4]=some YJ:=by kernel_rfl
def JB:AC:=Subtype.val (p:=fun g=>qg prog f110 [4]=some g) (by refine ⟨?g,?h⟩;case h=>conv=>lhs;reduce)
theorem VJ:qg prog f110 [4]=some JB:=by kernel_rfl
end Go.AM

namespace Go.AM
open Go.RowKit Go.Proofs.Tryz
variable {s r:List Int} {i n:Nat}
def aft (s r:List Int):List Int:=s.map fun i=>r.getD i.toNat 0
theorem Ze {r:List Int}:(aft s r).length=s.length:=by simp [aft]
theorem pi (h:i<(aft s r).length):(aft s r)[i]=r.getD (s[i]'(by simpa [aft] using h)).toNat 0:=by simp [aft]
def Rp (S:List (List Int)):List Nat->List Int->List Int
 | [],r=>r
 | s::l,r=>Rp S l (aft (S.getD s []) r)
theorem YV {S:List (List Int)}:∀ {l m:List Nat} {r:List Int},Rp S (l++m) r=Rp S m (Rp S l r)
 | [],_,_=>rfl
 | s::l,m,r=>by simp only [qmP,Rp];exact YV
def jn (n:Nat):List Int:=(List.range n).map fun (i:Nat)=>(i:Int)
theorem Qx {n:Nat}:(jn n).length=n:=by simp [jn]
theorem PE {x:Int}:x∈jn n↔0<=x/\x<n:=by
 unfold jn;rw [gm];constructor
 . rintro ⟨k,h,rfl⟩;have:=qmO.1 h;omega
 rintro ⟨u,v⟩;exact ⟨x.toNat,qmO.2 (by omega),by omega⟩
theorem plc_nodup :(jn n).Nodup:=by unfold jn;rw [List.Nodup,qnz];exact List.Pairwise.imp (fun h e=>h (Int.ofNat_inj.1 e)) List.nodup_range
structure Pm (n:Nat) (s:List Int):Prop where
 len:s.length=n
 rng:∀ x∈s,0<=x/\x<n
 nd:s.Nodup
theorem qiM (l:s.length=n) (o:∀ k,k<n->s.count (k:Int)=1):Pm n s:=by
 have rng:∀ x∈s,0<=x/\x<(n:Int):=fun x g=>by
  refine qnP fun q=>?_;obtain ⟨i,v,rfl⟩:=qnA g
  have u:jn n ⊆ s.eraseIdx i:=fun y b=>by
   obtain ⟨Y,f⟩:=PE.1 b;obtain ⟨k,rfl⟩:∃ k:Nat,y=k:=⟨y.toNat,by omega⟩;have c:=o k (by omega);have hm:(k:Int)∈s:=by rw [<-qpn];omega
   obtain ⟨j,z,e⟩:=qnA hm;rw [List.mem_eraseIdx_iff_getElem];refine ⟨j,z,fun E=>?_,e⟩;subst E;rw [e] at q;omega
  have:=plc_nodup.length_le_of_subset u;rw [Qx,qnh,if_pos v] at this;omega
 refine ⟨l,rng,List.nodup_iff_count.2 fun a=>?_⟩;by_cases h:a∈s
 . obtain ⟨A,m⟩:=rng a h;have:=o a.toNat (by omega);rw [show ((a.toNat:Nat):Int)=a by omega] at this;omega
 rw [List.count_eq_zero_of_not_mem h];omega
theorem HZ (h:i<s.length):(aft s r).getD i 0=r.getD s[i].toNat 0:=by unfold aft;rw [qmp,qnn,Wd h];rfl
theorem Yl {l m:List Int} (h:l.length=m.length) (e:∀ i,i<l.length->l.getD i 0=m.getD i 0):l=m:=by refine qm4 h fun i u v=>?_;have:=e i u;rw [qmp,qmp,Wd u,Wd v] at this;exact this
def inv (s:List Int):List Int:=(List.range s.length).map fun (k:Nat)=>((s.idxOf (k:Int):Nat):Int)
def pad (r:List Int):List Int:=r++List.replicate (6 - r.length) 0
theorem JR {r:List Int} (h:r.length<=6):(pad r).length=6:=by simp [pad];omega
theorem Ej (h:i<r.length):(pad r).getD i 0=r.getD i 0:=by unfold pad;rw [qmp,qmp,qmw h]
theorem DY (h:r.length<=i):(pad r).getD i 0=0:=by unfold pad;rw [qmp,qmy h,List.getElem?_replicate];split <;> rfl
end Go.AM

namespace Go.AM
open Go.RowKit Go.Proofs Go.Proofs.Tryz
variable {n:Nat}
def qk0 (P:Int) (l:List Int):Bool:=decide ((l.length:Int)=P)&&(List.range l.length).all fun p=>l.count (p:Int)==1
structure OB where
 P:Int
 s:List (Bool×List Int)
abbrev On (g:Bool) (b:OB):AV := .agg [I b.P,LLs g b.s]
def Xf (b:OB):Int:=if b.P<2\/6<b.P then 2 else if 6<b.s.length then 6 else if b.s.all (fun p=>qk0 b.P p.2) then 0 else 15
theorem VD {l:List (Bool×List Int)} {j:Nat} {K:AV->List (Nat×HObj)->Prop} (h:j<l.length):zF (l.map fun p=>Ls p.1 p.2) j 1 false K=K (Ls l[j].1 l[j].2) []:=by simp [zF,h]
theorem LF (f g:Bool) (l m:List Int) (o:l.length<=1000000) (q:m.length<=1000000):qx prog 10 [Ls f l,Ls g m] (B (decide (l=m))):=by
 refine qM (QF func10 DH (by kernel_rfl) (by show 2<=_;decide) ?_);simp -implicitDefEqProofs (disch:=omega)[Db,qb];refine qA (fun h=>?_) (fun h=>?_)
 . simp at h;simp -implicitDefEqProofs (disch:=omega)[qb,h];intro e;subst e;exact h rfl
 simp at h;simp -implicitDefEqProofs (disch:=omega)[qb,h];refine qL (fun i:Nat=>⟨[(0,Ls f l),(1,Ls g m),(5,I i)],[]⟩) (fun i=>i<=l.length/\l.take i=m.take i) (fun i=>l.length - i) 0 ⟨by omega,rfl⟩ rfl ?_;intro i ⟨y,j⟩;simp -implicitDefEqProofs (disch:=omega)[qb];refine qA (fun h=>?_) (fun h=>?_)
 . simp at h;have v:i<m.length:=by omega
   simp -implicitDefEqProofs (disch:=omega)[qb,zy,h,v];refine qA (fun u=>?_) (fun u=>?_)
   . simp at u;simp -implicitDefEqProofs (disch:=omega)[qb];intro e;subst e;exact u rfl
   simp at u;simp -implicitDefEqProofs (disch:=omega)[qb];refine qI (i+1) ⟨by omega,?_⟩ (by omega) (by simp);rw [qno,qno,j];simp [h,v,u]
 simp at h;simp -implicitDefEqProofs (disch:=omega)[qb];have E:l.take i=l:=qmn h;have z:m.take i=m:=qmn (by omega);rw [<-E,j,z]
def Ev (b:OB) (l:List Int):Bool:=decide ((l.length:Int)=b.P)&&l.all fun n=>decide (0<=n)&&decide (n<=5)
theorem LE (f g:Bool) (s r:List Int) (p:r.length<=1000) (e:s.length=r.length) (y:∀ x∈s,0<=x/\x<r.length):qx prog 42 [Ls f s,Ls g r] (Ls (aft s r).isEmpty (aft s r)):=by
 refine qM (QF func42 DG (by kernel_rfl) (by show 2<=_;decide) ?_);simp -implicitDefEqProofs (disch:=omega)[Da,qb];have a:(aft s r).length=s.length:=Ze;refine qL (fun q:Nat×AV×List HObj=>⟨[(0,Ls f s),(1,Ls g r),(5,q.2.1),(6,I (q.1:Int))],q.2.2⟩) (fun q=>q.1<=r.length/\AccR q.2.2 q.2.1 ((aft s r).take q.1)) (fun q=>r.length - q.1) (0,.sl true 0 [],[]) ⟨qmQ _,.inl ⟨rfl,by simp⟩⟩ rfl ?_;rintro ⟨i,x,H⟩ ⟨c,c2⟩;simp only at c c2 ⊢;refine QJ fun m K=>?_;simp -implicitDefEqProofs (disch:=omega)[qb];refine qA (fun h=>?_) (fun h=>?_)
 . have u:i<r.length:=by simp at h;omega
   have v:i<s.length:=by omega
   have o:((i:Int)+1)=((i+1:Nat):Int):=by omega
   obtain ⟨l,d⟩:=y s[i] (qmr v);obtain ⟨n,z⟩:∃ n:Nat,s[i]=n:=⟨s[i].toNat,by omega⟩;have j:n<r.length:=by omega
   have t:(aft s r).take (i+1)=(aft s r).take i++[r[n]]:=by rw [qnx (by omega),pi (by omega)];simp [z,j]
   have T:((aft s r).take i).length=i:=by rw [qmS];omega
   simp -implicitDefEqProofs (disch:=omega)[qb,zy,u,v,z,j];refine Qa (ys:=[I r[n]]) rfl rfl ?_;simp -implicitDefEqProofs (disch:=omega)[qb,zh];refine jw c2.row (by omega) fun b k L w=>?_;simp -implicitDefEqProofs (disch:=omega)[qb];rw [K];refine qI (i+1,.ms H.length 0 (i+1) 1,qf H b) ⟨by simp only;omega,.inr ⟨H.length,?_,?_,?_⟩⟩ (by simp only;omega) (by simp only [o,T])
   . rw [qmS,qnu (by omega)]
   . simp only [t];simp
   simp only [t];exact w
 have u:i=r.length:=by simp at h;omega
 subst u;subst K;have t:(aft s r).take r.length=aft s r:=qmn (by omega);rw [t] at c2;simp -implicitDefEqProofs (disch:=omega)[qb];exact Ei c2
def EU (b:OB) (l:List Int):Int:=if 720<l.length then 6 else if l.all fun n=>decide (0<=n)&&decide (n<b.s.length) then 0 else 3
def OB.S (b:OB):List (List Int):=b.s.map (·.2)
structure Okb (b:OB) (n:Nat):Prop where
 P:b.P=n
 lo:2<=n
 hi:n<=6
 many:b.s.length<=6
 pm:∀ p∈b.s,Pm n p.2
theorem DW {b:OB} (h:Xf b=0):∃ n,Okb b n:=by
 unfold Xf at h;split at h
 . cases h
 rename_i j;split at h
 . cases h
 rename_i z;split at h
 . rename_i u;rw [LL] at u;refine ⟨b.P.toNat,by omega,by omega,by omega,by omega,fun p v=>?_⟩;have:=u p v;unfold qk0 at this;simp only [qd,qmE,LL,qmO,qon] at this;exact qiM (by omega) fun k y=>this.2 k (by omega)
 cases h
theorem Okb.at {b:OB} {n:Nat} (h:Okb b n) {k:Nat} (y:k<b.s.length):Pm n b.s[k].2:=h.pm _ (qmr y)
theorem Mq {b:OB} {k:Nat} (h:k<b.s.length):b.S.getD k []=b.s[k].2:=by unfold OB.S;rw [qmp,qnn,Wd h];rfl
def YU (b:OB) (l:List Int) (r:List Int):List Int:=Rp b.S (l.map Int.toNat) r
theorem Df {b:OB} {l r:List Int} {i:Nat} (h:i<l.length):YU b (l.take (i+1)) r=aft (b.S.getD l[i].toNat []) (YU b (l.take i) r):=by unfold YU;rw [qnx h,qmD,YV];rfl
def LsO (b:OB) (l:List Int):Prop:=∀ s∈l,0<=s/\s<b.s.length
theorem Ye {b:OB} {n:Nat} (u:Okb b n):∀ {l r:List Int},LsO b l->r.length=n->(YU b l r).length=n
 | [],r,_,h=>h
 | s::l,r,v,h=>by have z:=v s (by simp);show (YU b l (aft (b.S.getD s.toNat []) r)).length=n;refine Ye u (fun t j=>v t (by simp [j])) ?_;rw [Ze,Mq (by omega)];exact (u.at _).len
def Cur (h:List HObj) (x:AV) (l:List Int):Prop:=(∃ id,0<id/\x = .ms id 0 l.length 1/\qu h id=some (.cells (l.map fun n=>I n)))\/x=Ls false l
theorem vU (g f h:Bool) {b:OB} (z:Okb b n) (r l:List Int) (O:r.length=n) (w:LsO b l) (N:l.length<=1000000):qx prog 18 [On g b,Ls f r,Ls h l] (Ls false (YU b l r)):=by
 have D:=z.hi;have Z:=z.lo;refine qM (QF func18 Le (by kernel_rfl) (by show 3<=_;decide) ?_);simp -implicitDefEqProofs (disch:=omega)[Mn,qb];refine Qa rfl rfl ?_;simp -implicitDefEqProofs (disch:=omega)[qb,zh];refine ⟨⟨by omega,by omega⟩,?_⟩;refine qL (fun q:Nat×AV×List HObj=>⟨[(2,Ls h l),(3,.ref 0 0),(7,q.2.1),(8,I (q.1:Int))],q.2.2⟩) (fun q=>q.1<=l.length/\qu q.2.2 0=some (.cells [I b.P,LLs g b.s])/\Cur q.2.2 q.2.1 (YU b (l.take q.1) r)) (fun q=>l.length - q.1) (0,.ms 1 0 r.length 1,[.cells [I b.P,LLs g b.s],.cells (r.map fun n=>I n)]) ⟨qmQ _,rfl,.inl ⟨1,by omega,rfl,rfl⟩⟩ rfl ?_;rintro ⟨i,x,H⟩ ⟨M,c2,c3⟩;simp only at M c2 c3 ⊢;have l0:=qw c2;refine QJ fun V K=>?_;simp -implicitDefEqProofs (disch:=omega)[qb];refine qA (fun y=>?_) (fun y=>?_)
 . have v:i<l.length:=by simp at y;omega
   have R:((i:Int)+1)=((i+1:Nat):Int):=by omega
   obtain ⟨X,Y⟩:=w l[i] (qmr v);obtain ⟨k,o⟩:∃ k:Nat,l[i]=k:=⟨l[i].toNat,by omega⟩;have u:k<b.s.length:=by omega
   have p:=z.at u;have C:(YU b (l.take i) r).length=n:=Ye z (fun s P=>w s (qnw P)) O;have m:=Df (b:=b) (r:=r) v;rw [o,qn3,Mq u] at m;have a:=LE b.s[k].1 false b.s[k].2 (YU b (l.take i) r) (by omega) (by rw [C];exact p.len) (fun x Q=>by rw [C];exact p.rng x Q);rw [<-m] at a;have c:(YU b (l.take (i+1)) r).length=n:=by rw [m,Ze];exact p.len
   have T:(YU b (l.take (i+1)) r).isEmpty=false:=by
    cases j:YU b (l.take (i+1)) r with
    | nil=>rw [j] at c;simp at c;omega
    | cons=>rfl
   rw [T] at a;rcases c3 with ⟨id,d,rfl,hm⟩ | rfl
   . have L:=qw hm;simp -implicitDefEqProofs (disch:=omega)[qb,c2,v,o,u,zy,VD];refine qZ (Yx DS (DT hm rfl)) a ?_;simp -implicitDefEqProofs (disch:=omega)[qb,Xg,YG];have e:¬ id=0:=by omega
     rw [K]
     obtain ⟨J,E,j⟩:∃ x t,YU b (l.take (i+1)) r=x::t:=by
      cases j:YU b (l.take (i+1)) r with
      | nil=>rw [j] at c;simp at c;omega
      | cons x t=>exact ⟨x,t,rfl⟩
     refine qI (i+1,Ls false (YU b (l.take (i+1)) r),H.set id .gone) ⟨by simp only;omega,(by simp only;rw [qq e];exact c2),.inr rfl⟩ (by simp only;omega) (by simp [j,qf,qz,L])
   simp -implicitDefEqProofs (disch:=omega)[qb,c2,v,o,u,zy,VD];refine qZ (Yx DS DS) a ?_;simp -implicitDefEqProofs (disch:=omega)[qb,Xg,YG];rw [K];exact qI (i+1,Ls false (YU b (l.take (i+1)) r),H) ⟨by simp only;omega,c2,.inr rfl⟩ (by simp only;omega) (by simp only [R])
 have v:i=l.length:=by simp at y;omega
 subst v;subst K;rw [qoZ] at c3;simp -implicitDefEqProofs (disch:=omega)[qb];rcases c3 with ⟨id,d,rfl,hm⟩ | rfl
 . exact Zd (DT hm rfl)
 exact Zd DS
def LZ (b:OB) (r l:List Int):Int:=if Xf b≠0 then Xf b else if Ev b r=false then 2 else EU b l
def Ma (b:OB) (r l:List Int):List Int:=if LZ b r l=0 then YU b l r else []
theorem xq {b:OB} (u:Okb b n) {r:List Int} (h:Ev b r=true):r.length=n:=by have:=u.P;unfold Ev at h;simp only [qd,qmE] at h;omega
theorem Pn {b:OB} {l:List Int} (h:EU b l=0):LsO b l/\l.length<=720:=by
 unfold EU at h;split at h
 . cases h
 rename_i j;split at h
 . rename_i u;rw [LL] at u;exact ⟨fun s v=>by simpa using u s v,by omega⟩
 cases h
theorem sf {l:List Int} (h:l.length=n) (u:0<n):l.isEmpty=false:=by
 cases l with
 | nil=>simp at h;omega
 | cons=>rfl
theorem UE {h:List HObj} {f:Bool} {l:List Int} {e:Int}:Out (.tup [Ls f l,I e]) (.tup [Ls f l,I e]) h:=Zd (is:=[]) rfl
def It (b:OB) (l:List Int):Int:=if Xf b≠0 then Xf b else EU b l
def Iu (b:OB) (l:List Int):List Int:=if It b l=0 then YU b l (jn b.P.toNat) else []
def LO (b:OB) (l m:List Int):Int:=if Xf b≠0 then Xf b else if 720<l.length\/720<m.length then 6 else if EU b l≠0\/EU b m≠0 then 3
 else if YU b l (jn b.P.toNat)=YU b m (jn b.P.toNat) then 0 else 18
end Go.AM

namespace Go.AM
open Go.RowKit Go.Proofs.Tryz
theorem XL {α:Type} {l:List α} {v d:α} {j k:Nat} (h:j<l.length):(l.set j v).getD k d=if k=j then v else l.getD k d:=by
 rw [qmp,qmp,qoS];by_cases e:j=k
 . subst e;simp [h]
 rw [if_neg e,if_neg (qmG e)]
section
variable {S:List (List Int)} {r:List Int} {i s:Nat} {R:List (List Int)} {F M:List Nat} {L:List (List Nat)} {G:List (List (List Nat))}
end
end Go.AM

namespace Go.AM
open Go.RowKit Go.Proofs Go.Proofs.Tryz
variable {K:AV->List HObj->Prop} {f g:Bool} {k:Int} {c:List AV} {h:List HObj} {M l R r:List Int} {d a:Nat}
theorem Ii:∀ k,zh k [I 0]=(List.replicate k (0:Int)).map fun n=>I n
 | 0=>rfl
 | k+1=>by rw [Ij,Ii k];rfl
theorem sB {k:Nat} {v:Int} (h:k<M.length):(M.map fun n=>I n).take k++I v::(M.map fun n=>I n).drop (k+1)=(M.set k v).map fun n=>I n:=by have:=Wa (l:=M) (k:=k) (v:=v) h;simpa [splice] using this
theorem Sc {i:Nat} (h:i<l.length):l.getD i 0=l[i]:=by rw [qmp,Wd h];rfl
theorem PS (f:Bool) (l:List (Bool×List Int)) (b:l.length<=1000000) {p:Bool×List Int->Bool} {u:List HObj} (g:jB prog d=true)
 (q:∀ i (z:i<l.length) (o:AV->List HObj->Prop),o (B (p l[i])) u->qB prog d ([Ls l[i].1 l[i].2]++c) u o) (y:K (I (Pc p l)) u):qB prog 110 [LLs f l,.fn (.func d) [] c] u K:=by
 refine QF func110 VJ (by kernel_rfl) (by show 2<=_;decide) ?_;simp -implicitDefEqProofs (disch:=omega)[JB,qb];refine qL (fun i:Nat=>⟨[(0,LLs f l),(1,.fn (.func d) [] c),(7,I l.length),(8,I (i:Int))],u⟩) (fun i=>i<=l.length/\∀ k (j:k<l.length),k<i->p l[k]=false) (fun i=>l.length - i) 0 ⟨qmQ _,fun k _ h=>by omega⟩ rfl ?_;rintro i ⟨C,c2⟩;refine QJ fun s v=>?_;simp -implicitDefEqProofs (disch:=omega)[qb];refine qA (fun h=>?_) (fun h=>?_)
 . have z:i<l.length:=by simpa using h
   have x:((i:Int)+1)=((i+1:Nat):Int):=by omega
   simp -implicitDefEqProofs (disch:=omega)[qb,z,VD];refine ⟨g,q i z _ ?_⟩;cases u:p l[i] with
   | true =>have e:=JP z u (fun k j h=>c2 k j h);subst v;simp -implicitDefEqProofs (disch:=omega)[qb];rw [e] at y;exact y
   | false =>
     simp -implicitDefEqProofs (disch:=omega)[qb];rw [v];refine qI (i+1) ⟨by omega,fun k j h=>?_⟩ (by omega) (by simp only [x]);by_cases e:k=i
     . subst e;exact u
     exact c2 k j (by omega)
 have z:i=l.length:=by simp at h;omega
 subst z;subst v;simp -implicitDefEqProofs (disch:=omega)[qb];rw [JO (fun k j=>c2 k j j)] at y;exact y
theorem jD (f:Bool) (l:List (Bool×List Int)) (y:l.length<=1000000) {p:Bool×List Int->Bool} (z:jB prog d=true)
 (j:∀ i (o:i<l.length) (u:AV->List HObj->Prop),u (B (p l[i])) h->qB prog d ([Ls l[i].1 l[i].2]++c) h u) (v:K (B (l.any p)) h):qB prog 60 [LLs f l,.fn (.func d) [] c] h K:=by
 refine QF func60 JK (by kernel_rfl) (by show 2<=_;decide) ?_;simp -implicitDefEqProofs (disch:=omega)[jh,qb];refine PS f l y z j ?_;simp -implicitDefEqProofs (disch:=omega)[qb];rw [<-XM] at v;exact v
theorem LK (f:Bool) (l:List Int) (b:l.length<=1000000) {p:Int->Bool} {u:List HObj} (g:jB prog d=true)
 (q:∀ i (z:i<l.length) (o:AV->List HObj->Prop),o (B (p l[i])) u->qB prog d ([I l[i]]++c) u o) (y:K (I (Pc p l)) u):qB prog 153 [Ls f l,.fn (.func d) [] c] u K:=by
 refine QF func153 WB (by kernel_rfl) (by show 2<=_;decide) ?_;simp -implicitDefEqProofs (disch:=omega)[YJ,qb];refine qL (fun i:Nat=>⟨[(0,Ls f l),(1,.fn (.func d) [] c),(7,I l.length),(8,I (i:Int))],u⟩) (fun i=>i<=l.length/\∀ k (j:k<l.length),k<i->p l[k]=false) (fun i=>l.length - i) 0 ⟨qmQ _,fun k _ h=>by omega⟩ rfl ?_;rintro i ⟨C,c2⟩;refine QJ fun s v=>?_;simp -implicitDefEqProofs (disch:=omega)[qb];refine qA (fun h=>?_) (fun h=>?_)
 . have z:i<l.length:=by simpa using h
   have x:((i:Int)+1)=((i+1:Nat):Int):=by omega
   simp -implicitDefEqProofs (disch:=omega)[qb,z,zy];refine ⟨g,q i z _ ?_⟩;cases u:p l[i] with
   | true =>have e:=JP z u (fun k j h=>c2 k j h);subst v;simp -implicitDefEqProofs (disch:=omega)[qb];rw [e] at y;exact y
   | false =>
     simp -implicitDefEqProofs (disch:=omega)[qb];rw [v];refine qI (i+1) ⟨by omega,fun k j h=>?_⟩ (by omega) (by simp only [x]);by_cases e:k=i
     . subst e;exact u
     exact c2 k j (by omega)
 have z:i=l.length:=by simp at h;omega
 subst z;subst v;simp -implicitDefEqProofs (disch:=omega)[qb];rw [JO (fun k j=>c2 k j j)] at y;exact y
theorem EE (f:Bool) (l:List Int) (y:l.length<=1000000) {p:Int->Bool} (z:jB prog d=true)
 (j:∀ i (o:i<l.length) (u:AV->List HObj->Prop),u (B (p l[i])) h->qB prog d ([I l[i]]++c) h u) (v:K (B (l.any p)) h):qB prog 98 [Ls f l,.fn (.func d) [] c] h K:=by
 refine QF func98 YD (by kernel_rfl) (by show 2<=_;decide) ?_;simp -implicitDefEqProofs (disch:=omega)[jF,qb];refine LK f l y z j ?_;simp -implicitDefEqProofs (disch:=omega)[qb];rw [<-XM] at v;exact v
theorem Px {c:Nat} {l i n:Int} {p:List HObj} (j:qu p a=some (.cells [I l])) (v:qu p c=some (.cells [I i])) (u:K (B (decide (n<l) || decide (i<n))) p):qB prog 111 [I n,.ref a 0,.ref c 0] p K:=by
 refine QF func111 KL (by kernel_rfl) (by show 3<=_;decide) ?_;simp -implicitDefEqProofs (disch:=omega)[Xc,qb,j,v];by_cases h:n<l
 . simp -implicitDefEqProofs (disch:=omega)[qb,h];simpa [h] using u
 simp -implicitDefEqProofs (disch:=omega)[qb,h,v];simpa [h] using u
theorem Nc (L u:Int) (f:Bool) (l:List Int) (v:l.length<=1000000):qx prog 65 [I L,I u,Ls f l] (B (JC L u l)):=by refine qM (QF func65 GG (by kernel_rfl) (by show 3<=_;decide) ?_);simp -implicitDefEqProofs (disch:=omega)[NU,qb];refine EE f l v (p:=fun x=>decide (x<L) || decide (u<x)) (by kernel_rfl) (fun i u K h=>Px rfl rfl h) ?_;simp -implicitDefEqProofs (disch:=omega)[qb];exact Dg L u l
theorem Pv (v:l.length<=1000000) (u:K (B (decide (720<l.length))) h):qB prog 63 [Ls f l] h K:=by
 refine QF func63 KI (by kernel_rfl) (by show 1<=_;decide) ?_;simp -implicitDefEqProofs (disch:=omega)[Xa,qb];have:decide ((720:Int)<(l.length:Int))=decide (720<l.length):=by rw [qpD];omega
 rw [this];exact u
theorem Pw {b:OB} (j:l.length<=1000000) (z:b.s.length<=1000000) (v:qu h a=some (.cells [I b.P,LLs g b.s])) (u:K (B (!JC 0 (b.s.length - 1) l)) h):qB prog 64 [Ls f l,.ref a 0] h K:=by refine QF func64 KJ (by kernel_rfl) (by show 2<=_;decide) ?_;simp -implicitDefEqProofs (disch:=omega)[Xb,qb,v];refine qh rfl (Nc 0 (b.s.length - 1) f l j) ?_;simp -implicitDefEqProofs (disch:=omega)[qb];exact u
def vn (b:OB) (l:List (Bool×List Int)):Int:=if l.any (fun p=>decide (720<p.2.length))=true then 6 else if l.any (fun p => !JC 0 (b.s.length - 1) p.2)=true then 3 else 0
theorem Nb (g f:Bool) (b:OB) (j:b.s.length<=1000000) (l:List (Bool×List Int)) (v:l.length<=1000000) (z:∀ p∈l,p.2.length<=1000000):qx prog 32 [On g b,LLs f l] (I (vn b l)):=by
 refine qM (QF func32 GD (by kernel_rfl) (by show 2<=_;decide) ?_);simp -implicitDefEqProofs (disch:=omega)[NS,qb];refine jD f l v (p:=fun p=>decide (720<p.2.length)) (by kernel_rfl) (fun i u K h=>Pv (z _ (qmr u)) h) ?_;cases h1:l.any (fun p=>decide (720<p.2.length)) with
 | true =>
   have e:vn b l=6:=by unfold vn;rw [if_pos h1]
   simp -implicitDefEqProofs (disch:=omega)[qb,e]
 | false =>
   have e:vn b l=if l.any (fun p => !JC 0 (b.s.length - 1) p.2)=true then 3 else 0:=by unfold vn;rw [if_neg (by rw [h1];decide)]
   simp -implicitDefEqProofs (disch:=omega)[qb];refine jD f l v (p:=fun p => !JC 0 (b.s.length - 1) p.2) (by kernel_rfl) (fun i u K h=>Pw (z _ (qmr u)) j rfl h) ?_;cases h2:l.any (fun p => !JC 0 (b.s.length - 1) p.2) with
   | true=>simp -implicitDefEqProofs (disch:=omega)[qb,e,h2]
   | false=>simp -implicitDefEqProofs (disch:=omega)[qb,e,h2]
theorem LJ (f g:Bool) (l m:List Int) (s:l.length<=1000000) (b:m.length<=1000000):qx prog 43 [Ls f l,Ls g m] (B (decide (l=m))):=by
 refine qM (QF func43 GH (by kernel_rfl) (by show 2<=_;decide) ?_);simp -implicitDefEqProofs (disch:=omega)[NV,qb];by_cases v:l.length=m.length
 . have j:((l.length:Int) != (m.length:Int))=false:=by simp [v]
   simp -implicitDefEqProofs (disch:=omega)[qb,j];refine qL (fun i:Nat=>⟨[(0,Ls f l),(1,Ls g m),(12,I l.length),(13,I (i:Int))],[]⟩) (fun i=>i<=l.length/\l.take i=m.take i) (fun i=>l.length - i) 0 ⟨by omega,rfl⟩ rfl ?_;intro i ⟨u,y⟩;refine QJ fun q K=>?_;simp -implicitDefEqProofs (disch:=omega)[qb];refine qA (fun h=>?_) (fun h=>?_)
   . have u:i<l.length:=by simpa using h
     have z:i<m.length:=by omega
     have x:((i:Int)+1)=((i+1:Nat):Int):=by omega
     by_cases e:l[i]=m[i]
     . have E:(l[i] != m[i])=false:=by simpa using e
       simp -implicitDefEqProofs (disch:=omega)[qb,zy,u,z,E,Xg,YG];rw [K];refine qI (i+1) ⟨by omega,?_⟩ (by omega) (by simp only [x]);rw [qno,qno,y];simp [u,z,e]
     have E:(l[i] != m[i])=true:=by simpa using e
     have n:decide (l=m)=false:=qoo fun h=>by subst h;exact e rfl
     rw [n] at K;subst K;simp -implicitDefEqProofs (disch:=omega)[qb,zy,u,z,E,Xg,YG]
   have u:i=l.length:=by simp at h;omega
   subst u;have o:m.take l.length=m:=qmn (by omega);have n:decide (l=m)=true:=qpj (by rw [qoZ,o] at y;exact y);rw [n] at K;subst K;simp -implicitDefEqProofs (disch:=omega)[qb]
 have j:((l.length:Int) != (m.length:Int))=true:=by simp only [qpe,ne_eq];omega
 have n:decide (l=m)=false:=qoo fun h=>by subst h;exact v rfl
 simp -implicitDefEqProofs (disch:=omega)[qb,j,n]
abbrev zj (r:List Int):List AV:=r.map fun n=>I n
def bkF (l:List (Bool×List Int)):List AV:=l.flatMap fun p=>zj (pad (inv p.2))
abbrev DKc (g:Bool) (b:OB):List AV:=[I b.P,LLs g b.s,.sl b.s.isEmpty b.s.length (bkF b.s)]
abbrev DK (g:Bool) (b:OB):AV := .ptr (DKc g b) 0
theorem Wb {l:List Int} (h:l.length=6):List.take 6 (zj l)=zj l:=qmn (by simp [h])
theorem wv :((zj l).all AV.isPC)=true:=by rw [LL];intro x h;obtain ⟨n,_,rfl⟩:=gm.1 h;rfl
theorem PG {hp:Hp} {n:Int}:qR hp (I n)=some (I n,[]):=rfl
theorem Nl {hp:Hp}:∀ {l:List Int},zC hp (zj l)=some (zj l,[])
 | []=>rfl
 | x::l=>by have:=Nl (hp:=hp) (l:=l);simp only [wI,zC,PG] at this ⊢;rw [this];rfl
theorem Ew {h:Hp} :qH h (.agg (zj l))=some (.agg (zj l),[]):=by simp only [qH,Nl,qm6]
def InvA (R:List Int) (i:Nat) (M:List Int):Prop:=M.length=6/\∀ q,q<6->M.getD q 0=if q<i then R.getD q 0 else 0
theorem InvA.step {i:Nat} (h:InvA R i M) (O:i<6):InvA R (i+1) (M.set i (R.getD i 0)):=by
 refine ⟨by rw [qnp];exact h.1,fun q X=>?_⟩;rw [XL (by rw [h.1];exact O)];by_cases e:q=i
 . subst e;rw [if_pos rfl,if_pos (by omega)]
 rw [if_neg e,h.2 q X];by_cases y:q<i
 . rw [if_pos y,if_pos (by omega)]
 rw [if_neg y,if_neg (by omega)]
theorem InvA.init :InvA R 0 [0,0,0,0,0,0]:=⟨rfl,fun q y=>by rcases q with _ | _ | _ | _ | _ | _ | q <;> first | rfl | omega⟩
theorem InvA.fin {i:Nat} (h:InvA R i M) (O:R.length<=6) (X:R.length=i):M=pad R:=by
 refine Yl (by rw [h.1,JR O]) fun q y=>?_;rw [h.1] at y;rw [h.2 q y];by_cases e:q<i
 . rw [if_pos e,Ej (by omega)]
 rw [if_neg e,DY (by omega)]
theorem HJ {y:AV} (h:y∈zj l):y.isCell=true:=by obtain ⟨n,_,rfl⟩:=gm.1 h;rfl
theorem Kd (h:l.length=6):qJ (zj l) 0 6=zj l:=by simp only [qJ,qpi];exact Wb h
theorem TS (g:Bool) {b:OB} {n:Nat} (u:Okb b n) {x:List Int} (O:x.length=n) {k:Nat} (z:k<b.s.length):qx prog 34 [DK g b,.agg (zj (pad x)),I (k:Int)] (.agg (zj (pad (aft b.s[k].2 x)))):=by
 have N:=u.hi;have P:=u.at z;have L:=P.len;have d:(pad x).length=6:=JR (by omega);refine qM (Gi func34 Dy Uq (by show 3<=_;decide) ?_);simp -implicitDefEqProofs (disch:=omega)[EX,qb,d,z,VD];refine qL (fun q:Nat×List Int=>⟨[(4,.ref 0 0),(6,.ref 1 0),(7,.ref 2 0),(17,Ls b.s[k].1 b.s[k].2),(18,I b.s[k].2.length),(19,I (q.1:Int))],[.cells (zj (pad x)),.cells (zj [0,0,0,0,0,0]),.cells (zj q.2)]⟩) (fun q=>q.1<=n/\InvA (aft b.s[k].2 x) q.1 q.2) (fun q=>n - q.1) (0,[0,0,0,0,0,0]) ⟨qmQ _,.init⟩ rfl ?_;rintro ⟨i,M⟩ ⟨c,c2⟩;simp only at c c2 ⊢;refine QJ fun a K=>?_;simp -implicitDefEqProofs (disch:=omega)[qb];refine qA (fun h=>?_) (fun h=>?_)
 . have l:i<b.s[k].2.length:=by simpa using h
   have j:i<n:=by omega
   have f:(i:Int)<6:=by omega
   have t:((i:Int)+1)=((i+1:Nat):Int):=by omega
   have R:=P.rng _ (qmr l);obtain ⟨v,o⟩:∃ v:Nat,b.s[k].2[i]=v:=⟨b.s[k].2[i].toNat,by omega⟩;have w:(v:Int)<6:=by omega
   have V:v<(pad x).length:=by omega
   have Q:v<6:=by omega
   have s:=c2.step (show i<6 by omega);rw [HZ l,o,qn3,<-Ej (by omega),Sc V] at s;have r:i<M.length:=by rw [c2.1];omega
   have nx:Pu (zj (pad x)) v=some (I (pad x)[v]):=by rw [Jf];simp [V]
   simp -implicitDefEqProofs (disch:=omega)[qb,l,zy,o,w,f,nx];refine ⟨by omega,?_⟩;rw [sB r,K];exact qI (i+1,M.set i (pad x)[v]) ⟨by simp only;omega,s⟩ (by simp only;omega) (by simp only [t];rfl)
 have j:i=n:=by simp at h;omega
 subst j;have e:=c2.fin (by rw [Ze];omega) (by rw [Ze];exact L);subst e;have p:(pad (aft b.s[k].2 x)).length=6:=c2.1;subst K;simp -implicitDefEqProofs (disch:=omega)[qb,p];rw [Wb p];refine ⟨fun y m=>HJ m,SL rfl rfl (by simp [p]) ?_⟩;rw [Kd p];exact Zd Ew
theorem Lp (f:Bool) {l:List Int} (h:l.length<=6):qx prog 33 [Ls f l] (.agg (zj (pad l))):=by
 refine qM (Gi func33 DD Ur (by show 1<=_;decide) ?_);have p:(pad l).length=6:=JR h;simp -implicitDefEqProofs (disch:=omega)[EZ,qb];refine SR (id:=1) (off:=0) rfl rfl (by simp) ?_;simp -implicitDefEqProofs (disch:=omega)[qb];refine bu (id:=1) (off:=0) (n:=6) (c:=6) rfl rfl (by simp) ?_;simp -implicitDefEqProofs (disch:=omega)[qb,zh];refine SR (id:=1) (off:=0) rfl rfl (by simp) ?_;simp -implicitDefEqProofs (disch:=omega)[qb];have M:Nat.min l.length 6=l.length:=qnu h;refine Fs (id:=1) (off:=0) (n:=6) (c:=6) (m:=l.length) (ys:=zj l) rfl rfl (by simp) (FH (by simp)) ?_ ?_
 . rw [M,qnj,qmn (by simp)];exact wv
 rw [M,qnj,qmn (by simp)];have e:splice [I 0,I 0,I 0,I 0,I 0,I 0] 0 (zj l)=zj (pad l):=by unfold splice pad;simp only [qoP,qmF,qmq,qnt,qmD,List.map_replicate];congr 1;show (List.replicate 6 (I 0)).drop l.length=_;rw [List.drop_replicate]
 rw [e];simp -implicitDefEqProofs (disch:=omega)[qb,p];rw [Wb p];refine ⟨fun y u=>HJ u,SL rfl rfl (by simp [p]) ?_⟩;rw [Kd p];exact Zd Ew
theorem Fz (g:Bool) {b:OB} {n:Nat} (h:Okb b n) {x:List Int} (u:x.length=n):qx prog 35 [DK g b,.agg (zj (pad x))] (Ls false x):=by
 have v:=h.hi;have P:=h.P;have p:(pad x).length=6:=JR (by omega);refine qM (QF func35 OV (by kernel_rfl) (by show 2<=_;decide) ?_);simp -implicitDefEqProofs (disch:=omega)[Rh,qb,p,P];refine ⟨n,rfl,rfl,by omega,by omega,rfl,?_⟩;rw [Ii];have l:(List.replicate n (0:Int)).length=n:=by simp
 generalize List.replicate n (0:Int)=Z at l ⊢;simp -implicitDefEqProofs (disch:=omega)[qb];refine SR (id:=0) (off:=0) rfl rfl (by simp [p]) ?_;simp -implicitDefEqProofs (disch:=omega)[qb];have M:Nat.min 6 n=n:=Nat.min_eq_right v;refine Ft (id:=1) (off:=0) (n:=n) (m:=6) (ys:=qJ (zj (pad x)) 0 (6*1)) rfl rfl (by simp [l]) (FG rfl (by simp [p])) ?_ ?_
 . rw [Kd p,M,qnj];rw [LL];intro y j;exact (LL.1 wv) y (qnw j)
 rw [Kd p,M,qnj]
 have e:splice (List.map (fun n=>I n) Z) 0 (List.take n (zj (pad x)))=zj x:=by
  unfold splice;have t:List.take n (zj (pad x))=zj x:=by unfold pad zj;rw [qmD,qn1 (by simp [u])]
  rw [t];simp only [qoP,qmF,qmq,qnt];rw [qoT (by simp;omega),qm3]
 rw [e];simp -implicitDefEqProofs (disch:=omega)[qb];exact BK rfl u.symm
theorem OH (g:Bool) {b:OB} {n:Nat} (u:Okb b n):qx prog 57 [DK g b] (Ls (jn n).isEmpty (jn n)):=by
 have z:=u.hi;have P:=u.P;refine qM (QF func57 GC (by kernel_rfl) (by show 1<=_;decide) ?_);simp -implicitDefEqProofs (disch:=omega)[NR,qb,P];refine qL (fun q:Nat×AV×List HObj=>⟨[(3,q.2.1),(9,I (n:Int)),(10,I (q.1:Int))],q.2.2⟩) (fun q=>q.1<=n/\AccR q.2.2 q.2.1 (jn q.1)) (fun q=>n - q.1) (0,.sl true 0 [],[]) ⟨qmQ _,.inl ⟨rfl,rfl⟩⟩ rfl ?_;rintro ⟨i,x,H⟩ ⟨c,c2⟩;simp only at c c2 ⊢;refine QJ fun j K=>?_;simp -implicitDefEqProofs (disch:=omega)[qb];refine qA (fun h=>?_) (fun h=>?_)
 . have r:i<n:=by simpa using h
   have v:((i:Int)+1)=((i+1:Nat):Int):=by omega
   have t:jn (i+1)=jn i++[(i:Int)]:=by simp [jn,List.range_succ]
   have T:=Qx (n:=i);simp -implicitDefEqProofs (disch:=omega)[qb];refine Qa (ys:=[I (i:Int)]) rfl rfl ?_;simp -implicitDefEqProofs (disch:=omega)[qb,zh];refine jw c2.row (by omega) fun s y o w=>?_;simp -implicitDefEqProofs (disch:=omega)[qb];rw [K];refine qI (i+1,.ms H.length 0 (i+1) 1,qf H s) ⟨by simp only;omega,.inr ⟨H.length,?_,?_,?_⟩⟩ (by simp only;omega) (by simp only [v,T])
   . rw [Qx]
   . simp only [t];simp
   simp only [t];exact w
 have r:i=n:=by simp at h;omega
 subst r;subst K;simp -implicitDefEqProofs (disch:=omega)[qb];exact Ei c2
theorem fH {b:OB} :Ev b l=(decide ((l.length:Int)=b.P)&&JC 0 5 l):=rfl
theorem TT (g f:Bool) {b:OB} (l:List Int) (v:l.length<=1000000):qx prog 62 [DK g b,Ls f l] (B (Ev b l)):=by
 refine qM (QF func62 Dz (by kernel_rfl) (by show 2<=_;decide) ?_);rw [fH];by_cases h:(l.length:Int)=b.P
 . have u:((l.length:Int)==b.P)=true:=by simpa using h
   simp -implicitDefEqProofs (disch:=omega)[Kg,qb,u];refine qh rfl (Nc 0 5 f l v) ?_;simp -implicitDefEqProofs (disch:=omega)[qb,h]
 have u:((l.length:Int)==b.P)=false:=by simpa using h
 simp -implicitDefEqProofs (disch:=omega)[Kg,qb,u,h]
theorem BF {g:Bool} {b:OB} (j:l.length<=1000000) (v:qu h a=some (.cells [DK g b])) (u:K (B (!Ev b l)) h):qB prog 61 [Ls f l,.ref a 0] h K:=by refine QF func61 GF (by kernel_rfl) (by show 2<=_;decide) ?_;simp -implicitDefEqProofs (disch:=omega)[NT,qb,v];refine qh rfl (TT g f l j) ?_;simp -implicitDefEqProofs (disch:=omega)[qb];exact u
structure Sz12 (b:OB):Prop where
 cb:∀ g,qx prog 44 [On g b] (I (Xf b))
 nd:∀ g,qx prog 56 [On g b] (DK g b)
 many:b.s.length<=1000000
 len:∀ p∈b.s,p.2.length<=12
def Lr (b:OB) (l:List (Bool×List Int)):Int:=if Xf b≠0 then Xf b else if l.all (fun p=>Ev b p.2)=true then 0 else 2
def vM (g:Bool) (b:OB) (l:List (Bool×List Int)):AV:=if Lr b l=0 then DK g b else .v (.pointer none)
theorem BG (g f:Bool) (b:OB) (j:Sz12 b) (l:List (Bool×List Int)) (o:l.length<=1000000) (z:∀ p∈l,p.2.length<=1000000):qx prog 31 [On g b,LLs f l] (.tup [vM g b l,I (Lr b l)]):=by
 refine qM (QF func31 OY (by kernel_rfl) (by show 2<=_;decide) ?_);simp -implicitDefEqProofs (disch:=omega)[Rm,qb];refine qh rfl (j.cb g) ?_;by_cases u:Xf b=0
 . obtain ⟨n,q⟩:=DW u;simp -implicitDefEqProofs (disch:=omega)[qb,u];refine qh rfl (j.nd g) ?_;simp -implicitDefEqProofs (disch:=omega)[qb];refine jD f l o (p:=fun p => !Ev b p.2) (by kernel_rfl) (fun i y K h=>BF (g:=g) (z _ (qmr y)) rfl h) ?_;have a:l.any (fun p => !Ev b p.2) = !l.all (fun p=>Ev b p.2):=by rw [List.all_eq_not_any_not,Bool.not_not]
   rw [a];cases h1:l.all (fun p=>Ev b p.2) with
   | true =>
     have e:Lr b l=0:=by unfold Lr;rw [if_neg (by omega),if_pos h1]
     have E:vM g b l=DK g b:=by unfold vM;rw [if_pos e]
     rw [e,E];simp -implicitDefEqProofs (disch:=omega)[qb];exact Zd (is:=[]) rfl
   | false =>
     have e:Lr b l=2:=by unfold Lr;rw [if_neg (by omega),if_neg (by rw [h1];decide)]
     have E:vM g b l = .v (.pointer none):=by unfold vM;rw [if_neg (by omega)]
     rw [e,E];simp -implicitDefEqProofs (disch:=omega)[qb];exact Zd (is:=[]) rfl
 have e:Lr b l=Xf b:=by unfold Lr;rw [if_pos u]
 have E:vM g b l = .v (.pointer none):=by unfold vM;rw [if_neg (by omega)]
 have v:(Xf b != 0)=true:=by simpa using u
 rw [e,E];simp -implicitDefEqProofs (disch:=omega)[qb,v];exact Zd (is:=[]) rfl
theorem Ro {b:OB} :JC 0 (b.s.length - 1) l=l.all fun n=>decide (0<=n)&&decide (n<b.s.length):=by unfold JC;congr 1;funext x;congr 1;rw [qpD];omega
theorem vo {b:OB} {f:Bool} {l:List Int}:vn b [(f,l)]=EU b l:=by
 unfold vn EU;simp only [qpP,List.any_nil,qoG,qmE,Ro];by_cases h:720<l.length
 . rw [if_pos h,if_pos h]
 rw [if_neg h,if_neg h];cases l.all (fun n=>decide (0<=n)&&decide (n<(b.s.length:Int))) <;> simp
theorem vL {b:OB} {f:Bool} {r:List Int}:Lr b [(f,r)]=if Xf b≠0 then Xf b else if Ev b r=true then 0 else 2:=by unfold Lr;simp only [qmC,List.all_nil,qpr]
theorem mB {h:Hp} {b:OB} {r:List Int} :qj h [DK g b,.agg (zj r),I k]=some ([DK g b,.agg (zj r),I k],[]):=by simp only [qj,Ew];rfl
theorem mA {h:Hp} {b:OB} {r:List Int}:qj h [DK g b,.agg (zj r)]=some ([DK g b,.agg (zj r)],[]):=by simp only [qj,Ew];rfl
theorem DV (g f h:Bool) (b:OB) (a:Sz12 b) (r l:List Int) (o:r.length<=1000000) (N:l.length<=1000000):qx prog 9 [On g b,Ls f r,Ls h l] (.tup [Ls (Ma b r l).isEmpty (Ma b r l),I (LZ b r l)]):=by
 refine qM (QF func9 OW (by kernel_rfl) (by show 3<=_;decide) ?_);simp -implicitDefEqProofs (disch:=omega)[Rj,qb];refine Qa (ys:=[Ls f r]) rfl rfl ?_;simp -implicitDefEqProofs (disch:=omega)[qb,zh];refine qh (ys:=[On g b,LLs true [(f,r)]]) (ids:=[]) rfl (BG g true b a [(f,r)] (by simp) (by simpa using o)) ?_;have m:=vL (b:=b) (f:=f) (r:=r);by_cases u:Lr b [(f,r)]=0
 . have V:vM g b [(f,r)]=DK g b:=by unfold vM;rw [if_pos u]
   have c0:Xf b=0:=by
    by_cases c:Xf b=0
    . exact c
    rw [if_pos c] at m;omega
   have O:Ev b r=true:=by
    rw [if_neg (by omega)] at m;cases o:Ev b r with
    | true=>rfl
    | false=>rw [o,if_neg (by decide)] at m;omega
   obtain ⟨n,v⟩:=DW c0;have h6:=v.hi;have L:=xq v O;rw [V,u];simp -implicitDefEqProofs (disch:=omega)[qb];refine Qa (ys:=[Ls h l]) rfl rfl ?_;simp -implicitDefEqProofs (disch:=omega)[qb,zh];refine qh (ys:=[On g b,LLs true [(h,l)]]) (ids:=[]) rfl (Nb g true b a.many [(h,l)] (by simp) (by simpa using N)) ?_;rw [vo];by_cases z:EU b l=0
   . obtain ⟨Q,q2⟩:=Pn z;have e:LZ b r l=0:=by unfold LZ;rw [if_neg (by omega),O,z];rfl
     have E:Ma b r l=YU b l r:=by unfold Ma;rw [if_pos e]
     rw [e,E,sf (Ye v Q L) (by have:=v.lo;omega)];have Y:(pad r).length=6:=JR (by omega);simp -implicitDefEqProofs (disch:=omega)[qb,z];refine qh rfl (Lp f (by omega)) ?_;simp -implicitDefEqProofs (disch:=omega)[qb,Y];refine qL (fun q:Nat×List Int=>⟨[(8,DK g b),(11,.ref 1 0),(33,Ls h l),(34,I l.length),(35,I (q.1:Int))],[.cells [I b.P,LLs g b.s],.cells (zj (pad q.2))]⟩) (fun q=>q.1<=l.length/\q.2=YU b (l.take q.1) r) (fun q=>l.length - q.1) (0,r) ⟨qmQ _,rfl⟩ rfl ?_;rintro ⟨i,C⟩ ⟨M,c2⟩;simp only at M c2 ⊢;have p:C.length=n:=by rw [c2];exact Ye v (fun s R=>Q s (qnw R)) L
     have pc:(pad C).length=6:=JR (by omega);have t6:=Wb pc;refine QJ fun Z K=>?_;simp -implicitDefEqProofs (disch:=omega)[qb];refine qA (fun c=>?_) (fun c=>?_)
     . have y:i<l.length:=by simpa using c
       have T:((i:Int)+1)=((i+1:Nat):Int):=by omega
       obtain ⟨J,A⟩:=Q l[i] (qmr y);obtain ⟨k,w⟩:∃ k:Nat,l[i]=k:=⟨l[i].toNat,by omega⟩;have j:k<b.s.length:=by omega
       have X:=v.at j;have x:=Df (b:=b) (r:=r) y;rw [w,qn3,Mq j,<-c2] at x;have P:(pad (aft b.s[k].2 C)).length=6:=JR (by rw [Ze,X.len];omega);have tn:=Wb P;simp -implicitDefEqProofs (disch:=omega)[qb,y,w,zy,pc,t6];refine qh mB (TS g v p j) ?_;have D:List.drop 6 (zj (pad C))=[]:=qoT (by simp [pc]);simp -implicitDefEqProofs (disch:=omega)[qb,pc,P,D];rw [K];exact qI (i+1,aft b.s[k].2 C) ⟨by simp only;omega,x.symm⟩ (by simp only;omega) (by simp only [T])
     have y:i=l.length:=by simp at c;omega
     subst y;rw [qoZ] at c2;subst K;simp -implicitDefEqProofs (disch:=omega)[qb,pc,t6];refine qh mA (Fz g v p) ?_;simp -implicitDefEqProofs (disch:=omega)[qb];rw [<-c2];exact UE
   have e:LZ b r l=EU b l:=by unfold LZ;rw [if_neg (by omega),O];rfl
   have E:Ma b r l=[]:=by unfold Ma;rw [if_neg (by rw [e];exact z)]
   have d:(EU b l != 0)=true:=by simpa using z
   simp -implicitDefEqProofs (disch:=omega)[qb,d,e,E];exact UE (l:=[])
 have e:LZ b r l=Lr b [(f,r)]:=by
  rw [m] at u ⊢;unfold LZ;by_cases c:Xf b≠0
  . rw [if_pos c,if_pos c]
  rw [if_neg c] at u;rw [if_neg c,if_neg c];cases o:Ev b r with
  | true=>rw [o] at u;simp at u
  | false=>rfl
 have E:Ma b r l=[]:=by unfold Ma;rw [if_neg (by rw [e];exact u)]
 have t:(Lr b [(f,r)] != 0)=true:=by simpa using u
 simp -implicitDefEqProofs (disch:=omega)[qb,t,e,E];exact UE (l:=[])
theorem xt {b:OB} {n:Nat} (h:Okb b n):Ev b (jn n)=true:=by have P:=h.P;have v:=h.hi;unfold Ev;simp only [qd,qmE,LL,Qx];refine ⟨P.symm,fun x u=>?_⟩;have:=PE.1 u;omega
theorem Hz (g h:Bool) (b:OB) (z:Sz12 b) (l:List Int) (y:l.length<=1000000):qx prog 28 [On g b,Ls h l] (.tup [Ls (Iu b l).isEmpty (Iu b l),I (It b l)]):=by
 refine qM (QF func28 DC (by kernel_rfl) (by show 2<=_;decide) ?_);simp -implicitDefEqProofs (disch:=omega)[EY,qb];refine qh rfl (z.cb g) ?_;by_cases u:Xf b=0
 . obtain ⟨n,v⟩:=DW u;have P:b.P.toNat=n:=by have:=v.P;omega
   have o:=v.hi;simp -implicitDefEqProofs (disch:=omega)[qb,u];refine qZ rfl (z.nd g) ?_;simp -implicitDefEqProofs (disch:=omega)[qb];refine qZ rfl (OH g v) ?_;simp -implicitDefEqProofs (disch:=omega)[qb];refine qZ rfl (DV g (jn n).isEmpty h b z (jn n) l (by rw [Qx];omega) y) ?_;have e:LZ b (jn n) l=It b l:=by unfold LZ It;rw [if_neg (by omega),if_neg (by rw [xt v];decide),if_neg (by omega)]
   have E:Ma b (jn n) l=Iu b l:=by unfold Ma Iu;rw [e,P]
   rw [e,E];simp -implicitDefEqProofs (disch:=omega)[qb,Xg,YG];exact UE
 have e:It b l=Xf b:=by unfold It;rw [if_pos u]
 have E:Iu b l=[]:=by unfold Iu;rw [if_neg (by rw [e];exact u)]
 have j:(Xf b != 0)=true:=by simpa using u
 simp -implicitDefEqProofs (disch:=omega)[qb,j,e,E];exact UE (l:=[])
theorem vq {b:OB} {l m:List Int}:vn b [(f,l),(g,m)]=if 720<l.length\/720<m.length then 6 else if EU b l≠0\/EU b m≠0 then 3 else 0:=by
 unfold vn EU;simp only [qpP,List.any_nil,qoG,qm2,qmE,Ro];by_cases h:720<l.length\/720<m.length
 . rw [if_pos h,if_pos h]
 have N:¬ 720<l.length:=by omega
 have u:¬ 720<m.length:=by omega
 rw [if_neg h,if_neg h];simp only [if_neg N,if_neg u];cases l.all (fun n=>decide (0<=n)&&decide (n<(b.s.length:Int))) <;> cases m.all (fun n=>decide (0<=n)&&decide (n<(b.s.length:Int))) <;> simp
theorem BE (g h k:Bool) (b:OB) (o:Sz12 b) (l m:List Int) (f:l.length<=1000000) (t:m.length<=1000000):qx prog 20 [On g b,Ls h l,Ls k m] (I (LO b l m)):=by
 refine qM (QF func20 OX (by kernel_rfl) (by show 3<=_;decide) ?_);simp -implicitDefEqProofs (disch:=omega)[Rl,qb];refine qh rfl (o.cb g) ?_;by_cases j:Xf b=0
 . obtain ⟨n,y⟩:=DW j;have E:b.P.toNat=n:=by have:=y.P;omega
   have c:=y.hi;simp -implicitDefEqProofs (disch:=omega)[qb,j];refine Qa (ys:=[Ls h l,Ls k m]) rfl rfl ?_;simp -implicitDefEqProofs (disch:=omega)[qb,zh];refine qh (ys:=[On g b,LLs true [(h,l),(k,m)]]) (ids:=[]) rfl (Nb g true b o.many [(h,l),(k,m)] (by simp) (by simp;omega)) ?_;rw [vq];by_cases u:720<l.length\/720<m.length
   . have e:LO b l m=6:=by unfold LO;rw [if_neg (by omega),if_pos u]
     rw [if_pos u];simp -implicitDefEqProofs (disch:=omega)[qb,e]
   by_cases v:EU b l≠0\/EU b m≠0
   . have e:LO b l m=3:=by unfold LO;rw [if_neg (by omega),if_neg u,if_pos v]
     rw [if_neg u,if_pos v];simp -implicitDefEqProofs (disch:=omega)[qb,e]
   rw [if_neg u,if_neg v];have Q:=Pn (b:=b) (l:=l) (by omega);have w:=Pn (b:=b) (l:=m) (by omega);have J:It b l=0:=by unfold It;rw [if_neg (by omega)];omega
   have d:It b m=0:=by unfold It;rw [if_neg (by omega)];omega
   have K:Iu b l=YU b l (jn n):=by unfold Iu;rw [if_pos J,E]
   have p:Iu b m=YU b m (jn n):=by unfold Iu;rw [if_pos d,E]
   have a:=Ye y Q.1 (r:=jn n) Qx;have A:=Ye y w.1 (r:=jn n) Qx;simp -implicitDefEqProofs (disch:=omega)[qb];refine qh rfl (Hz g h b o l f) ?_;rw [K];simp -implicitDefEqProofs (disch:=omega)[qb];refine qh rfl (Hz g k b o m t) ?_;rw [p];simp -implicitDefEqProofs (disch:=omega)[qb];refine qh rfl (LJ _ _ (YU b l (jn n)) (YU b m (jn n)) (by omega) (by omega)) ?_;by_cases z:YU b l (jn n)=YU b m (jn n)
   . have e:LO b l m=0:=by unfold LO;rw [if_neg (by omega),if_neg u,if_neg v,E,if_pos z]
     simp -implicitDefEqProofs (disch:=omega)[qb,z,e]
   have e:LO b l m=18:=by unfold LO;rw [if_neg (by omega),if_neg u,if_neg v,E,if_neg z]
   simp -implicitDefEqProofs (disch:=omega)[qb,z,e]
 have s:LO b l m=Xf b:=by unfold LO;rw [if_pos j]
 have q:(Xf b != 0)=true:=by simpa using j
 simp -implicitDefEqProofs (disch:=omega)[qb,q,s]
abbrev Ub (n:Int):AV := .v (.int .u8 n)
abbrev Ubs (f:Bool) (l:List Int):AV := .sl f l.length (l.map fun n=>Ub n)
theorem RJ {j:Nat} {K:AV->List (Nat×HObj)->Prop} (h:j<l.length):zF (l.map fun n=>Ub n) j 1 false K=K (Ub (l[j])) []:=by simp [zF,h]
def sgF (x:Int):Int:=if x.tmod 10<5 then x.tmod 10+1 else 4 - x.tmod 10
def sgL (u:List Int):List Int:=u.map sgF
def lnL (l:List Int):List Int:=l.map fun s=>max s (-s) - 1
theorem fP {x:Int} (h:0<=x/\x<=255):sgF x≠0/\-5<=sgF x/\sgF x<=5:=by have u:0<=x.tmod 10:=qpE 10 h.1;have v:x.tmod 10<10:=qpm x (by omega);unfold sgF;split <;> omega
theorem UA (f:Bool) (u:List Int) (L:u.length<=1000000) (r:∀ n∈u,0<=n/\n<=255):qx prog 13 [Ubs f u] (Ls (sgL u).isEmpty (sgL u)):=by
 refine qM (QF func13 yd (by kernel_rfl) (by show 1<=_;decide) ?_);simp -implicitDefEqProofs (disch:=omega)[dn,qb];have E:(sgL u).length=u.length:=by simp [sgL]
 refine qL (fun q:Nat×AV×List HObj=>⟨[(0,Ubs f u),(3,q.2.1),(4,I (q.1:Int))],q.2.2⟩) (fun q=>q.1<=u.length/\AccR q.2.2 q.2.1 ((sgL u).take q.1)) (fun q=>u.length - q.1) (0,.sl true 0 [],[]) ⟨qmQ _,.inl ⟨rfl,rfl⟩⟩ rfl ?_;rintro ⟨i,x,H⟩ ⟨c,c2⟩;simp only at c c2 ⊢;refine QJ fun p v=>?_;by_cases j:i<u.length
 . have g:((i:Int)+1)=((i+1:Nat):Int):=by omega
   obtain ⟨b,m⟩:=r u[i] (qmr j);obtain ⟨w,y⟩:∃ w,u[i]=w:=⟨_,rfl⟩;have C:∀ K,zF (u.map fun n=>Ub n) i 1 false K=K (Ub w) []:=fun K=>by rw [RJ j,y]
   have t:(sgL u).take (i+1)=(sgL u).take i++[sgF w]:=by rw [qnx (by omega)];simp [sgL,y]
   have T:((sgL u).take i).length=i:=by rw [qmS];omega
   rw [y] at b m;have a:0<=w.tmod 10:=qpE 10 b;have k:w.tmod 10<10:=qpm w (by omega);simp -implicitDefEqProofs (disch:=omega)[qb,j,C,Xg,YG];refine qA (fun h=>?_) (fun h=>?_)
   . have z:w.tmod 10<5:=by simpa using h
     have e:sgF w=w.tmod 10+1:=by unfold sgF;rw [if_pos z]
     simp -implicitDefEqProofs (disch:=omega)[qb,Xg,YG];refine Qa (ys:=[I (w.tmod 10+1)]) rfl rfl ?_;simp -implicitDefEqProofs (disch:=omega)[qb,zh,Xg,YG];refine jw c2.row (by omega) fun s l d o=>?_;simp -implicitDefEqProofs (disch:=omega)[qb,Xg,YG,T];rw [v];refine qI (i+1,.ms H.length 0 (i+1) 1,qf H s) ⟨by simp only;omega,.inr ⟨H.length,?_,?_,?_⟩⟩ (by simp only;omega) (by simp only [g])
     . rw [qmS,qnu (by omega)]
     . simp only [t];simp
     simp only [t,e];exact o
   have z:¬ w.tmod 10<5:=by simpa using h
   have e:sgF w=4 - w.tmod 10:=by unfold sgF;rw [if_neg z]
   simp -implicitDefEqProofs (disch:=omega)[qb,Xg,YG];refine Qa (ys:=[I (4 - w.tmod 10)]) rfl rfl ?_;simp -implicitDefEqProofs (disch:=omega)[qb,zh,Xg,YG];refine jw c2.row (by omega) fun s l d o=>?_;simp -implicitDefEqProofs (disch:=omega)[qb,Xg,YG,T];rw [v];refine qI (i+1,.ms H.length 0 (i+1) 1,qf H s) ⟨by simp only;omega,.inr ⟨H.length,?_,?_,?_⟩⟩ (by simp only;omega) (by simp only [g])
   . rw [qmS,qnu (by omega)]
   . simp only [t];simp
   simp only [t,e];exact o
 have t:(sgL u).take i=sgL u:=qmn (by omega);rw [t] at c2;subst v;simp -implicitDefEqProofs (disch:=omega)[qb,j];exact Ei c2
theorem vl (f:Bool) (l:List Int) (r:l.length<=1000000) (z:∀ s∈l,-1000000<=s/\s<=1000000):qx prog 17 [Ls f l] (Ls (lnL l).isEmpty (lnL l)):=by
 refine qM (QF func17 yh (by kernel_rfl) (by show 1<=_;decide) ?_);simp -implicitDefEqProofs (disch:=omega)[du,qb];have e:(lnL l).length=l.length:=by simp [lnL]
 refine qL (fun q:Nat×AV×List HObj=>⟨[(0,Ls f l),(3,q.2.1),(4,I (q.1:Int))],q.2.2⟩) (fun q=>q.1<=l.length/\AccR q.2.2 q.2.1 ((lnL l).take q.1)) (fun q=>l.length - q.1) (0,.sl true 0 [],[]) ⟨qmQ _,.inl ⟨rfl,rfl⟩⟩ rfl ?_;rintro ⟨i,x,H⟩ ⟨c,c2⟩;simp only at c c2 ⊢;refine QJ fun m h=>?_;by_cases u:i<l.length
 . have y:((i:Int)+1)=((i+1:Nat):Int):=by omega
   obtain ⟨b,j⟩:=z l[i] (qmr u);obtain ⟨w,v⟩:∃ w,l[i]=w:=⟨_,rfl⟩;have C:∀ K,zF (l.map fun n=>I n) i 1 false K=K (I w) []:=fun K=>by rw [zy u,qmp,Wd u,v];rfl
   have t:(lnL l).take (i+1)=(lnL l).take i++[max w (-w) - 1]:=by rw [qnx (by omega)];simp [lnL,v]
   have T:((lnL l).take i).length=i:=by rw [qmS];omega
   rw [v] at b j;simp -implicitDefEqProofs (disch:=omega)[qb,u,C,Xg,YG];refine Qa (ys:=[I (max w (-w) - 1)]) rfl rfl ?_;simp -implicitDefEqProofs (disch:=omega)[qb,zh,Xg,YG];refine jw c2.row (by omega) fun g d p o=>?_;simp -implicitDefEqProofs (disch:=omega)[qb,Xg,YG,T];rw [h];refine qI (i+1,.ms H.length 0 (i+1) 1,qf H g) ⟨by simp only;omega,.inr ⟨H.length,?_,?_,?_⟩⟩ (by simp only;omega) (by simp only [y])
   . rw [qmS,qnu (by omega)]
   . simp only [t];simp
   simp only [t];exact o
 have t:(lnL l).take i=lnL l:=qmn (by omega);rw [t] at c2;subst h;simp -implicitDefEqProofs (disch:=omega)[qb,u];exact Ei c2
theorem RO (f:Bool) (l:List Int) (q:l.length<=1000000) (j:∀ s∈l,s≠0/\-5<=s/\s<=5):qx prog 16 [Ls f l] (B true):=by
 refine qM (QF func16 yg (by kernel_rfl) (by show 1<=_;decide) ?_);simp -implicitDefEqProofs (disch:=omega)[dr,qb];refine qL (fun i:Nat=>⟨[(0,Ls f l),(3,I (i:Int))],[]⟩) (fun i=>i<=l.length) (fun i=>l.length - i) 0 (qmQ _) rfl ?_;intro i c;refine QJ fun z K=>?_;simp -implicitDefEqProofs (disch:=omega)[qb];refine qA (fun h=>?_) (fun h=>?_)
 . have u:i<l.length:=by simp at h;omega
   have x:((i:Int)+1)=((i+1:Nat):Int):=by omega
   obtain ⟨b,y,o⟩:=j l[i] (qmr u);have e:(l[i]==0)=false:=by simpa using b
   have E:¬ l[i] < -5:=by omega
   have v:¬ 5<l[i]:=by omega
   simp -implicitDefEqProofs (disch:=omega)[qb,u,zy,e,E,v,b];rw [K];exact qI (i+1) (by omega) (by omega) (by simp only [x])
 subst K;simp -implicitDefEqProofs (disch:=omega)[qb]
def bB:Bch:=⟨5,[(0,1),(1,2),(2,3),(3,4)]⟩
def nbS:List (List Int):=[[1,0,2,3,4,5],[0,2,1,3,4,5],[0,1,3,2,4,5],[0,1,2,4,3,5],[0,1,2,3,5,4]]
def bO:OB:=⟨6,nbS.map fun l=>(false,l)⟩
def swp (k:Int) (r:List Int):List Int:=if 0<=k/\k<5 then aft (nbS.getD k.toNat []) r else r
def acA (l r:List Int):List Int:=l.foldl (fun r s=>swp (qp s) r) r
theorem Ki (u v r:List Int):acA (u++v) r=acA v (acA u r):=qoq
theorem jY (s:Int) (l r:List Int):acA (s::l) r=acA l (swp (qp s) r):=rfl
theorem oS (h:0<=k/\k<5):k=0\/k=1\/k=2\/k=3\/k=4:=by omega
theorem CM (h:r.length=6):(swp k r).length=6:=by
 unfold swp;split
 . rename_i u;rw [Ze];rcases oS u with rfl | rfl | rfl | rfl | rfl <;> rfl
 exact h
theorem YR:∀ {l r:List Int},r.length=6->(acA l r).length=6
 | [],r,h=>h
 | s::l,r,h=>YR (l:=l) (CM h)
theorem six (h:r.length=6):∃ a b c d e f,r=[a,b,c,d,e,f]:=by
 match r,h with
 | [a,b,c,d,e,f],_=>exact ⟨a,b,c,d,e,f,rfl⟩
theorem tP {x y:Int} (h:(!(x==y) && !(bB.c.contains (min x y,max x y)))=true) (j:r.length=6):swp y (swp x r)=swp x (swp y r):=by
 by_cases u:0<=x/\x<5
 . by_cases v:0<=y/\y<5
   . obtain ⟨a,b,c,d,e,f,rfl⟩:=six j;rcases oS u with rfl | rfl | rfl | rfl | rfl <;> rcases oS v with rfl | rfl | rfl | rfl | rfl <;> first | rfl | exact absurd h (by decide)
   have e:∀ z,swp y z=z:=fun z=>if_neg v;rw [e,e]
 have e:∀ z,swp x z=z:=fun z=>if_neg u;rw [e,e]
theorem xQ (u:r.length=6):swp k (swp k r)=r:=by
 by_cases h:0<=k/\k<5
 . obtain ⟨a,b,c,d,e,f,rfl⟩:=six u;rcases oS h with rfl | rfl | rfl | rfl | rfl <;> rfl
 have e:∀ z,swp k z=z:=fun z=>if_neg h;rw [e,e]
theorem vk {s:Int} (h:s≠0):qp (-s)=qp s:=by unfold qp;split <;> split <;> omega
theorem El {m:List Int} (h:Pat bB l m):∀ {r:List Int},r.length=6->acA l r=acA m r:=by
 induction h with
 | refl l=>exact fun _=>rfl
 | symm _ y=>exact fun j=>(y j).symm
 | trans _ _ i z=>exact fun j=>(i j).trans (z j)
 | swap u v c =>intro r j;rw [Ki,Ki,jY,jY,jY,jY];rw [tP c (YR j)]
 | back u v s =>intro r j;rw [Ki,Ki,jY,jY,vk s.1,xQ (YR j)]
def In5 (l:List Int):Prop:=∀ s∈l,s≠0/\-5<=s/\s<=5
theorem In5.s8 (h:In5 l):S8 l:=fun s q=>by obtain ⟨y,e,O⟩:=h s q;exact ⟨y,by omega,by omega⟩
theorem eh:NK bB=0:=by decide
theorem In5.chk (h:In5 l) (K:l.length<=60):qX bB l=0:=by unfold qX;rw [if_neg (by rw [eh];decide),if_neg (by omega),if_pos];rw [LL];intro s y;obtain ⟨q,O,X⟩:=h s y;have e:bB.L=5:=rfl;unfold jE;rw [e];simp only [qm2,qd,qmE];omega
theorem iz (h:qX bB l=0):In5 l:=by
 unfold qX at h;rw [if_neg (by rw [eh];decide)] at h;split at h
 . cases h
 split at h
 . rename_i u;rw [LL] at u;intro s v;have:=u s v;have e:bB.L=5:=rfl;unfold jE at this;rw [e] at this;simp only [qm2,qd,qmE] at this;omega
 cases h
theorem iX {s:Int} (h:s≠0):max s (-s) - 1=qp s:=by unfold qp;split <;> omega
theorem In5.lines (h:In5 l):LsO bO (lnL l):=by intro x q;obtain ⟨s,y,rfl⟩:=gm.1 q;obtain ⟨O,X,K⟩:=h s y;have e:bO.s.length=5:=rfl;rw [e];omega
theorem Kj:∀ {l r:List Int},In5 l->YU bO (lnL l) r=acA l r
 | [],r,_=>rfl
 | s::l,r,h=>by
   obtain ⟨u,j,z⟩:=h s (by simp);have e:YU bO (lnL (s::l)) r=YU bO (lnL l) (aft (bO.S.getD (max s (-s) - 1).toNat []) r):=rfl
   have E:swp (qp s) r=aft (bO.S.getD (max s (-s) - 1).toNat []) r:=by
    rw [iX u];have:0<=qp s/\qp s<5:=by unfold qp;split <;> omega
    rw [swp,if_pos this];rfl
   rw [e,<-E,Kj fun x v=>h x (by simp [v]),jY]
theorem wY {u:List Int} (h:∀ n∈u,0<=n/\n<=255):In5 (sgL u):=by intro x j;obtain ⟨s,v,rfl⟩:=gm.1 j;exact fP (h s v)
theorem RM:Xf bO=0:=by decide
theorem uX (h:In5 l) (v:l.length<=720):EU bO (lnL l)=0:=by unfold EU;rw [if_neg (by simp [lnL];omega),if_pos];rw [LL];intro x u;have:=h.lines x u;simp only [qd,qmE];exact this
theorem qiH:Okb bO 6:=by
 obtain ⟨n,h⟩:=DW RM;have:(n:Int)=6:=h.P.symm;have:n=6:=by omega
 subst this;exact h
end Go.AM

set_option maxRecDepth 100000
namespace Go.AM
open Go.RowKit Go.Proofs Go.Proofs.Tryz
def qlF:Kn := .law (qgt 8 [I 0])
theorem uG:LW prog 655 (qgt 8 [I 0]):=lV func655 (by kernel_rfl) (by kernel_rfl) (by decide +kernel) rfl
def qlG:Kn := .law (qgu 8)
theorem uH:LW prog 656 (qgu 8):=lX (z:=[I 0]) (xf:=685) (rf:=686) func656 (by kernel_rfl) (by kernel_rfl) (by decide +kernel) rfl (by decide +kernel)
 (fun g m Y y h i o n c s b=>mL func685 (by kernel_rfl) (by kernel_rfl) (by kernel_rfl) (tS:=22) (tR:=4) (by kernel_rfl) underlying22 (agg:=false) (sz:=1) (by kernel_rfl) (by omega) b (.inr ⟨_,rfl⟩))
end Go.AM
