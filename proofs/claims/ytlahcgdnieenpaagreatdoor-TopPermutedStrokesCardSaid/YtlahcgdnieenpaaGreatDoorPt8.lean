/-
  Pt8: texts joined: Zk3 Zk5 Ks1 Ks2 Ks3 Ks4 Ks5 Kc1 Rp3k Rp4. Own work.
-/
import Derived.Test.YtlahcgdnieenpaaGreatDoorPt7
import Derived.Test.YtlahcgdnieenpaaGreatDoorProg
import Derived.Shelf.Spec.TrailingZeros
set_option linter.all false
set_option linter.unusedSimpArgs false
set_option linter.unusedVariables false
set_option linter.unusedSectionVars false

set_option maxRecDepth 100000
namespace Go.AM
def qnN:=@List.pairwise_cons
def qoQ:=@eq_iff_iff
def qo7:=@List.contains_append
def qpv:=@Nat.or_lt_two_pow
def qpA:=@List.filter_cons
def qpI:=@Nat.mul_add
end Go.AM
namespace Go.AM
open Go.RowKit Go.Shelf Go.Proofs Go.Proofs.Tryz
def tzL_ren:Go.Shelf.Ren:=⟨fun | 29=>272 | n=>n,fun | 22=>304 | 25=>90 | 54=>367 | n=>n,fun | 1=>1 | n=>n⟩
theorem tzL:Go.Proofs.Lays7.n29 prog tzL_ren:={
 mixed:=by kernel_rfl,
 f29:=func272.trans (qnH some (by kernel_rfl)),
 t0:=underlying0,
 a0:=isAgg0,
 z0:=sizeOf0,
 v0:=zeroValue0,
 i0:=by kernel_rfl,
 t3:=underlying3,
 a3:=isAgg3,
 z3:=sizeOf3,
 v3:=zeroValue3,
 i3:=by kernel_rfl,
 t4:=underlying4,
 a4:=isAgg4,
 z4:=sizeOf4,
 v4:=zeroValue4,
 i4:=by kernel_rfl,
 t5:=underlying5,
 a5:=isAgg5,
 z5:=sizeOf5,
 v5:=zeroValue5,
 i5:=by kernel_rfl,
 t22:=underlying304,
 a22:=isAgg304,
 z22:=sizeOf304,
 v22:=zeroValue304,
 i22:=by kernel_rfl,
 t25:=underlying90,
 a25:=isAgg90,
 z25:=sizeOf90,
 v25:=zeroValue90,
 i25:=by kernel_rfl,
 t54:=underlying367,
 a54:=isAgg367,
 z54:=sizeOf367,
 g1:=by kernel_rfl }
theorem MH (x:Nat) (f:x<2 ^ 60):qx prog 272 [.v (.int .u64 (x:Int))] (I ((Lib.ctz 64 x:Nat):Int)):=by
 intro b n w g V o s r;have R:=r 0 (by simp)
 have q:V=#[.int .u64 x]:=by
  have y:V.size=1:=s;apply Array.ext
  . simp [y]
  intro i u h;have:i=0:=by simp at h;omega
  subst this;have:=zZ R;rw [qmB,qmW u] at this;exact this
 subst q;have T:TabAt (tzL_ren.g 1) Lib.deBruijn64tab w:=fun j z=>by obtain ⟨_,v,u,h⟩:=(o.tab _ (qnv.2 rfl)).2 j z;have h:v=Value.int IntKind.u8 ↑(Lib.deBruijn64tab.getD j 0):=h;rw [<-h];exact u
 have M:=Any7.bits_TrailingZeros64 tzL x (by omega) w (fun _=>T);have m:CallsIn Fence.wide n prog 272 #[.int .u64 x] w _:=callsIn_wide.2 M;refine CallsIn.mono (F:=W b) m ?_;rintro e l ⟨rfl,rfl⟩;exact ⟨_,g,rfl,.v _ _,o,.refl _ _ _⟩
def gTz (y:List AV):Option AV:=match y with
 | [.v (.int .u64 (.ofNat n))]=>bif Nat.blt n (2 ^ 60) then some (I ((Lib.ctz 64 n:Nat):Int)) else none
 | _=>none
def kTz:Kn := .pure gTz
theorem iJ:∀ y r,gTz y=some r->qx prog 272 y r:=fun y r h=>by
 unfold gTz at h;split at h
 . rename_i n;cases e:Nat.blt n (2 ^ 60) with
   | false=>rw [e] at h;cases h
   | true=>rw [e] at h;cases h;exact MH n (zJ e)
 cases h
end Go.AM

set_option maxRecDepth 100000
namespace Go.AM
open Go.RowKit Go.Proofs Go.Proofs.Tryz
def qlD:Kn := .law (qgr 8)
theorem uE:LW prog 90 (qgr 8):=lT func90 (by kernel_rfl) (by kernel_rfl) (by decide +kernel)
end Go.AM

set_option maxRecDepth 100000
namespace Go.AM
open Go.RowKit Go.Proofs Go.Proofs.Tryz
variable {l Q R:List Nat} {i k:Nat}
abbrev W64 (n:Nat):AV := .v (.int .u64 (n:Int))
def gV:AC:=(.seq (.rgn [⟨none,[(.mv 2 (.k (B false)))]⟩] [0]) (.seq (.rgn [⟨none,[(.mv 3 (.t 0)),(.mv 4 (.t 0)),(.bin 5 .neq (.t 3) (.t 4)),(.mv 2 (.t 5))]⟩] [2]) .ret))
theorem An:qg prog f730 [2]=some gV:=by kernel_rfl
theorem xk:zc f730.results.toList=some [2]:=by decide +kernel
def gU:AC:=(.seq (.rgn [⟨none,[(.mv 4 (.k (B false)))]⟩] [0,1]) (.seq (.rgn [⟨none,[(.mv 5 (.t 0)),(.call 6 730 [(.t 5)]),(.mv 7 (.t 6))]⟩,⟨(some (7,true)),[(.mv 8 (.t 1)),(.call 9 730 [(.t 8)]),(.un 10 .not (.t 9))]⟩,⟨none,[(.pick 11 (.t 7) (.t 10) (.k (B false))),(.mv 12 (.t 11))]⟩,⟨(some (12,false)),[(.mv 13 (.t 0)),(.mv 14 (.t 1)),(.bin 15 .lss (.t 13) (.t 14))]⟩,⟨none,[(.pick 16 (.t 12) (.k (B true)) (.t 15)),(.mv 4 (.t 16))]⟩] [4]) .ret))
theorem Am:qg prog f724 [4]=some gU:=by kernel_rfl
theorem xj:zc f724.results.toList=some [4]:=by decide +kernel
def gT:AC:=(.seq (.rgn [⟨none,[(.mv 8 (.t 1)),(.bin 9 .add (.t 8) (.k (I 1))),(.mv 6 (.t 9))]⟩] [0,1,2,6]) (.block 0 (.loop (.seq (.seq (.rgn [⟨none,[(.mv 10 (.t 6)),(.mv 11 (.t 2)),(.bin 12 .lss (.t 10) (.t 11))]⟩] [0,1,2,6,12]) (.cond (.t 12) .skip (.exit 0))) (.seq (.block 1 (.seq (.rgn [⟨none,[(.mv 15 (.t 6)),(.mv 7 (.t 15))]⟩] [0,1,2,6,7]) (.block 2 (.loop (.seq (.seq (.drw [⟨none,[(.mv 16 (.t 7)),(.mv 17 (.t 1)),(.bin 18 .gtr (.t 16) (.t 17)),(.mv 19 (.t 18))]⟩,⟨(some (19,true)),[(.mv 20 (.t 0)),(.mv 21 (.t 7)),(.ia 22 1 (.t 20) (.t 21)),(.ld 23 false 1 (.t 22)),(.mv 24 (.t 0)),(.mv 25 (.t 7)),(.bin 26 .sub (.t 25) (.k (I 1))),(.ia 27 1 (.t 24) (.t 26)),(.ld 28 false 1 (.t 27)),(.call 29 724 [(.t 23),(.t 28)])]⟩,⟨none,[(.pick 30 (.t 19) (.t 29) (.k (B false)))]⟩] [(7,12)] [0,1,2,6,7,30]) (.cond (.t 30) .skip (.exit 2))) (.seq (.block 3 (.drw [⟨none,[(.mv 33 (.t 0)),(.mv 34 (.t 7)),(.mv 35 (.t 0)),(.mv 36 (.t 7)),(.bin 37 .sub (.t 36) (.k (I 1))),(.mv 38 (.t 0)),(.mv 39 (.t 7)),(.bin 40 .sub (.t 39) (.k (I 1))),(.ia 41 1 (.t 38) (.t 40)),(.ld 42 false 1 (.t 41)),(.mv 43 (.t 0)),(.mv 44 (.t 7)),(.ia 45 1 (.t 43) (.t 44)),(.ld 46 false 1 (.t 45)),(.ia 47 1 (.t 33) (.t 34)),(.st 1 (.t 47) (.t 42)),(.ia 48 1 (.t 35) (.t 37)),(.st 1 (.t 48) (.t 46))]⟩] [(9,13)] [0,1,2,6,7])) (.rgn [⟨none,[(.mv 31 (.t 7)),(.bin 32 .sub (.t 31) (.k (I 1))),(.mv 7 (.t 32))]⟩] [0,1,2,6,7]))))))) (.rgn [⟨none,[(.mv 13 (.t 6)),(.bin 14 .add (.t 13) (.k (I 1))),(.mv 6 (.t 14))]⟩] [0,1,2,6]))))))
theorem Ak:qg prog f718 []=some gT:=by kernel_rfl
theorem xi:zc f718.results.toList=some []:=by decide +kernel
def gS:AC:=(.seq (.rgn [⟨none,[(.mv 8 (.k (B true)))]⟩] [0,1,2,3,8]) (.seq (.rgn [⟨none,[(.mv 9 (.k (B true)))]⟩] [0,1,2,3,8,9]) (.block 0 (.loop (.block 1 (.seq (.rgn [⟨none,[(.mv 19 (.t 2)),(.mv 20 (.t 1)),(.bin 21 .sub (.t 19) (.t 20)),(.mv 10 (.t 21))]⟩] [0,1,2,3,8,9,10]) (.seq (.seq (.rgn [⟨none,[(.mv 22 (.t 10)),(.bin 23 .leq (.t 22) (.k (I 12)))]⟩] [0,1,2,3,8,9,10,23]) (.cond (.t 23) (.seq (.rgn [⟨none,[(.mv 24 (.t 0)),(.mv 25 (.t 1)),(.mv 26 (.t 2)),(.call 27 718 [(.t 24),(.t 25),(.t 26)])]⟩] []) .ret) .skip)) (.seq (.seq (.rgn [⟨none,[(.mv 28 (.t 3)),(.bin 29 .eql (.t 28) (.k (I 0)))]⟩] [0,1,2,3,8,9,10,29]) (.cond (.t 29) (.seq (.rgn [⟨none,[(.mv 30 (.t 0)),(.mv 31 (.t 1)),(.mv 32 (.t 2)),(.call 33 719 [(.t 30),(.t 31),(.t 32)])]⟩] []) .ret) .skip)) (.seq (.seq (.rgn [⟨none,[(.mv 34 (.t 8)),(.un 35 .not (.t 34))]⟩] [0,1,2,3,8,9,10,35]) (.cond (.t 35) (.seq (.rgn [⟨none,[(.mv 36 (.t 0)),(.mv 37 (.t 1)),(.mv 38 (.t 2)),(.call 39 720 [(.t 36),(.t 37),(.t 38)])]⟩] [0,1,2,3,8,9,10]) (.rgn [⟨none,[(.mv 40 (.t 3)),(.bin 41 .sub (.t 40) (.k (I 1))),(.mv 3 (.t 41))]⟩] [0,1,2,3,8,9,10])) .skip)) (.seq (.rgn [⟨none,[(.mv 43 (.t 0)),(.mv 44 (.t 1)),(.mv 45 (.t 2)),(.call 46 721 [(.t 43),(.t 44),(.t 45)]),(.mv 42 (.t 46)),(.ext 47 (.t 42) 0),(.ext 48 (.t 42) 1),(.mv 11 (.t 47)),(.mv 12 (.t 48))]⟩] [0,1,2,3,8,9,10,11,12]) (.seq (.seq (.rgn [⟨none,[(.mv 49 (.t 12)),(.bin 50 .eql (.t 49) (.k (I 2)))]⟩] [0,1,2,3,8,9,10,11,12,50]) (.cond (.t 50) (.seq (.rgn [⟨none,[(.mv 51 (.t 0)),(.mv 52 (.t 1)),(.mv 53 (.t 2)),(.call 54 722 [(.t 51),(.t 52),(.t 53)])]⟩] [0,1,2,3,8,9,10,11]) (.seq (.rgn [⟨none,[(.mv 55 (.t 2)),(.bin 56 .sub (.t 55) (.k (I 1))),(.mv 57 (.t 11)),(.mv 58 (.t 1)),(.bin 59 .sub (.t 57) (.t 58)),(.bin 60 .sub (.t 56) (.t 59)),(.mv 11 (.t 60))]⟩] [0,1,2,3,8,9,10,11]) (.rgn [⟨none,[(.mv 12 (.k (I 1)))]⟩] [0,1,2,3,8,9,10,11,12]))) .skip)) (.seq (.seq (.rgn [⟨none,[(.mv 61 (.t 8)),(.mv 62 (.t 61))]⟩,⟨(some (62,true)),[(.mv 63 (.t 9))]⟩,⟨none,[(.pick 64 (.t 62) (.t 63) (.k (B false))),(.mv 65 (.t 64))]⟩,⟨(some (65,true)),[(.mv 66 (.t 12)),(.bin 67 .eql (.t 66) (.k (I 1)))]⟩,⟨none,[(.pick 68 (.t 65) (.t 67) (.k (B false)))]⟩] [0,1,2,3,8,9,10,11,68]) (.cond (.t 68) (.seq (.rgn [⟨none,[(.mv 69 (.t 0)),(.mv 70 (.t 1)),(.mv 71 (.t 2)),(.call 72 723 [(.t 69),(.t 70),(.t 71)])]⟩] [0,1,2,3,8,9,10,11,72]) (.cond (.t 72) .ret .skip)) .skip)) (.seq (.seq (.drw [⟨none,[(.mv 73 (.t 1)),(.bin 74 .gtr (.t 73) (.k (I 0))),(.mv 75 (.t 74))]⟩,⟨(some (75,true)),[(.mv 76 (.t 0)),(.mv 77 (.t 1)),(.bin 78 .sub (.t 77) (.k (I 1))),(.ia 79 1 (.t 76) (.t 78)),(.ld 80 false 1 (.t 79)),(.mv 81 (.t 0)),(.mv 82 (.t 11)),(.ia 83 1 (.t 81) (.t 82)),(.ld 84 false 1 (.t 83)),(.call 85 724 [(.t 80),(.t 84)]),(.un 86 .not (.t 85))]⟩,⟨none,[(.pick 87 (.t 75) (.t 86) (.k (B false)))]⟩] [(7,11)] [0,1,2,3,8,9,10,11,87]) (.cond (.t 87) (.seq (.rgn [⟨none,[(.mv 88 (.t 0)),(.mv 89 (.t 1)),(.mv 90 (.t 2)),(.mv 91 (.t 11)),(.call 92 725 [(.t 88),(.t 89),(.t 90),(.t 91)]),(.mv 13 (.t 92))]⟩] [0,2,3,8,9,13]) (.seq (.rgn [⟨none,[(.mv 93 (.t 13)),(.mv 1 (.t 93))]⟩] [0,1,2,3,8,9]) (.exit 1))) .skip)) (.seq (.rgn [⟨none,[(.mv 95 (.t 0)),(.mv 96 (.t 1)),(.mv 97 (.t 2)),(.mv 98 (.t 11)),(.call 99 726 [(.t 95),(.t 96),(.t 97),(.t 98)]),(.mv 94 (.t 99)),(.ext 100 (.t 94) 0),(.ext 101 (.t 94) 1),(.mv 14 (.t 100)),(.mv 15 (.t 101))]⟩] [0,1,2,3,10,14,15]) (.seq (.rgn [⟨none,[(.mv 102 (.t 15)),(.mv 9 (.t 102))]⟩] [0,1,2,3,9,10,14]) (.seq (.rgn [⟨none,[(.mv 103 (.t 14)),(.mv 104 (.t 1)),(.bin 105 .sub (.t 103) (.t 104)),(.mv 106 (.t 2)),(.mv 107 (.t 14)),(.bin 108 .sub (.t 106) (.t 107)),(.mv 16 (.t 105)),(.mv 17 (.t 108))]⟩] [0,1,2,3,9,10,14,16,17]) (.seq (.rgn [⟨none,[(.mv 109 (.t 10)),(.bin 110 .quo (.t 109) (.k (I 8))),(.mv 18 (.t 110))]⟩] [0,1,2,3,9,14,16,17,18]) (.seq (.rgn [⟨none,[(.mv 111 (.t 16)),(.mv 112 (.t 17)),(.bin 113 .lss (.t 111) (.t 112))]⟩] [0,1,2,3,9,14,16,17,18,113]) (.cond (.t 113) (.seq (.rgn [⟨none,[(.mv 114 (.t 16)),(.mv 115 (.t 18)),(.bin 116 .geq (.t 114) (.t 115)),(.mv 8 (.t 116))]⟩] [0,1,2,3,8,9,14]) (.seq (.rgn [⟨none,[(.mv 117 (.t 0)),(.mv 118 (.t 1)),(.mv 119 (.t 14)),(.mv 120 (.t 3)),(.call 121 716 [(.t 117),(.t 118),(.t 119),(.t 120)])]⟩] [0,2,3,8,9,14]) (.rgn [⟨none,[(.mv 122 (.t 14)),(.bin 123 .add (.t 122) (.k (I 1))),(.mv 1 (.t 123))]⟩] [0,1,2,3,8,9]))) (.seq (.rgn [⟨none,[(.mv 124 (.t 17)),(.mv 125 (.t 18)),(.bin 126 .geq (.t 124) (.t 125)),(.mv 8 (.t 126))]⟩] [0,1,2,3,8,9,14]) (.seq (.rgn [⟨none,[(.mv 127 (.t 0)),(.mv 128 (.t 14)),(.bin 129 .add (.t 128) (.k (I 1))),(.mv 130 (.t 2)),(.mv 131 (.t 3)),(.call 132 716 [(.t 127),(.t 129),(.t 130),(.t 131)])]⟩] [0,1,3,8,9,14]) (.rgn [⟨none,[(.mv 133 (.t 14)),(.mv 2 (.t 133))]⟩] [0,1,2,3,8,9]))))))))))))))))))))))
theorem Aj:qg prog f716 []=some gS:=by kernel_rfl
theorem xh:zc f716.results.toList=some []:=by decide +kernel
def cW (l:List Nat):List AV:=l.map fun n=>W64 n
def gN (l:List Nat) (i:Nat):Nat:=l.getD i 0
theorem MW {l}:(cW l).length=l.length:=by simp [cW]
theorem eY {l:List Nat} {i:Nat} (h:i<l.length):Pu (cW l) i=some (W64 (gN l i)):=by rw [Jf,gN,cW,qnn,Wd h,qmp,Wd h];rfl
theorem bt {l:List Nat} {i v:Nat} (h:i<l.length):(cW l).take i++W64 v::(cW l).drop (i+1)=cW (l.set i v):=by
 have:(cW l).set i (W64 v)=cW (l.set i v):=by refine qm4 (by simp [cW]) fun k u j=>?_;simp only [cW,qnU,qmv];split <;> rfl
 rw [<-this,qni,if_pos (by rw [MW];exact h)]
def swN (l:List Nat) (i j:Nat):List Nat:=(l.set i (gN l j)).set j (gN l i)
theorem UD {j:Nat} (h:i<l.length) (v:j<l.length):(swN l i j).Perm l:=by
 unfold swN gN;rw [List.perm_iff_count];intro x;have g:l.getD i 0=l[i]:=by rw [qmp,Wd h];rfl
 have z:l.getD j 0=l[j]:=by rw [qmp,Wd v];rfl
 rw [g,z];have m:=qpn.2 (qmr h);have M:=qpn.2 (qmr v);by_cases e:i=j
 . subst e;rw [List.set_set,qn0]
 rw [List.count_set (by simpa using v),List.count_set h,qnr e];by_cases E:l[i]=x <;> by_cases u:l[j]=x
 . subst E;simp only [u,qoE,qmA];omega
 . subst E;have:(l[j]==l[i])=false:=by rw [qnm];exact u
   simp only [qoE,qmA,this,qmM,qnc];omega
 . subst u;have:(l[i]==l[j])=false:=by rw [qnm];exact E
   simp only [qoE,qmA,this,qmM,qnc];omega
 have y:(l[i]==x)=false:=by rw [qnm];exact E
 have o:(l[j]==x)=false:=by rw [qnm];exact u
 simp only [y,o,qmM,qnc];omega
structure Sw (hp:List HObj) (id:Nat) (l:List Nat) (H:List HObj) (Q:List Nat):Prop where
 len:hp.length<=H.length
 oth:∀ j,j<hp.length->j≠id->qu H j=qu hp j
 at':qu H id=some (.cells (cW Q))
 perm:Q.Perm l
theorem Sw.refl {y id l} (h:qu y id=some (.cells (cW l))):Sw y id l y l:=⟨Qs _,fun _ _ _=>rfl,h,.refl _⟩
theorem Sw.qlen {y id l H Q} (h:Sw y id l H Q):Q.length=l.length:=h.perm.length_eq
theorem mg {l:List Nat} {i j:Nat} {v:Nat} (h:j<l.length):(cW (l.set i v)).take j++W64 (gN l i)::(cW (l.set i v)).drop (j+1)=cW ((l.set i v).set j (gN l i)):=bt (by simpa using h)
theorem Sw.swap {q id l H Q} (h:Sw q id l H Q) {i j:Nat} (O:i<l.length) (X:j<l.length):Sw q id l (H.set id (.cells (cW ((Q.set i (gN Q j)).set j (gN Q i))))) (swN Q i j):=by have lt:=qw h.at';have K:=h.qlen;exact ⟨by simp only [qnp];exact h.len,fun k e y=>by rw [qq (qmG y),h.oth k e y],qD lt,(UD (by omega) (by omega)).trans h.perm⟩
theorem ie (h:i<l.length):gN l i=l[i]:=by unfold gN;rw [qmp,Wd h];rfl
theorem bH {j:Nat} {v:Nat} (h:i<l.length):gN (l.set i v) j=if j=i then v else gN l j:=by
 unfold gN;rw [qmp,qoS];by_cases e:i=j
 . subst e;rw [if_pos rfl,if_pos rfl,if_pos h];rfl
 rw [if_neg e,if_neg (fun h=>e h.symm),<-qmp]
theorem LS (h:k+1<Q.length):List.Perm ((Q.set (k+1) (gN Q k)).set k (gN Q (k+1))) Q:=UD h (by omega)
structure InsN (R Q:List Nat) (i k:Nat):Prop where
 perm:List.Perm Q R
 srt:∀ j m,j<m->m<=i->j≠k->m≠k->(gN Q j)<=(gN Q m)
 rest:∀ m,k<m->m<=i->(gN Q k)<=(gN Q m)
theorem InsN.swap {i:Nat} (h:InsN R Q i (k+1)) (hk:k+1<=i) (hi:i<R.length) (K:(gN Q (k+1))<(gN Q k)):InsN R ((Q.set (k+1) (gN Q k)).set k (gN Q (k+1))) i k:=by
 have hl:=h.perm.length_eq;have g:∀ j,gN ((Q.set (k+1) (gN Q k)).set k (gN Q (k+1))) j=if j=k then gN Q (k+1) else if j=k+1 then gN Q k else gN Q j:=fun j=>by rw [bH (by simp;omega),bH (by omega)]
 refine ⟨(LS (by omega)).trans h.perm,fun j m q A O X=>?_,fun m q A=>?_⟩
 . rw [g,g,if_neg O,if_neg X];by_cases y:j=k+1
   . rw [if_pos y,if_neg (by omega)];exact h.srt k m (by omega) A (by omega) (by omega)
   rw [if_neg y];by_cases e:m=k+1
   . rw [if_pos e];exact h.srt j k (by omega) (by omega) (by omega) (by omega)
   rw [if_neg e];exact h.srt j m q A y e
 rw [g,g,if_pos rfl,if_neg (by omega)];by_cases e:m=k+1
 . rw [if_pos e];omega
 rw [if_neg e];exact h.rest m (by omega) A
theorem InsN.stop {i:Nat} (h:InsN R Q i k) (hk:k<=i) (hi:i<R.length) (q:k=0\/¬ (gN Q k)<(gN Q (k - 1))):InsN R Q (i+1) (i+1):=by
 have y:∀ j,j<k->(gN Q j)<=(gN Q k):=fun j hj=>by
  rcases q with q | q
  . omega
  by_cases e:j=k - 1
  . rw [e];omega
  have:=h.srt j (k - 1) (by omega) (by omega) (by omega) (by omega);omega
 refine ⟨h.perm,fun j m A K a3 a4=>?_,fun m A K=>by omega⟩;by_cases O:j=k
 . rw [O];exact h.rest m (by omega) (by omega)
 by_cases X:m=k
 . rw [X];exact y j (by omega)
 exact h.srt j m A (by omega) O X
theorem InsN.one :InsN R R 1 1:=⟨List.Perm.refl _,fun j m A y q e=>by omega,fun m A y=>by omega⟩
def cq (R Q:List Nat):Prop:=List.Perm Q R/\Q.Pairwise fun a b=>a<=b
theorem InsN.fin {Q:List Nat} (h:InsN R Q i i) (e:R.length<=i):cq R Q:=by refine ⟨h.perm,?_⟩;rw [List.pairwise_iff_getElem];intro j m q hm y;have O:=h.perm.length_eq;have:=h.srt j m y (by omega) (by omega) (by omega);rw [ie q,ie hm] at this;exact this
theorem InsN.fin' {i:Nat} (h:InsN R Q i i) (y:R.length<=i) (_:0<=i):cq R Q:=h.fin y
theorem iC (x:Nat):qx prog 730 [W64 x] (B false):=by refine qM (QF func730 An xk (by show 1<=_;decide) ?_);simp -implicitDefEqProofs (disch:=omega)[gV,qb]
theorem qiz (x y:Nat):qx prog 724 [W64 x,W64 y] (B (decide (x<y))):=by refine qM (QF func724 Am xj (by show 2<=_;decide) ?_);simp -implicitDefEqProofs (disch:=omega)[gU,qb];refine qh rfl (iC x) ?_;simp -implicitDefEqProofs (disch:=omega)[qb]
set_option maxHeartbeats 4000000 in
theorem iB {p:List HObj} {id a b n:Nat} {l:List Nat} {K:AV->List HObj->Prop} (V:qu p id=some (.cells (cW l))) (X:n=l.length) (hl:l.length<=5000) (T:a=0) (hb:b=n)
 (R:∀ H Q,Sw p id l H Q->cq l Q->K (.tup []) H):qB prog 718 [.ms id 0 n 1,I (a:Int),I (b:Int)] p K:=by
 subst X;refine QF func718 Ak xi (by show 3<=_;decide) ?_;simp -implicitDefEqProofs (disch:=omega)[gT,qb]
 refine qL (fun q:Nat×List HObj×List Nat=>⟨[(0,.ms id 0 l.length 1),(1,I (a:Int)),(2,I (b:Int)),(6,I (q.1:Int))],q.2.1⟩)
  (fun q=>a+1<=q.1/\q.1<=max (a+1) b/\Sw p id l q.2.1 q.2.2/\InsN l q.2.2 q.1 q.1) (fun q=>max (a+1) b - q.1) (a+1,p,l) ⟨Qs _,by simp only;omega,.refl V,by subst T;exact .one⟩ (by simp) ?_
 rintro ⟨i,w,N⟩ ⟨c0,C,c2,c3⟩;simp only at c0 C c2 c3 ⊢;refine QJ fun K0 h=>?_;simp -implicitDefEqProofs (disch:=omega)[qb];refine qA (fun c=>?_) (fun c=>?_)
 . have y:i<b:=by simpa using c
   have g:((i:Int)+1)=((i+1:Nat):Int):=by omega
   simp -implicitDefEqProofs (disch:=omega)[qb]
   refine qL (fun q:Nat×List HObj×List Nat=>⟨[(0,.ms id 0 l.length 1),(1,I (a:Int)),(2,I (b:Int)),(6,I (i:Int)),(7,I (q.1:Int))],q.2.1⟩)
    (fun q=>a<=q.1/\q.1<=i/\Sw p id l q.2.1 q.2.2/\InsN l q.2.2 i q.1) (fun q=>q.1) (i,w,N) ⟨by simp only;omega,Qs _,c2,c3⟩ rfl ?_
   clear c2 c3;rintro ⟨k,z,Q⟩ ⟨O,P,d,D⟩;simp only at O P d D ⊢;have L:=d.qlen;refine QJ fun K1 u=>?_;by_cases hk:a<k
   . obtain ⟨k,rfl⟩:∃ Y,k=Y+1:=⟨k - 1,by omega⟩;have x:(((k+1:Nat):Int) - 1)=(k:Int):=by omega
     obtain ⟨m,hm⟩:∃ m:Int,((k+1:Nat):Int)=m:=⟨_,rfl⟩;rw [hm] at x;have f:m.toNat=k+1:=by omega
     have M:((a:Int)<m)=True:=by simp only [qoQ,iff_true];omega
     have t:m<l.length:=by omega
     have r:k<l.length:=by omega
     have E:=eY (l:=Q) (i:=k+1) (by omega);have e:=eY (l:=Q) (i:=k) (by omega);have s:=qw d.at';simp only [hm];simp -implicitDefEqProofs (disch:=omega)[qb,M,d.at',f,x,E,e,t,r,MW,L];have A:∀ o,qu (z.set id o) id=some o:=fun o=>qD s;have Z:=bt (l:=Q) (i:=k+1) (v:=gN Q k) (by omega);have J:=mg (l:=Q) (i:=k+1) (j:=k) (v:=gN Q k) (by omega);have sw:=d.swap (i:=k+1) (j:=k) (by omega) (by omega);refine ⟨by omega,qZ rfl (qiz _ _) ?_⟩;cases hf:decide (gN Q (k+1)<gN Q k) with
     | true =>simp -implicitDefEqProofs (disch:=omega)[qb,Xg,YG,d.at',f,x,E,e,t,r,MW,L,s,A,Z,J];refine ⟨by omega,by omega,by omega,?_⟩;rw [u];exact qI (k,_,_) ⟨by simp only;omega,by simp only;omega,sw,D.swap (by omega) (by omega) (by simpa using hf)⟩ (by simp only;omega) (by simp only)
     | false =>subst u;simp -implicitDefEqProofs (disch:=omega)[qb,Xg,YG];rw [h];refine qI (i+1,z,Q) ⟨by simp only;omega,by simp only;omega,d,D.stop (by omega) (by omega) (.inr (by simpa using hf))⟩ (by simp only;omega) (by simp only [g])
   have M:((a:Int)<(k:Int))=False:=by simp only [qoQ,iff_false];omega
   subst u;simp -implicitDefEqProofs (disch:=omega)[qb,M,Xg,YG];rw [h];refine qI (i+1,z,Q) ⟨by simp only;omega,by simp only;omega,d,D.stop (by omega) (by omega) (.inl (by omega))⟩ (by simp only;omega) (by simp only [g])
 subst h;simp -implicitDefEqProofs (disch:=omega)[qb];have y:l.length<=i:=by simp at c;omega
 exact R _ _ c2 (c3.fin' y (by omega))
end Go.AM

set_option maxRecDepth 100000
namespace Go.AM
open Go.RowKit Go.Proofs Go.Proofs.Tryz
variable {n:Nat}
theorem Tk {P:Program} {F:Nat->AV} {p:List HObj} {K:AV->List (Nat×HObj)->Prop} {d:Nat} {x i:Opd} {s:ByteArray} {k:IntKind} {j:Nat} {b:UInt8} (z:evF F x = .v (.string s)) (v:evF F i = .v (.int k (j:Int))) (u:s[j]?=some b) (h:K (.v (.int .u8 b.toNat)) []):(AOp.ids d x i).wp P F p K:=by refine ⟨_,[],?_,h⟩;simp only [AOp.sem,z,v];exact ⟨by omega,⟨b,by simpa using u,rfl⟩,trivial⟩
def lenT:ByteArray:=⟨#[0,1,2,2,3,3,3,3,4,4,4,4,4,4,4,4,5,5,5,5,5,5,5,5,5,5,5,5,5,5,5,5,6,6,6,6,6,6,6,6,6,6,6,6,6,6,6,6,6,6,6,6,6,6,6,6,6,6,6,6,6,6,6,6,7,7,7,7,7,7,7,7,7,7,7,7,7,7,7,7,7,7,7,7,7,7,7,7,7,7,7,7,7,7,7,7,7,7,7,7,7,7,7,7,7,7,7,7,7,7,7,7,7,7,7,7,7,7,7,7,7,7,7,7,7,7,7,7,8,8,8,8,8,8,8,8,8,8,8,8,8,8,8,8,8,8,8,8,8,8,8,8,8,8,8,8,8,8,8,8,8,8,8,8,8,8,8,8,8,8,8,8,8,8,8,8,8,8,8,8,8,8,8,8,8,8,8,8,8,8,8,8,8,8,8,8,8,8,8,8,8,8,8,8,8,8,8,8,8,8,8,8,8,8,8,8,8,8,8,8,8,8,8,8,8,8,8,8,8,8,8,8,8,8,8,8,8,8,8,8,8,8,8,8,8,8,8,8,8,8,8,8,8,8,8,8]⟩
theorem DQ:lenT.size=256:=by decide +kernel
theorem MI (S:ByteArray) (n:Nat) (h:n<S.size):S.data[n]?.getD 0=S[n]:=by have u:n<S.data.size:=h;rw [qmW u];rfl
def Lm (n:Nat):Nat:=(lenT.data[n]?.getD 0).toNat
theorem vj:(List.range 256).all (fun n=>decide (Lm n<=8)&&(decide (n=0) || decide (2 ^ Lm n<=2*n))&&decide (n<2 ^ Lm n))=true:=by decide +kernel
theorem Bj (h:n<256):Lm n<=8/\(0<n->2 ^ Lm n<=2*n)/\n<2 ^ Lm n:=by have:=LL.1 vj n (qmO.2 h);simp only [qd,qm2,qmE] at this;exact ⟨this.1.1,fun u=>by rcases this.1.2 with h | h <;> omega,this.2⟩
def uR (n:Nat):Nat:=if n<256 then Lm n else Lm (n / 256)+8
theorem Ic (h:n<256):IntKind.u8.wrap (n:Int)=n:=by simp [IntKind.wrap,IntKind.bits,IntKind.signed];omega
theorem Tl (h:n<1000000):IntKind.u64.wrap (n:Int)=n:=by simp [IntKind.wrap,IntKind.bits,IntKind.signed];omega
def Mk:AC:=(.seq (.rgn [⟨none,[(.mv 2 (.k (I 0)))]⟩] [0,2]) (.seq (.seq (.rgn [⟨none,[(.mv 3 (.t 0)),(.bin 4 .geq (.t 3) (.k (.v (.int .u64 4294967296))))]⟩] [0,2,4]) (.cond (.t 4) (.seq (.rgn [⟨none,[(.mv 5 (.t 0)),(.bin 6 .shr (.t 5) (.k (.v (.int .u64 32)))),(.mv 0 (.t 6))]⟩] [0]) (.rgn [⟨none,[(.mv 2 (.k (I 32)))]⟩] [0,2])) .skip)) (.seq (.seq (.rgn [⟨none,[(.mv 7 (.t 0)),(.bin 8 .geq (.t 7) (.k (.v (.int .u64 65536))))]⟩] [0,2,8]) (.cond (.t 8) (.seq (.rgn [⟨none,[(.mv 9 (.t 0)),(.bin 10 .shr (.t 9) (.k (.v (.int .u64 16)))),(.mv 0 (.t 10))]⟩] [0,2]) (.rgn [⟨none,[(.mv 11 (.t 2)),(.bin 12 .add (.t 11) (.k (I 16))),(.mv 2 (.t 12))]⟩] [0,2])) .skip)) (.seq (.seq (.rgn [⟨none,[(.mv 13 (.t 0)),(.bin 14 .geq (.t 13) (.k (.v (.int .u64 256))))]⟩] [0,2,14]) (.cond (.t 14) (.seq (.rgn [⟨none,[(.mv 15 (.t 0)),(.bin 16 .shr (.t 15) (.k (.v (.int .u64 8)))),(.mv 0 (.t 16))]⟩] [0,2]) (.rgn [⟨none,[(.mv 17 (.t 2)),(.bin 18 .add (.t 17) (.k (I 8))),(.mv 2 (.t 18))]⟩] [0,2])) .skip)) (.seq (.rgn [⟨none,[(.mv 19 (.t 2)),(.mv 20 (.t 0)),(.cnv 21 .u8 (.t 20)),(.ids 22 (.k (.v (.string lenT))) (.t 21)),(.cnv 23 .i64 (.t 22)),(.bin 24 .add (.t 19) (.t 23)),(.mv 2 (.t 24))]⟩] [2]) .ret)))))
theorem Ab:qg prog f260 [2]=some Mk:=by kernel_rfl
theorem vY:zc f260.results.toList=some [2]:=by decide +kernel
def gJ:AC:=(.seq (.rgn [⟨none,[(.mv 2 (.k (I 0)))]⟩] [0]) (.seq (.cond (.k (B false)) (.seq (.rgn [⟨none,[(.mv 3 (.t 0)),(.cnv 4 .u32 (.t 3)),(.call 5 259 [(.t 4)]),(.mv 2 (.t 5))]⟩] [2]) .ret) .skip) (.seq (.rgn [⟨none,[(.mv 6 (.t 0)),(.call 7 260 [(.t 6)]),(.mv 2 (.t 7))]⟩] [2]) .ret)))
theorem Aa:qg prog f194 [2]=some gJ:=by kernel_rfl
theorem vX:zc f194.results.toList=some [2]:=by decide +kernel
def gQ:AC:=(.seq (.rgn [⟨none,[(.mv 3 (.t 0)),(.len 4 (.t 3)),(.mv 2 (.t 4))]⟩] [0,2]) (.rgn [⟨none,[(.mv 5 (.t 0)),(.mv 6 (.t 2)),(.mv 7 (.t 2)),(.cnv 8 .u64 (.t 7)),(.call 9 194 [(.t 8)]),(.call 10 716 [(.t 5),(.k (I 0)),(.t 6),(.t 9)])]⟩] []))
theorem Ag:qg prog f710 []=some gQ:=by kernel_rfl
theorem xd:zc f710.results.toList=some []:=by decide +kernel
set_option maxRecDepth 100000 in
theorem Tx (n:Nat) (o:n<65536):qx prog 260 [W64 n] (I (uR n:Nat)):=by
 have c:((4294967296:Int)<=(n:Int))=False:=by simp only [qoQ,iff_false];omega
 have c2:((65536:Int)<=(n:Int))=False:=by simp only [qoQ,iff_false];omega
 refine qM (QF func260 Ab vY (by show 1<=_;decide) ?_);by_cases h:n<256
 . have c3:((256:Int)<=(n:Int))=False:=by simp only [qoQ,iff_false];omega
   have c4:IntKind.u8.wrap (n:Int)=n:=Ic h;have u:n<lenT.size:=by rw [DQ];exact h
   have e:lenT[n]=lenT.data[n]?.getD 0:=(MI lenT n u).symm;have L:uR n=Lm n:=by unfold uR;rw [if_pos h]
   have l:=(Bj h).1;rw [L];generalize v:((Lm n:Nat):Int)=r;have y:0<=r/\r<=8:=by omega
   simp -implicitDefEqProofs (disch:=omega)[Mk,qb,c,c2,c3,c4];refine Tk (s:=lenT) (j:=n) (b:=lenT[n]) (k := .u8) rfl rfl (getElem?_pos lenT n u) ?_;have E:((lenT[n]).toNat:Int)=r:=by rw [e,<-v];rfl
   rw [E];simp -implicitDefEqProofs (disch:=omega)[qb]
 have c3:((256:Int)<=(n:Int))=True:=by simp only [qoQ,iff_true];omega
 have q:n / 256<256:=by omega
 have c4:IntKind.u8.wrap ((n / 256:Nat):Int)=(n / 256:Nat):=Ic q;have c5:IntKind.u64.wrap ((n / 256:Nat):Int)=(n / 256:Nat):=Tl (by omega);have u:n / 256<lenT.size:=by rw [DQ];exact q
 have L:uR n=Lm (n / 256)+8:=by unfold uR;rw [if_neg h]
 have l:=(Bj q).1;have f:((n:Int)).fdiv (2 ^ min 8 IntKind.u64.bits)=((n / 256:Nat):Int):=by rw [show (2:Int) ^ min 8 IntKind.u64.bits=256 from rfl,Int.fdiv_eq_ediv_of_nonneg _ (by omega)];rfl
 rw [L];obtain ⟨r,v⟩:∃ r:Int,((Lm (n / 256):Nat):Int)=r:=⟨_,rfl⟩;have y:0<=r/\r<=8:=by omega
 have R:((Lm (n / 256)+8:Nat):Int)=8+r:=by omega
 rw [R];obtain ⟨x,z⟩:∃ x,n / 256=x:=⟨_,rfl⟩;rw [z] at q c4 c5 u f v;simp -implicitDefEqProofs (disch:=omega)[Mk,qb,c,c2,c3,c4,c5,f];refine Tk (s:=lenT) (j:=x) (b:=lenT[x]'u) (k := .u8) rfl rfl (getElem?_pos lenT x u) ?_;have E:((lenT[x]'u).toNat:Int)=r:=by have e:=MI lenT x u;rw [<-v,<-e];rfl
 rw [E];simp -implicitDefEqProofs (disch:=omega)[qb]
theorem IM (n:Nat) (h:n<65536):qx prog 194 [W64 n] (I (uR n:Nat)):=by refine qM (QF func194 Aa vX (by show 1<=_;decide) ?_);simp -implicitDefEqProofs (disch:=omega)[gJ,qb];refine qh rfl (Tx n h) ?_;simp -implicitDefEqProofs (disch:=omega)[qb]
set_option maxHeartbeats 4000000 in
theorem su {h:List HObj} {id:Nat} {lim:Nat} {l:List Nat} {K:AV->List HObj->Prop} (d:qu h id=some (.cells (cW l))) (z:n=l.length) (v:l.length<=12)
 (j:∀ H Q,Sw h id l H Q->cq l Q->K (.tup []) H):qB prog 716 [.ms id 0 n 1,I 0,I (n:Int),I (lim:Int)] h K:=by
 subst z;refine QF func716 Aj xh (by show 4<=_;decide) ?_;simp -implicitDefEqProofs (disch:=omega)[gS,qb];refine qL (fun q:Unit=>⟨[(0,.ms id 0 l.length 1),(1,I 0),(2,I (l.length:Int)),(3,I (lim:Int)),(8,B true),(9,B true)],h⟩) (fun q=>True) (fun q=>0) () trivial (by simp) ?_;rintro ⟨⟩ _;refine QJ fun o u=>?_;have e:((l.length:Int)<=12)=True:=by simp only [qoQ,iff_true];omega
 simp -implicitDefEqProofs (disch:=omega)[qb,e];refine iB d rfl (by omega) rfl rfl fun y g s t=>?_;subst u;simp -implicitDefEqProofs (disch:=omega)[qb];exact j _ _ s t
set_option maxHeartbeats 2000000 in
theorem tN {p:List HObj} {id:Nat} {l:List Nat} {K:AV->List HObj->Prop} (d:qu p id=some (.cells (cW l))) (v:n=l.length) (j:0<n) (h:l.length<=12)
 (u:∀ H Q,Sw p id l H Q->cq l Q->K (.tup []) H):qB prog 710 [.ms id 0 n 1] p K:=by
 have c:IntKind.u64.wrap (n:Int)=n:=Tl (by omega);refine QF func710 Ag xd (by show 1<=_;decide) ?_;simp -implicitDefEqProofs (disch:=omega)[gQ,qb,c];refine qh rfl (IM n (by omega)) ?_;simp -implicitDefEqProofs (disch:=omega)[qb];refine su (lim:=uR n) d v h fun H Q s t=>?_;simp -implicitDefEqProofs (disch:=omega)[qb];exact u _ _ s t
end Go.AM

set_option maxRecDepth 100000
namespace Go.AM
open Go.RowKit Go.Proofs Go.Proofs.Tryz
variable {K:AV->List HObj->Prop} {p:List HObj} {c:Nat}
def Ml:AC:=(.seq (.rgn [⟨none,[(.ld 4 false 1 (.t 1)),(.rng 5 (.t 4))]⟩] [0,5]) (.block 0 (.loop (.seq (.rgn [⟨none,[(.nxt 6 (.t 5)),(.ext 7 (.t 6) 0)]⟩] [0,5,7]) (.seq (.cond (.t 7) .skip (.exit 0)) (.block 1 (.seq (.rgn [⟨none,[(.ent 8 (.t 5)),(.ext 9 (.t 8) 0),(.mv 3 (.t 9))]⟩] [0,3,5]) (.seq (.rgn [⟨none,[(.mv 10 (.t 0)),(.mv 11 (.t 3)),(.callv 12 (.t 10) [(.t 11)]),(.un 13 .not (.t 12))]⟩] [0,5,13]) (.cond (.t 13) .ret .skip)))))))))
theorem Ah:qg prog f711 []=some Ml:=by kernel_rfl
theorem xe:zc f711.results.toList=some []:=by decide +kernel
def gR:AC:=(.seq (.rgn [⟨none,[(.box 2 1 (.t 0)),(.mv 4 (.k (.sl true 0 [])))]⟩] [1,2,4]) (.seq (.seq (.rgn [⟨none,[(.mv 6 (.t 1))]⟩] [2,4,6]) (.block 0 (.rf (.t 6) [7] (.rgn [⟨none,[(.mv 5 (.t 7))]⟩] [2,5]) (.block 1 (.rgn [⟨none,[(.ld 8 false 1 (.t 2)),(.mv 9 (.t 5)),(.bsl 10 1 1 [(.v (.int .u64 0))] [(0,(.t 9))]),(.app 11 1 8 (.t 8) (.t 10)),(.st 1 (.t 2) (.t 11))]⟩] [])) [2]))) (.seq (.rgn [⟨none,[(.ld 12 false 1 (.t 2)),(.mv 4 (.t 12))]⟩] [4]) .ret)))
theorem Ai:qg prog f715 [4]=some gR:=by kernel_rfl
theorem xg:zc f715.results.toList=some [4]:=by decide +kernel
def gO:AC:=(.seq (.rgn [⟨none,[(.mv 2 (.k (.sl true 0 [])))]⟩] [0]) (.seq (.rgn [⟨none,[(.mv 3 (.t 0)),(.call 4 715 [(.k (.sl true 0 [])),(.t 3)]),(.mv 2 (.t 4))]⟩] [2]) .ret))
theorem Af:qg prog f709 [2]=some gO:=by kernel_rfl
theorem xc:zc f709.results.toList=some [2]:=by decide +kernel
def gM:AC:=(.seq (.rgn [⟨none,[(.mv 2 (.k (.sl true 0 [])))]⟩] [0]) (.seq (.rgn [⟨none,[(.mv 4 (.t 0)),(.call 5 709 [(.t 4)]),(.mv 3 (.t 5))]⟩] [3]) (.seq (.rgn [⟨none,[(.mv 6 (.t 3)),(.call 7 710 [(.t 6)])]⟩] [3]) (.seq (.rgn [⟨none,[(.mv 8 (.t 3)),(.mv 2 (.t 8))]⟩] [2]) .ret))))
theorem Ae:qg prog f693 [2]=some gM:=by kernel_rfl
theorem xb:zc f693.results.toList=some [2]:=by decide +kernel
def Agr (h H:List HObj):Prop:=h.length<=H.length/\∀ j,j<h.length->qu H j=qu h j
theorem Agr.refl (y:List HObj):Agr y y:=⟨Qs _,fun _ _=>rfl⟩
theorem Agr.app {hp H:List HObj} {o:HObj} (h:Agr hp H):Agr hp (H++[o]):=⟨by have:=h.1;simp;omega,fun j y=>by have:=h.1;rw [qn,qmw (by omega),<-qn];exact h.2 j y⟩
theorem Agr.get {q H:List HObj} {j:Nat} {o:HObj} (h:Agr q H) (y:qu q j=some o):qu H j=some o:=(h.2 j (qw y)).trans y
theorem iR {r f:List (Nat×AV)} {v:List HObj} (h:∀ p∈f,get r p.1=p.2):St.le ⟨r,v⟩ ⟨f,v⟩:=by
 intro N a w g ⟨j,z,y⟩;refine ⟨g,⟨j,fun t=>?_,y⟩,.refl _ _ _⟩
 have k:∀ (l:List (Nat×AV)),(∀ p∈l,get r p.1=p.2)->get l t=get r t\/get l t = .any:=by
  intro l
  induction l with
  | nil=>exact fun _ => .inr rfl
  | cons p l i =>
    intro u;simp only [get];by_cases e:p.1=t
    . rw [if_pos e];left;rw [<-e];exact (u p (by simp)).symm
    rw [if_neg e];exact i fun q o=>u q (by simp [o])
 rcases k f h with e | e
 . show Rep w g false (get f t) _;rw [e];exact z t
 show Rep w g false (get f t) _;rw [e];exact .any _ _
theorem XQ {α:Type} {I:α->St} {C:α->Prop} {μ:α->Nat} {a:α} {r f:List (Nat×AV)} {u:List HObj} (A:α) (h:C A) (m:μ A<μ a) (v:I A=⟨f,u⟩) (s:∀ p∈f,get r p.1=p.2):Next I C μ a ⟨r,u⟩ :=
 ⟨A,h,m,by rw [v];exact iR s⟩
theorem KZ {h l:List HObj} {i:Nat}:qu (h++l) (h.length+i)=qu l i:=by rw [qn,qmy (by omega),qn];congr 1;omega
theorem PA {α:Type}:∀ {l L:List α},l.Nodup->L.Nodup->(∀ a,a∈l↔a∈L)->l.Perm L
 | [],L,_,_,h=>by
   have:L=[]:=List.eq_nil_iff_forall_not_mem.2 fun a j=>by have:=(h a).2 j;cases this
   rw [this]
 | x::l,L,z,y,h=>by
   obtain ⟨A,B,rfl⟩:=qnX ((h x).1 (by simp));rw [qm7] at z;have v:(x::(A++B)).Nodup:=(qoY).nodup_iff.1 y;rw [qm7] at v
   have:l.Perm (A++B):=PA z.2 v.2 fun a=>by
    have:=h a;simp only [sg,xm] at this ⊢;constructor
    . intro j;rcases this.1 (.inr j) with u | u | u
      . exact .inl u
      . subst u;exact absurd j z.1
      exact .inr u
    intro j;rcases this.2 (by rcases j with u | u <;> simp [u]) with u | u
    . subst u;exact absurd (by rcases j with u | u <;> simp [u]) v.1
    exact u
   exact (this.cons x).trans List.perm_middle.symm
structure GE where
 key:Nat
 born:Nat
 v:AV
def bQ (k:Nat):Value := .int .u64 (k:Int)
def TW (e:GE):Value×Nat×AV:=(bQ e.key,e.born,e.v)
def mpG (E:List GE) (clk:Nat):HObj := .mp (E.map TW) clk
structure GrH (hp:List HObj) (m:Nat) (E:List GE) (clk:Nat):Prop where
 mp:qu hp m=some (mpG E clk)
 brs:E.Pairwise fun a b=>a.born≠b.born
 brn:∀ e∈E,e.born<clk
theorem GrH.mono {G y:List HObj} {m:Nat} {E:List GE} {clk:Nat} (h:GrH G m E clk) (q:qu y m=qu G m):GrH y m E clk:=⟨q.trans h.mp,h.brs,h.brn⟩
section
variable {P:Program} {F:Nat->AV} {hp:List HObj} {K:AV->List (Nat×HObj)->Prop}
theorem qkY {x:Nat} {E:List GE} (h:qu hp x=some (mpG E c)) (k:K (.ref hp.length 0) [(hp.length,.it x c [] c)]):qfv hp (.mp x) K:=by simp only [qfv,h,mpG];exact k
theorem qkS {i x:Nat} {E:List GE} {S:List Nat} (j:qu hp i=some (.it x c S c)) (L:GrH hp x E c)
 (k:(∀ q∈E,q.born∈S)->K (.tup [B false]) [])
 (z:∀ q∈E,q.born∉S->K (.tup [B true,W64 q.key,q.v]) [(i,.it x c (S++[q.born]) c)]):qgI hp (.ref i 0) K:=by
 have o:=L.mp;simp only [qgI,AOp.many,evF,GS j,GS o,mpG];refine ⟨?_,fun h=>k fun q u=>?_,fun e v s=>?_⟩
 . match E,L with
   | [],_=>simp
   | q::E,L =>have:=L.brn q (by simp);have:decide (c<=(TW q).2.1)=false:=qoo (by show ¬ c<=q.born;omega);simp only [wI,qmC,this,Bool.false_and,qoN,Bool.or_true]
 . refine qnP fun n=>?_;have hm:TW q∈(E.map TW).filter fun e => !S.contains e.2.1&&decide (e.2.1<c):=by rw [qo9];refine ⟨List.mem_map_of_mem u,?_⟩;have:=L.brn q u;simp [TW,n,this]
   rw [qpB] at h;rw [h] at hm;cases hm
 obtain ⟨q,u,rfl⟩:=gm.1 v;exact z q u (by simpa [TW] using s)
theorem bC {q:GE}:∀ {E:List GE},q∈E->(E.Pairwise fun q r=>q.born≠r.born)->(E.map TW).find? (fun e=>e.2.1==q.born)=some (TW q)
 | [],h,_=>by cases h
 | r::E,h,hp=>by
   rw [qnN] at hp;rw [wI,qo8];rcases sg.1 h with rfl | h
   . simp [TW]
   have:=hp.1 q h;have:((TW r).2.1==q.born)=false:=by simp only [TW,qnm,ne_eq];exact this
   rw [this];exact bC h hp.2
theorem FM {i x:Nat} {E:List GE} {S:List Nat} {q:GE} (u:qu hp i=some (.it x c (S++[q.born]) c)) (h:GrH hp x E c) (v:q∈E)
 (k:K (.tup [W64 q.key,q.v]) []):qgA hp (.ref i 0) K:=by
 have o:=h.mp;simp only [qgA,AOp.many,evF,GS u,GS o,mpG];refine ⟨trivial,q.born,TW q,by simp,bC v h.brs,?_⟩;exact k
end
def muE (E:List GE) (S:List Nat):Nat:=(E.filter fun e => !S.contains e.born).length
theorem wa {E:List GE} {S:List Nat} {q:GE} (h:q∈E) (s:q.born∉S):muE E (S++[q.born])<muE E S:=by
 unfold muE
 have j:∀ (l:List GE),(l.filter fun e => !(S++[q.born]).contains e.born).length<=(l.filter fun e => !S.contains e.born).length:=fun l=>by
  induction l with
  | nil=>simp
  | cons a l i =>simp only [qpA,qo7];cases u:S.contains a.born <;> cases v:[q.born].contains a.born <;> simp only [Bool.or_true,qoG,qoF,qoN,qmM,qmA,qnc,Bool.true_or,qpO,qm5] at i ⊢ <;> simp only [qo7] at i <;> omega
 induction E with
 | nil=>cases h
 | cons a E i =>
   rcases sg.1 h with rfl | h
   . have u:S.contains q.born=false:=by simpa using s
     have v:(S++[q.born]).contains q.born=true:=by simp
     simp only [qpA,u,v,qoF,qoN,qmM,qmA,qnc,qm5];have:=j E;omega
   have z:=i h;simp only [qpA,qo7] at z ⊢;cases u:S.contains a.born <;> cases v:[q.born].contains a.born <;> simp only [Bool.or_true,qoG,qoF,qoN,qmM,qmA,qnc,Bool.true_or,qpO,qm5] at z ⊢ <;> omega
theorem Gf {e q:GE}:∀ {l:List GE},(l.Pairwise fun a b=>a.born≠b.born)->e∈l->q∈l->e.born=q.born->e=q
 | [],_,h,_,_=>by cases h
 | x::l,p,o,z,u=>by
   rw [qnN] at p;rcases sg.1 o with j | y
   . rcases sg.1 z with E | v
     . rw [j,E]
     rw [j] at u;exact absurd u (p.1 q v)
   rcases sg.1 z with E | v
   . rw [E] at u;exact absurd u.symm (p.1 e y)
   exact Gf p.2 y v u
abbrev vd (c:Nat):AV := .fn (.func 711) [] [.ref c 0]
set_option maxHeartbeats 4000000 in
theorem vr {hp0:List HObj} {c m clk:Nat} {E:List GE} {H:List AV->List HObj->(AV->List HObj->Prop)->Prop} {J:List Nat->List HObj->Prop}
 (hc:qu hp0 c=some (.cells [.mp m])) (l:GrH hp0 m E clk) (A:∀ L G,J L G->Agr hp0 G) (P:J [] (p++[.lp .ready (p.length+1),.gone]))
 (C:∀ o,J [] (p++[.lp .ready (p.length+1),.gone]++[o])) (hS:∀ L G o,J L G->J L (G.set (p.length+2) o))
 (Z:∀ L (q:GE) G o,q∈E->L.length<=E.length->J L G->qu G (p.length+2)=some o->H [W64 q.key] G fun rr y=>rr=B true/\J (L++[q.key]) y/\qu y (p.length+2)=some o) :
 (E1 prog).R (vd c) p H (fun G=>∃ L:List GE,L.Perm E/\J (L.map (·.key)) G):=by
 have g:∀ {L G},J L G->GrH G m E clk:=fun {L G} h=>by have v:=A _ _ h;exact l.mono (v.2 _ (qw l.mp))
 have c0:qu (p++[.lp .ready (p.length+1),.gone]) c=some (.cells [.mp m]):=(A _ _ P).get hc;have O:∀ o,qu (p++[HObj.lp LpSt.ready (p.length+1),HObj.gone]++[o]) (p.length+2)=some o:=fun o=>by rw [qmo];exact KZ (i:=2)
 have N:(p++[HObj.lp LpSt.ready (p.length+1),HObj.gone]).length=p.length+2:=by simp
 have k:=g P;refine ⟨711,[.ref c 0],_,Ml,[],_,rfl,by kernel_rfl,func711,Ah,JV xe,by show 2<=_;decide,?_⟩;generalize Y:p++[HObj.lp LpSt.ready (p.length+1),HObj.gone]=V at *;simp -implicitDefEqProofs (disch:=omega)[Ml,qb,c0,zi,nW];refine qkY k.mp ?_;simp -implicitDefEqProofs (disch:=omega)[qb];refine qL (fun q:List GE×List HObj=>⟨[(0,.yl p.length),(5,.ref (p.length+2) 0)],q.2⟩) (fun q=>(∀ e∈q.1,e∈E)/\q.1.Nodup/\J (q.1.map (·.key)) q.2/\qu q.2 (p.length+2)=some (.it m clk (q.1.map (·.born)) clk)) (fun q=>muE E (q.1.map (·.born))) ([],V++[.it m clk [] clk]) ⟨fun e h=>(by cases h),.nil,C _,O _⟩ (by simp [N]) ?_;rintro ⟨L,G⟩ ⟨j,s,f,w⟩;simp only at j s f w ⊢;have T:=qw w;refine QJ fun K0 K=>?_;simp -implicitDefEqProofs (disch:=omega)[qb,nV];refine qkS w (g f) (fun h=>?_) (fun q t z=>?_)
 . subst K;have u:L.Perm E:=PA s (l.brs.imp fun h e=>h (by rw [e])) fun a=>⟨j a,fun v=>by have:=h a v;rw [gm] at this;obtain ⟨x,R,e⟩:=this;rw [<-Gf l.brs (j x R) v e];exact R⟩;simp -implicitDefEqProofs (disch:=omega)[qb];exact ⟨[],trivial,L,u,f⟩
 have nl:q∉L:=fun h=>z (gm.2 ⟨q,h,rfl⟩);have mu:=wa t z;have d:=hS _ _ (.it m clk (L.map (·.born)++[q.born]) clk) f;have D:qu (G.set (p.length+2) (.it m clk (L.map (·.born)++[q.born]) clk)) (p.length+2)=some (.it m clk (L.map (·.born)++[q.born]) clk):=qD T;simp -implicitDefEqProofs (disch:=omega)[qb,T,nU];generalize G.set (p.length+2) (HObj.it m clk (L.map (fun x=>x.born)++[q.born]) clk)=X at d D ⊢;refine FM D (g d) t ?_;simp -implicitDefEqProofs (disch:=omega)[qb];refine ⟨_,⟨rfl,Z _ q X _ t (by rw [qmq];exact s.length_le_of_subset j) d D⟩,?_⟩;rintro r y ⟨rfl,n,M⟩;simp -implicitDefEqProofs (disch:=omega)[qb];rw [K];refine XQ (L++[q],y) ⟨fun e he=>?_,?_,?_,?_⟩ ?_ rfl (by simp)
 . rcases xm.1 he with h | h
   . exact j e h
   rw [qnv.1 h];exact t
 . rw [qns];refine ⟨s,by simp,fun a v b Q e=>?_⟩;rw [qnv] at Q;exact nl (by rw [<-Q,<-e];exact v)
 . simp only [qmD,wI,qov];exact n
 . simp only [qmD,wI,qov];exact M
 simp only [qmD,wI,qov];exact mu
structure KyJ (hp:List HObj) (lp:HObj) (L:List Nat) (x:AV) (G:List HObj):Prop where
 len:hp.length+3<=G.length
 ag:∀ j,j<hp.length->qu G j=qu hp j
 cell:qu G hp.length=some (.cells [x])
 lpa:qu G (hp.length+1)=some lp
 acc:AccG G x 1 L.length (cW L)
 rd:∀ i,rid x=some i->hp.length+4<=i
set_option maxHeartbeats 4000000 in
theorem NO {c m clk:Nat} {E:List GE} (hc:qu p c=some (.cells [.mp m])) (hg:GrH p m E clk) (hE:E.length<=4900)
 (hK:∀ G x (L:List GE),L.Perm E->Agr p G->AccG G x 1 L.length (cW (L.map (·.key)))->(∀ i,rid x=some i->p.length<=i)->K x G):qB prog 715 [.sl true 0 [],vd c] p K:=by
 refine QF func715 Ai xg (by show 2<=_;decide) ?_;simp -implicitDefEqProofs (disch:=omega)[gR,qb];have l:(p++[HObj.cells [AV.sl true 0 []]]).length=p.length+1:=by simp
 have init:∀ t,KyJ p (.lp .ready (p.length+1+1)) [] (.sl true 0 []) (p++[HObj.cells [AV.sl true 0 []]]++[.lp .ready (p.length+1+1),.gone]++t):=fun t=>by rw [qmo,qmo];exact ⟨by simp,fun j z=>QS z,KZ (i:=0),KZ (i:=1),.inl ⟨rfl,rfl,rfl⟩,by simp [rid]⟩
 generalize p++[HObj.cells [AV.sl true 0 []]]=HB at l init ⊢
 refine sJ (K0:=fun G=>∃ L:List GE,L.Perm E/\∃ x,KyJ p (.lp .ready (p.length+1+1)) (L.map (·.key)) x G)
  (vr (hp0:=p) (c:=c) (m:=m) (clk:=clk) (E:=E) (J:=fun L G=>∃ x,KyJ p (.lp .ready (p.length+1+1)) L x G) hc hg (fun L G ⟨x,h⟩=>⟨by have:=h.len;omega,h.ag⟩) ?_ ?_ ?_ ?_) ?_
 . rw [l];have:=init [];rw [qm3] at this;exact ⟨_,this⟩
 . intro o;rw [l];exact ⟨_,init [o]⟩
 . rintro L G o ⟨x,h⟩;rw [l];have n:∀ i,i≠p.length+1+2->qu (G.set (p.length+1+2) o) i=qu G i:=fun i u=>qq (qmG u);exact ⟨x,by rw [qnp];exact h.len,fun j z=>by rw [n j (by omega)];exact h.ag j z,by rw [n _ (by omega)];exact h.cell,by rw [n _ (by omega)];exact h.lpa,h.acc.mono fun i u=>n i (by have:=h.rd i u;omega),h.rd⟩
 . rintro L q G o hq T ⟨x,h⟩ M;rw [l] at M ⊢;have lo:=qw M;have X:p.length+1<G.length:=by omega
   refine ⟨by rw [ze];exact h.lpa,rfl,?_⟩;have n:∀ i,i≠p.length+1->qu (G.set (p.length+1) (.lp .busy (p.length+1+1))) i=qu G i:=fun i u=>qq (qmG u);have V:(G.set (p.length+1) (.lp .busy (p.length+1+1))).length=G.length:=by simp
   have s:KyJ p (.lp .busy (p.length+1+1)) L x (G.set (p.length+1) (.lp .busy (p.length+1+1))):=⟨by rw [V];exact h.len,fun j z=>by rw [n j (by omega)];exact h.ag j z,by rw [n _ (by omega)];exact h.cell,qD X,h.acc.mono fun i u=>n i (by have:=h.rd i u;omega),h.rd⟩;have b:qu (G.set (p.length+1) (.lp .busy (p.length+1+1))) (p.length+1+2)=some o:=by rw [n _ (by omega)];exact M
   simp -implicitDefEqProofs (disch:=omega)[qb,putPs,ze,h.lpa,X];generalize G.set (p.length+1) (HObj.lp LpSt.busy (p.length+1+1))=v at s b V ⊢;have c8:=s.cell;simp -implicitDefEqProofs (disch:=omega)[qb,c8,zi];refine Qa (ys:=[W64 q.key]) rfl rfl ?_;simp -implicitDefEqProofs (disch:=omega)[qb,zh];refine IG (ys:=[W64 q.key]) s.acc (by omega) (by omega) rfl rfl fun w a w2 Y=>?_;rw [Ie];have l8:=qw c8;have r:∀ i,i<p.length+4->rid x≠some i:=fun i u e=>by have:=s.rd i e;omega
   have D:qu (qf v w) p.length=some (.cells [x]):=(a _ l8 (r _ (by omega))).trans c8;have k:qu (qf v w) (p.length+1)=some (.lp .busy (p.length+1+1)):=(a _ (by omega) (r _ (by omega))).trans s.lpa;have R:qu (qf v w) (p.length+1+2)=some o:=(a _ (by omega) (r _ (by omega))).trans b;have Q:∀ j,j<p.length->qu (qf v w) j=qu p j:=fun j z=>(a _ (by omega) (r _ (by omega))).trans (s.ag j z);generalize qf v w=g at D k R Q w2 Y ⊢;have d:=qw D;have f:=qw k;simp -implicitDefEqProofs (disch:=omega)[qb,D,d,Ka];have N:∀ i,i≠p.length->qu (g.set p.length (.cells [AV.ms v.length 0 (L.length+1) 1])) i=qu g i:=fun i u=>qq (qmG u);have O:(g.set p.length (.cells [AV.ms v.length 0 (L.length+1) 1])).length=g.length:=by simp
   have s8:qu (g.set p.length (.cells [AV.ms v.length 0 (L.length+1) 1])) p.length=some (.cells [AV.ms v.length 0 (L.length+1) 1]):=qD d;generalize g.set p.length (.cells [AV.ms v.length 0 (L.length+1) 1])=P at N O s8 ⊢;have C:cW L++[W64 q.key]=cW (L++[q.key]):=by simp [cW]
   have Z:(L++[q.key]).length=L.length+1:=by simp
   refine ⟨by rw [ze,N _ (by omega)];exact k,rfl,⟨.ms v.length 0 (L.length+1) 1,?_⟩,?_⟩
   . simp only [qz,O,f,qmA];have y:∀ i,i≠p.length+1->qu (P.set (p.length+1) (.lp .ready (p.length+1+1))) i=qu P i:=fun i u=>qq (qmG u);refine ⟨by rw [qnp];omega,fun j z=>by rw [y j (by omega),N j (by omega)];exact Q j z,by rw [y _ (by omega)];exact s8,qD (by omega),?_,fun i u=>?_⟩
     . rw [Z,<-C];exact Y.mono fun i u=>by simp only [rid,xl] at u;rw [y i (by omega),N i (by omega)]
     simp only [rid,xl] at u;omega
   simp only [qz,O,f,qmA];rw [qq (by omega),N _ (by omega)];exact R
 rintro G ⟨L,T,x,h⟩;rw [l];refine Nq h.lpa ?_;have n:∀ i,i≠p.length+1->qu (G.set (p.length+1) .gone) i=qu G i:=fun i u=>qq (qmG u);have c8:qu (G.set (p.length+1) .gone) p.length=some (.cells [x]):=by rw [n _ (by omega)];exact h.cell
 have ac:AccG (G.set (p.length+1) .gone) x 1 (L.map (·.key)).length (cW (L.map (·.key))):=h.acc.mono fun i u=>n i (by have:=h.rd i u;omega);have A:Agr p (G.set (p.length+1) .gone):=⟨by rw [qnp];have:=h.len;omega,fun j z=>by rw [n j (by omega)];exact h.ag j z⟩;generalize G.set (p.length+1) HObj.gone=v at c8 ac A ⊢;simp -implicitDefEqProofs (disch:=omega)[qb,c8,zi];rw [qmq] at ac;exact hK v x L T A ac fun i u=>by have:=h.rd i u;omega
theorem Uv {h:List HObj} {m C:Nat} {E:List GE} (q:qu h c=some (.cells [.mp m])) (g:GrH h m E C) (y:E.length<=4900)
 (o:∀ G x (L:List GE),L.Perm E->Agr h G->AccG G x 1 L.length (cW (L.map (·.key)))->(∀ i,rid x=some i->h.length<=i)->K x G):qB prog 709 [vd c] h K:=by
 refine QF func709 Af xc (by show 1<=_;decide) ?_;simp -implicitDefEqProofs (disch:=omega)[gO,qb];refine NO q g y fun G x L u v j z=>?_;simp -implicitDefEqProofs (disch:=omega)[qb];exact o _ _ _ u v j z
theorem PQ {c m clk:Nat} {E:List GE} (b:qu p c=some (.cells [.mp m])) (f:GrH p m E clk) (w:E.length<=12) (z:E≠[])
 (g:∀ G id (Q:List Nat),cq (E.map (·.key)) Q->Agr p G->qu G id=some (.cells (cW Q))->p.length<=id->K (.ms id 0 Q.length 1) G):qB prog 693 [vd c] p K:=by
 refine QF func693 Ae xb (by show 1<=_;decide) ?_;simp -implicitDefEqProofs (disch:=omega)[gM,qb];refine Uv b f (by omega) fun G x L v u y o=>?_;have a:=v.length_eq;have q:0<E.length:=qnd.2 z;rcases y with ⟨_,h,_⟩ | ⟨id,rfl,P,d,k,n⟩
 . omega
 simp -implicitDefEqProofs (disch:=omega)[qb];have i:=o id rfl;refine tN (l:=L.map (·.key)) d (by simp) P (by rw [qmq];omega) fun H Q s t=>?_;simp -implicitDefEqProofs (disch:=omega)[qb];have e:L.length=Q.length:=by rw [s.qlen,qmq]
 rw [e];refine g H id Q ⟨s.perm.trans (v.map _),t.2⟩ ⟨qmT u.1 s.len,fun j r=>?_⟩ s.at' i;rw [s.oth j (by have:=u.1;omega) (by omega)];exact u.2 j r
end Go.AM

namespace Go.AM
open Go.RowKit Go.Proofs.Tryz
def G.cutm (g:G) (n id:Nat):G:={ g with ρ:=fun j=>if j<n then g.ρ j else if j=n then g.ρ id else none }
theorem SK {w0:World} {R:G} {w:World} {g:G} {n id:Nat} (N:∀ i l,R.ρ i=some l->i<n) {p:Bool} {x:AV} {v0:Value} (h0:Rep w0 R p x v0):∀ {P:Bool} {v:Value},Rep w g P x v->Rep w (g.cutm n id) P x v:=by
 have A:∀ {i l},R.ρ i=some l->(g.cutm n id).ρ i=g.ρ i:=fun {i l} h=>by simp [G.cutm,N i l h]
 induction h0 with
 | v p x=>intro P v h;cases h;exact .v _ _
 | any p x=>intro P v h;exact .any _ _
 | sl p D m Q a C V _ _ _ _ _ =>
   intro P v h;cases h with
   | sl _ _ _ _ a C V N hf X M=>exact .sl _ _ _ _ a C V N hf X (fun i j=>(M i j).pure rfl _)
 | ptr p Q off b o V _ _ _ =>
   intro P v h;cases h with
   | ptr _ _ _ b o V X M=>exact .ptr _ _ _ b o V X (fun i j=>(M i j).pure rfl _)
 | agg p Q V u M O =>
   intro P v h;cases h with
   | agg _ _ L y q=>exact .agg _ _ L y (fun i j=>O i j (q i j))
 | tup p Q V u M O =>
   intro P v h;cases h with
   | tup _ _ L y q=>exact .tup _ _ L y (fun i j=>O i j (q i j))
 | fn p f x0 bs E J u y M q O Y =>
   intro P v h;cases h with
   | fn _ _ _ _ E J K s t e=>exact .fn _ _ _ _ E J K s (fun i j=>O i j (t i j)) (fun i j=>Y i j (e i j))
 | ref id off c d u =>
   intro P v h;cases h with
   | ref _ _ c d k=>exact .ref _ _ c d ((A u).trans k)
 | ms id off n Z c d C r T z u N hb hs =>
   intro P v h;cases h with
   | ms _ _ _ _ c d C r T z K s t e=>exact .ms _ _ _ _ c d C r T z ((A u).trans K) s t e
   | msz _ _ _ a l K=>exact .msz _ _ _ a l ((A u).trans K)
 | msz id off Z a l u =>
   intro P v h;cases h with
   | ms _ _ _ _ c d C r T z K s t e=>exact .ms _ _ _ _ c d C r T z ((A u).trans K) s t e
   | msz _ _ _ a l K=>exact .msz _ _ _ a l ((A u).trans K)
 | mp id c d u =>
   intro P v h;cases h with
   | mp _ c d k=>exact .mp _ c d ((A u).trans k)
 | mc id off n C Z c d r T z u N hb hs =>
   intro P v h;cases h with
   | mc _ _ _ _ _ c d r T z K s t e=>exact .mc _ _ _ _ _ c d r T z ((A u).trans K) s t e
   | mcz _ _ _ a l K=>exact .mcz _ _ _ a l ((A u).trans K)
 | mcz id off Z a l u =>
   intro P v h;cases h with
   | mc _ _ _ _ _ c d r T z K s t e=>exact .mc _ _ _ _ _ c d r T z ((A u).trans K) s t e
   | mcz _ _ _ a l K=>exact .mcz _ _ _ a l ((A u).trans K)
 | yl id c u =>
   intro P v h;cases h with
   | yl _ c k=>exact .yl _ c ((A u).trans k)
def dQ (h:List HObj):Prop:=∀ i Φ,qu h i≠some (.mpp Φ)
theorem TD {P:Program} {f:FuncId} {xs:List AV} {p:List HObj} {K:AV->List HObj->Prop} (hm:dQ p)
 (h:qB P f xs p fun x H=>Agr p H/\∃ id n sz cs,x = .ms id 0 n sz/\p.length<=id/\qu H id=some (.cells cs)/\(cs.all AV.isV)=true/\K (.ms p.length 0 n sz) (p++[.cells cs])):qB P f xs p K:=by
 intro ro n w g vs x7 y6 hr;refine (h ro n w g vs x7 y6 hr).mono ?_;rintro e w' ⟨v,x,H,g',rfl,⟨ha,u,m0,sz,M,rfl,z0,x3,y5,hK⟩,x9,k,Q⟩;have x0:hpf H u=some (.cells M):=by rw [qn] at x3;exact x3
 have D:∀ id l,g.ρ id=some l->id<p.length:=fun id l O=>by
  rcases qmV id p.length with h | h
  . exact h
  have:=x7.dom id (by simp [hpf,h]);rw [this] at O;cases O
 have j:∀ id,id<p.length->hpf H id=hpf p id:=fun id x4=>by have:=ha.2 id x4;rw [qn,qn] at this;exact this
 have C:∀ {id},id<p.length->(g'.cutm p.length u).ρ id=g'.ρ id:=fun h=>by simp [G.cutm,h]
 have t:(g'.cutm p.length u).ρ p.length=g'.ρ u:=by simp [G.cutm]
 have T:∀ {id},id<p.length->hpf (p++[HObj.cells M]) id=hpf p id:=fun h=>by simp only [hpf];rw [qmw h]
 have new:hpf (p++[HObj.cells M]) p.length=some (.cells M):=by simp [hpf]
 have x2:∀ {id o},hpf (p++[HObj.cells M]) id=some o->id<p.length\/(id=p.length/\o = .cells M):=fun {id o} h=>by
  have:=qF h;simp at this;rcases qmV id p.length with V | V
  . exact .inl V
  have e:id=p.length:=by omega
  subst e;rw [new] at h;cases h;exact .inr ⟨rfl,rfl⟩
 have tr:Trans w g w' (g'.cutm p.length u):=⟨Q.tr.S,Q.tr.cell,fun id l O=>(C (D id l O)).trans (Q.tr.ρ id l O),Q.tr.shp,Q.tr.os,Q.tr.tape,Q.tr.output,Q.tr.size,Q.tr.drawn⟩;refine ⟨v,_,p++[.cells M],g'.cutm p.length u,rfl,hK,?_,⟨fun id x4=>?_,fun id o N=>?_,fun id x1 o o' c d d' N X O x5 r R=>?_,k.ex,k.tab⟩,tr,?_,Q.S,Q.keep⟩
 . cases x9 with
   | ms _ _ _ _ c d y2 A ty fz V q h3 h4=>exact .ms _ _ _ _ c d y2 A ty fz (t.trans V) q h3 h4
   | msz _ _ _ a l V=>exact .msz _ _ _ a l (t.trans V)
 . have V:¬ id<p.length+1:=fun h=>by simp [hpf] at x4;omega
   simp only [G.cutm];rw [if_neg (by omega),if_neg (by omega)]
 . rcases x2 N with x6 | ⟨rfl,rfl⟩
   . rw [T x6] at N;have y4:hpf H id=some o:=(j id x6).trans N;obtain ⟨l,V,q⟩:=k.rep id o y4;obtain ⟨l0,k1,k2⟩:=x7.rep id o N;have O:l=l0:=by have:=Q.tr.ρ id l0 k1;rw [V] at this;exact qnq this
     subst O;refine ⟨l,(C x6).trans V,?_⟩;cases o with
     | gone=>cases l <;> trivial
     | cells cs =>
       cases l with
       | virg=>exact q
       | base L=>exact q
       | blk c d =>obtain ⟨A,ty,fz,Y,Z,E,J,a5⟩:=q;obtain ⟨y8,z2,y9,b1,b2,b3,b4,b5⟩:=k2;refine ⟨A,ty,fz,Y,Z,E,J,fun i hi=>?_⟩;obtain ⟨y,c1,c2⟩:=a5 i hi;obtain ⟨y0,d1,d2⟩:=b5 i hi;exact ⟨y,c1,SK D d2 c2⟩
     | mp es clk =>
       cases l with
       | virg=>exact q.elim
       | base L=>exact q.elim
       | blk c d =>obtain ⟨x8,Y,Z,E,J,a5⟩:=q;obtain ⟨y3,b1,b2,b3,b4,b5⟩:=k2;refine ⟨x8,Y,Z,E,J,fun i hi=>?_⟩;obtain ⟨e,c1,c2,c3,c4⟩:=a5 i hi;obtain ⟨e0,d1,d2,d3,d4⟩:=b5 i hi;exact ⟨e,c1,c2,c3,SK D d4 c4⟩
     | mpp Φ=>exact absurd ((qn p id).trans N) (hm id Φ)
     | it m y7 seen y1 =>
       cases l with
       | virg=>exact q.elim
       | base L=>exact q.elim
       | blk c d =>obtain ⟨mb,Y,Z,E,J⟩:=q;obtain ⟨z1,b1,b2,b3,b4⟩:=k2;exact ⟨mb,Y,(C (D _ _ b2)).trans Z,E,J⟩
     | lp s mk =>
       cases l with
       | virg=>exact q.elim
       | base L=>exact q.elim
       | blk c d =>obtain ⟨L,Y,Z,E,J⟩:=q;obtain ⟨L0,b1,b2,b3,b4⟩:=k2;exact ⟨L,(C (D _ _ b1)).trans Y,Z,E,J⟩
   obtain ⟨l,V,q⟩:=k.rep u _ x0;refine ⟨l,t.trans V,?_⟩;cases l with
   | virg=>exact q
   | base L=>exact q
   | blk c d =>
     obtain ⟨A,ty,fz,Y,Z,E,J,a5⟩:=q;refine ⟨A,ty,fz,Y,Z,E,J,fun i hi=>?_⟩;obtain ⟨y,c1,c2⟩:=a5 i hi;have hv:=Zf y5 i hi;refine ⟨y,c1,?_⟩;generalize M[i]=z at hv c2;cases z with
     | v z=>rw [zZ c2];exact .v _ _
     | _=>cases hv
 . rcases x2 N with a | ⟨rfl,rfl⟩ <;> rcases x2 X with b | ⟨rfl,rfl⟩
   . rw [T a] at N;rw [T b] at X;rw [C a] at r;rw [C b] at R;exact k.inj id x1 o o' c d d' ((j id a).trans N) ((j x1 b).trans X) O x5 r R
   . rw [T a] at N;rw [C a] at r;rw [t] at R;have:=k.inj id u o _ c d d' ((j id a).trans N) x0 O x5 r R;omega
   . rw [T b] at X;rw [t] at r;rw [C b] at R;have:=k.inj u x1 _ o' c d d' x0 ((j x1 b).trans X) O x5 r R;omega
   rfl
 rintro c ⟨id,o,d,N,O,r⟩;rcases x2 N with a | ⟨rfl,rfl⟩
 . rw [T a] at N;rw [C a] at r;exact Q.live c ⟨id,o,d,(j id a).trans N,O,r⟩
 rw [t] at r;exact Q.live c ⟨u,_,d,x0,O,r⟩
end Go.AM

set_option maxRecDepth 100000
namespace Go.AM
open Go.RowKit Go.Proofs Go.Proofs.Tryz
def vA:Value->Option Nat
 | .int .u64 (.ofNat n)=>some n
 | _=>none
def vB:List Ent->Option (List Nat)
 | []=>some []
 | e::E=>match vA e.1 with
   | some n=>(vB E).map (n::·)
   | none=>none
def uw (n:Nat):List Nat->List Nat
 | []=>[n]
 | a::l=>bif Nat.ble n a then n::a::l else a::uw n l
def EL:List Nat->List Nat
 | []=>[]
 | a::l=>uw a (EL l)
theorem KR (n:Nat):∀ l,(uw n l).Perm (n::l)
 | [] => .refl _
 | a::l=>by
   unfold uw;cases Nat.ble n a with
   | true=>exact .refl _
   | false=>exact ((KR n l).cons a).trans (.swap _ _ _)
theorem WX:∀ l,(EL l).Perm l
 | [] => .refl _
 | a::l=>(KR a _).trans ((WX l).cons a)
theorem AT (n:Nat):∀ {l:List Nat},l.Pairwise (·<=·)->(uw n l).Pairwise (·<=·)
 | [],_=>by simp [uw]
 | a::l,h=>by
   rw [qnN] at h;unfold uw;cases e:Nat.ble n a with
   | true =>
     have:=xr e
     exact qnN.2 ⟨fun x u=>by
      rcases sg.1 u with rfl | u
      . exact this
      exact qmT this (h.1 x u),qnN.2 h⟩
   | false =>
     have:a<=n:=by
      rcases qmV a n with v | v
      . omega
      rw [qnE v] at e;cases e
     refine qnN.2 ⟨fun x u=>?_,AT n h.2⟩;rcases sg.1 ((KR n l).mem_iff.1 u) with rfl | u
     . exact this
     exact h.1 x u
theorem SS:∀ l,(EL l).Pairwise (·<=·)
 | [] => .nil
 | a::l=>AT a (SS l)
theorem HP:∀ {a b:List Nat},a.Perm b->a.Pairwise (·<=·)->b.Pairwise (·<=·)->a=b
 | [],b,h,_,_=>(List.nil_perm.1 h).symm
 | x::a,[],h,_,_=>absurd h.length_eq (by simp)
 | x::a,y::b,h,u,v=>by
   rw [qnN] at u v
   have e:x=y:=by
    have j:x∈y::b:=h.mem_iff.1 (by simp);have z:y∈x::a:=h.mem_iff.2 (by simp);rcases sg.1 j with e | j
    . exact e
    rcases sg.1 z with e | z
    . exact e.symm
    have:=u.1 y z;have:=v.1 x j;omega
   subst e;rw [HP (h.cons_inv) u.2 v.2]
theorem Bt {v:Value} {n:Nat} (h:vA v=some n):v=bQ n:=by
 unfold vA at h;split at h
 . cases h;rfl
 cases h
theorem Sn:∀ {E:List Ent} {N:List Nat},vB E=some N->E.map (·.1)=N.map bQ
 | [],N,h=>by cases h;rfl
 | e::E,N,h=>by
   unfold vB at h;split at h
   . rename_i n v;rw [RL] at h;obtain ⟨l,u,rfl⟩:=h;rw [wI,wI,Sn u,Bt v]
   cases h
def qgv (x:List AV) (h:List HObj) (k:AV->List HObj->Prop):Prop:=match x with
 | [.fn (.func f) [] [.ref c 0]]=>okP (Nat.beq f 711) (VC h c fun C=>match C with
   | [.mp m]=>XS h m fun o=>match o with
     | .mp e K=>okP (Nat.beq K 0) (match vB e with
       | some N=>okP (Nat.ble N.length 12&&Nat.blt 0 N.length) (fmP (faP 6) (cW (EL N)) fun C=>JA h (.cells C) fun id h=>Md N fun n=>k (.ms id 0 n 1) h)
       | none=>False)
     | _=>False
   | _=>False)
 | _=>False
def NG (e:Ent):GE:=⟨(vA e.1).getD 0,e.2.1,e.2.2⟩
theorem AB {E:List Ent} (h:∀ e∈E,∃ n,e.1=bQ n):(E.map NG).map TW=E:=by
 rw [qmU]
 conv=>rhs;rw [<-qoH E]
 refine qmL fun e j=>?_;obtain ⟨n,u⟩:=h e j;obtain ⟨k,b,v⟩:=e;simp only at u;subst u;rfl
theorem lY:LW prog 693 qgv:=by
 intro xs g k h;unfold qgv at h;split at h
 . rename_i f c;obtain ⟨t,h⟩:=qt h;have t:=qe t;subst t;obtain ⟨cs,hc,h⟩:=zU h;split at h
   . rename_i m;obtain ⟨o,ho,h⟩:=zW h;split at h
     . rename_i es kk;obtain ⟨x0,h⟩:=qt h;split at h
       . rename_i N P;obtain ⟨L,h⟩:=qt h;simp only [qd] at L;have V:=xr L.1;have x1:0<N.length:=xr L.2;rw [QI (QR 6)] at h;have h:=zP h;rw [Jd] at h;refine ⟨_,_,fun Z b u=>?_,h⟩;obtain ⟨s,clk,O,R,_⟩:=u.mp (show hpf g m=some (.mp es kk) from ho);have K:=Sn P;have r:(N.map bQ).Perm (s.map (·.1)):=by rw [<-K];exact R.keysE
         have j:∀ e∈s,∃ n,e.1=bQ n:=fun e l=>by have:=r.mem_iff.2 (gm.2 ⟨e,l,rfl⟩);obtain ⟨n,_,hn⟩:=gm.1 this;exact ⟨n,hn.symm⟩
         have hE:=AB j
         have gr:GrH b m (s.map NG) clk:=by
          refine ⟨?_,?_,fun e l=>?_⟩
          . rw [qn];unfold mpG;rw [hE];exact O
          . rw [qnz];have:=R.born;rw [List.Nodup,qnz] at this;exact this
          obtain ⟨C,h1,rfl⟩:=gm.1 l;exact R.clk C h1
         have X:s.length=N.length:=by have:=r.length_eq;simpa using this.symm
         have y:(s.map NG).map (·.key)=s.map fun e=>(vA e.1).getD 0:=by rw [qmU];rfl
         have z:N.Perm ((s.map NG).map (·.key)):=by
          rw [y];have:=r.map fun v=>(vA v).getD 0;rw [qmU,qmU] at this
          have D:N.map ((fun v=>(vA v).getD 0) ∘ bQ)=N:=by
           conv=>rhs;rw [<-qoH N]
           exact qmL fun n _=>rfl
          rw [D] at this;exact this
         have nm:dQ b:=fun i Φ w=>by
          rw [qn] at w;have M:i<g.length:=by rw [<-u.len];exact (qml.1 w).1
          have:=Ht (u.obj i _ _ (Wd M) w);cases this
         refine TD nm ?_
         refine PQ (c:=c) (m:=m) (clk:=clk) (E:=s.map NG) (by rw [qn];exact (u.cel hc).1) gr (by rw [qmq];omega) (fun e=>by
          have:(s.map NG).length=0:=by rw [e];rfl
          rw [qmq] at this;omega) fun G id Q T ha a d=>?_
         have A:Q=EL N:=HP (T.1.trans (z.symm.trans (WX N).symm)) T.2 (SS N);subst A;have J:(EL N).length=N.length:=(WX N).length_eq;refine ⟨ha,id,_,1,_,rfl,d,a,?_,?_,?_⟩
         . rw [LL];intro x Y;simp only [cW,gm] at Y;obtain ⟨i,_,rfl⟩:=Y;rfl
         . rw [u.len,J]
         have:=u.write (ws:=[(g.length,.cells (cW (EL N)))]) (fun p q=>by simp at q;subst q;exact ⟨u.new _ (Qs _),Qs _,rfl⟩);have e:qf b [(g.length,.cells (cW (EL N)))]=b++[.cells (cW (EL N))]:=by rw [<-u.len];simp [qf,qz]
         rwa [e] at this
       exact h.elim
     exact h.elim
   exact h.elim
 exact h.elim
def qlH:Kn := .law qgv
theorem uI:LW prog 693 qgv:=lY
end Go.AM

set_option maxRecDepth 100000
namespace Go.AM
open Go.RowKit Go.Proofs Go.Proofs.Tryz
variable {a c k:Nat}
def gK:AC:=(.seq (.rgn [⟨none,[(.mv 2 (.k (.v (.int .u64 0))))]⟩] [0]) (.seq (.rgn [⟨none,[(.mv 3 (.t 0)),(.nilc 4 (.t 3)),(.fa 5 (.t 4) 0),(.fa 6 (.t 5) 1),(.ld 7 false 1 (.t 6)),(.len 8 (.t 7)),(.bin 9 .shl (.k (.v (.int .u64 1))) (.t 8)),(.bin 10 .sub (.t 9) (.k (.v (.int .u64 1)))),(.mv 2 (.t 10))]⟩] [2]) .ret))
theorem Ac:qg prog f601 [2]=some gK:=by kernel_rfl
theorem vZ:zc f601.results.toList=some [2]:=by decide +kernel
def gL:AC:=(.seq (.rgn [⟨none,[(.mv 4 (.k (I 0)))]⟩] [0,1]) (.seq (.rgn [⟨none,[(.mv 12 (.t 1)),(.bin 13 .add (.t 12) (.k (I 1))),(.mks 14 4096 32768 (List.replicate 4096 (I 0)) (.t 13) (.t 13)),(.mv 5 (.t 14))]⟩] [0,1,5]) (.seq (.seq (.rgn [⟨none,[(.mv 15 (.t 5)),(.len 16 (.t 15)),(.mv 17 (.k (I 0)))]⟩] [0,1,5,16,17]) (.block 0 (.loop (.seq (.rgn [⟨none,[(.bin 18 .lss (.t 17) (.t 16))]⟩] [0,1,5,16,17,18]) (.seq (.cond (.t 18) .skip (.exit 0)) (.seq (.block 1 (.seq (.rgn [⟨none,[(.mv 19 (.t 17)),(.mv 6 (.t 19))]⟩] [0,1,5,6,16,17]) (.rgn [⟨none,[(.mv 20 (.t 5)),(.mv 21 (.t 6)),(.ia 22 4096 (.t 20) (.t 21)),(.slp 23 1 4096 (.t 22) none none none),(.clr 1 [(I 0)] (.t 23))]⟩] [0,1,5,16,17]))) (.rgn [⟨none,[(.bin 24 .add (.t 17) (.k (I 1))),(.mv 17 (.t 24))]⟩] [0,1,5,16,17]))))))) (.seq (.rgn [⟨none,[(.mv 25 (.t 5)),(.ia 26 4096 (.t 25) (.k (I 0))),(.iaa 27 4096 1 (.t 26) (.k (I 0))),(.st 1 (.t 27) (.k (I 1)))]⟩] [0,1,5]) (.seq (.seq (.rgn [⟨none,[(.mv 28 (.t 0)),(.nilc 29 (.t 28)),(.fa 30 (.t 29) 2),(.ld 31 false 1 (.t 30)),(.rng 32 (.t 31))]⟩] [0,1,5,32]) (.block 2 (.loop (.seq (.rgn [⟨none,[(.nxt 33 (.t 32)),(.ext 34 (.t 33) 0)]⟩] [0,1,5,32,34]) (.seq (.cond (.t 34) .skip (.exit 2)) (.block 3 (.seq (.rgn [⟨none,[(.ent 35 (.t 32)),(.ext 36 (.t 35) 0),(.ext 37 (.t 35) 1),(.mv 7 (.t 36)),(.mv 8 (.t 37))]⟩] [0,1,5,7,8,32]) (.seq (.rgn [⟨none,[(.mv 38 (.t 1)),(.bin 39 .sub (.t 38) (.k (I 1))),(.mv 9 (.t 39))]⟩] [0,1,5,7,8,9,32]) (.block 4 (.loop (.seq (.seq (.rgn [⟨none,[(.mv 40 (.t 9)),(.bin 41 .geq (.t 40) (.k (I 0)))]⟩] [0,1,5,7,8,9,32,41]) (.cond (.t 41) .skip (.exit 4))) (.seq (.block 5 (.seq (.rgn [⟨none,[(.mv 10 (.k (.v (.int .u64 0))))]⟩] [0,1,5,7,8,9,10,32]) (.block 6 (.loop (.seq (.seq (.rgn [⟨none,[(.mv 44 (.t 10)),(.mv 45 (.t 0)),(.call 46 601 [(.t 45)]),(.bin 47 .leq (.t 44) (.t 46))]⟩] [0,1,5,7,8,9,10,32,47]) (.cond (.t 47) .skip (.exit 6))) (.seq (.block 7 (.seq (.rgn [⟨none,[(.mv 50 (.t 5)),(.mv 51 (.t 9)),(.mv 52 (.t 10)),(.ia 53 4096 (.t 50) (.t 51)),(.iaa 54 4096 1 (.t 53) (.t 52)),(.ld 55 false 1 (.t 54)),(.mv 11 (.t 55))]⟩] [0,1,5,7,8,9,10,11,32]) (.seq (.rgn [⟨none,[(.mv 56 (.t 11)),(.bin 57 .gtr (.t 56) (.k (I 0)))]⟩] [0,1,5,7,8,9,10,11,32,57]) (.cond (.t 57) (.drw [⟨none,[(.mv 58 (.t 5)),(.mv 59 (.t 9)),(.bin 60 .add (.t 59) (.k (I 1))),(.mv 61 (.t 10)),(.mv 62 (.t 7)),(.bin 63 .or (.t 61) (.t 62)),(.mv 64 (.t 5)),(.mv 65 (.t 9)),(.bin 66 .add (.t 65) (.k (I 1))),(.mv 67 (.t 10)),(.mv 68 (.t 7)),(.bin 69 .or (.t 67) (.t 68)),(.ia 70 4096 (.t 64) (.t 66)),(.iaa 71 4096 1 (.t 70) (.t 69)),(.ld 72 false 1 (.t 71)),(.mv 73 (.t 11)),(.mv 74 (.t 8)),(.len 75 (.t 74)),(.bin 76 .mul (.t 73) (.t 75)),(.bin 77 .add (.t 72) (.t 76)),(.mx 78 false (.k (I 1099511627777)) (.t 77)),(.ia 79 4096 (.t 58) (.t 60)),(.iaa 80 4096 1 (.t 79) (.t 63)),(.st 1 (.t 80) (.t 78))]⟩] [] [0,1,5,7,8,9,10,32]) .skip)))) (.rgn [⟨none,[(.mv 48 (.t 10)),(.bin 49 .add (.t 48) (.k (.v (.int .u64 1)))),(.mv 10 (.t 49))]⟩] [0,1,5,7,8,9,10,32]))))))) (.rgn [⟨none,[(.mv 42 (.t 9)),(.bin 43 .sub (.t 42) (.k (I 1))),(.mv 9 (.t 43))]⟩] [0,1,5,7,8,9,32]))))))))))))) (.seq (.drw [⟨none,[(.mv 81 (.t 5)),(.mv 82 (.t 1)),(.mv 83 (.t 0)),(.call 84 601 [(.t 83)]),(.ia 85 4096 (.t 81) (.t 82)),(.iaa 86 4096 1 (.t 85) (.t 84)),(.ld 87 false 1 (.t 86)),(.mv 4 (.t 87))]⟩] [] [4]) .ret))))))
theorem Ad:qg prog f609 [4]=some gL:=by kernel_rfl
theorem xa:zc f609.results.toList=some [4]:=by decide +kernel
theorem UK {n:Nat} (h:n<2 ^ 60):IntKind.u64.wrap (n:Int)=n:=by
 have:(n:Int) % 18446744073709551616=n:=by omega
 simp [IntKind.wrap,IntKind.bits,IntKind.signed,this]
theorem lD (u:a<2 ^ 60) (v:c<2 ^ 60):IntKind.u64.wrap ((BitVec.ofInt IntKind.u64.bits (a:Int) ||| BitVec.ofInt IntKind.u64.bits (c:Int)).toNat:Int)=((a ||| c:Nat):Int):=by
 have e:(BitVec.ofInt IntKind.u64.bits (a:Int) ||| BitVec.ofInt IntKind.u64.bits (c:Int)).toNat=a ||| c:=by show (BitVec.ofInt 64 (a:Int) ||| BitVec.ofInt 64 (c:Int)).toNat=a ||| c;rw [BitVec.toNat_or,BitVec.ofInt_natCast,BitVec.ofInt_natCast,BitVec.toNat_ofNat,BitVec.toNat_ofNat,qoC (by omega),qoC (by omega)]
 have h:a ||| c<2 ^ 60:=qpv u v;rw [e,UK h]
theorem xU {i:Nat} (u:i<=59):IntKind.u64.wrap ((1:Int)*2 ^ (min (i:Int).toNat IntKind.u64.bits))=((2 ^ i:Nat):Int):=by
 have e:min (i:Int).toNat IntKind.u64.bits=i:=by show min i 64=i;omega
 have h:(2:Nat) ^ i<2 ^ 60:=Nat.pow_lt_pow_right (by decide) (by omega);rw [e,Int.one_mul];have:((2:Int) ^ i)=((2 ^ i:Nat):Int):=by norm_cast
 rw [this,UK h]
section
variable {K:AV->List (Nat×HObj)->Prop}
theorem qjq (h:a<2 ^ 60) (u:c<2 ^ 60):XC .or (W64 a) (W64 c) K=K (W64 (orN a c)) []:=by rw [qgX,lD h u];rfl
theorem qc9 {i:Nat} (h:i<=59):XC .shl (.v (.int .u64 1)) (I (i:Int)) K=K (W64 (pwN i)) []:=by rw [pu (by omega),xU h];rfl
theorem qda (u:a<2 ^ 60) (h:0<a):XC .sub (W64 a) (.v (.int .u64 1)) K=K (W64 (a - 1)) []:=by rw [pw,show ((a:Int) - 1)=((a - 1:Nat):Int) by omega,UK (by omega)]
theorem qc7 (h:a<2 ^ 59):XC .add (W64 a) (.v (.int .u64 1)) K=K (W64 (a+1)) []:=by rw [pr,show ((a:Int)+1)=((a+1:Nat):Int) by omega,UK (by omega)]
theorem qc8 :XC .leq (W64 a) (W64 c) K=K (B (decide (a<=c))) []:=by
 rw [pt];have:decide ((a:Int)<=(c:Int))=decide (a<=c):=by simp
 rw [this]
end
theorem IJ {H:List HObj} {o:HObj}:(∀ j,j<H.length->qu (H++[o]) j=qu H j)/\qu (H++[o]) H.length=some o/\(H++[o]).length=H.length+1:=by refine ⟨fun j h=>QS h,?_,by simp⟩;rw [qn,qmy (by omega)];simp
def fnA (f:Nat->Nat):List AV:=(List.range 4096).map fun i=>I (f i:Int)
theorem OS {f}:(fnA f).length=4096:=by simp [fnA]
theorem oW {f:Nat->Nat} (h:k<(fnA f).length):(fnA f)[k]=I (f k:Int):=by simp only [fnA,qmv,qom]
theorem fD:List.replicate 4096 (I 0)=fnA (fun _=>0) :=
 qm4 (by rw [List.length_replicate,OS]) fun k h u=>by rw [qoU,oW];rfl
def sK (f:Nat->Nat):Nat->Nat
 | 0=>0
 | k+1=>sK f k+f k
def JD (x:Nat):Nat:=min 1099511627777 x
theorem Fe {x:Nat}:JD x<=1099511627777:=by unfold JD;omega
def GE.len (e:GE):Nat:=match e.v with
 | .sl _ n _=>n
 | .ms _ _ n _=>n
 | _=>0
def gwR (M:Nat):List GE->Nat->Nat->Nat
 | [],n,b=>if n=0/\b=0 then 1 else 0
 | _::L,0,b=>gwR M L 0 b
 | e::L,n+1,b=>gwR M L (n+1) b+e.len*sK (fun c=>if orN c e.key=b then gwR M L n c else 0) M
def gwM (M:Nat) (e:GE) (L:List GE) (n s b:Nat):Nat:=gwR M L (n+1) b+e.len*sK (fun c=>if orN c e.key=b then gwR M L n c else 0) s
theorem Se {M e L n b}:gwM M e L n 0 b=gwR M L (n+1) b:=by simp [gwM,sK]
theorem mW {M e L n b}:gwM M e L n M b=gwR M (e::L) (n+1) b:=rfl
theorem yL {M e L n s b}:gwM M e L n (s+1) b=gwM M e L n s b+if orN s e.key=b then e.len*gwR M L n s else 0:=by
 unfold gwM;rw [show ∀ f:Nat->Nat,sK f (s+1)=sK f s+f s from fun _=>rfl];split
 . rw [qpI,qmJ]
 simp
def gwL (M:Nat) (e:GE) (L:List GE) (j s:Nat) (k b:Nat):Nat:=if j<k then gwR M (e::L) k b else if k=j/\0<j then gwM M e L (j - 1) s b else gwR M L k b
theorem AN {M e L N k b} (u:k<=N):gwL M e L N 0 k b=gwR M L k b:=by
 unfold gwL;rw [if_neg (by omega)];split
 . rename_i h;obtain ⟨rfl,h⟩:=h;rw [Se,show k - 1+1=k by omega]
 rfl
theorem yK {M e L j k b} (z:0<j):gwL M e L j M k b=gwL M e L (j - 1) 0 k b:=by
 unfold gwL;by_cases u:j<k
 . rw [if_pos u,if_pos (by omega)]
 rw [if_neg u];by_cases v:k=j
 . subst v;rw [if_pos ⟨rfl,z⟩,if_pos (by omega),mW,show k - 1+1=k by omega]
 rw [if_neg (fun h=>v h.1),if_neg (by omega)];split
 . rename_i h;obtain ⟨rfl,h⟩:=h;rw [Se,show j - 1 - 1+1=j - 1 by omega]
 rfl
theorem mU {M e L k b}:gwL M e L 0 0 k b=gwR M (e::L) k b:=by
 unfold gwL;by_cases h:0<k
 . rw [if_pos h]
 rw [if_neg h,if_neg (by omega)];have:k=0:=by omega
 subst this;rfl
theorem kj {x y l:Nat} (u:0<l):min 1099511627777 (JD x+JD y*l)=JD (x+l*y):=by
 unfold JD;by_cases h:1099511627777<=y
 . have e:min 1099511627777 y=1099511627777:=by omega
   have v:1099511627777<=1099511627777*l:=Nat.le_mul_of_pos_right _ u;have j:y<=l*y:=Nat.le_mul_of_pos_left _ u;rw [e];generalize 1099511627777*l=p at *;generalize l*y=q at *;omega
 have e:min 1099511627777 y=y:=by omega
 rw [e,qpc];generalize l*y=q at *;omega
theorem GP {M:Nat} {e:GE} {L:List GE} {j x k b:Nat} (y:0<j):gwL M e L j (x+1) k b=gwL M e L j x k b+if k=j/\b=orN x e.key then e.len*gwR M L (j - 1) x else 0:=by
 unfold gwL;by_cases u:j<k
 . rw [if_pos u,if_pos u,if_neg (by omega)];rfl
 rw [if_neg u,if_neg u];by_cases v:k=j
 . subst v;rw [if_pos ⟨rfl,y⟩,if_pos ⟨rfl,y⟩,yL];by_cases z:b=orN x e.key
   . rw [if_pos z.symm,if_pos ⟨rfl,z⟩]
   rw [if_neg (fun h=>z h.symm),if_neg (fun h=>z h.2)]
 rw [if_neg (fun h=>v h.1),if_neg (fun h=>v h.1),if_neg (fun h=>v h.1)];rfl
theorem mV {M:Nat} {e:GE} {L:List GE} {j x b:Nat} (h:0<j):gwL M e L j x (j - 1) b=gwR M L (j - 1) b:=by unfold gwL;rw [if_neg (by omega),if_neg (by omega)]
theorem Ff {x:Nat}:JD x=0↔x=0:=by unfold JD;omega
def fnM (N:Nat) (f:Nat->Nat->Nat):List AV:=(List.range (N*4096)).map fun i=>I (f (i / 4096) (i % 4096):Int)
theorem JJ {N f}:(fnM N f).length=N*4096:=by simp [fnM]
theorem RV {N f k} (h:k<(fnM N f).length):(fnM N f)[k]=I (f (k / 4096) (k % 4096):Int):=by simp only [fnM,qmv,qom]
theorem OT {N:Nat} {f:Nat->Nat->Nat} {n i:Nat} (u:n<N) (h:i<4096):Pu (fnM N f) (n*4096+i)=some (I (f n i:Int)):=by
 have k:n*4096+i<(fnM N f).length:=by rw [JJ];have:=qmt 4096 (show n+1<=N from u);omega
 rw [Jf,Wd k,RV];rw [show (n*4096+i) / 4096=n by omega,show (n*4096+i) % 4096=i by omega]
theorem WA {N:Nat} {f g:Nat->Nat->Nat} (h:∀ n t,n<N->t<4096->f n t=g n t):fnM N f=fnM N g:=qmL fun t u=>by have u:=qmO.1 u;rw [h _ _ (by omega) (by omega)]
def lE (f:Nat->Nat->Nat) (n i v:Nat):Nat->Nat->Nat:=fun k t=>if k=n/\t=i then v else f k t
theorem FW {N:Nat} {f:Nat->Nat->Nat} {n i v:Nat} (z:n<N) (h:i<4096):(fnM N f).take (n*4096+i)++I (v:Int)::(fnM N f).drop (n*4096+i+1)=fnM N (lE f n i v):=by
 have j:n*4096+i<(fnM N f).length:=by rw [JJ];have:=qmt 4096 (show n+1<=N from z);omega
 have e:(fnM N f).set (n*4096+i) (I (v:Int))=fnM N (lE f n i v):=by
  refine qm4 (by simp [fnM]) fun k y u=>?_;rw [qnU,RV u];by_cases e:n*4096+i=k
  . rw [if_pos e];unfold lE;rw [if_pos ⟨by omega,by omega⟩]
  rw [if_neg e,RV];unfold lE;rw [if_neg (by omega)]
 rw [<-e,qni,if_pos j]
theorem ES {z:List AV} {x:AV} (h:∀ y∈z,y=x):∀ {n},∀ y∈zh n z,y=x
 | 0,y,u=>by cases u
 | n+1,y,u=>by
   rw [zh,xm] at u;rcases u with u | u
   . exact h y u
   exact ES h y u
theorem Rt {N:Nat} {l:List AV} (j:l.length=N*4096) (h:∀ y∈l,y=I 0):l=fnM N (fun _ _=>0):=by refine qm4 (by rw [j,JJ]) fun k u v=>?_;rw [RV v];exact h _ (qmr u)
theorem gw {N:Nat}:zh N (fnA (fun _=>0))=fnM N (fun _ _=>0) :=
 Rt (by rw [QA,OS]) fun y h=>ES (z:=fnA fun _=>0) (fun y h=>by simp only [fnA,gm] at h;obtain ⟨i,_,rfl⟩:=h;rfl) y h
theorem LP {N n:Nat} (h:n<N):splice (fnM N fun _ _=>0) (n*4096) (zh 4096 [I 0])=fnM N (fun _ _=>0):=by
 have hm:∀ y∈fnM N (fun _ _=>0),y=I 0:=fun y u=>by simp only [fnM,gm] at u;obtain ⟨i,_,rfl⟩:=u;rfl
 have k:=qmt 4096 (show n+1<=N from h);refine Rt ?_ fun y u=>?_
 . simp only [splice,qmI,qmS,qnV,JJ,QA,qnC];omega
 simp only [splice,xm] at u;rcases u with (u | u) | u
 . exact hm y (qnw u)
 . exact ES (z:=[I 0]) (fun y u=>by simpa using u) y u
 exact hm y (List.mem_of_mem_drop u)
structure BdC (hp:List HObj) (rc m:Nat) (E:List GE) (clk:Nat) (n:Nat):Prop where
 bd:∃ c0 c1,qu hp rc=some (.cells [c0,c1,.mp m])/\∀ K:AV->List (Nat×HObj)->Prop,bj c1 K=K (I n) []
 gr:GrH hp m E clk
theorem BdC.agr {e H:List HObj} {O m:Nat} {E:List GE} {y n:Nat} (h:BdC e O m E y n) (q:Agr e H):BdC H O m E y n:=by obtain ⟨c0,X,K,A⟩:=h.bd;exact ⟨⟨c0,X,q.get K,A⟩,h.gr.mono (q.2 _ (qw h.gr.mp))⟩
theorem qiN {n:Nat} (h:n<=12):0<pwN n/\pwN n<=4096:=⟨Nat.two_pow_pos n,Nat.pow_le_pow_right (by decide) h⟩
section
variable {hp:List HObj} {rc m:Nat} {E:List GE} {clk n:Nat}
theorem bp (b:BdC hp rc m E clk n) (z:n<=12) {K:AV->List HObj->Prop} (h:K (W64 (pwN n - 1)) hp):qB prog 601 [.ref rc 0] hp K:=by have j:pwN n<2 ^ 60:=BU (by omega);have v:0<pwN n:=Nat.two_pow_pos n;obtain ⟨c0,c,e,u⟩:=b.bd;refine Km func601 Ac vZ (by show 1<=_;decide) ?_;simp only [gK];refine qN ?_;simp -implicitDefEqProofs (disch:=omega)[qb];refine qN ?_;simp -implicitDefEqProofs (disch:=omega)[qb,e,zi,u,-pu,qc9,-pw,qda];refine NW ?_;simp -implicitDefEqProofs (disch:=omega)[qb];exact h
set_option maxHeartbeats 8000000 in
theorem kB (O:BdC hp rc m E clk n) (hn:n<=12) (hE:∀ e∈E,e.key<pwN n) (hl:∀ e∈E,0<e.len/\e.len<=10000/\∀ K:AV->List (Nat×HObj)->Prop,bj e.v K=K (I e.len) []) {N:Nat} (hN:N<=1000) {K:AV->List HObj->Prop}
 (hK:∀ L G,L.Perm E->Agr hp G->G.length=hp.length+2->(∀ i o,hp.length<=i->qu G i=some o->nmP o=true)->K (I (JD (gwR (pwN n) L N (pwN n - 1)):Nat)) G) :
 qB prog 609 [.ref rc 0,I (N:Int)] hp K:=by
 have w:=qiN hn;have nx:((N:Int)+1)=((N+1:Nat):Int):=by omega
 refine Km func609 Ad xa (by show 2<=_;decide) ?_;simp only [gL,fD];refine qN ?_;simp -implicitDefEqProofs (disch:=omega)[qb];refine qN ?_;simp -implicitDefEqProofs (disch:=omega)[qb];rw [show (AV.v (Value.int IntKind.i64 ((N:Int)+1)))=I ((N+1:Nat):Int) from by rw [<-nx]];refine ⟨N+1,rfl,rfl,by omega,by omega,OS,?_⟩;rw [gw];simp -implicitDefEqProofs (disch:=omega)[qb];refine qN ?_;simp -implicitDefEqProofs (disch:=omega)[qb];refine qL (fun i:Nat=>⟨[(0,.ref rc 0),(1,I (N:Int)),(5,.ms hp.length 0 (N+1) 4096),(16,I ((N:Int)+1)),(17,I (i:Int))],hp++[.cells (fnM (N+1) fun _ _=>0)]⟩) (fun i=>i<=N+1) (fun i=>N+1 - i) 0 (qmQ _) (by simp) ?_;intro i hi;refine QJ fun K0 u=>?_;simp -implicitDefEqProofs (disch:=omega)[qb];refine qA (fun c=>?_) (fun c=>?_)
 . have z:i<N+1:=by simp at c;omega
   have ix:((i:Int)+1)=((i+1:Nat):Int):=by omega
   simp -implicitDefEqProofs (disch:=omega)[qb];have l:=JJ (N:=N+1) (f:=fun _ _=>0);have hA:qu (hp++[HObj.cells (fnM (N+1) fun _ _=>0)]) hp.length=some (.cells (fnM (N+1) fun _ _=>0)):=(IJ).2.1;have hk:=qmt 4096 (show i+1<=N+1 from z);refine ⟨by omega,SR rfl hA (by rw [l];omega) ?_⟩;simp -implicitDefEqProofs (disch:=omega)[qb];refine bu rfl hA (by rw [l];omega) ?_;rw [LP z];simp -implicitDefEqProofs (disch:=omega)[qb];rw [u];exact qI (i+1) (by omega) (by omega) (by simp only [ix])
 have z:i=N+1:=by simp at c;omega
 subst z;subst u;simp -implicitDefEqProofs (disch:=omega)[qb];refine qN ?_;simp -implicitDefEqProofs (disch:=omega)[qb,JJ]
 have e1:I 1::(fnM (N+1) fun _ _=>0).tail=fnM (N+1) fun k t=>JD (gwR (pwN n) [] k t):=by
  have:=FW (N:=N+1) (f:=fun _ _=>0) (n:=0) (i:=0) (v:=1) (by omega) (by omega);simp only [Nat.zero_mul,qnS,qoP,qmF,qnt,List.drop_one] at this;rw [show (I 1:AV)=I ((1:Nat):Int) from rfl,this];refine WA fun k t _ _=>?_;show (if k=0/\t=0 then 1 else 0)=JD (if k=0/\t=0 then 1 else 0)
  split <;> rfl
 rw [e1];have A:BdC (hp++[HObj.cells (fnM (N+1) fun k t=>JD (gwR (pwN n) [] k t))]) rc m E clk n:=O.agr (Agr.refl hp).app;obtain ⟨c0,c1,x7,_⟩:=A.bd;refine ⟨by omega,qN ?_⟩;simp -implicitDefEqProofs (disch:=omega)[qb,x7,zi,nW];refine qkY A.gr.mp ?_;simp -implicitDefEqProofs (disch:=omega)[qb];refine qL (fun q:List GE×List HObj=>⟨[(0,.ref rc 0),(1,I (N:Int)),(5,.ms hp.length 0 (N+1) 4096),(32,.ref (hp.length+1) 0)],q.2⟩) (fun q=>(∀ e∈q.1,e∈E)/\q.1.Nodup/\qu q.2 hp.length=some (.cells (fnM (N+1) fun k t=>JD (gwR (pwN n) q.1 k t)))/\qu q.2 (hp.length+1)=some (.it m clk ((q.1.map (·.born)).reverse) clk)/\Agr hp q.2/\q.2.length=hp.length+2) (fun q=>muE E ((q.1.map (·.born)).reverse)) ([],hp++[.cells (fnM (N+1) fun k t=>JD (gwR (pwN n) [] k t)),.it m clk [] clk]) ⟨fun e h=>(by cases h),.nil,KZ (i:=0),KZ (i:=1),⟨by simp,fun j hj=>QS hj⟩,by simp⟩ rfl ?_;rintro ⟨L,G⟩ ⟨d1,d2,T,d4,V,d6⟩;simp only at d1 d2 T d4 V d6 ⊢;have lA:=qw T;have lI:=qw d4;have x0:=O.agr V;refine QJ fun K0 u=>?_;simp -implicitDefEqProofs (disch:=omega)[qb,nV];refine qkS d4 x0.gr (fun h=>?_) (fun q hq hS=>?_)
 . subst u;have r:L.Perm E:=PA d2 (O.gr.brs.imp fun h e=>h (by rw [e])) fun a=>⟨d1 a,fun ha=>by have:=h a ha;rw [qoc,gm] at this;obtain ⟨x,P,e⟩:=this;rw [<-Gf O.gr.brs (d1 x P) ha e];exact P⟩;have gt:=OT (N:=N+1) (f:=fun k t=>JD (gwR (pwN n) L k t)) (n:=N) (i:=pwN n - 1) (by omega) (by omega);have l:=JJ (N:=N+1) (f:=fun k t=>JD (gwR (pwN n) L k t));have bA:pwN n - 1<4096:=by omega
   simp -implicitDefEqProofs (disch:=omega)[qb];refine MD (IK (by kernel_rfl) (by kernel_rfl) ?_);simp -implicitDefEqProofs (disch:=omega)[qb];refine sC (W64 (pwN n - 1)) (fun KK x8=>bp x0 hn x8) ?_;simp -implicitDefEqProofs (disch:=omega)[qb,T,zi,gt,l];refine ⟨by omega,by omega,NW ?_⟩;simp -implicitDefEqProofs (disch:=omega)[qb];refine hK L G r V d6 fun i o hi ho=>?_;have:=qw ho;rcases (show i=hp.length\/i=hp.length+1 by omega) with e | e
   . subst e;rw [T] at ho;cases ho;rfl
   subst e;rw [d4] at ho;cases ho;rfl
 have hk:=hE q hq;have nl:q∉L:=fun h=>hS (by rw [qoc,gm];exact ⟨q,h,rfl⟩);obtain ⟨l0,l1,lq⟩:=hl q hq;have eS:(L.map (·.born)).reverse++[q.born]=((q::L).map (·.born)).reverse:=by simp
 have mu:=wa hq hS;rw [eS] at mu;have y0:hp.length+1<G.length:=lI;have D:qu (G.set (hp.length+1) (.it m clk ((L.map (·.born)).reverse++[q.born]) clk)) hp.length=some (.cells (fnM (N+1) fun k t=>JD (gwR (pwN n) L k t))):=(qq (by omega)).trans T;have d:qu (G.set (hp.length+1) (.it m clk ((L.map (·.born)).reverse++[q.born]) clk)) (hp.length+1)=some (.it m clk ((L.map (·.born)).reverse++[q.born]) clk):=qD lI;have g:Agr hp (G.set (hp.length+1) (.it m clk ((L.map (·.born)).reverse++[q.born]) clk)):=⟨by rw [qnp];exact V.1,fun j hj=>(qq (by omega)).trans (V.2 j hj)⟩;have Y:(G.set (hp.length+1) (.it m clk ((L.map (·.born)).reverse++[q.born]) clk)).length=hp.length+2:=by rw [qnp];exact d6
 simp -implicitDefEqProofs (disch:=omega)[qb,y0,nU];generalize G.set (hp.length+1) (HObj.it m clk ((L.map fun x=>x.born).reverse++[q.born]) clk)=G1 at D d g Y ⊢;refine FM d (O.agr g).gr hq ?_;rw [eS] at d;simp -implicitDefEqProofs (disch:=omega)[qb];have e0:(fnM (N+1) fun k t=>JD (gwR (pwN n) L k t))=fnM (N+1) fun k t=>JD (gwL (pwN n) q L N 0 k t):=WA fun k t hk _=>by rw [AN (by omega)]
 rw [e0] at D;refine qL (fun p:Nat×List HObj=>⟨[(0,.ref rc 0),(1,I (N:Int)),(5,.ms hp.length 0 (N+1) 4096),(7,W64 q.key),(8,q.v),(9,I ((p.1:Int) - 1)),(32,.ref (hp.length+1) 0)],p.2⟩) (fun p=>p.1<=N/\qu p.2 hp.length=some (.cells (fnM (N+1) fun k t=>JD (gwL (pwN n) q L p.1 0 k t)))/\qu p.2 (hp.length+1)=some (.it m clk (((q::L).map (·.born)).reverse) clk)/\Agr hp p.2/\p.2.length=hp.length+2) (fun p=>p.1) (N,G1) ⟨Qs _,D,d,g,Y⟩ rfl ?_;rintro ⟨j,G2⟩ ⟨j1,j2,j3,j4,j5⟩;simp only at j1 j2 j3 j4 j5 ⊢;refine QJ fun K1 C=>?_;simp -implicitDefEqProofs (disch:=omega)[qb];refine qA (fun c=>?_) (fun c=>?_)
 . have J:0<j:=by simp at c;omega
   have jx:(j:Int) - 1 - 1=((j - 1:Nat):Int) - 1:=by omega
   have jy:(j:Int) - 1=((j - 1:Nat):Int):=by omega
   simp -implicitDefEqProofs (disch:=omega)[qb];refine qL (fun p:Nat×List HObj=>⟨[(0,.ref rc 0),(1,I (N:Int)),(5,.ms hp.length 0 (N+1) 4096),(7,W64 q.key),(8,q.v),(9,I ((j:Int) - 1)),(10,W64 p.1),(32,.ref (hp.length+1) 0)],p.2⟩) (fun p=>p.1<=pwN n/\qu p.2 hp.length=some (.cells (fnM (N+1) fun k t=>JD (gwL (pwN n) q L j p.1 k t)))/\qu p.2 (hp.length+1)=some (.it m clk (((q::L).map (·.born)).reverse) clk)/\Agr hp p.2/\p.2.length=hp.length+2) (fun p=>pwN n - p.1) (0,G2) ⟨qmQ _,j2,j3,j4,j5⟩ rfl ?_;rintro ⟨x,G3⟩ ⟨x1,X,x3,R,x5⟩;simp only at x1 X x3 R x5 ⊢;have x6:=qw X;have x9:=O.agr R;refine QJ fun K2 s=>?_;simp -implicitDefEqProofs (disch:=omega)[qb];refine bp x9 hn ?_;simp -implicitDefEqProofs (disch:=omega)[qb,-pt,qc8];refine qA (fun c=>?_) (fun c=>?_)
   . have P:x<pwN n:=by simp at c;omega
     have gx:=OT (N:=N+1) (f:=fun k t=>JD (gwL (pwN n) q L j x k t)) (n:=j - 1) (i:=x) (by omega) (by omega);have l:=JJ (N:=N+1) (f:=fun k t=>JD (gwL (pwN n) q L j x k t));simp only [mV J] at gx;have y5:orN x q.key<pwN n:=qpv P hk;have gy:=OT (N:=N+1) (f:=fun k t=>JD (gwL (pwN n) q L j x k t)) (n:=j) (i:=orN x q.key) (by omega) (by omega);rw [jy];simp -implicitDefEqProofs (disch:=omega)[qb,X,zi,gx,l];refine ⟨by omega,by omega,?_⟩;have jz:((j - 1:Nat):Int)+1=(j:Int):=by omega
     have kl:=Fe (x:=gwR (pwN n) L (j - 1) x);have y6:=Fe (x:=gwL (pwN n) q L j x j (orN x q.key));have kz:=Ff (x:=gwR (pwN n) L (j - 1) x);have kc:=kj (x:=gwL (pwN n) q L j x j (orN x q.key)) (y:=gwR (pwN n) L (j - 1) x) l0;have st:=GP (M:=pwN n) (e:=q) (L:=L) (j:=j) (x:=x) (k:=j) (b:=orN x q.key) J;rw [if_pos ⟨rfl,rfl⟩] at st;rw [<-st] at kc;have y1:∀ k t,¬ (k=j/\t=orN x q.key)->gwL (pwN n) q L j (x+1) k t=gwL (pwN n) q L j x k t:=fun k t h=>by rw [GP J,if_neg h];rfl
     generalize JD (gwR (pwN n) L (j - 1) x)=Q at *;refine qA (fun c=>?_) (fun c=>?_)
     . have k0:0<Q:=by simpa using c
       have pl:Q*q.len<=1099511627777*10000:=Nat.mul_le_mul kl l1;have y2:((Q:Int)*(q.len:Int))=((Q*q.len:Nat):Int):=by simp
       have cw:=fun v=>FW (N:=N+1) (f:=fun k t=>JD (gwL (pwN n) q L j x k t)) (n:=j) (i:=orN x q.key) (v:=v) (by omega) (by omega);generalize y3:JD (gwL (pwN n) q L j x j (orN x q.key))=vv at *;simp -implicitDefEqProofs (disch:=omega)[qb,jz,-qgX,qjq,X,zi,gy,l,Ka,x6,lq];have em:min (1099511627777:Int) ((vv:Int)+(Q:Int)*(q.len:Int))=((JD (gwL (pwN n) q L j (x+1) j (orN x q.key)):Nat):Int):=by rw [<-kc,y2];omega
       have y4:=qmt 4096 (show j+1<=N+1 by omega);have wx:IntKind.u64.wrap ((x:Int)+1)=((x+1:Nat):Int):=by rw [show ((x:Int)+1)=((x+1:Nat):Int) by omega,UK (by omega)]
       refine ⟨by omega,by omega,by omega,by omega,by omega,?_⟩;rw [em,cw,wx,s]
       have Z:qu (G3.set hp.length (.cells (fnM (N+1) (lE (fun k t=>JD (gwL (pwN n) q L j x k t)) j (orN x q.key) (JD (gwL (pwN n) q L j (x+1) j (orN x q.key))))))) hp.length=some (.cells (fnM (N+1) fun k t=>JD (gwL (pwN n) q L j (x+1) k t))):=by
        rw [qD x6];congr 2;refine WA fun k t _ _=>?_;unfold lE;by_cases e:k=j/\t=orN x q.key
        . rw [if_pos e,e.1,e.2]
        rw [if_neg e,y1 k t e]
       exact XQ (x+1,G3.set hp.length (.cells (fnM (N+1) (lE (fun k t=>JD (gwL (pwN n) q L j x k t)) j (orN x q.key) (JD (gwL (pwN n) q L j (x+1) j (orN x q.key))))))) ⟨by simp only;omega,Z,(qq (by omega)).trans x3,⟨by rw [qnp];exact R.1,fun i hi=>(qq (by omega)).trans (R.2 i hi)⟩,by rw [qnp];exact x5⟩ (by simp only;omega) rfl (by simp [jy])
     have k0:Q=0:=by simp at c;omega
     have g0:=kz.1 k0;simp -implicitDefEqProofs (disch:=omega)[qb,-pr,qc7];rw [s];refine XQ (x+1,G3) ⟨by simp only;omega,?_,x3,R,x5⟩ (by simp only;omega) rfl (by simp [jy]);simp only;rw [X];congr 2;refine WA fun k t _ _=>?_;rw [GP J,g0];simp
   have P:x=pwN n:=by simp at c;omega
   subst P;subst s;simp -implicitDefEqProofs (disch:=omega)[qb];rw [C];refine qI (j - 1,G3) ⟨by simp only;omega,?_,x3,R,x5⟩ (by simp only;omega) (by simp only [jx]);simp only;rw [X];congr 2;exact WA fun k t _ _=>by rw [yK J]
 have J:j=0:=by simp at c;omega
 subst J;subst C;simp -implicitDefEqProofs (disch:=omega)[qb];rw [u];refine XQ (q::L,G2) ⟨fun e he=>?_,qm7.2 ⟨nl,d2⟩,?_,j3,j4,j5⟩ mu rfl (by simp)
 . rcases sg.1 he with rfl | he
   . exact hq
   exact d1 e he
 simp only;rw [j2];congr 2;exact WA fun k t _ _=>by rw [mU]
end
def gw2 (M:Nat):List (Nat×Nat)->Nat->Nat->Nat
 | [],n,b=>if n=0/\b=0 then 1 else 0
 | _::L,0,b=>gw2 M L 0 b
 | e::L,n+1,b=>gw2 M L (n+1) b+e.2*sK (fun c=>if orN c e.1=b then gw2 M L n c else 0) M
theorem GQ (M:Nat):∀ (L:List GE) (n b:Nat),gwR M L n b=gw2 M (L.map fun e=>(e.key,e.len)) n b
 | [],n,b=>rfl
 | e::L,0,b=>GQ M L 0 b
 | e::L,n+1,b=>by
   show gwR M L (n+1) b+e.len*sK (fun c=>if orN c e.key=b then gwR M L n c else 0) M=gw2 M _ (n+1) b+e.len*sK (fun c=>if orN c e.key=b then gw2 M _ n c else 0) M
   rw [GQ M L (n+1) b];congr 3;funext c;rw [GQ M L n c]
theorem Cr {f g:Nat->Nat}:∀ {M:Nat},(∀ c,c<M->f c=g c)->sK f M=sK g M
 | 0,_=>rfl
 | M+1,h=>by show sK f M+f M=sK g M+g M;rw [Cr fun c u=>h c (by omega),h M (by omega)]
theorem Ct:∀ {M:Nat},sK (fun _=>0) M=0
 | 0=>rfl
 | M+1=>by show sK _ M+0=0;rw [Ct]
theorem Cq {f g:Nat->Nat}:∀ {M:Nat},sK (fun c=>f c+g c) M=sK f M+sK g M
 | 0=>rfl
 | M+1=>by show sK (fun c=>f c+g c) M+(f M+g M)=(sK f M+f M)+(sK g M+g M);rw [Cq];omega
theorem wW {k:Nat} {f:Nat->Nat}:∀ {M:Nat},sK (fun c=>k*f c) M=k*sK f M
 | 0=>rfl
 | M+1=>by show sK (fun c=>k*f c) M+k*f M=k*(sK f M+f M);rw [wW,qpI]
theorem Cs {h:Nat->Nat} {C:Nat}:∀ {M:Nat},sK (fun c=>if C=c then h c else 0) M=if C<M then h C else 0
 | 0=>by simp [sK]
 | M+1=>by
   show sK _ M+(if C=M then h M else 0)=_
   rw [Cs];by_cases e:C=M
   . subst e;simp
   rw [if_neg e];by_cases u:C<M
   . rw [if_pos u,if_pos (by omega)];rfl
   rw [if_neg u,if_neg (by omega)]
theorem wX {P:Nat->Prop} [DecidablePred P] {f g:Nat->Nat} {M:Nat}:∀ {D:Nat},(∀ d,d<D->f d<M)->sK (fun c=>if P c then sK (fun d=>if f d=c then g d else 0) D else 0) M=sK (fun d=>if P (f d) then g d else 0) D
 | 0,_=>by
   refine (Cr fun c _=>?_).trans Ct;show (if P c then 0 else 0)=0
   split <;> rfl
 | D+1,h=>by
   have e:(fun c=>if P c then sK (fun d=>if f d=c then g d else 0) (D+1) else 0)=fun c=>(if P c then sK (fun d=>if f d=c then g d else 0) D else 0)+(if f D=c then (if P c then g D else 0) else 0):=by
    funext c;show (if P c then sK _ D+(if f D=c then g D else 0) else 0)=_
    by_cases u:P c <;> by_cases v:f D=c <;> simp [u,v]
   rw [e,Cq,wX fun d j=>h d (by omega),Cs,if_pos (h D (by omega))];rfl
theorem yJ {x y:Nat×Nat} {L:List (Nat×Nat)} (j:x.1<2 ^ k) (u:y.1<2 ^ k):∀ n b,gw2 (2 ^ k) (x::y::L) n b=gw2 (2 ^ k) (y::x::L) n b
 | 0,b=>rfl
 | 1,b=>by
   show (gw2 _ L 1 b+y.2*sK (fun c=>if orN c y.1=b then gw2 _ L 0 c else 0) _)+x.2*sK (fun c=>if orN c x.1=b then gw2 _ L 0 c else 0) _=(gw2 _ L 1 b+x.2*sK (fun c=>if orN c x.1=b then gw2 _ L 0 c else 0) _)+y.2*sK (fun c=>if orN c y.1=b then gw2 _ L 0 c else 0) _
   omega
 | n+2,b=>by
   have K:∀ x y:Nat×Nat,y.1<2 ^ k->sK (fun c=>if orN c x.1=b then gw2 (2 ^ k) (y::L) (n+1) c else 0) (2 ^ k)=sK (fun c=>if orN c x.1=b then gw2 (2 ^ k) L (n+1) c else 0) (2 ^ k)+y.2*sK (fun d=>if orN (orN d y.1) x.1=b then gw2 (2 ^ k) L n d else 0) (2 ^ k):=fun x y u=>by
    rw [<-wX (P:=fun c=>orN c x.1=b) (f:=fun d=>orN d y.1) (M:=2 ^ k) (fun d v=>qpv v u),<-wW,<-Cq];refine Cr fun c _=>?_;by_cases h:orN c x.1=b
    . rw [if_pos h,if_pos h,if_pos h];rfl
    rw [if_neg h,if_neg h,if_neg h];rfl
   show (gw2 _ L (n+2) b+y.2*sK (fun c=>if orN c y.1=b then gw2 _ L (n+1) c else 0) _)+x.2*sK (fun c=>if orN c x.1=b then gw2 _ (y::L) (n+1) c else 0) _=(gw2 _ L (n+2) b+x.2*sK (fun c=>if orN c x.1=b then gw2 _ L (n+1) c else 0) _)+y.2*sK (fun c=>if orN c y.1=b then gw2 _ (x::L) (n+1) c else 0) _
   rw [K x y u,K y x j]
   have e:(fun d=>if orN (orN d y.1) x.1=b then gw2 (2 ^ k) L n d else 0)=fun d=>if orN (orN d x.1) y.1=b then gw2 (2 ^ k) L n d else 0:=by
    funext d;have:orN (orN d y.1) x.1=orN (orN d x.1) y.1:=by unfold orN;rw [Nat.or_assoc,Nat.or_comm y.1,<-Nat.or_assoc]
    rw [this]
   rw [e,qpI,qpI,<-qpR,<-qpR,qpc x.2 y.2];omega
theorem yI {L z:List (Nat×Nat)} (h:L.Perm z):(∀ x∈L,x.1<2 ^ k)->∀ n b,gw2 (2 ^ k) L n b=gw2 (2 ^ k) z n b:=by
 induction h with
 | nil=>intro _ n b;rfl
 | cons x h i =>
   rename_i l o;intro u n b;have i:=i fun y s=>u y (by simp [s]);cases n with
   | zero=>exact i 0 b
   | succ n =>
     show gw2 _ l (n+1) b+x.2*sK (fun c=>if orN c x.1=b then gw2 _ l n c else 0) _=gw2 _ o (n+1) b+x.2*sK (fun c=>if orN c x.1=b then gw2 _ o n c else 0) _
     rw [i (n+1) b];congr 3;funext c;rw [i n c]
 | swap x y l=>intro u n b;exact yJ (u y (by simp)) (u x (by simp)) n b
 | trans q m v j=>intro u n b;rw [v u n b,j (fun x g=>u x (q.mem_iff.2 g)) n b]
def cP:AV->Option Nat
 | .sl _ n _=>some n
 | .ms _ _ n _=>some n
 | _=>none
def klE (e:Value×AV):Option (Nat×Nat):=match vA e.1,cP e.2 with
 | some n,some l=>some (n,l)
 | _,_=>none
def klP (E:List Ent) (k:List (Nat×Nat)->Prop):Prop:=List.rec (motive:=fun _=>(List (Nat×Nat)->Prop)->Prop) (fun k=>k []) (fun e _ i k=>match klE (kvE e) with
 | some (n,l)=>fnP n fun n=>fnP l fun l=>i fun t=>k ((n,l)::t)
 | none=>False) E k
theorem bT:∀ {E:List Ent} {k:List (Nat×Nat)->Prop},klP E k->∃ l,(E.map kvE).map klE=l.map some/\k l
 | [],k,h=>⟨[],rfl,h⟩
 | e::E,k,h=>by
   have h:(match klE (kvE e) with
    | some (n,l)=>fnP n fun n=>fnP l fun l=>klP E fun t=>k ((n,l)::t)
    | none=>False):=h
   split at h
   . rename_i n l u;rw [qC,qC] at h;obtain ⟨t,v,j⟩:=bT h;exact ⟨(n,l)::t,by rw [wI,wI,wI,u,v],j⟩
   exact h.elim
def qgs (x:List AV) (h:List HObj) (k:AV->List HObj->Prop):Prop:=match x with
 | [.ref r 0,.v (.int .i64 (.ofNat N))]=>VC h r fun cells=>match cells with
   | [_,c,.mp m]=>(match cP c with
     | some n=>XS h m fun o=>(match o with
       | .mp e K=>okP (Nat.beq K 0) (klP e fun l=>okP (Nat.ble n 12&&Nat.ble N 1000&&l.all fun p=>Nat.blt p.1 (2 ^ n)&&Nat.blt 0 p.2&&Nat.ble p.2 10000) (fnP (JD (gw2 (2 ^ n) l N (2 ^ n - 1))) fun v=>JA h .gone fun _ h=>JA h .gone fun _ h=>k (.v (.int .i64 (.ofNat v))) h))
       | _=>False)
     | none=>False)
   | _=>False
 | _=>False
theorem HR.app2 {Z:ZZ} {X K G:List HObj} (h:HR Z X K) (ha:Agr K G) (hl:G.length=K.length+2) (hm:∀ i o,K.length<=i->qu G i=some o->nmP o=true):HR Z (X++[.gone]++[.gone]) G:=by
 refine ⟨by rw [hl,h.len];simp,fun i hi=>h.new i (by simp at hi;omega),fun i o o' y A=>?_⟩;rcases qmV i X.length with O | q
 . rw [qmo,qmw O] at y;have:=ha.2 i (by rw [h.len];exact O);rw [qn,qn,A] at this;exact h.obj i o o' y this.symm
 have e:o = .gone:=by
  rw [qmo,qmy q] at y;generalize i - X.length=j at y
  match j,y with
  | 0,y=>simp at y;exact y.symm
  | 1,y=>simp at y;exact y.symm
  | j+2,y=>simp at y
 subst e;rw [h.new i q];exact hm i o' (by rw [h.len];exact q) (by rw [qn];exact A)
theorem lU:LW prog 609 qgs:=by
 intro xs w k h;unfold qgs at h;split at h
 . rename_i rc N;obtain ⟨cells,hc,h⟩:=zU h;split at h
   . rename_i c0 c1 m;split at h
     . rename_i n q;obtain ⟨o,ho,h⟩:=zW h;split at h
       . rename_i Q kk;obtain ⟨x0,h⟩:=qt h;obtain ⟨l,hl,h⟩:=bT h;obtain ⟨hb,h⟩:=qt h;simp only [qd,LL] at hb;obtain ⟨⟨D,T⟩,s⟩:=hb;have D:=xr D;have T:=xr T;rw [qC] at h;have h:=zP (zP h);have ew:qf (qf w [(w.length,HObj.gone)]) [((qf w [(w.length,HObj.gone)]).length,HObj.gone)]=w++[.gone]++[.gone]:=by simp [qf,qz]
         rw [ew] at h;refine ⟨_,_,fun Z hq J=>?_,h⟩;obtain ⟨E,C,X,O,_⟩:=J.mp (show hpf w m=some (.mp Q kk) from ho);have t:∀ e∈E,∃ x∈l,klE (kvE e)=some x:=fun e j=>by have u:kvE e∈Q.map kvE:=O.perm.mem_iff.2 (gm.2 ⟨e,j,rfl⟩);have v:klE (kvE e)∈(Q.map kvE).map klE:=gm.2 ⟨_,u,rfl⟩;rw [hl] at v;obtain ⟨x,r,d⟩:=gm.1 v;exact ⟨x,r,d.symm⟩
         have A:∀ e∈E,∀ x,klE (kvE e)=some x->vA e.1=some x.1/\cP e.2.2=some x.2:=fun e _ x f=>by
          unfold klE at f;split at f
          . rename_i a b u v;cases f;exact ⟨u,v⟩
          cases f
         have i:∀ e∈E,∃ n,e.1=bQ n:=fun e j=>by obtain ⟨x,_,v⟩:=t e j;exact ⟨x.1,Bt (A e j x v).1⟩
         have hE:=AB i
         have g:∀ e∈E,∀ x,klE (kvE e)=some x->((NG e).key,(NG e).len)=x:=fun e j x f=>by
          obtain ⟨u,v⟩:=A e j x f;have a1:(NG e).key=x.1:=by unfold NG;rw [u];rfl
          have a2:(NG e).len=x.2:=by unfold cP at v;unfold NG GE.len;split at v <;> rename_i P <;> first | (cases v;done) | (simp only [P];cases v;rfl)
          rw [a1,a2]
         have p:((E.map NG).map fun e=>(e.key,e.len)).Perm l:=by
          have u:=(O.perm.map klE);rw [hl] at u;have v:(E.map kvE).map klE=((E.map NG).map fun e=>(e.key,e.len)).map some:=by rw [qmU,qmU,qmU];refine qmL fun e j=>?_;obtain ⟨x,_,f⟩:=t e j;show klE (kvE e)=some ((NG e).key,(NG e).len);rw [g e j x f,f]
          rw [v] at u;have fs:∀ z:List (Nat×Nat),(z.map some).filterMap id=z:=fun z=>by rw [List.filterMap_map,show (id ∘ some:Nat×Nat->_)=some from rfl,List.filterMap_some]
          have r:=u.symm.filterMap id;rwa [fs,fs] at r
         have gr:GrH hq m (E.map NG) C:=by
          refine ⟨?_,?_,fun e j=>?_⟩
          . rw [qn];unfold mpG;rw [hE];exact X
          . rw [qnz];have:=O.born;rw [List.Nodup,qnz] at this;exact this
          obtain ⟨y,u,rfl⟩:=gm.1 j;exact O.clk y u
         have bd:BdC hq rc m (E.map NG) C n:=by refine ⟨⟨c0,c1,by rw [qn];exact (J.cel hc).1,fun K=>?_⟩,gr⟩;unfold cP at q;split at q <;> first | (cases q;done) | (cases q;rfl)
         have c:∀ e∈E.map NG,∃ y∈E,∃ x∈l,NG y=e/\klE (kvE y)=some x:=fun e j=>by obtain ⟨y,u,rfl⟩:=gm.1 j;obtain ⟨x,v,r⟩:=t y u;exact ⟨y,u,x,v,rfl,r⟩
         refine kB bd D (fun e j=>?_) (fun e j=>?_) T fun L G hL ha V Y=>⟨?_,J.app2 ha V Y⟩
         . obtain ⟨y,u,x,v,rfl,r⟩:=c e j;have d:=s x v;rw [show (NG y).key=x.1 from qnH Prod.fst (g y u x r)];exact xr d.1.1
         . obtain ⟨y,u,x,v,rfl,r⟩:=c e j;have d:=s x v;have R:(NG y).len=x.2:=qnH Prod.snd (g y u x r);refine ⟨by rw [R];exact xr d.1.2,by rw [R];exact xr d.2,fun K=>?_⟩;have M:=(A y u x r).2;rw [R];show bj y.2.2 K=_;unfold cP at M;split at M <;> rename_i P <;> first | (cases M;done) | (rw [P];cases M;rfl)
         show I (JD (gwR (pwN n) L N (pwN n - 1)):Nat)=_;rw [GQ,show pwN n=2 ^ n from rfl,yI ((hL.map _).trans p) fun x f=>?_]
         . rfl
         have:=((hL.map fun e:GE=>(e.key,e.len)).trans p).mem_iff.1 f;exact xr (s x this).1.1
       exact h.elim
     exact h.elim
   exact h.elim
 exact h.elim
def qlE:Kn := .law qgs
theorem uF:LW prog 609 qgs:=lU
section
variable {L M R:List Int} {e e':Bool}
abbrev shB (L:List Int):List Int:=ZS bB L
abbrev wyB (L M:List Int):List Int:=ZS bB (ZD L++M)
theorem qiZ (h:In5 L) (l:L.length<=40):In5 (shB L)/\(shB L).length<=L.length:=⟨iz (Fo (h.chk (by omega))),Yn bB L⟩
theorem MK (h:In5 L):In5 (ZD L):=fun s u=>by unfold ZD at u;rw [qoc,gm] at u;obtain ⟨x,v,rfl⟩:=u;obtain ⟨j,z,y⟩:=h x v;exact ⟨by omega,by omega,by omega⟩
theorem qjX (h:In5 L) (k:In5 M):In5 (wyB L M):=fun s j=>by
 have v:S8 (ZD L++M):=fun x z=>by
  rcases xm.1 z with u | u
  . exact (MK h).s8 x u
  exact k.s8 x u
 rcases xm.1 (RX v j) with u | u
 . exact MK h s u
 exact k s u
theorem qdi (h:In5 L) (k:In5 M):(wyB L M).length<=L.length+M.length:=by have:=Yn bB (ZD L++M);rw [qmI,Kl] at this;exact this
theorem dY (h:In5 L) (k:In5 M) (u:R.length=6):acA (wyB L M) (acA L R)=acA M R:=by rw [<-Ki];exact El (xZ h.s8 k.s8) u
theorem dW (h:In5 L) (u:R.length=6):acA (shB L) R=acA L R:=(El (XK h.s8) u).symm
theorem WH {l:List Int}:(lnL l).length=l.length:=by simp [lnL]
theorem Vl (h:In5 L) (l:L.length<=1000):qx prog 17 [Ls e L] (Ls (lnL L).isEmpty (lnL L)):=vl e L (by omega) fun s u=>by obtain ⟨v,j,z⟩:=h s u;omega
theorem uK (h:In5 L) (l:L.length<=40):qx prog 14 [Bn true bB,Ls e L] (.tup [Ls false (shB L),I 0]):=by
 have:=xE true e bB L (by decide) (by omega);rw [h.chk (by omega)] at this;have E:Nv bB L=shB L:=by unfold Nv;rw [if_neg (by rw [h.chk (by omega)];decide)]
 rw [E] at this;exact this
theorem lw (h:In5 L) (k:In5 M) (l:L.length<=40) (m:M.length<=40):Ra bB L M=0:=by unfold Ra;rw [if_neg (by rw [h.chk (by omega)];decide)];exact k.chk (by omega)
theorem qie (h:In5 L) (k:In5 M) (l:L.length<=40) (m:M.length<=40):qx prog 15 [Bn true bB,Ls e L,Ls e' M] (.tup [Ls (wyB L M).isEmpty (wyB L M),I 0]):=by
 have:=qdh true e e' bB L M (by decide) (by omega) (by omega);rw [lw h k l m] at this;have E:nS bB L M=wyB L M:=by unfold nS;rw [if_neg (by rw [lw h k l m];decide)]
 rw [E] at this;exact this
theorem iK (h:In5 L) (k:In5 M) (l:L.length<=40) (m:M.length<=40):qx prog 19 [Bn true bB,Ls e L,Ls e' M] (I (if ZS bB L=ZS bB M then 0 else 18)):=by
 have:=fL true e e' bB L M (by decide) (by omega) (by omega);have E:LM bB L M=if ZS bB L=ZS bB M then 0 else 18:=by unfold LM;rw [if_neg (by rw [lw h k l m];decide)]
 rw [E] at this;exact this
def Rw6 (R:List Int):Prop:=R.length=6/\∀ x∈R,0<=x/\x<=5
theorem Rw6.ok (h:Rw6 R):Ev bO R=true:=by unfold Ev;rw [qd];refine ⟨by rw [h.1];rfl,?_⟩;rw [LL];intro x y;have:=h.2 x y;simp only [qd,qmE];exact this
theorem qak {k:Int} (h:Rw6 R):Rw6 (swp k R):=by
 refine ⟨CM h.1,?_⟩;unfold swp;split
 . rename_i j;obtain ⟨u,v⟩:=h;obtain ⟨a,b,c,d,x,f,rfl⟩:=six u;intro z y;refine v z ?_;rcases oS j with rfl | rfl | rfl | rfl | rfl <;> (simp [nbS,aft] at y ⊢;omega)
 exact h.2
theorem bo:∀ {L R:List Int},Rw6 R->Rw6 (acA L R)
 | [],R,h=>h
 | s::L,R,h=>bo (L:=L) (qak h)
theorem qhQ {l:List Int} (h:l.length=6):l.isEmpty=false:=by
 cases l with
 | nil=>cases h
 | cons=>rfl
theorem Sg (z:Sz12 bO) (h:In5 L) (l:L.length<=80) (u:Rw6 R):qx prog 9 [On false bO,Ls false R,Ls e (lnL L)] (.tup [Ls false (acA L R),I 0]):=by
 have:=DV false false e bO z R (lnL L) (by rw [u.1];omega) (by rw [WH];omega);have E:LZ bO R (lnL L)=0:=by unfold LZ;rw [if_neg (by rw [RM];decide),if_neg (by rw [u.ok];decide)];exact uX h (by omega)
 have v:Ma bO R (lnL L)=acA L R:=by unfold Ma;rw [if_pos E,Kj h]
 rw [E,v,qhQ (YR u.1)] at this;exact this
theorem qid (h:In5 L) (l:L.length<=80) (u:R.length=6):qx prog 18 [On false bO,Ls false R,Ls e (lnL L)] (Ls false (acA L R)):=by have:=vU false false e qiH R (lnL L) u h.lines (by rw [WH];omega);rw [Kj h] at this;exact this
theorem bP (h:R.length=6):qx prog 10 [Ls false R,Ls false R] (B true):=by have:=LF false false R R (by omega) (by omega);simpa using this
theorem uJ (z:Sz12 bO) (h:In5 L) (k:In5 M) (l:L.length<=40) (m:M.length<=40):qx prog 20 [On false bO,Ls e (lnL L),Ls e' (lnL M)] (I (if acA L (jn 6)=acA M (jn 6) then 0 else 18)):=by
 have:=BE false e e' bO z (lnL L) (lnL M) (by rw [WH];omega) (by rw [WH];omega);have E:LO bO (lnL L) (lnL M)=if acA L (jn 6)=acA M (jn 6) then 0 else 18:=by unfold LO;rw [if_neg (by rw [RM];decide),if_neg (by rw [WH,WH];omega),if_neg (by rw [uX h (by omega),uX k (by omega)];decide),Kj h,Kj k];rfl
 rw [E] at this;exact this
def frL (r:List Int):List Int:=r.map fun x=>x.tmod 6
theorem oX {r:List Int} (h:r.length=6) (u:∀ n∈r,0<=n/\n<=255):Rw6 (frL r):=by refine ⟨by simp [frL,h],fun x j=>?_⟩;obtain ⟨n,v,rfl⟩:=gm.1 j;have z:0<=n.tmod 6:=qpE 6 (u n v).1;have y:n.tmod 6<6:=qpm n (by omega);omega
end
set_option maxHeartbeats 4000000 in
theorem fu (s:qx prog 11 [] (B true)) (c:Sz12 bO) (hn:qx prog 12 [I 6] (On false bO)) (f g:Bool) (u v r:List Int) (hu:∀ n∈u,0<=n/\n<=255) (hv:∀ n∈v,0<=n/\n<=255) (Q:r.length=6) (h6:∀ n∈r,0<=n/\n<=255) :
 qx prog 4 [Ubs f u,Ubs g v,.agg (r.map fun n=>Ub n)] (B true):=by
 refine qM (Km func4 mO (by kernel_rfl) (by show 3<=_;decide) ?_);simp only [qkz];refine qN ?_;simp -implicitDefEqProofs (disch:=omega)[cZ,qb,Q];by_cases x1:40<u.length
 . have E:decide ((40:Int)<u.length)=true:=by simp;omega
   refine qN ?_;simp -implicitDefEqProofs (disch:=omega)[Iz,qb,E];refine qh rfl s ?_;simp -implicitDefEqProofs (disch:=omega)[qb]
 have E:decide ((40:Int)<u.length)=false:=by simp;omega
 by_cases x0:40<v.length
 . have N:decide ((40:Int)<v.length)=true:=by simp;omega
   refine qN ?_;simp -implicitDefEqProofs (disch:=omega)[Iz,qb,E,N];refine qh rfl s ?_;simp -implicitDefEqProofs (disch:=omega)[qb]
 have N:decide ((40:Int)<v.length)=false:=by simp;omega
 have hl:u.length<=1000000:=by omega
 have hm:v.length<=1000000:=by omega
 refine qN ?_;simp -implicitDefEqProofs (disch:=omega)[Iz,qb,E,N];refine qN ?_;simp -implicitDefEqProofs (disch:=omega)[da,qb];refine Qa (ys:=[AV.agg [I 0,I 1],AV.agg [I 1,I 2],AV.agg [I 2,I 3],AV.agg [I 3,I 4]]) rfl rfl ?_;simp -implicitDefEqProofs (disch:=omega)[qb,zh];refine qN ?_;simp -implicitDefEqProofs (disch:=omega)[db,qb];refine qh rfl hn ?_;simp -implicitDefEqProofs (disch:=omega)[qb];refine qN ?_;simp -implicitDefEqProofs (disch:=omega)[dc,qb];refine qh rfl (UA f u hl hu) ?_;simp -implicitDefEqProofs (disch:=omega)[qb];refine qh rfl (UA g v hm hv) ?_;simp -implicitDefEqProofs (disch:=omega)[qb];refine qN ?_;simp -implicitDefEqProofs (disch:=omega)[dg,qb];have z:=wY hu;have y:=wY hv;have l:(sgL u).length<=40:=by simp [sgL];omega
 have k:(sgL v).length<=40:=by simp [sgL];omega
 generalize sgL u=L at z l ⊢;generalize sgL v=M at y k ⊢;generalize L.isEmpty=Z;generalize M.isEmpty=C;have b:=oX Q h6;have e:(frL r).length=6:=b.1;have bc:AV.sl true 4 [I 0,I 1,I 1,I 2,I 2,I 3,I 3,I 4]=Ps true bB.c:=rfl;rw [bc];refine qN ?_;simp -implicitDefEqProofs (disch:=omega)[dh,qb];refine qL (fun q:Nat×AV×List HObj=>⟨[(5,.ref 0 0),(7,.ref 1 0),(8,.ref 2 0),(9,Ls Z L),(10,Ls C M),(11,q.2.1),(12,I (q.1:Int))],q.2.2⟩) (fun q=>q.1<=6/\AccR q.2.2 q.2.1 ((frL r).take q.1)/\qu q.2.2 0=some (.cells (r.map fun n=>Ub n))/\qu q.2.2 1=some (.cells [I 5,Ps true bB.c])/\qu q.2.2 2=some (.cells [I bO.P,LLs false bO.s])/\∀ i,rid q.2.1=some i->3<=i) (fun q=>6 - q.1) (0,.sl true 0 [],_) ⟨qmQ _,.inl ⟨rfl,rfl⟩,rfl,rfl,rfl,fun i h=>by cases h⟩ rfl ?_;rintro ⟨i,x,H⟩ ⟨c1,c2,c3,c4,c5,c6⟩;simp only at c1 c2 c3 c4 c5 c6 ⊢;have l2:=qw c5;refine QJ fun K0 t=>?_;by_cases hi:i<6
 . have ix:((i:Int)+1)=((i+1:Nat):Int):=by omega
   have p:i<r.length:=by omega
   obtain ⟨b1,b2⟩:=h6 r[i] (qmr p);obtain ⟨w,s⟩:∃ w,r[i]=w:=⟨_,rfl⟩;have T:(frL r).take (i+1)=(frL r).take i++[w.tmod 6]:=by rw [qnx (by omega)];simp [frL,s]
   have tl:((frL r).take i).length=i:=by rw [qmS];omega
   rw [s] at b1 b2;have cw:∀ K,zF (r.map fun n=>Ub n) i 1 false K=K (Ub w) []:=fun K=>by rw [RJ p,s]
   have P:decide ((i:Int)<6)=true:=by simp;omega
   simp -implicitDefEqProofs (disch:=omega)[qb,P,c3,zi,cw,Q,Xg,YG];refine ⟨by omega,?_⟩;refine Qa (ys:=[I (w.tmod 6)]) rfl rfl ?_;simp -implicitDefEqProofs (disch:=omega)[qb,zh,Xg,YG];refine jw c2.row (by omega) fun ws Y w2 w3=>?_;simp -implicitDefEqProofs (disch:=omega)[qb,Xg,YG,tl];rw [t];refine qI (i+1,.ms H.length 0 (i+1) 1,qf H ws) ⟨by simp only;omega,.inr ⟨H.length,?_,?_,?_⟩,?_,?_,?_,?_⟩ (by simp only;omega) (by simp only [ix])
   . rw [qmS,qnu (by omega)]
   . simp only [T];simp
   . simp only [T];exact w3
   . rw [Y 0 (by omega) fun h=>by have:=c6 0 h;omega];exact c3
   . rw [Y 1 (by omega) fun h=>by have:=c6 1 h;omega];exact c4
   . rw [Y 2 (by omega) fun h=>by have:=c6 2 h;omega];exact c5
   simp only [rid];intro j o;injection o;omega
 have P:decide ((i:Int)<6)=false:=by simp;omega
 have T:(frL r).take i=frL r:=qmn (by omega);rw [T] at c2;subst t;simp -implicitDefEqProofs (disch:=omega)[qb,P];rcases c2 with ⟨_,J⟩ | ⟨id,hx,J,m⟩
 . rw [J] at e;cases e
 subst hx;have h3:=c6 id rfl;generalize frL r=R at b e m ⊢;refine ef (DP (ids:=[id]) (fr':=[(5,.ref 0 0),(7,.ref 1 0),(8,.ref 2 0),(9,Ls Z L),(10,Ls C M),(11,Ls false R),(12,I (i:Int)),(45,B false)]) ?_ ?_) ?_
 . exact .keep (.keep (.keep (.keep (.keep (.new (DT m rfl) (by simp) .refl)))))
 . intro j o;simp at o;subst o;exact ⟨_,by rw [ze];exact m⟩
 have D:qu (qf H (gones [id])) 1=some (.cells [I 5,Ps true bB.c]):=by rw [DU (by intro j o;simp at o;subst o;exact qw m) (by simp;omega)];exact c4
 have d:qu (qf H (gones [id])) 2=some (.cells [I bO.P,LLs false bO.s]):=by rw [DU (by intro j o;simp at o;subst o;exact qw m) (by simp;omega)];exact c5
 generalize qf H (gones [id])=H1 at D d ⊢;refine qN ?_;simp -implicitDefEqProofs (disch:=omega)[dj,qb,D,zi];refine qh rfl (uK z l) ?_;simp -implicitDefEqProofs (disch:=omega)[qb];refine qN ?_;simp -implicitDefEqProofs (disch:=omega)[dm,qb,D,zi];refine qh rfl (qie z y l k) ?_;simp -implicitDefEqProofs (disch:=omega)[qb];obtain ⟨V,lS⟩:=qiZ z l;have X:=qjX z y;have lW:=qdi z y;refine qN ?_;simp -implicitDefEqProofs (disch:=omega)[gC,qb];refine qh rfl (RO false _ (by omega) V) ?_;simp -implicitDefEqProofs (disch:=omega)[qb];refine qh rfl (RO _ _ (by omega) X) ?_;have f1:decide (L.length<(shB L).length)=false:=by simp;omega
 have f2:decide ((L.length:Int)+M.length<(wyB L M).length)=false:=by simp;omega
 have f3:decide (L.length+M.length<(wyB L M).length)=false:=by simp;omega
 simp -implicitDefEqProofs (disch:=omega)[qb,f1,f2,f3];refine qN ?_;simp -implicitDefEqProofs (disch:=omega)[gD,qb,d,zi];refine qZ rfl (Vl z (by omega)) ?_;simp -implicitDefEqProofs (disch:=omega)[qb];refine qZ rfl (Sg c z (by omega) b) ?_;simp -implicitDefEqProofs (disch:=omega)[qb];refine qN ?_;simp -implicitDefEqProofs (disch:=omega)[gE,qb,d,zi];refine qZ rfl (Vl y (by omega)) ?_;simp -implicitDefEqProofs (disch:=omega)[qb];refine qZ rfl (Sg c y (by omega) b) ?_;simp -implicitDefEqProofs (disch:=omega)[qb];refine qN ?_;simp -implicitDefEqProofs (disch:=omega)[gF,qb,d,zi];refine qZ rfl (Vl V (by omega)) ?_;simp -implicitDefEqProofs (disch:=omega)[qb];refine qZ rfl (Sg c V (by omega) b) ?_;simp -implicitDefEqProofs (disch:=omega)[qb];have aS:=dW z e;rw [aS];refine qN ?_;simp -implicitDefEqProofs (disch:=omega)[gG,qb,d,zi];refine qZ rfl (Vl z (by omega)) ?_;simp -implicitDefEqProofs (disch:=omega)[qb];refine qZ rfl (qid z (by omega) e) ?_;simp -implicitDefEqProofs (disch:=omega)[qb];refine qZ rfl (bP (YR e)) ?_;simp -implicitDefEqProofs (disch:=omega)[qb,Xg,YG];refine qN ?_;simp -implicitDefEqProofs (disch:=omega)[gH,qb,d,zi];refine qZ rfl (Vl X (by omega)) ?_;simp -implicitDefEqProofs (disch:=omega)[qb];refine qZ rfl (Sg c X (by omega) (bo b)) ?_;simp -implicitDefEqProofs (disch:=omega)[qb,dY z y e,Xg,YG];refine qN ?_;simp -implicitDefEqProofs (disch:=omega)[gI,qb,D,d,zi];refine qZ rfl (iK z y l k) ?_;simp -implicitDefEqProofs (disch:=omega)[qb,d,zi];refine qZ rfl (Vl z (by omega)) ?_;simp -implicitDefEqProofs (disch:=omega)[qb];refine qZ rfl (Vl y (by omega)) ?_;simp -implicitDefEqProofs (disch:=omega)[qb];refine qZ rfl (uJ c z y l k) ?_;simp -implicitDefEqProofs (disch:=omega)[qb,Xg,YG];have A:(acA L R).length=6:=YR e;have a:(acA M R).length=6:=YR e;by_cases O:ZS bB L=ZS bB M
 . have hP:=(fQ z.s8 y.s8).2 O;rw [if_pos O,if_pos (El hP Qx),El hP e];refine qN ?_;simp -implicitDefEqProofs (disch:=omega)[Rf,qb];refine qN ?_;simp -implicitDefEqProofs (disch:=omega)[Rg,qb];refine qh rfl (bP a) ?_;simp -implicitDefEqProofs (disch:=omega)[qb];refine qh rfl (bP a) ?_;simp -implicitDefEqProofs (disch:=omega)[qb];refine qh rfl (bP a) ?_;simp -implicitDefEqProofs (disch:=omega)[qb];refine qh rfl s ?_;simp -implicitDefEqProofs (disch:=omega)[qb];refine NW ?_;simp -implicitDefEqProofs (disch:=omega)[qb]
 rw [if_neg O];by_cases hG:acA L (jn 6)=acA M (jn 6)
 . rw [if_pos hG];refine qN ?_;simp -implicitDefEqProofs (disch:=omega)[Rf,qb];refine qN ?_;simp -implicitDefEqProofs (disch:=omega)[Rg,qb];refine qh rfl (bP A) ?_;simp -implicitDefEqProofs (disch:=omega)[qb];refine qh rfl (bP a) ?_;simp -implicitDefEqProofs (disch:=omega)[qb];refine qh rfl s ?_;simp -implicitDefEqProofs (disch:=omega)[qb];refine NW ?_;simp -implicitDefEqProofs (disch:=omega)[qb]
 rw [if_neg hG];refine qN ?_;simp -implicitDefEqProofs (disch:=omega)[Rf,qb];refine qN ?_;simp -implicitDefEqProofs (disch:=omega)[Rg,qb];refine qh rfl (bP A) ?_;simp -implicitDefEqProofs (disch:=omega)[qb];refine qh rfl (bP a) ?_;simp -implicitDefEqProofs (disch:=omega)[qb];refine qh rfl s ?_;simp -implicitDefEqProofs (disch:=omega)[qb];refine NW ?_;simp -implicitDefEqProofs (disch:=omega)[qb]
end Go.AM
