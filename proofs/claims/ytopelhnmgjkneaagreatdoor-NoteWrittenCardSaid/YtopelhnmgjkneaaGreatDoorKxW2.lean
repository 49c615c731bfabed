/-
  KxW2: texts joined: FmNR Ns6 FmNL Lx9. Own work.
-/
import Derived.Test.YtopelhnmgjkneaaGreatDoorKxW1
import Derived.Test.YtopelhnmgjkneaaGreatDoorProg
set_option linter.all false
set_option linter.unusedSimpArgs false
set_option linter.unusedVariables false
set_option linter.unusedSectionVars false

set_option maxRecDepth 100000
set_option maxHeartbeats 0
namespace Go.AM
open Go.RowKit Go.Proofs
def qwu:AC:=(.seq (.rgn [⟨none,[.box 2 4 (.t 0),.box 3 4 (.t 1),.mv 4 (.k (B false))]⟩] [2,3]) (.seq (.seq (.rgn [⟨none,[.fa 6 (.t 2) 0,.ld 7 false 1 (.t 6),.fa 8 (.t 3) 0,.ld 9 false 1 (.t 8),.bin 10 .neq (.t 7) (.t 9),.mv 11 (.t 10)]⟩,⟨some (11,false),[.fa 12 (.t 2) 1,.ld 13 false 1 (.t 12),.fa 14 (.t 3) 1,.ld 15 false 1 (.t 14),.bin 16 .neq (.t 13) (.t 15)]⟩,⟨none,[.pick 17 (.t 11) (.k (B true)) (.t 16),.mv 18 (.t 17)]⟩,⟨some (18,false),[.fa 19 (.t 2) 3,.ld 20 false 1 (.t 19),.fa 21 (.t 3) 3,.ld 22 false 1 (.t 21),.bin 23 .neq (.t 20) (.t 22)]⟩,⟨none,[.pick 24 (.t 18) (.k (B true)) (.t 23),.mv 25 (.t 24)]⟩,⟨some (25,false),[.fa 26 (.t 2) 2,.ld 27 false 1 (.t 26),.len 28 (.t 27),.fa 29 (.t 3) 2,.ld 30 false 1 (.t 29),.len 31 (.t 30),.bin 32 .neq (.t 28) (.t 31)]⟩,⟨none,[.pick 33 (.t 25) (.k (B true)) (.t 32)]⟩] [2,3,33]) (.cond (.t 33) (.seq (.rgn [⟨none,[.mv 4 (.k (B false))]⟩] [4]) .ret) .skip)) (.seq (.seq (.rgn [⟨none,[.mv 5 (.k (I 0))]⟩] [2,3,5]) (.block 0 (.loop (.seq (.seq (.rgn [⟨none,[.mv 34 (.t 5),.fa 35 (.t 2) 2,.ld 36 false 1 (.t 35),.len 37 (.t 36),.bin 38 .lss (.t 34) (.t 37)]⟩] [2,3,5,38]) (.cond (.t 38) .skip (.exit 0))) (.seq (.block 1 (.seq (.drw [⟨none,[.fa 41 (.t 2) 2,.ld 42 false 1 (.t 41),.mv 43 (.t 5),.ia 44 3 (.t 42) (.t 43),.ld 45 true 3 (.t 44),.fa 46 (.t 3) 2,.ld 47 false 1 (.t 46),.mv 48 (.t 5),.ia 49 3 (.t 47) (.t 48),.ld 50 true 3 (.t 49),.eqk 51 true (true,[.int,.str,.int]) (.t 45) (.t 50)]⟩] [(1,6),(4,6),(1,9),(4,9)] [2,3,5,51]) (.cond (.t 51) (.seq (.rgn [⟨none,[.mv 4 (.k (B false))]⟩] [4]) .ret) .skip))) (.rgn [⟨none,[.mv 39 (.t 5),.bin 40 .add (.t 39) (.k (I 1)),.mv 5 (.t 40)]⟩] [2,3,5])))))) (.seq (.rgn [⟨none,[.mv 4 (.k (B true))]⟩] [4]) .ret))))
theorem qww:qo Tryz.prog Tryz.f23 [4]=some qwu:=by kernel_rfl
theorem qwz (a b:Ln) (hl:a.words.length≤1000000):qC Tryz.prog 23 [LnV a,LnV b] (B (decide (a=b))):=by
 obtain ⟨k,nm,ws,n⟩:=a
 obtain ⟨k',nm',ws',n'⟩:=b
 simp only at hl
 refine qT (walk Tryz.func23 qww (by kernel_rfl) (by show 2≤_;decide) ?_)
 simp -implicitDefEqProofs (disch:=omega)[qwu,qb,lnC]
 by_cases h1:k=k'
 case neg =>
  have e1:(k != k')=true:=by rw [bne_iff_ne];exact h1
  simp -implicitDefEqProofs (disch:=omega)[qb,e1,h1]
 by_cases h2:nm=nm'
 case neg =>
  have e1:(k != k')=false:=by rw [h1];exact bne_self_eq_false _
  have e2:(nm==nm')=false:=by rw [beq_eq_false_iff_ne];exact h2
  simp -implicitDefEqProofs (disch:=omega)[qb,e1,h1,e2,h2]
 by_cases h3:n=n'
 case neg =>
  have e1:(k != k')=false:=by rw [h1];exact bne_self_eq_false _
  have e2:(nm==nm')=true:=by rw [beq_iff_eq];exact h2
  have e3:(n != n')=true:=by rw [bne_iff_ne];exact h3
  simp -implicitDefEqProofs (disch:=omega)[qb,e1,h1,e2,h2,e3,h3]
 subst h1 h2 h3
 by_cases h4:ws.length=ws'.length
 case neg =>
  have e4:((ws.length:Int) != (ws'.length:Int))=true:=by rw [bne_iff_ne];omega
  have h5:ws≠ws':=fun e=>h4 (by rw [e])
  simp -implicitDefEqProofs (disch:=omega)[qb,e4,h5]
 have e4:((ws.length:Int) != (ws'.length:Int))=false:=by rw [h4];exact bne_self_eq_false _
 have hT:decide ((⟨k,nm,ws,n⟩:Ln)=⟨k,nm,ws',n⟩)=decide (ws=ws'):=by simp
 try rw [hT]
 try simp only [true_and,and_true]
 simp -implicitDefEqProofs (disch:=omega)[qb,e4]
 refine qO (fun i:Nat=>⟨[(2,.ref 0 0),(3,.ref 1 0),(5,I (i:Int))],[.cells [I k,S nm,Wds ws,I n],.cells [I k,S nm,Wds ws',I n]]⟩) (fun i=>i≤ws.length∧ws.take i=ws'.take i) (fun i=>ws.length - i) 0 ⟨Nat.zero_le _,rfl⟩ rfl ?_
 rintro i ⟨c1,c2⟩
 refine qW fun K0 hK0=>?_
 simp -implicitDefEqProofs (disch:=omega)[qb]
 refine qP (fun hc=>?_) (fun hc=>?_)
 · have hi : i < ws.length := by simpa using hc
   have hj:i<ws'.length:=by omega
   have ix:((i:Int)+1)=((i+1:Nat):Int):=by omega
   simp -implicitDefEqProofs (disch:=omega)[qb,hi,hj,zW,zJ,zE,qnz]
   by_cases h:ws[i]=ws'[i]
   · simp -implicitDefEqProofs (disch := omega) [qb,h]
     rw [hK0]
     refine qz (i+1) ⟨by omega,?_⟩ (by omega) (by simp only [ix])
     rw [List.take_succ_eq_append_getElem hi,List.take_succ_eq_append_getElem hj,c2,h]
   · have hne : ws ≠ ws' := fun e => h (by subst e; rfl)
     rw [hK0]
     simp -implicitDefEqProofs (disch:=omega)[qb,h,hne]
 · have hi : i = ws.length := by simp at hc; omega
   subst hi
   subst hK0
   have he:ws=ws':=by
    rw [List.take_length,h4,List.take_length] at c2
    exact c2
   simp -implicitDefEqProofs (disch:=omega)[qb,he]
end Go.AM

set_option maxRecDepth 100000
namespace Go.AM
open Go.RowKit Go.Proofs
def qwq:AC:=Subtype.val (p:=fun g=>qo Tryz.prog Tryz.f12 [4]=some g) (by refine ⟨?g,?h⟩;case h=>conv=>lhs;reduce)
theorem qwr:qo Tryz.prog Tryz.f12 [4]=some qwq:=by kernel_rfl
theorem qwD {c:Int} (h:VZ c=true):97≤c∧c≤122:=by
 unfold VZ at h
 simp only [Bool.and_eq_true,decide_eq_true_eq] at h
 exact h
theorem qwF {s:List UInt8} (h:jc s=0):LnI (zd s)∧(zd s).words.length≤20∧(∀ w∈(zd s).words,w.2.1.length≤1000)∧(zd s).name.length≤1000:=by
 have V:=WB h
 have hw : ∀ w ∈ (zd s).words,WdI w ∧ w.2.1.length ≤ 8 := fun w hw => by
  obtain ⟨h1,h2,h3⟩:=V.words w hw
  have hi:i64 w.2.2:=qj4 (by omega)
  rcases h1 with ⟨e1,e2⟩ | ⟨e1,e2⟩
  · have := qwD e2
    exact ⟨⟨by omega,hi,by rw [e1];decide⟩,by rw [e1];decide⟩
  · have := qc9 e2
    exact ⟨⟨by omega,hi,by omega⟩,by omega⟩
 exact ⟨⟨qj4 (by have:=V.kind;omega),by have:=V.num;unfold i64;omega,fun w h=>(hw w h).1,by have:=V.len;omega,by have:=V.name;omega⟩,by have:=V.len;omega,fun w h=>by have:=(hw w h).2;omega,by have:=V.name;omega⟩
theorem qwG {l:Ln} (h:qnh l≠0):qnh l=8∧qni l=[]:=by
 unfold qnh at h ⊢
 unfold qni
 split at h
 · exact absurd rfl h
 · rename_i c;rw [if_neg c,if_neg c];exact ⟨rfl,rfl⟩
theorem qwE {l:Ln} (h:qnh l=0):jc (qni l)=0∧zd (qni l)=l∧(qni l).length≤200:=by
 unfold qnh at h
 split at h
 · rename_i c
   unfold qni
   rw [if_pos c]
   unfold Xi at c
   simp only [Bool.and_eq_true,decide_eq_true_eq] at c
   refine ⟨c.1.2,c.2,?_⟩
   have h2:=c.1.2
   unfold jc at h2
   split at h2
   · assumption
   · exact absurd h2 (by decide)
 · exact absurd h (by decide)
theorem qwv (s:List UInt8) (l:Ln) (hl:LnT l):qC Tryz.prog 12 [S s,LnV l] (B true):=by
 refine qT (qjr Tryz.func12 qwr (by kernel_rfl) (by show 2≤_;decide) ?_)
 unfold qwq
 have el:[I l.kind,S l.name,Wds l.words,I l.num]=lnC l:=rfl
 refine zV ?_
 simp -implicitDefEqProofs (disch:=omega)[qb,lnC]
 by_cases h1:300<s.length
 case pos =>
  have e1:(300<(s.length:Int))=True:=by simp only [eq_iff_iff,iff_true];omega
  refine zV ?_
  simp -implicitDefEqProofs (disch:=omega)[qb,e1]
  refine qg (ys:=[]) (ids:=[]) rfl qqz ?_
  simp -implicitDefEqProofs (disch:=omega)[qb,AV.scalar]
 have e1:(300<(s.length:Int))=False:=by simp only [eq_iff_iff,iff_false];omega
 by_cases h2:20<l.words.length
 case pos =>
  have e2:(20<(l.words.length:Int))=True:=by simp only [eq_iff_iff,iff_true];omega
  refine zV ?_
  simp -implicitDefEqProofs (disch:=omega)[qb,e1,e2]
  refine qg (ys:=[]) (ids:=[]) rfl qqz ?_
  simp -implicitDefEqProofs (disch:=omega)[qb,AV.scalar]
 have e2:(20<(l.words.length:Int))=False:=by simp only [eq_iff_iff,iff_false];omega
 by_cases h3:300<l.name.length
 case pos =>
  have e3:(300<(l.name.length:Int))=True:=by simp only [eq_iff_iff,iff_true];omega
  refine zV ?_
  simp -implicitDefEqProofs (disch:=omega)[qb,e1,e2,e3]
  refine qg (ys:=[]) (ids:=[]) rfl qqz ?_
  simp -implicitDefEqProofs (disch:=omega)[qb,AV.scalar]
 have e3:(300<(l.name.length:Int))=False:=by simp only [eq_iff_iff,iff_false];omega
 have fin:∀ (x:List (Nat × AV)) (hp:List HObj),(∀ w∈l.words,w.2.1.length≤300)→AWS Tryz.prog (.seq (.rgn [⟨none,[(.ld 65 true 4 (.t 3)),(.call 66 21 [(.t 65)]),(.mv 64 (.t 66)),(.ext 67 (.t 64) 0),(.ext 68 (.t 64) 1),(.mv 10 (.t 67)),(.mv 6 (.t 68))]⟩] [3,6,10]) (.seq (.seq (.rgn [⟨none,[(.mv 69 (.t 6)),(.bin 70 .neq (.t 69) (.k (I 0)))]⟩] [3,6,10,70]) (.cond (.t 70) (.seq (.rgn [⟨none,[(.mv 71 (.t 6)),(.bin 72 .eql (.t 71) (.k (I 8))),(.mv 73 (.t 72))]⟩,⟨(some (73,true)),[(.mv 74 (.t 10)),(.bin 75 .eql (.t 74) (.k (.v (.string ⟨#[]⟩))))]⟩,⟨none,[(.pick 76 (.t 73) (.t 75) (.k (B false))),(.mv 77 (.t 76))]⟩,⟨(some (77,true)),[(.call 78 18 [])]⟩,⟨none,[(.pick 79 (.t 77) (.t 78) (.k (B false))),(.mv 4 (.t 79))]⟩] [4]) .ret) .skip)) (.seq (.rgn [⟨none,[(.mv 81 (.t 10)),(.call 82 19 [(.t 81)]),(.mv 80 (.t 82)),(.ext 83 (.t 80) 0),(.ext 84 (.t 80) 1),(.al 11 [(I 0),(.v (.string ⟨#[]⟩)),(.sl true 0 []),(I 0)]),(.st 4 (.t 11) (.t 83)),(.mv 12 (.t 84))]⟩] [3,10,11,12]) (.seq (.rgn [⟨none,[(.mv 85 (.t 12)),(.bin 86 .eql (.t 85) (.k (I 0))),(.mv 87 (.t 86))]⟩,⟨(some (87,true)),[(.mv 88 (.t 10)),(.lns 89 (.t 88)),(.bin 90 .leq (.t 89) (.k (I 200)))]⟩,⟨none,[(.pick 91 (.t 87) (.t 90) (.k (B false))),(.mv 92 (.t 91))]⟩,⟨(some (92,true)),[(.ld 93 true 4 (.t 11)),(.ld 94 true 4 (.t 3)),(.call 95 23 [(.t 93),(.t 94)])]⟩,⟨none,[(.pick 96 (.t 92) (.t 95) (.k (B false))),(.mv 97 (.t 96))]⟩,⟨(some (97,true)),[(.call 98 18 [])]⟩,⟨none,[(.pick 99 (.t 97) (.t 98) (.k (B false))),(.mv 4 (.t 99))]⟩] [4]) .ret)))) ⟨(3,.ref 0 0)::x,.cells (lnC l)::hp⟩ (qfB [4] (Out (B true))):=by
  intro x hp c2
  have hI:LnI l:=⟨hl.kind,hl.num,fun w hw=>⟨(hl.words w hw).1,(hl.words w hw).2,by have:=c2 w hw;omega⟩,by omega,by omega⟩
  refine zV ?_
  simp -implicitDefEqProofs (disch:=omega)[qb,qf,lnC]
  simp only [el]
  refine qg (ys:=[LnV l]) (ids:=[]) rfl (qit l hI (by omega) (fun w hw=>by have:=c2 w hw;omega) (by omega)) ?_
  simp -implicitDefEqProofs (disch:=omega)[qb,AV.scalar]
  by_cases hW:qnh l=0
  case neg =>
   obtain ⟨w8,wn⟩:=qwG hW
   refine zV ?_
   rw [w8,wn]
   simp -implicitDefEqProofs (disch:=omega)[qb]
   refine qg (ys:=[]) (ids:=[]) rfl qqz ?_
   simp -implicitDefEqProofs (disch:=omega)[qb,AV.scalar]
  obtain ⟨q1,q2,q3⟩:=qwE hW
  have q4:((qni l).length:Int)≤200:=by omega
  rw [hW]
  refine zV ?_
  simp -implicitDefEqProofs (disch:=omega)[qb]
  refine zV ?_
  simp -implicitDefEqProofs (disch:=omega)[qb]
  refine qg (ys:=[S (qni l)]) (ids:=[]) rfl (Yo (qni l) (by omega)) ?_
  rw [q1,q2]
  simp -implicitDefEqProofs (disch:=omega)[qb,AV.scalar,lnC]
  simp only [el]
  refine zV ?_
  simp -implicitDefEqProofs (disch:=omega)[qb,qf,lnC,q4]
  simp only [el]
  refine qg (ys:=[LnV l,LnV l]) (ids:=[]) rfl (qwz l l (by omega)) ?_
  have hd:decide (l=l)=true:=decide_eq_true rfl
  rw [hd]
  simp -implicitDefEqProofs (disch:=omega)[qb,AV.scalar]
  refine qg (ys:=[]) (ids:=[]) rfl qqz ?_
  simp -implicitDefEqProofs (disch:=omega)[qb,AV.scalar]
  refine qnu ?_
  simp -implicitDefEqProofs (disch:=omega)[qb]
 have mid:∀ (x fr:List (Nat × AV)) (hp:List HObj),(fr=(3,.ref 0 0)::x∨fr=(0,S s)::(3,.ref 0 0)::x)→AWS Tryz.prog (.seq (.seq (.rgn [⟨none,[(.mv 9 (.k (I 0)))]⟩] [3,9]) (.block 0 (.loop (.seq (.seq (.rgn [⟨none,[(.mv 48 (.t 9)),(.fa 49 (.t 3) 2),(.ld 50 false 1 (.t 49)),(.len 51 (.t 50)),(.bin 52 .lss (.t 48) (.t 51))]⟩] [3,9,52]) (.cond (.t 52) .skip (.exit 0))) (.seq (.block 1 (.seq (.rgn [⟨none,[(.fa 55 (.t 3) 2),(.ld 56 false 1 (.t 55)),(.mv 57 (.t 9)),(.ia 58 3 (.t 56) (.t 57)),(.fa 59 (.t 58) 1),(.ld 60 false 1 (.t 59)),(.lns 61 (.t 60)),(.bin 62 .gtr (.t 61) (.k (I 300)))]⟩] [3,9,62]) (.cond (.t 62) (.seq (.rgn [⟨none,[(.call 63 18 []),(.mv 4 (.t 63))]⟩] [4]) .ret) .skip))) (.rgn [⟨none,[(.mv 53 (.t 9)),(.bin 54 .add (.t 53) (.k (I 1))),(.mv 9 (.t 54))]⟩] [3,9])))))) (.seq (.rgn [⟨none,[(.ld 65 true 4 (.t 3)),(.call 66 21 [(.t 65)]),(.mv 64 (.t 66)),(.ext 67 (.t 64) 0),(.ext 68 (.t 64) 1),(.mv 10 (.t 67)),(.mv 6 (.t 68))]⟩] [3,6,10]) (.seq (.seq (.rgn [⟨none,[(.mv 69 (.t 6)),(.bin 70 .neq (.t 69) (.k (I 0)))]⟩] [3,6,10,70]) (.cond (.t 70) (.seq (.rgn [⟨none,[(.mv 71 (.t 6)),(.bin 72 .eql (.t 71) (.k (I 8))),(.mv 73 (.t 72))]⟩,⟨(some (73,true)),[(.mv 74 (.t 10)),(.bin 75 .eql (.t 74) (.k (.v (.string ⟨#[]⟩))))]⟩,⟨none,[(.pick 76 (.t 73) (.t 75) (.k (B false))),(.mv 77 (.t 76))]⟩,⟨(some (77,true)),[(.call 78 18 [])]⟩,⟨none,[(.pick 79 (.t 77) (.t 78) (.k (B false))),(.mv 4 (.t 79))]⟩] [4]) .ret) .skip)) (.seq (.rgn [⟨none,[(.mv 81 (.t 10)),(.call 82 19 [(.t 81)]),(.mv 80 (.t 82)),(.ext 83 (.t 80) 0),(.ext 84 (.t 80) 1),(.al 11 [(I 0),(.v (.string ⟨#[]⟩)),(.sl true 0 []),(I 0)]),(.st 4 (.t 11) (.t 83)),(.mv 12 (.t 84))]⟩] [3,10,11,12]) (.seq (.rgn [⟨none,[(.mv 85 (.t 12)),(.bin 86 .eql (.t 85) (.k (I 0))),(.mv 87 (.t 86))]⟩,⟨(some (87,true)),[(.mv 88 (.t 10)),(.lns 89 (.t 88)),(.bin 90 .leq (.t 89) (.k (I 200)))]⟩,⟨none,[(.pick 91 (.t 87) (.t 90) (.k (B false))),(.mv 92 (.t 91))]⟩,⟨(some (92,true)),[(.ld 93 true 4 (.t 11)),(.ld 94 true 4 (.t 3)),(.call 95 23 [(.t 93),(.t 94)])]⟩,⟨none,[(.pick 96 (.t 92) (.t 95) (.k (B false))),(.mv 97 (.t 96))]⟩,⟨(some (97,true)),[(.call 98 18 [])]⟩,⟨none,[(.pick 99 (.t 97) (.t 98) (.k (B false))),(.mv 4 (.t 99))]⟩] [4]) .ret))))) ⟨fr,.cells (lnC l)::hp⟩ (qfB [4] (Out (B true))):=by
  intro x fr hp hfr
  rcases hfr with rfl | rfl
  all_goals
   refine zV ?_
   simp -implicitDefEqProofs (disch:=omega)[qb]
   refine qW fun K9 hK9=>?_
   refine qO (fun i:Nat=>⟨[(3,.ref 0 0),(9,I (i:Int))],.cells (lnC l)::hp⟩) (fun i=>i≤l.words.length∧∀ w∈l.words.take i,w.2.1.length≤300) (fun i=>l.words.length - i) 0 ⟨Nat.zero_le _,fun w h=>by simp at h⟩ rfl ?_
   rintro i ⟨c1,c2⟩
   refine qW fun K0 hK0=>?_
   simp -implicitDefEqProofs (disch:=omega)[qb,qf,lnC]
   refine qP (fun hc=>?_) (fun hc=>?_)
   · have hi : i < l.words.length := by simpa using hc
     have ix:((i:Int)+1)=((i+1:Nat):Int):=by omega
     by_cases hb:300<l.words[i].2.1.length
     · have hb' : (300 < (l.words[i].2.1.length : Int)) = True := by simp only [eq_iff_iff,iff_true]; omega
       simp -implicitDefEqProofs (disch:=omega)[qb,hi,qf,lnC,hb']
       refine qg (ys:=[]) (ids:=[]) rfl qqz ?_
       rw [hK0,hK9]
       simp -implicitDefEqProofs (disch:=omega)[qb,AV.scalar]
     · have hb' : (300 < (l.words[i].2.1.length : Int)) = False := by simp only [eq_iff_iff,iff_false]; omega
       simp -implicitDefEqProofs (disch:=omega)[qb,hi,qf,lnC,hb']
       rw [hK0]
       refine qz (i+1) ⟨by omega,fun w hw=>?_⟩ (by omega) (by simp only [ix,lnC])
       rw [List.take_succ_eq_append_getElem hi] at hw
       rcases List.mem_append.1 hw with hw | hw
       · exact c2 w hw
       · obtain rfl : w = l.words[i] := by simpa using hw
         omega
   · have hi : i = l.words.length := by simp at hc; omega
     subst hi
     rw [List.take_length] at c2
     subst hK0
     simp -implicitDefEqProofs (disch:=omega)[qb]
     subst hK9
     simp only [el]
     exact fin _ _ c2
 refine zV ?_
 simp -implicitDefEqProofs (disch:=omega)[qb,e1,e2,e3]
 simp only [el]
 have es:[I (zd s).kind,S (zd s).name,Wds (zd s).words,I (zd s).num]=lnC (zd s):=rfl
 refine zV ?_
 simp -implicitDefEqProofs (disch:=omega)[qb]
 refine qg (ys:=[S s]) (ids:=[]) rfl (Yo s (by omega)) ?_
 simp -implicitDefEqProofs (disch:=omega)[qb,AV.scalar,lnC]
 simp only [es,el]
 by_cases hP:jc s=0
 case neg =>
  have b:(jc s==0)=false:=by rw [beq_eq_false_iff_ne];exact hP
  refine zV ?_
  simp -implicitDefEqProofs (disch:=omega)[qb,b]
  exact mid _ _ _ (.inr rfl)
 obtain ⟨i1,i2,i3,i4⟩:=qwF hP
 obtain ⟨w1,w2⟩:=qwC hP
 have hb:(s != s)=false:=bne_self_eq_false _
 rw [hP]
 refine zV ?_
 simp -implicitDefEqProofs (disch:=omega)[qb,qf,lnC]
 simp only [es,el]
 refine qg (ys:=[LnV (zd s)]) (ids:=[]) rfl (qit (zd s) i1 i2 i3 i4) ?_
 rw [w1,w2]
 simp -implicitDefEqProofs (disch:=omega)[qb,AV.scalar,hb]
 exact mid _ _ _ (.inl rfl)
end Go.AM
