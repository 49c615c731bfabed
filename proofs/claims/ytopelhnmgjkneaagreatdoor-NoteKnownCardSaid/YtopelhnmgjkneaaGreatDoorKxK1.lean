/-
  KxK1: texts joined: FmNL Lx8. Own work.
-/
import Derived.Test.YtopelhnmgjkneaaGreatDoorKn7
import Derived.Test.YtopelhnmgjkneaaGreatDoorProg
set_option linter.all false
set_option linter.unusedSimpArgs false
set_option linter.unusedVariables false
set_option linter.unusedSectionVars false

set_option maxRecDepth 100000
set_option maxHeartbeats 0
namespace Go.AM
open Go.RowKit Go.Proofs
def qwq:AC:=Subtype.val (p:=fun g=>qo Tryz.prog Tryz.f17 [0]=some g) (by refine ⟨?g,?h⟩;case h=>conv=>lhs;reduce;simp only[qwo,qwp,UInt8.reduceOfNat,Int.reduceOfNat,Int.reduceNegSucc])
theorem qwr:qo Tryz.prog Tryz.f17 [0]=some qwq:=by kernel_rfl
def qwv:List UInt8:=[108,97,121,32,48,55]
def qww:List UInt8:=[100,111,32,32,97]
set_option maxRecDepth 100000 in
theorem qwt:qfT ndD (0,1,1) [98,98]=2∧qbc ndD (0,1,1) [98,98]=0∧qfT ndD (0,1,2) [99,97]=1∧qbc ndD (0,1,2) [99,97]=0:=by decide +kernel
theorem qwu:jc qwv=8∧jc qww=8:=by decide +kernel
theorem qwx:Zx ndD 9=5∧(Jh ndD 9).getD sh0=sh0:=by decide +kernel
theorem qws:qC Tryz.prog 17 [] (B true):=by
 refine qT (qjr Tryz.func17 qwr (by kernel_rfl) (by show 0≤_;decide) ?_)
 unfold qwq
 have dI:=qus
 obtain ⟨n1,n2,n3,n4⟩:=qor
 obtain ⟨g1,g2,g3,g4⟩:=qwt
 obtain ⟨p1,p2⟩:=qwu
 obtain ⟨s1,s2⟩:=qwx
 have ed:[Bks ndD.rc,I ndD.bath,I ndD.laid,Pts ndD.pat,Shs ndD.sh]=dyC ndD:=rfl
 have hrl:ndD.rc.length=2:=rfl
 refine zV ?_
 simp -implicitDefEqProofs (disch:=omega)[qb]
 refine zV ?_
 simp -implicitDefEqProofs (disch:=omega)[qb]
 refine qg (ys:=[]) (ids:=[]) rfl qbY ?_
 simp -implicitDefEqProofs (disch:=omega)[qb,AV.scalar]
 refine qg (ys:=[S YZ]) (ids:=[]) rfl (qhs YZ (by decide)) ?_
 rw [n1,n2,n3]
 simp -implicitDefEqProofs (disch:=omega)[qb,AV.scalar,dyC]
 simp only [ed]
 refine zV ?_
 simp -implicitDefEqProofs (disch:=omega)[qb,qf,dyC]
 simp only [ed]
 refine qg (ys:=[DyV ndD]) (ids:=[]) rfl (qdl ndD dI) ?_
 rw [qrC]
 simp -implicitDefEqProofs (disch:=omega)[qb,AV.scalar,qf,dyC,hrl]
 simp only [ed]
 refine zV ?_
 simp -implicitDefEqProofs (disch:=omega)[qb,qf,dyC]
 simp only [ed]
 refine qQ (ys:=[I 1,I 1]) (ids:=[]) rfl (Jv 1 1) ?_
 simp -implicitDefEqProofs (disch:=omega)[qb,AV.scalar,ptC,zW,zJ,zE]
 refine qQ (ys:=[DyV ndD,.agg (ptC (0,1,1)),S [98,98]]) (ids:=[]) rfl (qjX ndD dI (0,1,1) (by decide) [98,98] (by decide)) ?_
 rw [g1,g2]
 simp -implicitDefEqProofs (disch:=omega)[qb,AV.scalar,zW,zJ,zE]
 refine zV ?_
 simp -implicitDefEqProofs (disch:=omega)[qb,qf,dyC]
 simp only [ed]
 refine qQ (ys:=[I 1,I 2]) (ids:=[]) rfl (Jv 1 2) ?_
 simp -implicitDefEqProofs (disch:=omega)[qb,AV.scalar,ptC,zW,zJ,zE]
 refine qQ (ys:=[DyV ndD,.agg (ptC (0,1,2)),S [99,97]]) (ids:=[]) rfl (qjX ndD dI (0,1,2) (by decide) [99,97] (by decide)) ?_
 rw [g3,g4]
 simp -implicitDefEqProofs (disch:=omega)[qb,AV.scalar,zW,zJ,zE]
 refine zV ?_
 simp -implicitDefEqProofs (disch:=omega)[qb]
 refine qg (ys:=[S qwv]) (ids:=[]) rfl (Yo qwv (by decide)) ?_
 rw [p1]
 simp -implicitDefEqProofs (disch:=omega)[qb,AV.scalar,lnC]
 refine zV ?_
 simp -implicitDefEqProofs (disch:=omega)[qb]
 refine qg (ys:=[S qww]) (ids:=[]) rfl (Yo qww (by decide)) ?_
 rw [p2]
 simp -implicitDefEqProofs (disch:=omega)[qb,AV.scalar,lnC]
 refine zV ?_
 simp -implicitDefEqProofs (disch:=omega)[qb,qf,dyC]
 simp only [ed]
 refine qg (ys:=[DyV ndD,I 9]) (ids:=[]) rfl (Wy ndD dI 9) ?_
 rw [s1,s2]
 simp -implicitDefEqProofs (disch:=omega)[qb,AV.scalar,shC]
 refine zV ?_
 simp -implicitDefEqProofs (disch:=omega)[qb]
 refine qg (ys:=[]) (ids:=[]) rfl qqz ?_
 simp -implicitDefEqProofs (disch:=omega)[qb,AV.scalar]
 refine qnu ?_
 simp -implicitDefEqProofs (disch:=omega)[qb]
end Go.AM
