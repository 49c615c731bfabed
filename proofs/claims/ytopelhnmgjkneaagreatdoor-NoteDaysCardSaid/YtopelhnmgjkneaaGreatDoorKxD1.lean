/-
  KxD1: texts joined: FmNR Ns16 Ns18 FmNL Lk3 Lx2. Own work.
-/
import Derived.Test.YtopelhnmgjkneaaGreatDoorKn7
import Derived.Test.YtopelhnmgjkneaaGreatDoorProg
set_option linter.all false
set_option linter.unusedSimpArgs false
set_option linter.unusedVariables false
set_option linter.unusedSectionVars false

set_option maxRecDepth 100000
set_option maxHeartbeats 0
namespace Go.AM
open Go.RowKit Go.Proofs
def qwv:AC:=Subtype.val (p:=fun g=>qo Tryz.prog Tryz.f32 [4,5]=some g) (by refine ⟨?g,?h⟩;case h=>conv=>lhs;reduce)
theorem qwx:qo Tryz.prog Tryz.f32 [4,5]=some qwv:=by kernel_rfl
theorem qwy:ZR Tryz.prog Tryz.f32.results.toList=some [(4,some (true,4)),(5,none)]:=by kernel_rfl
theorem qwF {d:Dy} (h:Wg d=true):(Wh d != 0)=false:=by unfold Wh;rw [h];rfl
theorem qwG {d:Dy} (h:Wg d=false):(Wh d != 0)=true:=by unfold Wh;rw [h];rfl
theorem qwB (d:Dy) (hd:DyI d) (n:Int):qC Tryz.prog 32 [DyV d,I n] (.tup [qnq ((Jh d n).getD sh0),I (Zx d n)]):=by
 refine zO (zj Tryz.func32 qwx qwy (by show 2≤_;decide) ?_)
 have wk0:∀ (e:Int) (H:List HObj),qi7 (.tup [qnq sh0,I e]) (.tup [.agg [I 0,I 0,I 0,.sl true 0 []],I e]) H:=fun e H =>
  qG (r' := .tup [.agg [I 0,I 0,I 0,.sl true 0 []],I e]) (is:=[]) rfl (.tupL (.cons (.aggL (.cons (.refl _) (.cons (.refl _) (.cons (.refl _) (.cons .slf .nil))))) (.cons (.refl _) .nil)))
 simp -implicitDefEqProofs (disch:=omega)[qwv,qb,dyC]
 refine qg (ys:=[DyV d]) (ids:=[]) rfl (qdl d hd) ?_
 simp -implicitDefEqProofs (disch:=omega)[qb,AV.scalar]
 cases hb:Wg d with
 | false =>
   have h1:Jh d n=none:=by unfold Jh;rw [hb];rfl
   have h2:Zx d n=2:=by unfold Zx;rw [hb];rfl
   rw [h1,h2]
   simp -implicitDefEqProofs (disch:=omega)[qb,qwG hb]
   exact qK (id:=1) (off:=0) (cs:=[I 0,I 0,I 0,.sl true 0 []]) rfl rfl (by simp) (wk0 2 _)
 | true =>
 have h1:Jh d n=d.sh.find? (fun s=>decide (s.num=n)):=by unfold Jh;rw [hb];rfl
 have h2:Zx d n=if (d.sh.find? (fun s=>decide (s.num=n))).isSome then 0 else 5:=by unfold Zx;rw [hb,h1];rfl
 have hsl:=hd.sl
 rw [h1,h2]
 clear h1 h2
 generalize hF:d.sh.find? (fun s=>decide (s.num=n))=F
 simp -implicitDefEqProofs (disch:=omega)[qb,qwF hb]
 refine qO (fun i:Nat=>⟨[(1,I n),(2,.ref 0 0),(4,.ref 1 0),(6,I (i:Int))],[.cells (dyC d),.cells [I 0,I 0,I 0,.sl true 0 []]]⟩) (fun i=>i≤d.sh.length∧∀ j (hj:j<d.sh.length),j<i→d.sh[j].num≠n) (fun i=>d.sh.length - i) 0 ⟨Nat.zero_le _,fun j _ h=>by omega⟩ rfl ?_
 rintro i ⟨c1,c2⟩
 refine qW fun K0 hK0=>?_
 simp -implicitDefEqProofs (disch:=omega)[qb,dyC]
 refine qP (fun hc=>?_) (fun hc=>?_)
 · have hi : i < d.sh.length := by simpa using hc
   have ix:((i:Int)+1)=((i+1:Nat):Int):=by omega
   simp -implicitDefEqProofs (disch:=omega)[qb,dyC,hi]
   by_cases he:d.sh[i].num=n
   · have he' : (d.sh[i].num == n) = true := by rw [beq_iff_eq]; exact he
     have hf:F=some d.sh[i]:=by
      rw [←hF,List.find?_eq_some_iff_getElem]
      exact ⟨by simpa using he,i,hi,rfl,fun j hj=>by simpa using c2 j (by omega) hj⟩
     subst hK0
     rw [hf]
     simp -implicitDefEqProofs (disch:=omega)[qb,dyC,he',hi,shC]
     refine qK (id:=1) (off:=0) (cs:=shC d.sh[i]) rfl rfl (by simp [shC]) ?_
     exact qG (r' := .tup [qnq d.sh[i],I 0]) (is:=[]) rfl (.refl _)
   · have he' : (d.sh[i].num == n) = false := by rw [beq_eq_false_iff_ne]; exact he
     simp -implicitDefEqProofs (disch:=omega)[qb,dyC,he']
     rw [hK0]
     refine qz (i+1) ⟨by omega,fun j hj hlt=>?_⟩ (by omega) (by simp only [ix,dyC])
     by_cases e:j=i
     · subst e;exact he
     · exact c2 j hj (by omega)
 · have hi : i = d.sh.length := by simp at hc; omega
   subst hi
   subst hK0
   have hf:F=none:=by
    rw [←hF,List.find?_eq_none]
    intro s hs
    obtain ⟨j,hj,rfl⟩:=List.mem_iff_getElem.1 hs
    simpa using c2 j hj hj
   rw [hf]
   simp -implicitDefEqProofs (disch:=omega)[qb]
   exact qK (id:=1) (off:=0) (cs:=[I 0,I 0,I 0,.sl true 0 []]) rfl rfl (by simp) (wk0 5 _)
end Go.AM

set_option maxRecDepth 100000
namespace Go.AM
open Go.RowKit Go.Proofs
def qws:AC:=Subtype.val (p:=fun g=>qo Tryz.prog Tryz.f5 [4]=some g) (by refine ⟨?g,?h⟩;case h=>conv=>lhs;reduce)
theorem qwt:qo Tryz.prog Tryz.f5 [4]=some qws:=by kernel_rfl
def qwq:AC:=Subtype.val (p:=fun g=>qo Tryz.prog Tryz.f30 [2]=some g) (by refine ⟨?g,?h⟩;case h=>conv=>lhs;reduce)
theorem qww:qo Tryz.prog Tryz.f30 [2]=some qwq:=by kernel_rfl
theorem qwz {α:Type} {f:α→Bool} {l:List α} {i:Nat} (h:i<l.length) (hn:(l.take i).any f=false) (hf:f l[i]=false):(l.take (i+1)).any f=false:=by
 rw [List.take_succ_eq_append_getElem h,List.any_append,hn];simp [hf]
theorem qwC {α:Type} {f:α→Bool} {l:List α} {i:Nat} (h:i<l.length) (hf:f l[i]=true):l.any f=true:=List.any_eq_true.2 ⟨_,List.getElem_mem h,hf⟩
theorem qwI {n:Nat} {k:Int} (h:k<n):(k<(n:Int))=True:=by simp only [eq_iff_iff,iff_true];exact h
theorem qwH {n:Nat} {k:Int} (h:¬ k<n):(k<(n:Int))=False:=by simp only [eq_iff_iff,iff_false];exact h
def qwr:AC:=match qwq with
 | .seq _ (.seq _ (.seq _ t))=>t
 | x=>x
theorem qwE {d : Dy} (hs : d.sh.length ≤ 60) {H : List HObj} (h0 : qr H 0 = some (.cells (dyC d))) (fr : List (Nat × AV)) :
 AWP Tryz.prog (E1 Tryz.prog) qwr ⟨(1,.ref 0 0)::fr,H⟩ (qfB [2] (Out (B (d.sh.any qvt)))):=by
 simp -implicitDefEqProofs (disch:=omega)[qwr,qwq,qb]
 refine qO (fun q:Nat × List HObj=>⟨[(1,.ref 0 0),(4,I (q.1:Int))],q.2⟩) (fun q=>q.1≤d.sh.length∧(d.sh.take q.1).any qvt=false∧q.2=H) (fun q=>d.sh.length - q.1) (0,H) ⟨Nat.zero_le _,rfl,rfl⟩ rfl ?_
 rintro ⟨i,H2⟩ ⟨c1,c2,rfl⟩
 simp only at c1 c2 ⊢
 refine qW fun K0 hK0=>?_
 simp -implicitDefEqProofs (disch:=omega)[qb,h0,qf,dyC]
 refine qP (fun hc=>?_) (fun hc=>?_)
 · have hi : i < d.sh.length := by simpa using hc
   have ix:((i:Int)+1)=((i+1:Nat):Int):=by omega
   by_cases hb:70<d.sh[i].pat.length
   · have hb' : (70 < (d.sh[i].pat.length : Int)) = True := by simp only [eq_iff_iff,iff_true]; omega
     have:=qwC (f:=qvt) hi (decide_eq_true hb)
     rw [hK0]
     simp -implicitDefEqProofs (disch:=omega)[qb,hi,h0,qf,dyC,hb',this]
   · have hb' : (70 < (d.sh[i].pat.length : Int)) = False := by simp only [eq_iff_iff,iff_false]; omega
     simp -implicitDefEqProofs (disch:=omega)[qb,hi,h0,qf,dyC,hb']
     rw [hK0]
     exact qz (i+1,H2) ⟨by simp only;omega,qwz hi c2 (decide_eq_false hb),rfl⟩ (by simp only;omega) (by simp only [ix])
 · have hi : i = d.sh.length := by simp at hc; omega
   subst hi
   rw [List.take_length] at c2
   rw [hK0]
   simp -implicitDefEqProofs (disch:=omega)[qb,c2]
theorem qwA (d:Dy):qC Tryz.prog 30 [DyV d] (B (qjT d)):=by
 refine qT (walk Tryz.func30 qww (by kernel_rfl) (by show 1≤_;decide) ?_)
 simp -implicitDefEqProofs (disch:=omega)[qwq,qb,dyC]
 unfold qjT
 by_cases q1:40<d.rc.length
 case pos =>
  have e1:=qwI (n:=d.rc.length) (k:=40) (by omega)
  simp -implicitDefEqProofs (disch:=omega)[qb,e1,q1]
 have e1:=qwH (n:=d.rc.length) (k:=40) (by omega)
 simp -implicitDefEqProofs (disch:=omega)[qb,e1,q1]
 by_cases q2:70<d.pat.length
 case pos =>
  have e2:=qwI (n:=d.pat.length) (k:=70) (by omega)
  simp -implicitDefEqProofs (disch:=omega)[qb,e2,q2]
 have e2:=qwH (n:=d.pat.length) (k:=70) (by omega)
 simp -implicitDefEqProofs (disch:=omega)[qb,e2,q2]
 by_cases q3:60<d.sh.length
 case pos =>
  have e3:=qwI (n:=d.sh.length) (k:=60) (by omega)
  simp -implicitDefEqProofs (disch:=omega)[qb,e3,q3]
 have e3:=qwH (n:=d.sh.length) (k:=60) (by omega)
 simp -implicitDefEqProofs (disch:=omega)[qb,e3,q3]
 refine qO (fun q:Nat × List HObj=>⟨[(1,.ref 0 0),(3,I (q.1:Int))],q.2⟩) (fun q=>q.1≤d.rc.length∧(d.rc.take q.1).any qvs=false∧q.2=[.cells (dyC d)]) (fun q=>d.rc.length - q.1) (0,[.cells (dyC d)]) ⟨Nat.zero_le _,rfl,rfl⟩ rfl ?_
 rintro ⟨i,H2⟩ ⟨c1,c2,rfl⟩
 simp only at c1 c2 ⊢
 refine qW fun K0 hK0=>?_
 simp -implicitDefEqProofs (disch:=omega)[qb,qf,dyC]
 refine qP (fun hc=>?_) (fun hc=>?_)
 · have hi : i < d.rc.length := by simpa using hc
   have ix:((i:Int)+1)=((i+1:Nat):Int):=by omega
   by_cases hb:20<d.rc[i].2.length
   · have hb' : (20 < (d.rc[i].2.length : Int)) = True := by simp only [eq_iff_iff,iff_true]; omega
     have:=qwC (f:=qvs) hi (by unfold qvs;simp [hb])
     rw [hK0]
     simp -implicitDefEqProofs (disch:=omega)[qb,hi,qf,dyC,hb',this]
   have hb':(20<(d.rc[i].2.length:Int))=False:=by simp only [eq_iff_iff,iff_false];omega
   by_cases hc2:100<d.rc[i].1.length
   · have hc' : (100 < (d.rc[i].1.length : Int)) = True := by simp only [eq_iff_iff,iff_true]; omega
     have:=qwC (f:=qvs) hi (by unfold qvs;simp [hc2])
     rw [hK0]
     simp -implicitDefEqProofs (disch:=omega)[qb,hi,qf,dyC,hb',hc',this]
   have hc':(100<(d.rc[i].1.length:Int))=False:=by simp only [eq_iff_iff,iff_false];omega
   simp -implicitDefEqProofs (disch:=omega)[qb,hi,qf,dyC,hb',hc']
   rw [hK0]
   refine qz (i+1,[.cells (dyC d)]) ⟨by simp only;omega,qwz hi c2 (by unfold qvs;simp [hb,hc2]),rfl⟩ (by simp only;omega) (by simp only [ix,dyC])
 · have hi : i = d.rc.length := by simp at hc; omega
   subst hi
   rw [List.take_length] at c2
   rw [hK0]
   have t:=qwE (d:=d) (by omega) (H:=[.cells (dyC d)]) rfl [(3,I (d.rc.length:Int))]
   simp -implicitDefEqProofs (disch:=omega)[qwr,qwq,qb,dyC,c2] at t ⊢
   exact t
theorem qwD {d:Dy} (h:DyI d) (n:Int):((Jh d n).getD sh0).pat.length≤1000000:=by
 cases e:Jh d n with
 | none=>simp [sh0]
 | some s =>
   have hm:s∈d.sh:=by
    unfold Jh at e
    split at e
    · exact List.mem_of_find?_eq_some e
    · cases e
   have:=(h.sh s hm).2.2.2.2
   simp;omega
theorem qwu (d:Dy) (hd:DyT d) (n:Int):qC Tryz.prog 5 [DyV d,I n] (B true):=by
 refine qT (walk Tryz.func5 qwt (by kernel_rfl) (by show 2≤_;decide) ?_)
 simp -implicitDefEqProofs (disch:=omega)[qws,qb,qf,dyC]
 have ed:[Bks d.rc,I d.bath,I d.laid,Pts d.pat,Shs d.sh]=dyC d:=rfl
 simp only [ed]
 refine qg (ys:=[DyV d]) (ids:=[]) rfl (qwA d) ?_
 simp -implicitDefEqProofs (disch:=omega)[qb,AV.scalar]
 cases hg:qjT d with
 | true =>
   simp -implicitDefEqProofs (disch:=omega)[qb,AV.scalar]
   refine qg (ys:=[]) (ids:=[]) rfl qqz ?_
   simp -implicitDefEqProofs (disch:=omega)[qb,AV.scalar]
 | false =>
   have dI:=hd.i hg
   have hl:=qwD dI n
   generalize hsl:(Jh d n).getD sh0=sl at hl
   have es:[I sl.num,I sl.bath,I sl.age,Pts sl.pat]=shC sl:=rfl
   have hss:decide (sl=sl)=true:=decide_eq_true rfl
   simp -implicitDefEqProofs (disch:=omega)[qb,AV.scalar,qf,dyC]
   simp only [ed]
   refine qg (ys:=[DyV d,I n]) (ids:=[]) rfl (Wy d dI n) ?_
   rw [hsl]
   simp -implicitDefEqProofs (disch:=omega)[qb,AV.scalar,shC,qf,dyC]
   simp only [ed,es]
   refine qg (ys:=[DyV d,I n]) (ids:=[]) rfl (qwB d dI n) ?_
   rw [hsl]
   simp -implicitDefEqProofs (disch:=omega)[qb,AV.scalar,shC,qf,dyC,zW,zJ,zE]
   simp only [ed,es]
   refine qQ (ys:=[DyV d]) (ids:=[]) rfl (qcW d dI) ?_
   simp -implicitDefEqProofs (disch:=omega)[qb,AV.scalar,shC,qf,dyC,zW,zJ,zE]
   simp only [ed,es]
   refine qQ (ys:=[DyV d]) (ids:=[]) rfl (qdl d dI) ?_
   simp -implicitDefEqProofs (disch:=omega)[qb,AV.scalar,shC,qf,dyC,zW,zJ,zE]
   simp only [ed,es]
   refine qQ (ys:=[qnq sl,qnq sl]) (ids:=[]) rfl (qbo sl sl hl) ?_
   rw [hss]
   simp -implicitDefEqProofs (disch:=omega)[qb,AV.scalar,zW,zJ,zE]
   refine qQ (ys:=[]) (ids:=[]) rfl qqz ?_
   simp -implicitDefEqProofs (disch:=omega)[qb,AV.scalar,zW,zJ,zE]
end Go.AM
