/-
  KxCo2: texts joined: FmCF Cb5 Cb6 Cb7 Cb17 Cb18 Cb22 FmCL Lc1 Ld2 Tk9 Ld5. Own work.
-/
import Derived.Test.YtfpfnlnmilndmaaGreatDoorKxCo1
import Derived.Test.YtfpfnlnmilndmaaGreatDoorProg
set_option linter.unusedSimpArgs false
set_option linter.unusedVariables false

set_option maxRecDepth 100000
namespace Go.AM
open Go.RowKit Go.Proofs
abbrev n_r_Places : Nat := 21
def G_r_Places : AC := (.seq (.rgn [⟨none,[(.box 2 2 (.t 0)),(.mv 4 (.k (.sl true 0 []))),(.mv 5 (.k (I 0)))]⟩] [1,2]) (.seq (.seq (.rgn [⟨none,[(.ld 8 true 2 (.t 2)),(.call 9 25 [(.t 8)]),(.bin 10 .neq (.t 9) (.k (I 0)))]⟩] [1,2,10]) (.cond (.t 10) (.seq (.rgn [⟨none,[(.ld 11 true 2 (.t 2)),(.call 12 25 [(.t 11)]),(.mv 4 (.k (.sl true 0 []))),(.mv 5 (.t 12))]⟩] [4,5]) .ret) .skip)) (.seq (.seq (.rgn [⟨none,[(.ld 13 true 2 (.t 2)),(.mv 14 (.t 1)),(.call 15 61 [(.t 13),(.t 14)]),(.un 16 .not (.t 15))]⟩] [1,2,16]) (.cond (.t 16) (.seq (.rgn [⟨none,[(.mv 4 (.k (.sl true 0 []))),(.mv 5 (.k (I 2)))]⟩] [4,5]) .ret) .skip)) (.seq (.rgn [⟨none,[(.mv 6 (.k (.sl true 0 [])))]⟩] [1,2,6]) (.seq (.seq (.rgn [⟨none,[(.mv 7 (.k (I 0)))]⟩] [1,2,6,7]) (.block 0 (.loop (.seq (.seq (.rgn [⟨none,[(.mv 17 (.t 7)),(.bin 18 .leq (.t 17) (.k (I 500)))]⟩] [1,2,6,7,18]) (.cond (.t 18) .skip (.exit 0))) (.seq (.block 1 (.seq (.rgn [⟨none,[(.ld 21 true 2 (.t 2)),(.mv 22 (.t 1)),(.mv 23 (.t 7)),(.bld 24 [(I 0),(I 0)] [(0,1,(.t 22)),(1,1,(.t 23))]),(.call 25 62 [(.t 21),(.t 24)]),(.bin 26 .neq (.t 25) (.k (I 0)))]⟩] [1,2,6,7,26]) (.cond (.t 26) (.rgn [⟨none,[(.mv 27 (.t 6)),(.mv 28 (.t 7)),(.bsl 29 1 1 [(I 0)] [(0,(.t 28))]),(.app 30 1 8 (.t 27) (.t 29)),(.mv 6 (.t 30))]⟩] [1,2,6,7]) .skip))) (.rgn [⟨none,[(.mv 19 (.t 7)),(.bin 20 .add (.t 19) (.k (I 1))),(.mv 7 (.t 20))]⟩] [1,2,6,7])))))) (.seq (.rgn [⟨none,[(.mv 31 (.t 6)),(.mv 4 (.t 31)),(.mv 5 (.k (I 0)))]⟩] [4,5]) .ret))))))
theorem func_r_Places : Tryz.prog.funcs[n_r_Places]? = some Tryz.f21 := Tryz.func21
theorem form_r_Places : formOf Tryz.prog Tryz.f21 [4,5] = some G_r_Places := by kernel_rfl
theorem res_r_Places : resTmps Tryz.f21.results.toList = some [4,5] := by kernel_rfl
abbrev n_r_Rows : Nat := 35
def G_r_Rows : AC := (.seq (.rgn [⟨none,[(.box 1 2 (.t 0)),(.mv 2 (.k (.sl true 0 [])))]⟩] [1]) (.seq (.rgn [⟨none,[(.mv 3 (.k (.sl true 0 [])))]⟩] [1,3]) (.seq (.seq (.rgn [⟨none,[(.mv 4 (.k (I 0)))]⟩] [1,3,4]) (.block 0 (.loop (.seq (.seq (.rgn [⟨none,[(.mv 8 (.t 4)),(.fa 9 (.t 1) 0),(.ld 10 false 1 (.t 9)),(.len 11 (.t 10)),(.bin 12 .lss (.t 8) (.t 11))]⟩] [1,3,4,12]) (.cond (.t 12) .skip (.exit 0))) (.seq (.block 1 (.seq (.rgn [⟨none,[(.ld 16 true 2 (.t 1)),(.mv 17 (.t 4)),(.call 18 21 [(.t 16),(.t 17)]),(.mv 15 (.t 18)),(.ext 19 (.t 15) 0),(.ext 20 (.t 15) 1),(.mv 5 (.t 19)),(.mv 6 (.t 20))]⟩] [1,3,4,5]) (.seq (.rgn [⟨none,[(.mv 7 (.k (I 0)))]⟩] [1,3,4,5,7]) (.block 2 (.loop (.seq (.seq (.rgn [⟨none,[(.mv 21 (.t 7)),(.mv 22 (.t 5)),(.len 23 (.t 22)),(.bin 24 .lss (.t 21) (.t 23))]⟩] [1,3,4,5,7,24]) (.cond (.t 24) .skip (.exit 2))) (.seq (.block 3 (.rgn [⟨none,[(.mv 27 (.t 3)),(.mv 28 (.t 4)),(.mv 29 (.t 5)),(.mv 30 (.t 7)),(.ia 31 1 (.t 29) (.t 30)),(.ld 32 false 1 (.t 31)),(.bld 33 [(I 0),(I 0)] [(0,1,(.t 28)),(1,1,(.t 32))]),(.bsl 34 1 2 [(I 0),(I 0)] [(0,(.t 33))]),(.app 35 2 16 (.t 27) (.t 34)),(.mv 3 (.t 35))]⟩] [1,3,4,5,7])) (.rgn [⟨none,[(.mv 25 (.t 7)),(.bin 26 .add (.t 25) (.k (I 1))),(.mv 7 (.t 26))]⟩] [1,3,4,5,7])))))))) (.rgn [⟨none,[(.mv 13 (.t 4)),(.bin 14 .add (.t 13) (.k (I 1))),(.mv 4 (.t 14))]⟩] [1,3,4])))))) (.seq (.rgn [⟨none,[(.mv 36 (.t 3)),(.mv 2 (.t 36))]⟩] [2]) .ret))))
theorem func_r_Rows : Tryz.prog.funcs[n_r_Rows]? = some Tryz.f35 := Tryz.func35
theorem form_r_Rows : formOf Tryz.prog Tryz.f35 [2] = some G_r_Rows := by kernel_rfl
theorem res_r_Rows : resTmps Tryz.f35.results.toList = some [2] := by kernel_rfl
end Go.AM

namespace Go.AM
open Go.RowKit Go.Proofs
set_option maxHeartbeats 4000000 in
theorem r_Places_ok (f g : Bool) (s : SH) (hz : SzS s) (c : Int) : PureOK Tryz.prog n_r_Places [Sn f g s,I c] (.tup [Ls (plsL s c).isEmpty (plsL s c),I (plsE s c)]) := by
 refine pure_of (walk func_r_Places form_r_Places res_r_Places (by show 2 ≤ _; decide) ?_)
 simp -implicitDefEqProofs (disch := omega) [G_r_Places,wrap_id]
 refine callW_pure rfl (r_CheckSheet_ok f g s hz) ?_
 by_cases h0 : shtE s = 0
 · have hv := val_of h0
   rw [h0]
   simp -implicitDefEqProofs (disch := omega) [wrap_id]
   refine callW_pure rfl (r_IsComb_ok f g s c) ?_
   cases hk : isK s c with
   | false =>
     have e : plsE s c = 2 := by unfold plsE; rw [if_neg (by omega),if_pos hk]
     have e2 : plsL s c = [] := by unfold plsL; rw [if_neg (by omega)]
     rw [e,e2]
     simp -implicitDefEqProofs (disch := omega) [wrap_id]
     exact out_of (is := []) rfl
   | true =>
     have e : plsE s c = 0 := by unfold plsE; rw [if_neg (by omega),if_neg (by rw [hk]; decide)]
     have e2 : plsL s c = plcT s c 501 := by unfold plsL; rw [if_pos e]
     rw [e,e2]
     simp -implicitDefEqProofs (disch := omega) [wrap_id]
     refine loop_eq (fun q : Nat × AV × List HObj => ⟨[(1,I c),(2,.ref 0 0),(6,q.2.1),(7,I (q.1 : Int))],q.2.2⟩) (fun q => q.1 ≤ 501 ∧ AccR q.2.2 q.2.1 (plcT s c q.1) ∧ nthH q.2.2 0 = some (.cells [Ps f s.k,Ps g s.m]) ∧ rid q.2.1 ≠ some 0) (fun q => 501 - q.1) (0,.sl true 0 [],[.cells [Ps f s.k,Ps g s.m]]) ⟨Nat.zero_le _,.inl ⟨rfl,by simp [plcT]⟩,rfl,by simp [rid]⟩ rfl ?_
     rintro ⟨i,x,H⟩ ⟨d1,d2,d3,d4⟩
     simp only at d1 d2 d3 d4 ⊢
     have l0 := nthH_lt d3
     refine hideK' fun K0 hK0 => ?_
     simp -implicitDefEqProofs (disch := omega) [wrap_id]
     refine c_split (fun hc => ?_) (fun hc => ?_)
     · have hi : i < 501 := by simp at hc; omega
       have ix : ((i : Int) + 1) = ((i + 1 : Nat) : Int) := by omega
       have pl := plcT_len (s := s) (c := c) (i := i)
       simp -implicitDefEqProofs (disch := omega) [wrap_id,d3,ldr_some]
       refine callW_pure rfl (r_Bits_ok f g s hv (c,(i : Int)) hk) ?_
       by_cases hb : bitO s (c,(i : Int)) = 0
       · have e : plcT s c (i + 1) = plcT s c i := by rw [plcT_succ,if_neg (by omega)]; simp
         rw [hb]
         simp -implicitDefEqProofs (disch := omega) [wrap_id]
         rw [hK0]
         refine next_eq (i + 1,x,H) ⟨by simp only; omega,by simp only [e]; exact d2,d3,d4⟩ (by simp only; omega) (by simp only [ix])
       · have e : plcT s c (i + 1) = plcT s c i ++ [(i : Int)] := by rw [plcT_succ,if_pos hb]
         have hb2 : ((bitO s (c,(i : Int)) : Int) != 0) = true := by simp; omega
         simp -implicitDefEqProofs (disch := omega) [wrap_id,hb2]
         refine bsl_of (ys := [I (i : Int)]) rfl rfl ?_
         simp -implicitDefEqProofs (disch := omega) [wrap_id,zrep]
         refine app_row d2.row (by omega) fun ws w1 w2 w3 => ?_
         simp -implicitDefEqProofs (disch := omega) [wrap_id]
         rw [hK0]
         refine next_eq (i + 1,.ms H.length 0 ((plcT s c i).length + 1) 1,writeL H ws) ⟨by simp only; omega,.inr ⟨H.length,?_,?_,?_⟩,(w1 0 l0 (fun h => d4 h)).trans d3,?_⟩ (by simp only; omega) (by simp only [ix])
         · simp only [e]; simp
         · simp only [e]; simp
         · simp only [e]; exact w3
         · simp only [rid]; intro h; injection h with h; omega
     · have hi : i = 501 := by simp at hc; omega
       subst hi
       subst hK0
       simp -implicitDefEqProofs (disch := omega) [wrap_id]
       exact d2.tupE
 · have e : plsE s c = shtE s := by unfold plsE; rw [if_pos h0]
   have e2 : plsL s c = [] := by unfold plsL; rw [if_neg (by omega)]
   have h0' : (shtE s != 0) = true := by simp [h0]
   rw [e,e2]
   simp -implicitDefEqProofs (disch := omega) [wrap_id,h0']
   refine callW_pure rfl (r_CheckSheet_ok f g s hz) ?_
   simp -implicitDefEqProofs (disch := omega) [wrap_id]
   exact out_of (is := []) rfl
end Go.AM

namespace Go.AM
open Go.RowKit Go.Proofs
set_option maxHeartbeats 4000000 in
theorem r_Rows_ok (f g : Bool) (s : SH) (h0 : shtE s = 0) : PureOK Tryz.prog n_r_Rows [Sn f g s] (Ps (allR s).isEmpty (allR s)) := by
 have hv := val_of h0
 have hz : SzS s := ⟨by have := hv.k8; omega,by have := hv.m12; omega⟩
 have hk8 := hv.k8
 refine pure_of (walk func_r_Rows form_r_Rows res_r_Rows (by show 1 ≤ _; decide) ?_)
 simp -implicitDefEqProofs (disch := omega) [G_r_Rows,wrap_id]
 refine loop_eq (fun q : Nat × AV × List HObj => ⟨[(1,.ref 0 0),(3,q.2.1),(4,I (q.1 : Int))],q.2.2⟩) (fun q => q.1 ≤ s.k.length ∧ AccK q.2.2 q.2.1 (rwsK s q.1) ∧ nthH q.2.2 0 = some (.cells [Ps f s.k,Ps g s.m]) ∧ rid q.2.1 ≠ some 0) (fun q => s.k.length - q.1) (0,.sl true 0 [],[.cells [Ps f s.k,Ps g s.m]]) ⟨Nat.zero_le _,AccG.nil,rfl,by simp [rid]⟩ rfl ?_
 rintro ⟨i,x,H⟩ ⟨d1,d2,d3,d4⟩
 simp only at d1 d2 d3 d4 ⊢
 refine hideK' fun K0 hK0 => ?_
 simp -implicitDefEqProofs (disch := omega) [wrap_id,d3]
 refine c_split (fun hc => ?_) (fun hc => ?_)
 · have hi : i < s.k.length := by simpa using hc
   have ix : ((i : Int) + 1) = ((i + 1 : Nat) : Int) := by omega
   have hk : isK s (i : Int) = true := by unfold isK; simp; omega
   have e : plsE s (i : Int) = 0 := by unfold plsE; rw [if_neg (by omega),if_neg (by rw [hk]; decide)]
   have e2 : plsL s (i : Int) = plcT s i 501 := by unfold plsL; rw [if_pos e]
   have pl := plcT_len (s := s) (c := (i : Int)) (i := 501)
   have rl := rwsK_len (s := s) (n := i)
   simp -implicitDefEqProofs (disch := omega) [wrap_id,d3,ldr_some]
   refine callW_pure rfl (r_Places_ok f g s hz (i : Int)) ?_
   rw [e,e2]
   have hro : rowOf s i = (plcT s (i : Int) 501).map fun a => ((i : Int),a) := rfl
   generalize plcT s (i : Int) 501 = P at *
   simp -implicitDefEqProofs (disch := omega) [wrap_id]
   refine loop_eq (fun q : Nat × AV × List HObj => ⟨[(1,.ref 0 0),(3,q.2.1),(4,I (i : Int)),(5,Ls P.isEmpty P),(7,I (q.1 : Int))],q.2.2⟩) (fun q => q.1 ≤ P.length ∧ AccK q.2.2 q.2.1 (rwsK s i ++ (P.take q.1).map fun a => ((i : Int),a)) ∧ nthH q.2.2 0 = some (.cells [Ps f s.k,Ps g s.m]) ∧ rid q.2.1 ≠ some 0) (fun q => P.length - q.1) (0,x,H) ⟨Nat.zero_le _,by simpa using d2,d3,d4⟩ rfl ?_
   rintro ⟨j,y,H2⟩ ⟨f1,f2,f3,f4⟩
   simp only at f1 f2 f3 f4 ⊢
   refine hideK' fun K1 hK1 => ?_
   simp -implicitDefEqProofs (disch := omega) [wrap_id]
   refine c_split (fun hc => ?_) (fun hc => ?_)
   · have hj : j < P.length := by simpa using hc
     have jx : ((j : Int) + 1) = ((j + 1 : Nat) : Int) := by omega
     have tk : P.take (j + 1) = P.take j ++ [P[j]] := by rw [List.take_succ_eq_append_getElem hj]
     have ll : (rwsK s i ++ (P.take j).map fun a => ((i : Int),a)).length ≤ 1000000 := by
      rw [List.length_append,List.length_map,List.length_take]
      have : i * 501 ≤ 8 * 501 := Nat.mul_le_mul_right _ (by omega)
      omega
     have eQ : rwsK s i ++ (P.take (j + 1)).map (fun a => ((i : Int),a)) = (rwsK s i ++ (P.take j).map fun a => ((i : Int),a)) ++ [((i : Int),P[j])] := by
      rw [tk,List.map_append,List.append_assoc]; rfl
     generalize (rwsK s i ++ (P.take j).map fun a => ((i : Int),a)) = Q at f2 ll eQ
     simp -implicitDefEqProofs (disch := omega) [wrap_id,cells_ls,hj]
     refine bsl_of (ys := [.agg [I (i : Int),I P[j]]]) rfl rfl ?_
     simp -implicitDefEqProofs (disch := omega) [wrap_id,zrep]
     refine app_accG (ys := [I (i : Int),I P[j]]) f2 (by omega) (by decide) rfl rfl fun ws w1 w2 w3 => ?_
     simp -implicitDefEqProofs (disch := omega) [wrap_id]
     rw [hK1]
     have l0 := nthH_lt f3
     refine next_eq (j + 1,.ms H2.length 0 (Q.length + 1) 2,writeL H2 ws) ⟨by simp only; omega,?_,(w1 0 l0 f4).trans f3,?_⟩ (by simp only; omega) (by simp only [jx])
     · simp only [eQ]
       unfold AccK
       rw [flat2_appK,List.length_append]
       exact w3
     · simp only [rid]; intro e; injection e; omega
   · have hj : j = P.length := by simp at hc; omega
     subst hj
     subst hK1
     simp -implicitDefEqProofs (disch := omega) [wrap_id]
     rw [hK0]
     refine next_eq (i + 1,y,H2) ⟨by simp only; omega,?_,f3,f4⟩ (by simp only; omega) (by simp only [ix])
     simp only [rwsK_succ,hro]
     rw [List.take_length] at f2
     exact f2
 · have hi : i = s.k.length := by simp at hc; omega
   subst hi
   subst hK0
   simp -implicitDefEqProofs (disch := omega) [wrap_id]
   exact AccK.out d2
end Go.AM

namespace Go.AM
open Go.RowKit Go.Proofs
theorem allR_len {s : SH} (hv : ValS s) : (allR s).length ≤ 4008 := by
 have := rwsK_len (s := s) (n := s.k.length)
 have h : s.k.length * 501 ≤ 8 * 501 := Nat.mul_le_mul_right _ hv.k8
 unfold allR; omega
end Go.AM

namespace Go.AM
open Go.RowKit Go.Proofs
theorem ansW_ex (s : SH) (R : List (Int × Int)) : ∃ n c,AnsW s R n c := by
 by_cases h : ∃ k,(1 ≤ k ∧ k ≤ s.m.length) ∧ 0 < cwA s R 0 k
 · obtain ⟨k,hk⟩ := h
   obtain ⟨j,h1,⟨h2,h3⟩,h4⟩ := leastN (P := fun k => (1 ≤ k ∧ k ≤ s.m.length) ∧ 0 < cwA s R 0 k) hk
   exact ⟨j,_,.inr ⟨h2.1,h2.2,h3,fun i h5 h6 => by
    have := h4 i h6
    apply Classical.byContradiction
    intro h
    exact this ⟨⟨h5,by omega⟩,by omega⟩,rfl⟩⟩
 · exact ⟨0,0,.inl ⟨fun k h1 h2 => by
    apply Classical.byContradiction
    intro h3
    exact h ⟨k,⟨h1,h2⟩,by omega⟩,rfl,rfl⟩⟩
end Go.AM

namespace Go.AM
open Go.RowKit Go.Proofs
theorem ansCt_ex (s : SH) : ∃ v e,AnsCt s v e := by
 by_cases h0 : shtE s = 0
 · by_cases h1 : lostL s = []
   · obtain ⟨n,c,h⟩ := ansW_ex s (allR s)
     by_cases h2 : c = 1099511627777
     · exact ⟨0,4,.inr ⟨h0,.inr ⟨h1,n,c,h,.inl ⟨h2,rfl,rfl⟩⟩⟩⟩
     · exact ⟨c,0,.inr ⟨h0,.inr ⟨h1,n,c,h,.inr ⟨h2,rfl,rfl⟩⟩⟩⟩
   · exact ⟨0,19,.inr ⟨h0,.inl ⟨h1,rfl,rfl⟩⟩⟩
 · exact ⟨0,_,.inl ⟨h0,rfl,rfl⟩⟩
end Go.AM

namespace Go.AM
open Go.RowKit Go.Proofs
theorem ansKd_ex (s : SH) (r : Int × Int) : ∃ k e,AnsKd s r k e := by
 by_cases h0 : shtE s = 0
 · cases h1 : isK s r.1 with
   | false => exact ⟨0,2,.inr ⟨h0,.inl ⟨h1,rfl,rfl⟩⟩⟩
   | true =>
     by_cases h2 : lostL s = []
     · by_cases h3 : bitO s r = 0
       · exact ⟨0,0,.inr ⟨h0,.inr ⟨h1,.inr ⟨h2,.inl ⟨h3,rfl,rfl⟩⟩⟩⟩⟩
       · obtain ⟨n,c,hW⟩ := ansW_ex s (allR s)
         obtain ⟨m,d,hV⟩ := ansW_ex s (rstK s r)
         by_cases h4 : m = n
         · by_cases h5 : 0 < cwA s (rstK s r) (bitO s r) (n - 1)
           · exact ⟨1,0,.inr ⟨h0,.inr ⟨h1,.inr ⟨h2,.inr ⟨h3,rfl,n,c,m,d,hW,hV,.inr (.inl ⟨h4,h5,rfl⟩)⟩⟩⟩⟩⟩
           · exact ⟨0,0,.inr ⟨h0,.inr ⟨h1,.inr ⟨h2,.inr ⟨h3,rfl,n,c,m,d,hW,hV,.inr (.inr ⟨h4,by omega,rfl⟩)⟩⟩⟩⟩⟩
         · exact ⟨2,0,.inr ⟨h0,.inr ⟨h1,.inr ⟨h2,.inr ⟨h3,rfl,n,c,m,d,hW,hV,.inl ⟨h4,rfl⟩⟩⟩⟩⟩⟩
     · exact ⟨0,19,.inr ⟨h0,.inr ⟨h1,.inl ⟨h2,rfl,rfl⟩⟩⟩⟩
 · exact ⟨0,_,.inl ⟨h0,rfl,rfl⟩⟩
end Go.AM

set_option maxRecDepth 100000
namespace Go.AM
open Go.RowKit Go.Proofs
abbrev n_l_CombCounted : Nat := 12
def G_l_CombCounted : AC := (.seq (.rgn [⟨none,[(.box 1 2 (.t 0)),(.mv 2 (.k (B false)))]⟩] [1]) (.seq (.seq (.rgn [⟨none,[(.ld 14 true 2 (.t 1)),(.call 15 48 [(.t 14)]),(.un 16 .not (.t 15))]⟩] [1,16]) (.cond (.t 16) (.seq (.rgn [⟨none,[(.call 17 17 []),(.mv 2 (.t 17))]⟩] [2]) .ret) .skip)) (.seq (.rgn [⟨none,[(.ld 18 true 2 (.t 1)),(.call 19 35 [(.t 18)]),(.mv 3 (.t 19))]⟩] [1,3]) (.seq (.rgn [⟨none,[(.ld 21 true 2 (.t 1)),(.call 22 29 [(.t 21)]),(.mv 20 (.t 22)),(.ext 23 (.t 20) 0),(.ext 24 (.t 20) 1),(.mv 4 (.t 23)),(.mv 5 (.t 24))]⟩] [1,3,4,5]) (.seq (.rgn [⟨none,[(.ld 26 true 2 (.t 1)),(.call 27 30 [(.t 26)]),(.mv 25 (.t 27)),(.ext 28 (.t 25) 0),(.ext 29 (.t 25) 1),(.mv 6 (.t 28)),(.mv 7 (.t 29))]⟩] [1,3,4,5,6,7]) (.seq (.seq (.rgn [⟨none,[(.mv 30 (.t 5)),(.bin 31 .eql (.t 30) (.k (I 19))),(.mv 32 (.t 31))]⟩,⟨(some (32,false)),[(.mv 33 (.t 3)),(.len 34 (.t 33)),(.bin 35 .gtr (.t 34) (.k (I 40)))]⟩,⟨none,[(.pick 36 (.t 32) (.k (B true)) (.t 35))]⟩] [1,3,4,5,6,7,36]) (.cond (.t 36) (.seq (.rgn [⟨none,[(.mv 37 (.t 5)),(.bin 38 .neq (.t 37) (.k (I 19))),(.mv 39 (.t 38))]⟩,⟨(some (39,false)),[(.mv 40 (.t 7)),(.bin 41 .eql (.t 40) (.k (I 19)))]⟩,⟨none,[(.pick 42 (.t 39) (.k (B true)) (.t 41)),(.mv 43 (.t 42))]⟩,⟨(some (43,true)),[(.call 44 17 [])]⟩,⟨none,[(.pick 45 (.t 43) (.t 44) (.k (B false))),(.mv 2 (.t 45))]⟩] [2]) .ret) .skip)) (.seq (.seq (.rgn [⟨none,[(.mv 46 (.t 5)),(.bin 47 .neq (.t 46) (.k (I 0))),(.mv 48 (.t 47))]⟩,⟨(some (48,false)),[(.mv 49 (.t 7)),(.bin 50 .neq (.t 49) (.k (I 0))),(.mv 51 (.t 50))]⟩,⟨(some (51,true)),[(.mv 52 (.t 7)),(.bin 53 .neq (.t 52) (.k (I 4)))]⟩,⟨(some (48,false)),[(.pick 54 (.t 51) (.t 53) (.k (B false)))]⟩,⟨none,[(.pick 55 (.t 48) (.k (B true)) (.t 54)),(.mv 56 (.t 55))]⟩,⟨(some (56,false)),[(.mv 57 (.t 7)),(.bin 58 .eql (.t 57) (.k (I 0))),(.mv 59 (.t 58))]⟩,⟨(some (59,true)),[(.mv 60 (.t 6)),(.bin 61 .lss (.t 60) (.k (I 1)))]⟩,⟨(some (56,false)),[(.pick 62 (.t 59) (.t 61) (.k (B false)))]⟩,⟨none,[(.pick 63 (.t 56) (.k (B true)) (.t 62))]⟩] [1,3,4,6,7,63]) (.cond (.t 63) (.seq (.rgn [⟨none,[(.mv 2 (.k (B false)))]⟩] [2]) .ret) .skip)) (.seq (.rgn [⟨none,[(.mv 8 (.k (B false)))]⟩] [1,3,4,6,7,8]) (.seq (.seq (.rgn [⟨none,[(.mv 9 (.k (I 0)))]⟩] [1,3,4,6,7,8,9]) (.block 0 (.loop (.seq (.seq (.rgn [⟨none,[(.mv 64 (.t 9)),(.mv 65 (.t 3)),(.len 66 (.t 65)),(.bin 67 .lss (.t 64) (.t 66))]⟩] [1,3,4,6,7,8,9,67]) (.cond (.t 67) .skip (.exit 0))) (.seq (.block 1 (.seq (.drw [⟨none,[(.ld 71 true 2 (.t 1)),(.mv 72 (.t 3)),(.mv 73 (.t 9)),(.ia 74 2 (.t 72) (.t 73)),(.ld 75 true 2 (.t 74)),(.call 76 41 [(.t 71),(.t 75)]),(.mv 70 (.t 76)),(.ext 77 (.t 70) 0),(.ext 78 (.t 70) 1),(.mv 10 (.t 77)),(.mv 11 (.t 78))]⟩] [(0,4)] [1,3,4,6,7,8,9,10,11]) (.seq (.rgn [⟨none,[(.mv 12 (.k (B false)))]⟩] [1,3,4,6,7,8,9,10,11,12]) (.seq (.seq (.rgn [⟨none,[(.mv 13 (.k (I 0)))]⟩] [1,3,4,6,7,8,9,10,11,12,13]) (.block 2 (.loop (.seq (.seq (.rgn [⟨none,[(.mv 79 (.t 13)),(.mv 80 (.t 4)),(.len 81 (.t 80)),(.bin 82 .lss (.t 79) (.t 81))]⟩] [1,3,4,6,7,8,9,10,11,12,13,82]) (.cond (.t 82) .skip (.exit 2))) (.seq (.block 3 (.drw [⟨none,[(.mv 85 (.t 12)),(.mv 86 (.t 85))]⟩,⟨(some (86,false)),[(.mv 87 (.t 4)),(.mv 88 (.t 13)),(.ia 89 2 (.t 87) (.t 88)),(.ld 90 true 2 (.t 89)),(.mv 91 (.t 3)),(.mv 92 (.t 9)),(.ia 93 2 (.t 91) (.t 92)),(.ld 94 true 2 (.t 93)),(.eqk 95 false (true,[.int,.int]) (.t 90) (.t 94))]⟩,⟨none,[(.pick 96 (.t 86) (.k (B true)) (.t 95)),(.mv 12 (.t 96))]⟩] [(5,9)] [1,3,4,6,7,8,9,10,11,12,13])) (.rgn [⟨none,[(.mv 83 (.t 13)),(.bin 84 .add (.t 83) (.k (I 1))),(.mv 13 (.t 84))]⟩] [1,3,4,6,7,8,9,10,11,12,13])))))) (.seq (.seq (.rgn [⟨none,[(.mv 97 (.t 11)),(.bin 98 .neq (.t 97) (.k (I 0))),(.mv 99 (.t 98))]⟩,⟨(some (99,false)),[(.mv 100 (.t 10)),(.bin 101 .lss (.t 100) (.k (I 0)))]⟩,⟨none,[(.pick 102 (.t 99) (.k (B true)) (.t 101)),(.mv 103 (.t 102))]⟩,⟨(some (103,false)),[(.mv 104 (.t 10)),(.bin 105 .gtr (.t 104) (.k (I 2)))]⟩,⟨none,[(.pick 106 (.t 103) (.k (B true)) (.t 105)),(.mv 107 (.t 106))]⟩,⟨(some (107,false)),[(.mv 108 (.t 10)),(.bin 109 .eql (.t 108) (.k (I 2))),(.mv 110 (.t 109))]⟩,⟨(some (110,true)),[(.mv 111 (.t 12)),(.un 112 .not (.t 111))]⟩,⟨(some (107,false)),[(.pick 113 (.t 110) (.t 112) (.k (B false)))]⟩,⟨none,[(.pick 114 (.t 107) (.k (B true)) (.t 113)),(.mv 115 (.t 114))]⟩,⟨(some (115,false)),[(.mv 116 (.t 10)),(.bin 117 .eql (.t 116) (.k (I 0))),(.mv 118 (.t 117))]⟩,⟨(some (118,true)),[(.mv 119 (.t 12))]⟩,⟨(some (115,false)),[(.pick 120 (.t 118) (.t 119) (.k (B false)))]⟩,⟨none,[(.pick 121 (.t 115) (.k (B true)) (.t 120))]⟩] [1,3,4,6,7,8,9,10,121]) (.cond (.t 121) (.seq (.rgn [⟨none,[(.mv 2 (.k (B false)))]⟩] [2]) .ret) .skip)) (.rgn [⟨none,[(.mv 122 (.t 8)),(.mv 123 (.t 122))]⟩,⟨(some (123,false)),[(.mv 124 (.t 10)),(.bin 125 .eql (.t 124) (.k (I 1)))]⟩,⟨none,[(.pick 126 (.t 123) (.k (B true)) (.t 125)),(.mv 8 (.t 126))]⟩] [1,3,4,6,7,8,9])))))) (.rgn [⟨none,[(.mv 68 (.t 9)),(.bin 69 .add (.t 68) (.k (I 1))),(.mv 9 (.t 69))]⟩] [1,3,4,6,7,8,9])))))) (.seq (.rgn [⟨none,[(.mv 127 (.t 8)),(.mv 128 (.t 7)),(.bin 129 .neq (.t 128) (.k (I 0))),(.mv 130 (.t 129))]⟩,⟨(some (130,false)),[(.mv 131 (.t 6)),(.bin 132 .gtr (.t 131) (.k (I 1)))]⟩,⟨none,[(.pick 133 (.t 130) (.k (B true)) (.t 132)),(.eqk 134 false (false,[.bool]) (.t 127) (.t 133)),(.mv 135 (.t 134))]⟩,⟨(some (135,true)),[(.call 136 17 [])]⟩,⟨none,[(.pick 137 (.t 135) (.t 136) (.k (B false))),(.mv 2 (.t 137))]⟩] [2]) .ret))))))))))
theorem func_l_CombCounted : Tryz.prog.funcs[n_l_CombCounted]? = some Tryz.f12 := Tryz.func12
theorem form_l_CombCounted : formOf Tryz.prog Tryz.f12 [2] = some G_l_CombCounted := by kernel_rfl
theorem res_l_CombCounted : resTmps Tryz.f12.results.toList = some [2] := by kernel_rfl
abbrev n_l_great : Nat := 16
def G_l_great : AC := (.seq (.rgn [⟨none,[(.box 1 2 (.t 0)),(.mv 2 (.k (B false)))]⟩] [1]) (.seq (.rgn [⟨none,[(.fa 3 (.t 1) 0),(.ld 4 false 1 (.t 3)),(.len 5 (.t 4)),(.bin 6 .gtr (.t 5) (.k (I 12))),(.mv 7 (.t 6))]⟩,⟨(some (7,false)),[(.fa 8 (.t 1) 1),(.ld 9 false 1 (.t 8)),(.len 10 (.t 9)),(.bin 11 .gtr (.t 10) (.k (I 18)))]⟩,⟨none,[(.pick 12 (.t 7) (.k (B true)) (.t 11)),(.mv 2 (.t 12))]⟩] [2]) .ret))
theorem func_l_great : Tryz.prog.funcs[n_l_great]? = some Tryz.f16 := Tryz.func16
theorem form_l_great : formOf Tryz.prog Tryz.f16 [2] = some G_l_great := by kernel_rfl
theorem res_l_great : resTmps Tryz.f16.results.toList = some [2] := by kernel_rfl
abbrev n_l_fine : Nat := 48
def G_l_fine : AC := (.seq (.rgn [⟨none,[(.box 1 2 (.t 0)),(.mv 2 (.k (B false)))]⟩] [1]) (.seq (.rgn [⟨none,[(.ld 3 true 2 (.t 1)),(.call 4 16 [(.t 3)]),(.un 5 .not (.t 4)),(.mv 6 (.t 5))]⟩,⟨(some (6,true)),[(.ld 7 true 2 (.t 1)),(.call 8 25 [(.t 7)]),(.bin 9 .eql (.t 8) (.k (I 0)))]⟩,⟨none,[(.pick 10 (.t 6) (.t 9) (.k (B false))),(.mv 2 (.t 10))]⟩] [2]) .ret))
theorem func_l_fine : Tryz.prog.funcs[n_l_fine]? = some Tryz.f48 := Tryz.func48
theorem form_l_fine : formOf Tryz.prog Tryz.f48 [2] = some G_l_fine := by kernel_rfl
theorem res_l_fine : resTmps Tryz.f48.results.toList = some [2] := by kernel_rfl
end Go.AM

namespace Go.AM
open Go.RowKit Go.Proofs
def grtK (s : SH) : Bool := decide (12 < s.k.length) || decide (18 < s.m.length)
theorem grtK_sz {s : SH} (h : grtK s = false) : SzS s ∧ s.k.length ≤ 12 ∧ s.m.length ≤ 18 := by
 unfold grtK at h
 simp only [Bool.or_eq_false_iff,decide_eq_false_iff_not] at h
 exact ⟨⟨by omega,by omega⟩,by omega,by omega⟩
theorem lk_great_ok (f g : Bool) (s : SH) : PureOK Tryz.prog n_l_great [Sn f g s] (B (grtK s)) := by
 refine pure_of (walk func_l_great form_l_great res_l_great (by show 1 ≤ _; decide) ?_)
 simp -implicitDefEqProofs (disch := omega) [G_l_great,wrap_id]
 unfold grtK
 have e1 : decide ((12 : Int) < (s.k.length : Int)) = decide (12 < s.k.length) := by rw [decide_eq_decide]; omega
 have e2 : decide ((18 : Int) < (s.m.length : Int)) = decide (18 < s.m.length) := by rw [decide_eq_decide]; omega
 cases h : decide (12 < s.k.length) with
 | true =>
   rw [h] at e1
   simp -implicitDefEqProofs (disch := omega) [wrap_id,e1]
 | false =>
   rw [h] at e1
   simp -implicitDefEqProofs (disch := omega) [wrap_id,e1,e2]
def finK (s : SH) : Bool := !grtK s && decide (shtE s = 0)
theorem lk_fine_ok (f g : Bool) (s : SH) : PureOK Tryz.prog n_l_fine [Sn f g s] (B (finK s)) := by
 refine pure_of (walk func_l_fine form_l_fine res_l_fine (by show 1 ≤ _; decide) ?_)
 simp -implicitDefEqProofs (disch := omega) [G_l_fine,wrap_id]
 refine callW_pure rfl (lk_great_ok f g s) ?_
 unfold finK
 cases hg : grtK s with
 | true => simp -implicitDefEqProofs (disch := omega) [wrap_id]
 | false =>
   obtain ⟨hz,_⟩ := grtK_sz hg
   simp -implicitDefEqProofs (disch := omega) [wrap_id]
   refine callW_pure rfl (r_CheckSheet_ok f g s hz) ?_
   by_cases h : shtE s = 0
   · rw [h]
     simp -implicitDefEqProofs (disch := omega) [wrap_id]
   · have h' : (shtE s == 0) = false := by rw [beq_eq_false_iff_ne]; exact h
     simp -implicitDefEqProofs (disch := omega) [wrap_id,h',h]
end Go.AM

namespace Go.AM
open Go.RowKit Go.Proofs
theorem mpp2 {c : List AV} : NoMpp [HObj.cells c] := mpp_list rfl
theorem bst_W {s : SH} (h0 : shtE s = 0) {R : List (Int × Int)} (h : Bst s R) {n c : Nat} (hW : AnsW s (allR s) n c) : n = R.length := ansW_iff (val_of h0) (bst_rk h) h.few h.len hW
end Go.AM

namespace Go.AM
open Go.RowKit Go.Proofs
theorem orN_rc {a b c : Nat} : orN (orN a b) c = orN (orN a c) b := Nat.eq_of_testBit_eq fun i => by
 simp only [orN_bit]
 cases a.testBit i <;> cases b.testBit i <;> cases c.testBit i <;> rfl
theorem wK_cons {k : Nat} {K : List Nat} {n : Nat} {φ : Nat → Nat} : wK (k :: K) (n + 1) φ = wK K (n + 1) φ + wK K n (fun c => φ (orN c k)) := rfl
theorem wK_one : ∀ {K : List Nat} {n : Nat} {φ : Nat → Nat}, (∀ c, φ c ≤ 1) → (∀ A k B, K = A ++ k :: B → wK (A ++ B) n φ = 0 ∨ ∀ m, n = m + 1 → wK (A ++ B) m (fun c => φ (orN c k)) = 0) → wK K n φ ≤ 1
 | [],n,φ,h,_ => by
   unfold wK
   split
   · exact h 0
   · omega
 | k :: K,0,φ,h,_ => by rw [wK_zero]; exact h 0
 | k :: K, n + 1, φ, h, hp => by
   rw [wK_cons]
   rcases hp [] k K rfl with h0 | h0
   · have h0 : wK K (n + 1) φ = 0 := h0
     have := wK_one (K := K) (n := n) (φ := fun c => φ (orN c k)) (fun c => h _) (fun A x B e => by
      rcases hp (k :: A) x B (by rw [e]; rfl) with h1 | h1
      · left
        have h1 : wK (A ++ B) (n + 1) φ + wK (A ++ B) n (fun c => φ (orN c k)) = 0 := h1
        omega
      · right
        intro m hm
        subst hm
        have h2 : wK (A ++ B) (m + 1) _ + wK (A ++ B) m (fun c => φ (orN (orN c k) x)) = 0 := h1 (m + 1) rfl
        have h3 : wK (A ++ B) m (fun c => φ (orN (orN c k) x)) = 0 := by omega
        have e : (fun c => φ (orN (orN c x) k)) = (fun c => φ (orN (orN c k) x)) := funext fun c => by rw [orN_rc]
        show wK (A ++ B) m (fun c => φ (orN (orN c x) k)) = 0
        rw [e]; exact h3)
     omega
   · have h0 : wK K n (fun c => φ (orN c k)) = 0 := h0 n rfl
     have := wK_one (K := K) (n := n + 1) (φ := φ) h (fun A x B e => by
      rcases hp (k :: A) x B (by rw [e]; rfl) with h1 | h1
      · left
        have h1 : wK (A ++ B) (n + 1) φ + wK (A ++ B) n (fun c => φ (orN c k)) = 0 := h1
        omega
      · right
        intro m hm
        obtain rfl : n = m := by omega
        have h2 := h1 n rfl
        have h3 := wK_more (K := A ++ B) (A := [k]) (n := n) (φ := fun c => φ (orN c x))
        have h4 : [k] ++ (A ++ B) = k :: A ++ B := rfl
        rw [h4] at h3
        omega)
     omega
theorem wK_sub : ∀ {K : List Nat} {n : Nat} {φ : Nat → Nat},0 < wK K n φ → ∃ ks : List Nat,ks.length = n ∧ (∀ k ∈ ks,k ∈ K) ∧ 0 < φ (ks.foldl orN 0)
 | [],n,φ,h => by
   unfold wK at h
   split at h
   · rename_i e; exact ⟨[],e.symm,(by intro _ h; cases h),h⟩
   · omega
 | k :: K,0,φ,h => by rw [wK_zero] at h; exact ⟨[],rfl,(by intro _ h; cases h),h⟩
 | k :: K, n + 1, φ, h => by
   rw [wK_cons] at h
   by_cases h1 : 0 < wK K (n + 1) φ
   · obtain ⟨ks,a,b,c⟩ := wK_sub h1
     exact ⟨ks,a,fun x hx => List.mem_cons_of_mem _ (b x hx),c⟩
   · obtain ⟨ks,a,b,c⟩ := wK_sub (K := K) (n := n) (φ := fun c => φ (orN c k)) (by omega)
     refine ⟨ks ++ [k],by simp [a],fun x hx => ?_,?_⟩
     · rcases List.mem_append.1 hx with h | h
       · exact .tail _ (b x h)
       · rw [List.mem_singleton] at h; subst h; exact .head _
     · rw [List.foldl_append]; exact c
theorem wK_mk : ∀ {ks K : List Nat} {φ : Nat → Nat},ks.Nodup → (∀ k ∈ ks,k ∈ K) → 0 < φ (ks.foldl orN 0) → 0 < wK K ks.length φ
 | [],K,φ,_,_,h => by rw [List.length_nil,wK_zero]; exact h
 | x :: ks, K, φ, hd, hs, h => by
   have hx := hs x (.head _)
   rw [wK_perm (List.perm_cons_erase hx),List.length_cons,wK_cons]
   have hd' := List.nodup_cons.1 hd
   have := wK_mk (ks := ks) (K := K.erase x) (φ := fun c => φ (orN c x)) hd'.2 (fun k hk => (List.mem_erase_of_ne (fun e => hd'.1 (by rw [← e]; exact hk))).2 (hs k (.tail _ hk))) (by
    show 0 < φ (orN (ks.foldl orN 0) x)
    have e : orN (ks.foldl orN 0) x = (x :: ks).foldl orN 0 := Nat.eq_of_testBit_eq fun i => by
     rw [orN_bit,foldl_bit,foldl_bit,List.any_cons]
     simp only [Nat.zero_testBit,Bool.false_or]
     rw [Bool.or_comm]
    rw [e]; exact h)
   omega
theorem foldl_had {ks : List Nat} {had : Nat} : orN (ks.foldl orN 0) had = ks.foldl orN had := Nat.eq_of_testBit_eq fun i => by
 rw [orN_bit,foldl_bit,foldl_bit]
 simp only [Nat.zero_testBit,Bool.false_or]
 rw [Bool.or_comm]
theorem wK_rk {s : SH} {R : List (Int × Int)} {had n t : Nat} (h : 0 < wK (R.map fun r => bitO s r) n (fun c => is1 t (orN c had))) : RkR s R had n t := by
 obtain ⟨ks,a,b,c⟩ := wK_sub h
 refine ⟨ks,a,fun k hk => by obtain ⟨r,hr,e⟩ := List.mem_map.1 (b k hk); exact ⟨r,hr,e⟩,?_⟩
 rw [foldl_had] at c
 unfold is1 at c
 split at c
 · assumption
 · omega
theorem rk_wK {s : SH} {R : List (Int × Int)} {had n t : Nat} (h : RkR s R had n t) (hm : ∀ k,k < n → ¬ RkR s R had k t) : 0 < wK (R.map fun r => bitO s r) n (fun c => is1 t (orN c had)) := by
 obtain ⟨ks,h1,h2,h3⟩ := h
 have nd := nodup_of_min h1 h2 h3 hm
 rw [← h1]
 refine wK_mk nd (fun k hk => by obtain ⟨r,hr,e⟩ := h2 k hk; exact List.mem_map.2 ⟨r,hr,e⟩) ?_
 rw [foldl_had,h3]
 unfold is1
 rw [if_pos rfl]
 decide
theorem is1_zero {t : Nat} : (fun c => is1 t (orN c 0)) = is1 t := funext fun c => by rw [show orN c 0 = c from Nat.or_zero c]
theorem keys_map {s : SH} {R : List (Int × Int)} : ((List.range R.length).map fun j => bitO s (R.getD j (0,0))) = R.map fun r => bitO s r := by
 refine List.ext_getElem (by simp) fun i h1 h2 => ?_
 rw [List.length_map] at h2
 rw [List.getElem_map,List.getElem_map,List.getElem_range,getD_at h2]
theorem cwA_wK {s : SH} (hv : ValS s) {R : List (Int × Int)} {n : Nat} : cwA s R 0 n = wK (R.map fun r => bitO s r) n (is1 (allN s)) := by
 unfold cwA
 rw [cw_wK (fun r => bitO_small hv r) (Nat.two_pow_pos _),keys_map,wK_perm (List.reverse_perm _)]
 rfl
structure MayK (s : SH) (N : Nat) (r : Int × Int) : Prop where
 out : RkR s (rstK s r) 0 N (allN s)
 inn : RkR s (rstK s r) (bitO s r) (N - 1) (allN s)
theorem rst_split {s : SH} {P Q : List (Int × Int)} {r : Int × Int} (h : allR s = P ++ r :: Q) : rstK s r = P ++ Q := by
 have nd := nodup_allR (s := s)
 rw [h] at nd
 have nd' := List.nodup_append.1 nd
 unfold rstK
 rw [h,List.filter_append,List.filter_cons,if_neg (by simp),List.filter_eq_self.2,List.filter_eq_self.2]
 · intro x hx
   have := (List.nodup_cons.1 nd'.2.1).1
   rw [Bool.not_eq_true',decide_eq_false_iff_not]
   rintro rfl
   exact this hx
 · intro x hx
   rw [Bool.not_eq_true',decide_eq_false_iff_not]
   rintro rfl
   exact nd'.2.2 x hx x (.head _) rfl
theorem rk_pos {s : SH} (hv : ValS s) {R : List (Int × Int)} {N : Nat} (q1 : RkR s R 0 N (allN s)) : 1 ≤ N := by
 have w := pw_12 hv
 refine Classical.byContradiction fun h => ?_
 have : N = 0 := by omega
 subst this
 obtain ⟨ks,a1,_,a3⟩ := q1
 rw [List.length_eq_zero_iff] at a1
 subst a1
 have : (0 : Nat) = allN s := a3
 unfold allN at this
 omega
theorem rk_put {s : SH} {r : Int × Int} (hr : r ∈ allR s) {k t : Nat} (h : RkR s (rstK s r) (bitO s r) k t) : RkR s (allR s) 0 (k + 1) t := by
 obtain ⟨ks,h1,h2,h3⟩ := h
 refine ⟨bitO s r :: ks,by simp [h1],fun k hk => ?_,?_⟩
 · rcases List.mem_cons.1 hk with rfl | hk
   · exact ⟨r,hr,rfl⟩
   · obtain ⟨x,hx,e⟩ := h2 k hk
     exact ⟨x,(mem_rst.1 hx).1,e⟩
 · rw [List.foldl_cons,show orN 0 (bitO s r) = bitO s r from Nat.zero_or _]; exact h3
theorem may_iff {s : SH} (hv : ValS s) {N : Nat} (q1 : RkR s (allR s) 0 N (allN s)) (q2 : ∀ k,k < N → ¬ RkR s (allR s) 0 k (allN s)) : 1 < cwA s (allR s) 0 N ↔ ∃ r ∈ allR s,MayK s N r := by
 have n1 := rk_pos hv q1
 rw [cwA_wK hv]
 constructor
 · intro h
   refine Classical.byContradiction fun hn => ?_
   have := wK_one (K := (allR s).map fun r => bitO s r) (n := N) (φ := is1 (allN s)) (fun c => by unfold is1; split <;> omega) (fun A k B e => by
    obtain ⟨P,Q',e1,e2,e3⟩ := List.map_eq_append_iff.1 e
    obtain ⟨r,Q,e4,e5,e6⟩ := List.map_eq_cons_iff.1 e3
    subst e4
    have hr : r ∈ allR s := by rw [e1]; simp
    have hs := rst_split e1
    have ek : A ++ B = (rstK s r).map fun r => bitO s r := by rw [hs,List.map_append,e2,e6]
    rw [ek]
    by_cases ho : RkR s (rstK s r) 0 N (allN s)
    · right
      intro m hm
      refine Nat.eq_zero_of_not_pos fun hp => hn ⟨r,hr,ho,?_⟩
      have hm' : N - 1 = m := by omega
      rw [hm']
      rw [← e5] at hp
      exact wK_rk hp
    · left
      refine Nat.eq_zero_of_not_pos fun hp => ho ?_
      rw [← is1_zero] at hp
      exact wK_rk hp)
   omega
 · rintro ⟨r,hr,ho,hi⟩
   obtain ⟨P,Q,e⟩ := List.append_of_mem hr
   have hs := rst_split e
   obtain ⟨M,rfl⟩ : ∃ M,N = M + 1 := ⟨N - 1,by omega⟩
   have e2 : ((allR s).map fun r => bitO s r).Perm (bitO s r :: (rstK s r).map fun r => bitO s r) := by
    rw [hs,e,← List.map_cons (f := fun r => bitO s r)]
    exact List.Perm.map _ List.perm_middle
   rw [wK_perm e2,wK_cons]
   have h1 := rk_wK ho (fun k hk h => q2 k hk (h.sub rst_sub))
   rw [is1_zero] at h1
   have h2 := rk_wK hi (fun k hk h => q2 (k + 1) (by omega) (rk_put hr h))
   rw [Nat.add_sub_cancel] at h2
   omega
end Go.AM

namespace Go.AM
open Go.RowKit Go.Proofs
theorem kd_val {s : SH} (h0 : shtE s = 0) (hL : lostL s = []) {B : List (Int × Int)} (hB : Bst s B) (hO : OrdR B) {r : Int × Int} (hr : r ∈ allR s) {k e : Int} (hA : AnsKd s r k e) : e = 0 ∧ ((k = 0 ∧ ¬ MayK s B.length r ∧ r ∉ B) ∨ (k = 1 ∧ MayK s B.length r) ∨ (k = 2 ∧ ¬ MayK s B.length r ∧ r ∈ B)) := by
 have hv := val_of h0
 have w := pw_12 hv
 have bs := bitO_small hv r
 have q1 := bst_rk hB
 have n1 := rk_pos hv q1
 rcases hA with ⟨h1,_⟩ | ⟨_,⟨h1,_⟩ | ⟨_,⟨h1,_⟩ | ⟨_,⟨h1,_⟩ | ⟨_,he,n,c,m,d,hW,hM,hc⟩⟩⟩⟩
 · exact absurd h0 h1
 · rw [(isK_allR hr).1] at h1; cases h1
 · exact absurd hL h1
 · exact absurd h1 (isK_allR hr).2
 have hn := bst_W h0 hB hW
 subst hn
 have hs := kd_same hv q1 hB.few hB.len (r := r) hM
 refine ⟨he,?_⟩
 have hm2 : ∀ k,k < B.length - 1 → ¬ RkR s (rstK s r) (bitO s r) k (allN s) := fun k hk h => hB.few (k + 1) (by omega) (rk_put hr h)
 rcases hc with ⟨h1,h2⟩ | ⟨h1,h2,h3⟩ | ⟨h1,h2,h3⟩
 · refine .inr (.inr ⟨h2,fun h => h1 (hs.2 h.out),Classical.byContradiction fun hn => h1 (hs.2 ⟨B.map fun r => bitO s r,by simp,fun k hk => ?_,hB.all⟩)⟩)
   obtain ⟨x,hx,e⟩ := List.mem_map.1 hk
   exact ⟨x,mem_rst.2 ⟨hB.mem x hx,fun e => hn (e ▸ hx)⟩,e⟩
 · exact .inr (.inl ⟨h3,hs.1 h1,RkR_of_cw hv bs h2⟩)
 · have ni : ¬ RkR s (rstK s r) (bitO s r) (B.length - 1) (allN s) := fun h => by
    have := cw_of_RkR hv bs h hm2
    unfold cwA allN at *
    omega
   refine .inl ⟨h3,fun h => ni h.inn,fun hb => ni ?_⟩
   obtain ⟨X,Y,e⟩ := List.append_of_mem hb
   have nd : B.Pairwise fun a b => a ≠ b := hO.imp fun h e => by subst e; omega
   rw [e] at nd
   obtain ⟨_,d2,d3⟩ := List.pairwise_append.1 nd
   have d4 := (List.pairwise_cons.1 d2).1
   refine ⟨(X ++ Y).map fun r => bitO s r,by rw [e]; simp,fun k hk => ?_,?_⟩
   · obtain ⟨x,hx,e2⟩ := List.mem_map.1 hk
     refine ⟨x,mem_rst.2 ⟨hB.mem x (by rw [e]; rcases List.mem_append.1 hx with h | h <;> simp [h]),?_⟩,e2⟩
     rcases List.mem_append.1 hx with h | h
     · exact d3 x h r (.head _)
     · exact fun e => d4 x h e.symm
   · rw [← hB.all,e]
     refine Nat.eq_of_testBit_eq fun i => ?_
     rw [foldl_bit,foldl_bit]
     simp only [List.map_append,List.map_cons,List.any_append,List.any_cons,Nat.zero_testBit,Bool.false_or]
     cases (bitO s r).testBit i <;> simp
theorem one_many {s : SH} (h0 : shtE s = 0) (hL : lostL s = []) {B : List (Int × Int)} (hB : Bst s B) {v e : Int} (hA : AnsCt s v e) : (e = 4 ∨ (e = 0 ∧ 1 ≤ v)) ∧ ((∃ r ∈ allR s,MayK s B.length r) ↔ (e ≠ 0 ∨ 1 < v)) := by
 have hv := val_of h0
 rcases hA with ⟨h1,_⟩ | ⟨_,⟨h1,_⟩ | ⟨_,n,c,hW,hc⟩⟩
 · exact absurd h0 h1
 · exact absurd hL h1
 have hn := bst_W h0 hB hW
 subst hn
 have hm := may_iff hv (bst_rk hB) hB.few
 obtain ⟨p1,p2,p3⟩ := ansW_pos h0 hL hW
 have hcv : c = capM (cwA s (allR s) 0 B.length) := by
  rcases hW with ⟨_,h,_⟩ | ⟨_,_,_,_,h⟩
  · omega
  · exact h
 unfold capM at hcv
 rw [← hm]
 rcases hc with ⟨h1,h2,h3⟩ | ⟨h1,h2,h3⟩ <;> omega
def hasB (B : List (Int × Int)) (r : Int × Int) (j : Nat) : Bool := (B.take j).contains r
theorem hasB_end {B : List (Int × Int)} {r : Int × Int} : hasB B r B.length = true ↔ r ∈ B := by
 unfold hasB
 rw [List.take_length,List.contains_iff_mem]
theorem take_has {B : List (Int × Int)} {j : Nat} (hj : j < B.length) {r : Int × Int} : hasB B r (j + 1) = (hasB B r j || decide (B[j] = r)) := by
 unfold hasB
 rw [List.take_succ_eq_append_getElem hj,Bool.eq_iff_iff]
 simp only [List.contains_iff_mem,Bool.or_eq_true,decide_eq_true_eq,List.mem_append,List.mem_singleton]
 constructor
 · rintro (h | h)
   · exact .inl h
   · exact .inr h.symm
 · rintro (h | h)
   · exact .inl h
   · exact .inr h.symm
theorem may_step {L i : Nat} {P : ∀ k,k < L → Prop} (hi : i < L) {x y : Bool} (c : x = true ↔ ∃ k,∃ hk : k < L,k < i ∧ P k hk) (hy : y = true ↔ P i hi) : (x || y) = true ↔ ∃ k,∃ hk : k < L,k < i + 1 ∧ P k hk := by
 rw [Bool.or_eq_true,c,hy]
 constructor
 · rintro (⟨k,hk,h1,h2⟩ | h)
   · exact ⟨k,hk,by omega,h2⟩
   · exact ⟨i,hi,by omega,h⟩
 · rintro ⟨k,hk,h1,h2⟩
   by_cases e : k = i
   · subst e; exact .inr h2
   · exact .inl ⟨k,hk,by omega,h2⟩
set_option maxHeartbeats 8000000 in
theorem lawCounted (f g : Bool) (s : SH) : PureOK Tryz.prog n_l_CombCounted [Sn f g s] (B true) := by
 refine pure_of (walk func_l_CombCounted form_l_CombCounted res_l_CombCounted (by show 1 ≤ _; decide) ?_)
 simp -implicitDefEqProofs (disch := omega) [G_l_CombCounted,wrap_id]
 refine callW_pure (ys := [Sn f g s]) (ids := []) rfl (lk_fine_ok f g s) ?_
 cases hg : finK s with
 | false =>
   simp -implicitDefEqProofs (disch := omega) [wrap_id]
   refine callW_pure rfl lk_Works_ok ?_
   simp -implicitDefEqProofs (disch := omega) [wrap_id]
 | true =>
   have hf : grtK s = false ∧ shtE s = 0 := by
    unfold finK at hg
    simpa using hg
   obtain ⟨hz,_,_⟩ := grtK_sz hf.1
   have h0 := hf.2
   have hv := val_of h0
   have hm12 := hv.m12
   have al := allR_len hv
   obtain ⟨v,e,hA⟩ := ansCt_ex s
   simp -implicitDefEqProofs (disch := omega) [wrap_id]
   refine callW_pure (ys := [Sn f g s]) (ids := []) rfl (r_Rows_ok f g s h0) ?_
   simp -implicitDefEqProofs (disch := omega) [wrap_id]
   refine k_Best_v hz mpp2 (fun hb => ?_) (fun hb _ hL B hB0 hB hO => ?_)
   · have h19 : whE s [] = 19 ∧ e = 19 := by
      unfold whE at hb ⊢
      rw [if_neg (by omega),if_neg (by simp)] at hb ⊢
      by_cases hL : lostL s = []
      · rw [if_neg (by simp [hL])] at hb; exact absurd rfl hb
      · rw [if_pos hL]
        refine ⟨rfl,?_⟩
        rcases hA with ⟨h1,_⟩ | ⟨_,⟨_,_,h⟩ | ⟨h,_⟩⟩
        · exact absurd h0 h1
        · exact h
        · exact absurd h hL
     obtain ⟨h19,rfl⟩ := h19
     rw [h19]
     simp -implicitDefEqProofs (disch := omega) [wrap_id]
     refine callW_pure (ys := [Sn f g s]) (ids := []) rfl (k_Count_ok f g s hz hA) ?_
     simp -implicitDefEqProofs (disch := omega) [wrap_id]
     refine callW_pure rfl lk_Works_ok ?_
     simp -implicitDefEqProofs (disch := omega) [wrap_id]
   obtain ⟨ee,hmay⟩ := one_many h0 hL hB hA
   simp -implicitDefEqProofs (disch := omega) [wrap_id]
   refine callW_pure (ys := [Sn f g s]) (ids := []) rfl (k_Count_ok f g s hz hA) ?_
   simp -implicitDefEqProofs (disch := omega) [wrap_id]
   by_cases h40 : 40 < (allR s).length
   · have h40' : (40 : Int) < ((allR s).length : Int) := by omega
     simp -implicitDefEqProofs (disch := omega) [wrap_id,h40,h40']
     refine callW_pure rfl lk_Works_ok ?_
     simp -implicitDefEqProofs (disch := omega) [wrap_id]
   have h40' : ¬ (40 : Int) < ((allR s).length : Int) := by omega
   have lB := hB.len
   obtain ⟨E,hE⟩ : ∃ E : Int,E = e := ⟨_,rfl⟩
   have hcond : ∀ x : Bool,(x = true ↔ ∃ k,∃ hk : k < (allR s).length,k < (allR s).length ∧ MayK s B.length (allR s)[k]) → x = (E != 0 || decide (1 < v)) := fun x hx => by
    rw [Bool.eq_iff_iff,hx,Bool.or_eq_true,bne_iff_ne,decide_eq_true_eq,hE,← hmay]
    constructor
    · rintro ⟨k,hk,_,h⟩; exact ⟨_,List.getElem_mem hk,h⟩
    · rintro ⟨r,hr,h⟩
      obtain ⟨k,hk,rfl⟩ := List.getElem_of_mem hr
      exact ⟨k,hk,hk,h⟩
   clear hmay hA
   rcases ee with rfl | ⟨rfl,hv1⟩
   all_goals first
    | have hv1' : (v < 1) = False := by simp only [eq_iff_iff,iff_false]; omega
      simp -implicitDefEqProofs (disch := omega) [wrap_id,h40,h40',hv1']
    | simp -implicitDefEqProofs (disch := omega) [wrap_id,h40,h40']
   all_goals
    refine loop_eq (fun p : Nat × Bool => ⟨[(1,.ref 0 0),(3,Ps (allR s).isEmpty (allR s)),(4,Ps false B),(6,I v),(7,I E),(8,.v (.bool p.2)),(9,I (p.1 : Int))],[.cells [Ps f s.k,Ps g s.m]]⟩) (fun p => p.1 ≤ (allR s).length ∧ (p.2 = true ↔ ∃ k,∃ hk : k < (allR s).length,k < p.1 ∧ MayK s B.length (allR s)[k])) (fun p => (allR s).length - p.1) (0,false) ⟨Nat.zero_le _,⟨fun h => (by cases h),fun ⟨k,_,h,_⟩ => (by omega)⟩⟩ (by rw [hE]; rfl) ?_
    rintro ⟨i,x⟩ ⟨c1,c2⟩
    simp only at c1 c2
    refine hideK' fun K0 hK0 => ?_
    simp -implicitDefEqProofs (disch := omega) [wrap_id]
    refine c_split (fun hc => ?_) (fun hc => ?_)
    · have hi : i < (allR s).length := by simpa using hc
      have ix : ((i : Int) + 1) = ((i + 1 : Nat) : Int) := by omega
      have hr := List.getElem_mem hi
      obtain ⟨kd,ke,hK⟩ := ansKd_ex s (allR s)[i]
      obtain ⟨rfl,hkd⟩ := kd_val h0 hL hB hO hr hK
      simp -implicitDefEqProofs (disch := omega) [wrap_id,cells_pair,hi]
      refine ⟨flat2_len _,?_⟩
      refine pureW_of (ys := [Sn f g s,Pr (allR s)[i]]) (ids := []) rfl (k_Kind_ok f g s hz _ hK) ?_
      simp -implicitDefEqProofs (disch := omega) [wrap_id,cmp2,nthT,disj]
      refine loop_eq (fun j : Nat => ⟨[(1,.ref 0 0),(3,Ps (allR s).isEmpty (allR s)),(4,Ps false B),(6,I v),(7,I E),(8,.v (.bool x)),(9,I (i : Int)),(10,I kd),(11,I 0),(12,.v (.bool (hasB B (allR s)[i] j))),(13,I (j : Int))],[.cells [Ps f s.k,Ps g s.m]]⟩) (fun j => j ≤ B.length) (fun j => B.length - j) 0 (Nat.zero_le _) rfl ?_
      intro j j1
      refine hideK' fun K1 hK1 => ?_
      simp -implicitDefEqProofs (disch := omega) [wrap_id]
      refine c_split (fun hc => ?_) (fun hc => ?_)
      · have hj : j < B.length := by simpa using hc
        have jx : ((j : Int) + 1) = ((j + 1 : Nat) : Int) := by omega
        have e1 := take_has hj (r := (allR s)[i])
        generalize hasB B (allR s)[i] j = y at *
        cases y with
        | true =>
          simp -implicitDefEqProofs (disch := omega) [wrap_id,cmp2,nthT,disj]
          rw [hK1]
          exact next_eq (j + 1) (by omega) (by omega) (by simp only [jx,e1]; rfl)
        | false =>
          simp -implicitDefEqProofs (disch := omega) [wrap_id,cmp2,nthT,disj,cells_pair,hi,hj]
          refine ⟨flat2_len _,flat2_len _,?_⟩
          rw [bing_pair]
          simp -implicitDefEqProofs (disch := omega) [wrap_id,cmp2,nthT,disj]
          rw [hK1]
          exact next_eq (j + 1) (by omega) (by omega) (by simp only [jx,e1]; rfl)
      · have hj : j = B.length := by simp at hc; omega
        subst hj
        subst hK1
        have hh := hasB_end (B := B) (r := (allR s)[i])
        generalize hasB B (allR s)[i] B.length = y at *
        rcases hkd with ⟨rfl,hm,hb⟩ | ⟨rfl,hm⟩ | ⟨rfl,hm,hb⟩
        · obtain rfl : y = false := by rw [← Bool.not_eq_true,hh]; exact hb
          have st := may_step hi c2 (y := false) ⟨fun h => (by cases h),fun h => absurd h hm⟩
          simp -implicitDefEqProofs (disch := omega) [wrap_id,cmp2,nthT,disj]
          cases x
          all_goals
           simp -implicitDefEqProofs (disch := omega) [wrap_id,cmp2,nthT,disj]
           rw [hK0]
           exact next_eq (i + 1,_) ⟨by simp only; omega,st⟩ (by simp only; omega) (by simp only [ix])
        · have st := may_step hi c2 (y := true) ⟨fun h => hm,fun h => rfl⟩
          cases y
          all_goals
           simp -implicitDefEqProofs (disch := omega) [wrap_id,cmp2,nthT,disj]
           cases x
           all_goals
            simp -implicitDefEqProofs (disch := omega) [wrap_id,cmp2,nthT,disj]
            rw [hK0]
            exact next_eq (i + 1,_) ⟨by simp only; omega,st⟩ (by simp only; omega) (by simp only [ix])
        · obtain rfl : y = true := hh.2 hb
          have st := may_step hi c2 (y := false) ⟨fun h => (by cases h),fun h => absurd h hm⟩
          simp -implicitDefEqProofs (disch := omega) [wrap_id,cmp2,nthT,disj]
          cases x
          all_goals
           simp -implicitDefEqProofs (disch := omega) [wrap_id,cmp2,nthT,disj]
           rw [hK0]
           exact next_eq (i + 1,_) ⟨by simp only; omega,st⟩ (by simp only; omega) (by simp only [ix])
    · have hi : i = (allR s).length := by simp at hc; omega
      subst hi
      subst hK0
      obtain rfl := hcond x c2
      subst hE
      by_cases hv2 : 1 < v
      all_goals
       simp -implicitDefEqProofs (disch := omega) [wrap_id,cmp2,nthT,disj,hv2]
       first
        | rw [eqk_of (neg := false) (a := .bool true) (b := .bool true) (z := true) rfl rfl rfl]
        | rw [eqk_of (neg := false) (a := .bool false) (b := .bool false) (z := true) rfl rfl rfl]
       simp -implicitDefEqProofs (disch := omega) [wrap_id,cmp2,nthT,disj]
       refine callW_pure rfl lk_Works_ok ?_
       simp -implicitDefEqProofs (disch := omega) [wrap_id]
end Go.AM
