/-
  KxAl1: texts joined: FmCF Cb5 Cb6 Cb7 FmCL Lc1 Ld2 Tk10 Tk11 Tk12 Ld6 Ld5 Ld7. Own work.
-/
import Derived.Test.YtfpfnlnmilndmaaGreatDoorKc6
import Derived.Test.YtfpfnlnmilndmaaGreatDoorProg
set_option linter.unusedSimpArgs false
set_option linter.unusedVariables false

set_option maxRecDepth 100000
namespace Go.AM
open Go.RowKit Go.Proofs
abbrev n_r_Places : Nat := 21
def G_r_Places : AC := (.seq (.rgn [⟨none,[(.box 2 2 (.t 0)),(.mv 4 (.k (.sl true 0 []))),(.mv 5 (.k (I 0)))]⟩] [1,2]) (.seq (.seq (.rgn [⟨none,[(.ld 8 true 2 (.t 2)),(.call 9 25 [(.t 8)]),(.bin 10 .neq (.t 9) (.k (I 0)))]⟩] [1,2,10]) (.cond (.t 10) (.seq (.rgn [⟨none,[(.ld 11 true 2 (.t 2)),(.call 12 25 [(.t 11)]),(.mv 4 (.k (.sl true 0 []))),(.mv 5 (.t 12))]⟩] [4,5]) .ret) .skip)) (.seq (.seq (.rgn [⟨none,[(.ld 13 true 2 (.t 2)),(.mv 14 (.t 1)),(.call 15 61 [(.t 13),(.t 14)]),(.un 16 .not (.t 15))]⟩] [1,2,16]) (.cond (.t 16) (.seq (.rgn [⟨none,[(.mv 4 (.k (.sl true 0 []))),(.mv 5 (.k (I 2)))]⟩] [4,5]) .ret) .skip)) (.seq (.rgn [⟨none,[(.mv 6 (.k (.sl true 0 [])))]⟩] [1,2,6]) (.seq (.seq (.rgn [⟨none,[(.mv 7 (.k (I 0)))]⟩] [1,2,6,7]) (.block 0 (.loop (.seq (.seq (.rgn [⟨none,[(.mv 17 (.t 7)),(.bin 18 .leq (.t 17) (.k (I 500)))]⟩] [1,2,6,7,18]) (.cond (.t 18) .skip (.exit 0))) (.seq (.block 1 (.seq (.rgn [⟨none,[(.ld 21 true 2 (.t 2)),(.mv 22 (.t 1)),(.mv 23 (.t 7)),(.bld 24 [(I 0),(I 0)] [(0,1,(.t 22)),(1,1,(.t 23))]),(.call 25 62 [(.t 21),(.t 24)]),(.bin 26 .neq (.t 25) (.k (I 0)))]⟩] [1,2,6,7,26]) (.cond (.t 26) (.rgn [⟨none,[(.mv 27 (.t 6)),(.mv 28 (.t 7)),(.bsl 29 1 1 [(I 0)] [(0,(.t 28))]),(.app 30 1 8 (.t 27) (.t 29)),(.mv 6 (.t 30))]⟩] [1,2,6,7]) .skip))) (.rgn [⟨none,[(.mv 19 (.t 7)),(.bin 20 .add (.t 19) (.k (I 1))),(.mv 7 (.t 20))]⟩] [1,2,6,7])))))) (.seq (.rgn [⟨none,[(.mv 31 (.t 6)),(.mv 4 (.t 31)),(.mv 5 (.k (I 0)))]⟩] [4,5]) .ret))))))
theorem func_r_Places : Tryz.prog.funcs[n_r_Places]? = some Tryz.f21 := Tryz.func21
theorem form_r_Places : formOf Tryz.prog Tryz.f21 [4,5] = some G_r_Places := by kernel_rfl
theorem res_r_Places : resTmps Tryz.f21.results.toList = some [4,5] := by kernel_rfl
abbrev n_r_Rows : Nat := 35
def G_r_Rows : AC := (.seq (.rgn [⟨none,[(.box 1 2 (.t 0)),(.mv 2 (.k (.sl true 0 [])))]⟩] [1]) (.seq (.rgn [⟨none,[(.mv 3 (.k (.sl true 0 [])))]⟩] [1,3]) (.seq (.seq (.rgn [⟨none,[(.mv 4 (.k (I 0)))]⟩] [1,3,4]) (.block 0 (.loop (.seq (.seq (.rgn [⟨none,[(.mv 8 (.t 4)),(.fa 9 (.t 1) 0),(.ld 10 false 1 (.t 9)),(.len 11 (.t 10)),(.bin 12 .lss (.t 8) (.t 11))]⟩] [1,3,4,12]) (.cond (.t 12) .skip (.exit 0))) (.seq (.block 1 (.seq (.rgn [⟨none,[(.ld 16 true 2 (.t 1)),(.mv 17 (.t 4)),(.call 18 21 [(.t 16),(.t 17)]),(.mv 15 (.t 18)),(.ext 19 (.t 15) 0),(.ext 20 (.t 15) 1),(.mv 5 (.t 19)),(.mv 6 (.t 20))]⟩] [1,3,4,5]) (.seq (.rgn [⟨none,[(.mv 7 (.k (I 0)))]⟩] [1,3,4,5,7]) (.block 2 (.loop (.seq (.seq (.rgn [⟨none,[(.mv 21 (.t 7)),(.mv 22 (.t 5)),(.len 23 (.t 22)),(.bin 24 .lss (.t 21) (.t 23))]⟩] [1,3,4,5,7,24]) (.cond (.t 24) .skip (.exit 2))) (.seq (.block 3 (.rgn [⟨none,[(.mv 27 (.t 3)),(.mv 28 (.t 4)),(.mv 29 (.t 5)),(.mv 30 (.t 7)),(.ia 31 1 (.t 29) (.t 30)),(.ld 32 false 1 (.t 31)),(.bld 33 [(I 0),(I 0)] [(0,1,(.t 28)),(1,1,(.t 32))]),(.bsl 34 1 2 [(I 0),(I 0)] [(0,(.t 33))]),(.app 35 2 16 (.t 27) (.t 34)),(.mv 3 (.t 35))]⟩] [1,3,4,5,7])) (.rgn [⟨none,[(.mv 25 (.t 7)),(.bin 26 .add (.t 25) (.k (I 1))),(.mv 7 (.t 26))]⟩] [1,3,4,5,7])))))))) (.rgn [⟨none,[(.mv 13 (.t 4)),(.bin 14 .add (.t 13) (.k (I 1))),(.mv 4 (.t 14))]⟩] [1,3,4])))))) (.seq (.rgn [⟨none,[(.mv 36 (.t 3)),(.mv 2 (.t 36))]⟩] [2]) .ret))))
theorem func_r_Rows : Tryz.prog.funcs[n_r_Rows]? = some Tryz.f35 := Tryz.func35
theorem form_r_Rows : formOf Tryz.prog Tryz.f35 [2] = some G_r_Rows := by kernel_rfl
theorem res_r_Rows : resTmps Tryz.f35.results.toList = some [2] := by kernel_rfl
end Go.AM

namespace Go.AM
open Go.RowKit Go.Proofs
set_option maxHeartbeats 4000000 in
theorem r_Places_ok (f g : Bool) (s : SH) (hz : SzS s) (c : Int) : PureOK Tryz.prog n_r_Places [Sn f g s,I c] (.tup [Ls (plsL s c).isEmpty (plsL s c),I (plsE s c)]) := by
 refine pure_of (walk func_r_Places form_r_Places res_r_Places (by show 2 ≤ _; decide) ?_)
 simp -implicitDefEqProofs (disch := omega) [G_r_Places,wrap_id]
 refine callW_pure rfl (r_CheckSheet_ok f g s hz) ?_
 by_cases h0 : shtE s = 0
 · have hv := val_of h0
   rw [h0]
   simp -implicitDefEqProofs (disch := omega) [wrap_id]
   refine callW_pure rfl (r_IsComb_ok f g s c) ?_
   cases hk : isK s c with
   | false =>
     have e : plsE s c = 2 := by unfold plsE; rw [if_neg (by omega),if_pos hk]
     have e2 : plsL s c = [] := by unfold plsL; rw [if_neg (by omega)]
     rw [e,e2]
     simp -implicitDefEqProofs (disch := omega) [wrap_id]
     exact out_of (is := []) rfl
   | true =>
     have e : plsE s c = 0 := by unfold plsE; rw [if_neg (by omega),if_neg (by rw [hk]; decide)]
     have e2 : plsL s c = plcT s c 501 := by unfold plsL; rw [if_pos e]
     rw [e,e2]
     simp -implicitDefEqProofs (disch := omega) [wrap_id]
     refine loop_eq (fun q : Nat × AV × List HObj => ⟨[(1,I c),(2,.ref 0 0),(6,q.2.1),(7,I (q.1 : Int))],q.2.2⟩) (fun q => q.1 ≤ 501 ∧ AccR q.2.2 q.2.1 (plcT s c q.1) ∧ nthH q.2.2 0 = some (.cells [Ps f s.k,Ps g s.m]) ∧ rid q.2.1 ≠ some 0) (fun q => 501 - q.1) (0,.sl true 0 [],[.cells [Ps f s.k,Ps g s.m]]) ⟨Nat.zero_le _,.inl ⟨rfl,by simp [plcT]⟩,rfl,by simp [rid]⟩ rfl ?_
     rintro ⟨i,x,H⟩ ⟨d1,d2,d3,d4⟩
     simp only at d1 d2 d3 d4 ⊢
     have l0 := nthH_lt d3
     refine hideK' fun K0 hK0 => ?_
     simp -implicitDefEqProofs (disch := omega) [wrap_id]
     refine c_split (fun hc => ?_) (fun hc => ?_)
     · have hi : i < 501 := by simp at hc; omega
       have ix : ((i : Int) + 1) = ((i + 1 : Nat) : Int) := by omega
       have pl := plcT_len (s := s) (c := c) (i := i)
       simp -implicitDefEqProofs (disch := omega) [wrap_id,d3,ldr_some]
       refine callW_pure rfl (r_Bits_ok f g s hv (c,(i : Int)) hk) ?_
       by_cases hb : bitO s (c,(i : Int)) = 0
       · have e : plcT s c (i + 1) = plcT s c i := by rw [plcT_succ,if_neg (by omega)]; simp
         rw [hb]
         simp -implicitDefEqProofs (disch := omega) [wrap_id]
         rw [hK0]
         refine next_eq (i + 1,x,H) ⟨by simp only; omega,by simp only [e]; exact d2,d3,d4⟩ (by simp only; omega) (by simp only [ix])
       · have e : plcT s c (i + 1) = plcT s c i ++ [(i : Int)] := by rw [plcT_succ,if_pos hb]
         have hb2 : ((bitO s (c,(i : Int)) : Int) != 0) = true := by simp; omega
         simp -implicitDefEqProofs (disch := omega) [wrap_id,hb2]
         refine bsl_of (ys := [I (i : Int)]) rfl rfl ?_
         simp -implicitDefEqProofs (disch := omega) [wrap_id,zrep]
         refine app_row d2.row (by omega) fun ws w1 w2 w3 => ?_
         simp -implicitDefEqProofs (disch := omega) [wrap_id]
         rw [hK0]
         refine next_eq (i + 1,.ms H.length 0 ((plcT s c i).length + 1) 1,writeL H ws) ⟨by simp only; omega,.inr ⟨H.length,?_,?_,?_⟩,(w1 0 l0 (fun h => d4 h)).trans d3,?_⟩ (by simp only; omega) (by simp only [ix])
         · simp only [e]; simp
         · simp only [e]; simp
         · simp only [e]; exact w3
         · simp only [rid]; intro h; injection h with h; omega
     · have hi : i = 501 := by simp at hc; omega
       subst hi
       subst hK0
       simp -implicitDefEqProofs (disch := omega) [wrap_id]
       exact d2.tupE
 · have e : plsE s c = shtE s := by unfold plsE; rw [if_pos h0]
   have e2 : plsL s c = [] := by unfold plsL; rw [if_neg (by omega)]
   have h0' : (shtE s != 0) = true := by simp [h0]
   rw [e,e2]
   simp -implicitDefEqProofs (disch := omega) [wrap_id,h0']
   refine callW_pure rfl (r_CheckSheet_ok f g s hz) ?_
   simp -implicitDefEqProofs (disch := omega) [wrap_id]
   exact out_of (is := []) rfl
end Go.AM

namespace Go.AM
open Go.RowKit Go.Proofs
set_option maxHeartbeats 4000000 in
theorem r_Rows_ok (f g : Bool) (s : SH) (h0 : shtE s = 0) : PureOK Tryz.prog n_r_Rows [Sn f g s] (Ps (allR s).isEmpty (allR s)) := by
 have hv := val_of h0
 have hz : SzS s := ⟨by have := hv.k8; omega,by have := hv.m12; omega⟩
 have hk8 := hv.k8
 refine pure_of (walk func_r_Rows form_r_Rows res_r_Rows (by show 1 ≤ _; decide) ?_)
 simp -implicitDefEqProofs (disch := omega) [G_r_Rows,wrap_id]
 refine loop_eq (fun q : Nat × AV × List HObj => ⟨[(1,.ref 0 0),(3,q.2.1),(4,I (q.1 : Int))],q.2.2⟩) (fun q => q.1 ≤ s.k.length ∧ AccK q.2.2 q.2.1 (rwsK s q.1) ∧ nthH q.2.2 0 = some (.cells [Ps f s.k,Ps g s.m]) ∧ rid q.2.1 ≠ some 0) (fun q => s.k.length - q.1) (0,.sl true 0 [],[.cells [Ps f s.k,Ps g s.m]]) ⟨Nat.zero_le _,AccG.nil,rfl,by simp [rid]⟩ rfl ?_
 rintro ⟨i,x,H⟩ ⟨d1,d2,d3,d4⟩
 simp only at d1 d2 d3 d4 ⊢
 refine hideK' fun K0 hK0 => ?_
 simp -implicitDefEqProofs (disch := omega) [wrap_id,d3]
 refine c_split (fun hc => ?_) (fun hc => ?_)
 · have hi : i < s.k.length := by simpa using hc
   have ix : ((i : Int) + 1) = ((i + 1 : Nat) : Int) := by omega
   have hk : isK s (i : Int) = true := by unfold isK; simp; omega
   have e : plsE s (i : Int) = 0 := by unfold plsE; rw [if_neg (by omega),if_neg (by rw [hk]; decide)]
   have e2 : plsL s (i : Int) = plcT s i 501 := by unfold plsL; rw [if_pos e]
   have pl := plcT_len (s := s) (c := (i : Int)) (i := 501)
   have rl := rwsK_len (s := s) (n := i)
   simp -implicitDefEqProofs (disch := omega) [wrap_id,d3,ldr_some]
   refine callW_pure rfl (r_Places_ok f g s hz (i : Int)) ?_
   rw [e,e2]
   have hro : rowOf s i = (plcT s (i : Int) 501).map fun a => ((i : Int),a) := rfl
   generalize plcT s (i : Int) 501 = P at *
   simp -implicitDefEqProofs (disch := omega) [wrap_id]
   refine loop_eq (fun q : Nat × AV × List HObj => ⟨[(1,.ref 0 0),(3,q.2.1),(4,I (i : Int)),(5,Ls P.isEmpty P),(7,I (q.1 : Int))],q.2.2⟩) (fun q => q.1 ≤ P.length ∧ AccK q.2.2 q.2.1 (rwsK s i ++ (P.take q.1).map fun a => ((i : Int),a)) ∧ nthH q.2.2 0 = some (.cells [Ps f s.k,Ps g s.m]) ∧ rid q.2.1 ≠ some 0) (fun q => P.length - q.1) (0,x,H) ⟨Nat.zero_le _,by simpa using d2,d3,d4⟩ rfl ?_
   rintro ⟨j,y,H2⟩ ⟨f1,f2,f3,f4⟩
   simp only at f1 f2 f3 f4 ⊢
   refine hideK' fun K1 hK1 => ?_
   simp -implicitDefEqProofs (disch := omega) [wrap_id]
   refine c_split (fun hc => ?_) (fun hc => ?_)
   · have hj : j < P.length := by simpa using hc
     have jx : ((j : Int) + 1) = ((j + 1 : Nat) : Int) := by omega
     have tk : P.take (j + 1) = P.take j ++ [P[j]] := by rw [List.take_succ_eq_append_getElem hj]
     have ll : (rwsK s i ++ (P.take j).map fun a => ((i : Int),a)).length ≤ 1000000 := by
      rw [List.length_append,List.length_map,List.length_take]
      have : i * 501 ≤ 8 * 501 := Nat.mul_le_mul_right _ (by omega)
      omega
     have eQ : rwsK s i ++ (P.take (j + 1)).map (fun a => ((i : Int),a)) = (rwsK s i ++ (P.take j).map fun a => ((i : Int),a)) ++ [((i : Int),P[j])] := by
      rw [tk,List.map_append,List.append_assoc]; rfl
     generalize (rwsK s i ++ (P.take j).map fun a => ((i : Int),a)) = Q at f2 ll eQ
     simp -implicitDefEqProofs (disch := omega) [wrap_id,cells_ls,hj]
     refine bsl_of (ys := [.agg [I (i : Int),I P[j]]]) rfl rfl ?_
     simp -implicitDefEqProofs (disch := omega) [wrap_id,zrep]
     refine app_accG (ys := [I (i : Int),I P[j]]) f2 (by omega) (by decide) rfl rfl fun ws w1 w2 w3 => ?_
     simp -implicitDefEqProofs (disch := omega) [wrap_id]
     rw [hK1]
     have l0 := nthH_lt f3
     refine next_eq (j + 1,.ms H2.length 0 (Q.length + 1) 2,writeL H2 ws) ⟨by simp only; omega,?_,(w1 0 l0 f4).trans f3,?_⟩ (by simp only; omega) (by simp only [jx])
     · simp only [eQ]
       unfold AccK
       rw [flat2_appK,List.length_append]
       exact w3
     · simp only [rid]; intro e; injection e; omega
   · have hj : j = P.length := by simp at hc; omega
     subst hj
     subst hK1
     simp -implicitDefEqProofs (disch := omega) [wrap_id]
     rw [hK0]
     refine next_eq (i + 1,y,H2) ⟨by simp only; omega,?_,f3,f4⟩ (by simp only; omega) (by simp only [ix])
     simp only [rwsK_succ,hro]
     rw [List.take_length] at f2
     exact f2
 · have hi : i = s.k.length := by simp at hc; omega
   subst hi
   subst hK0
   simp -implicitDefEqProofs (disch := omega) [wrap_id]
   exact AccK.out d2
end Go.AM

namespace Go.AM
open Go.RowKit Go.Proofs
theorem allR_len {s : SH} (hv : ValS s) : (allR s).length ≤ 4008 := by
 have := rwsK_len (s := s) (n := s.k.length)
 have h : s.k.length * 501 ≤ 8 * 501 := Nat.mul_le_mul_right _ hv.k8
 unfold allR; omega
end Go.AM

set_option maxRecDepth 100000
namespace Go.AM
open Go.RowKit Go.Proofs
abbrev n_l_CombAlone : Nat := 11
def G_l_CombAlone : AC := (.seq (.rgn [⟨none,[(.box 2 2 (.t 0)),(.mv 4 (.k (B false)))]⟩] [1,2]) (.seq (.seq (.rgn [⟨none,[(.ld 15 true 2 (.t 2)),(.call 16 48 [(.t 15)]),(.un 17 .not (.t 16)),(.mv 18 (.t 17))]⟩,⟨(some (18,false)),[(.fa 19 (.t 2) 1),(.ld 20 false 1 (.t 19)),(.len 21 (.t 20)),(.bin 22 .lss (.t 21) (.k (I 2)))]⟩,⟨none,[(.pick 23 (.t 18) (.k (B true)) (.t 22))]⟩] [1,2,23]) (.cond (.t 23) (.seq (.rgn [⟨none,[(.call 24 17 []),(.mv 4 (.t 24))]⟩] [4]) .ret) .skip)) (.seq (.rgn [⟨none,[(.mv 25 (.t 1)),(.cnv 26 .i64 (.t 25)),(.fa 27 (.t 2) 1),(.ld 28 false 1 (.t 27)),(.len 29 (.t 28)),(.bin 30 .rem (.t 26) (.t 29)),(.mv 5 (.t 30))]⟩] [2,5]) (.seq (.rgn [⟨none,[(.ld 32 true 2 (.t 2)),(.call 33 53 [(.t 32)]),(.mv 31 (.t 33)),(.ext 34 (.t 31) 0),(.ext 35 (.t 31) 1),(.mv 6 (.t 34)),(.mv 7 (.t 35))]⟩] [2,5,6,7]) (.seq (.seq (.rgn [⟨none,[(.mv 36 (.t 7)),(.un 37 .not (.t 36))]⟩] [2,5,6,37]) (.cond (.t 37) (.seq (.rgn [⟨none,[(.mv 4 (.k (B false)))]⟩] [4]) .ret) .skip)) (.seq (.rgn [⟨none,[(.ld 38 true 2 (.t 2)),(.call 39 35 [(.t 38)]),(.mv 8 (.t 39))]⟩] [2,5,6,8]) (.seq (.rgn [⟨none,[(.mv 9 (.k (B false)))]⟩] [2,5,6,8,9]) (.seq (.seq (.rgn [⟨none,[(.mv 10 (.k (I 0)))]⟩] [2,5,6,8,9,10]) (.block 0 (.loop (.seq (.seq (.rgn [⟨none,[(.mv 40 (.t 10)),(.mv 41 (.t 8)),(.len 42 (.t 41)),(.bin 43 .lss (.t 40) (.t 42))]⟩] [2,5,6,8,9,10,43]) (.cond (.t 43) .skip (.exit 0))) (.seq (.block 1 (.seq (.drw [⟨none,[(.ld 47 true 2 (.t 2)),(.mv 48 (.t 8)),(.mv 49 (.t 10)),(.ia 50 2 (.t 48) (.t 49)),(.ld 51 true 2 (.t 50)),(.call 52 18 [(.t 47),(.t 51)]),(.mv 46 (.t 52)),(.ext 53 (.t 46) 0),(.ext 54 (.t 46) 1),(.mv 11 (.t 53)),(.mv 12 (.t 54))]⟩] [(0,4)] [2,5,6,8,9,10,11,12]) (.seq (.seq (.rgn [⟨none,[(.mv 55 (.t 12)),(.bin 56 .neq (.t 55) (.k (I 0)))]⟩] [2,5,6,8,9,10,11,56]) (.cond (.t 56) (.seq (.rgn [⟨none,[(.mv 4 (.k (B false)))]⟩] [4]) .ret) .skip)) (.seq (.seq (.rgn [⟨none,[(.mv 57 (.t 11)),(.mv 58 (.t 5)),(.call 59 51 [(.t 57),(.t 58)]),(.mv 60 (.t 59))]⟩,⟨(some (60,true)),[(.mv 61 (.t 11)),(.len 62 (.t 61)),(.bin 63 .gtr (.t 62) (.k (I 1)))]⟩,⟨none,[(.pick 64 (.t 60) (.t 63) (.k (B false)))]⟩] [2,5,6,8,9,10,11,64]) (.cond (.t 64) (.seq (.rgn [⟨none,[(.call 65 17 []),(.mv 4 (.t 65))]⟩] [4]) .ret) .skip)) (.rgn [⟨none,[(.mv 66 (.t 9)),(.mv 67 (.t 66))]⟩,⟨(some (67,false)),[(.mv 68 (.t 11)),(.mv 69 (.t 5)),(.call 70 51 [(.t 68),(.t 69)])]⟩,⟨none,[(.pick 71 (.t 67) (.k (B true)) (.t 70)),(.mv 9 (.t 71))]⟩] [2,5,6,8,9,10]))))) (.rgn [⟨none,[(.mv 44 (.t 10)),(.bin 45 .add (.t 44) (.k (I 1))),(.mv 10 (.t 45))]⟩] [2,5,6,8,9,10])))))) (.seq (.rgn [⟨none,[(.ld 72 true 2 (.t 2)),(.al 13 [(.sl true 0 []),(.sl true 0 [])]),(.st 2 (.t 13) (.t 72))]⟩] [2,5,6,9,13]) (.seq (.drw [⟨none,[(.bsl 73 0 2 [(I 0),(I 0)] []),(.fa 74 (.t 2) 1),(.ld 75 false 1 (.t 74)),(.mv 76 (.t 5)),(.slc 77 2 (.t 75) none (some (.t 76)) none),(.app 78 2 16 (.t 73) (.t 77)),(.fa 79 (.t 2) 1),(.ld 80 false 1 (.t 79)),(.mv 81 (.t 5)),(.bin 82 .add (.t 81) (.k (I 1))),(.slc 83 2 (.t 80) (some (.t 82)) none none),(.app 84 2 16 (.t 78) (.t 83)),(.fa 85 (.t 13) 1),(.st 1 (.t 85) (.t 84))]⟩] [(0,2),(0,7),(2,7),(5,7)] [6,9,13]) (.seq (.rgn [⟨none,[(.ld 87 true 2 (.t 13)),(.call 88 53 [(.t 87)]),(.mv 86 (.t 88)),(.ext 89 (.t 86) 0),(.ext 90 (.t 86) 1),(.mv 14 (.t 89)),(.mv 7 (.t 90))]⟩] [6,7,9,14]) (.seq (.seq (.rgn [⟨none,[(.mv 91 (.t 9)),(.un 92 .not (.t 91)),(.mv 93 (.t 92))]⟩,⟨(some (93,false)),[(.mv 94 (.t 6)),(.bin 95 .eql (.t 94) (.k (I 100)))]⟩,⟨none,[(.pick 96 (.t 93) (.k (B true)) (.t 95))]⟩] [6,7,9,14,96]) (.cond (.t 96) (.seq (.rgn [⟨none,[(.mv 97 (.t 7)),(.mv 98 (.t 97))]⟩,⟨(some (98,true)),[(.mv 99 (.t 9)),(.mv 100 (.t 99))]⟩,⟨(some (100,false)),[(.mv 101 (.t 6)),(.bin 102 .eql (.t 101) (.k (I 100)))]⟩,⟨(some (98,true)),[(.pick 103 (.t 100) (.k (B true)) (.t 102))]⟩,⟨none,[(.pick 104 (.t 98) (.t 103) (.k (B false))),(.mv 105 (.t 104))]⟩,⟨(some (105,true)),[(.call 106 17 [])]⟩,⟨none,[(.pick 107 (.t 105) (.t 106) (.k (B false))),(.mv 4 (.t 107))]⟩] [4]) .ret) .skip)) (.seq (.rgn [⟨none,[(.mv 108 (.t 7)),(.mv 109 (.t 108))]⟩,⟨(some (109,true)),[(.mv 110 (.t 14)),(.mv 111 (.t 6)),(.bin 112 .sub (.t 111) (.k (I 1))),(.bin 113 .eql (.t 110) (.t 112))]⟩,⟨none,[(.pick 114 (.t 109) (.t 113) (.k (B false))),(.mv 115 (.t 114))]⟩,⟨(some (115,true)),[(.call 116 17 [])]⟩,⟨none,[(.pick 117 (.t 115) (.t 116) (.k (B false))),(.mv 4 (.t 117))]⟩] [4]) .ret)))))))))))))
theorem func_l_CombAlone : Tryz.prog.funcs[n_l_CombAlone]? = some Tryz.f11 := Tryz.func11
theorem form_l_CombAlone : formOf Tryz.prog Tryz.f11 [4] = some G_l_CombAlone := by kernel_rfl
theorem res_l_CombAlone : resTmps Tryz.f11.results.toList = some [4] := by kernel_rfl
abbrev n_l_great : Nat := 16
def G_l_great : AC := (.seq (.rgn [⟨none,[(.box 1 2 (.t 0)),(.mv 2 (.k (B false)))]⟩] [1]) (.seq (.rgn [⟨none,[(.fa 3 (.t 1) 0),(.ld 4 false 1 (.t 3)),(.len 5 (.t 4)),(.bin 6 .gtr (.t 5) (.k (I 12))),(.mv 7 (.t 6))]⟩,⟨(some (7,false)),[(.fa 8 (.t 1) 1),(.ld 9 false 1 (.t 8)),(.len 10 (.t 9)),(.bin 11 .gtr (.t 10) (.k (I 18)))]⟩,⟨none,[(.pick 12 (.t 7) (.k (B true)) (.t 11)),(.mv 2 (.t 12))]⟩] [2]) .ret))
theorem func_l_great : Tryz.prog.funcs[n_l_great]? = some Tryz.f16 := Tryz.func16
theorem form_l_great : formOf Tryz.prog Tryz.f16 [2] = some G_l_great := by kernel_rfl
theorem res_l_great : resTmps Tryz.f16.results.toList = some [2] := by kernel_rfl
abbrev n_l_fine : Nat := 48
def G_l_fine : AC := (.seq (.rgn [⟨none,[(.box 1 2 (.t 0)),(.mv 2 (.k (B false)))]⟩] [1]) (.seq (.rgn [⟨none,[(.ld 3 true 2 (.t 1)),(.call 4 16 [(.t 3)]),(.un 5 .not (.t 4)),(.mv 6 (.t 5))]⟩,⟨(some (6,true)),[(.ld 7 true 2 (.t 1)),(.call 8 25 [(.t 7)]),(.bin 9 .eql (.t 8) (.k (I 0)))]⟩,⟨none,[(.pick 10 (.t 6) (.t 9) (.k (B false))),(.mv 2 (.t 10))]⟩] [2]) .ret))
theorem func_l_fine : Tryz.prog.funcs[n_l_fine]? = some Tryz.f48 := Tryz.func48
theorem form_l_fine : formOf Tryz.prog Tryz.f48 [2] = some G_l_fine := by kernel_rfl
theorem res_l_fine : resTmps Tryz.f48.results.toList = some [2] := by kernel_rfl
abbrev n_l_in : Nat := 51
def G_l_in : AC := (.seq (.rgn [⟨none,[(.mv 4 (.k (B false)))]⟩] [0,1]) (.seq (.seq (.rgn [⟨none,[(.mv 5 (.k (I 0)))]⟩] [0,1,5]) (.block 0 (.loop (.seq (.seq (.rgn [⟨none,[(.mv 6 (.t 5)),(.mv 7 (.t 0)),(.len 8 (.t 7)),(.bin 9 .lss (.t 6) (.t 8))]⟩] [0,1,5,9]) (.cond (.t 9) .skip (.exit 0))) (.seq (.block 1 (.seq (.rgn [⟨none,[(.mv 12 (.t 0)),(.mv 13 (.t 5)),(.ia 14 1 (.t 12) (.t 13)),(.ld 15 false 1 (.t 14)),(.mv 16 (.t 1)),(.bin 17 .eql (.t 15) (.t 16))]⟩] [0,1,5,17]) (.cond (.t 17) (.seq (.rgn [⟨none,[(.mv 4 (.k (B true)))]⟩] [4]) .ret) .skip))) (.rgn [⟨none,[(.mv 10 (.t 5)),(.bin 11 .add (.t 10) (.k (I 1))),(.mv 5 (.t 11))]⟩] [0,1,5])))))) (.seq (.rgn [⟨none,[(.mv 4 (.k (B false)))]⟩] [4]) .ret)))
theorem func_l_in : Tryz.prog.funcs[n_l_in]? = some Tryz.f51 := Tryz.func51
theorem form_l_in : formOf Tryz.prog Tryz.f51 [4] = some G_l_in := by kernel_rfl
theorem res_l_in : resTmps Tryz.f51.results.toList = some [4] := by kernel_rfl
abbrev n_l_fewest : Nat := 53
def G_l_fewest : AC := (.seq (.rgn [⟨none,[(.box 1 2 (.t 0)),(.mv 2 (.k (I 0))),(.mv 3 (.k (B false)))]⟩] [1]) (.seq (.rgn [⟨none,[(.ld 7 true 2 (.t 1)),(.call 8 29 [(.t 7)]),(.mv 6 (.t 8)),(.ext 9 (.t 6) 0),(.ext 10 (.t 6) 1),(.mv 4 (.t 9)),(.mv 5 (.t 10))]⟩] [4,5]) (.seq (.seq (.rgn [⟨none,[(.mv 11 (.t 5)),(.bin 12 .eql (.t 11) (.k (I 19)))]⟩] [4,5,12]) (.cond (.t 12) (.seq (.rgn [⟨none,[(.mv 13 (.t 4)),(.len 14 (.t 13)),(.bin 15 .eql (.t 14) (.k (I 0))),(.mv 2 (.k (I 100))),(.mv 3 (.t 15))]⟩] [2,3]) .ret) .skip)) (.seq (.rgn [⟨none,[(.mv 16 (.t 4)),(.len 17 (.t 16)),(.mv 18 (.t 5)),(.bin 19 .eql (.t 18) (.k (I 0))),(.mv 2 (.t 17)),(.mv 3 (.t 19))]⟩] [2,3]) .ret))))
theorem func_l_fewest : Tryz.prog.funcs[n_l_fewest]? = some Tryz.f53 := Tryz.func53
theorem form_l_fewest : formOf Tryz.prog Tryz.f53 [2,3] = some G_l_fewest := by kernel_rfl
theorem res_l_fewest : resTmps Tryz.f53.results.toList = some [2,3] := by kernel_rfl
end Go.AM

namespace Go.AM
open Go.RowKit Go.Proofs
set_option maxHeartbeats 1000000 in
theorem lk_in_ok (f : Bool) (l : List Int) (n : Int) (hl : l.length ≤ 1000000) : PureOK Tryz.prog n_l_in [Ls f l,I n] (B (l.contains n)) := by
 refine pure_of (walk func_l_in form_l_in res_l_in (by show 2 ≤ _; decide) ?_)
 generalize hE : l.contains n = E
 simp -implicitDefEqProofs (disch := omega) [G_l_in,wrap_id]
 refine loop_eq (fun i : Nat => ⟨[(0,Ls f l),(1,I n),(5,I (i : Int))],[]⟩) (fun i => i ≤ l.length ∧ ∀ k (hk : k < l.length),k < i → l[k] ≠ n) (fun i => l.length - i) 0 ⟨Nat.zero_le _,fun k hk h => by omega⟩ rfl ?_
 rintro i ⟨c1,c2⟩
 refine hideK' fun K0 hK0 => ?_
 simp -implicitDefEqProofs (disch := omega) [wrap_id]
 refine c_split (fun h => ?_) (fun h => ?_)
 · have hi : i < l.length := by simp at h; omega
   have ix : ((i : Int) + 1) = ((i + 1 : Nat) : Int) := by omega
   by_cases e : l[i] = n
   · have : l.contains n = true := by
      rw [List.contains_iff_mem,← e]; exact List.getElem_mem hi
     rw [this] at hE
     subst hE
     subst hK0
     simp -implicitDefEqProofs (disch := omega) [wrap_id,cells_ls,hi,e]
   · have e' : (l[i] == n) = false := by simpa using e
     simp -implicitDefEqProofs (disch := omega) [wrap_id,cells_ls,hi,e']
     rw [hK0]
     refine next_eq (i + 1) ⟨by omega,fun k hk h2 => ?_⟩ (by omega) (by simp only [ix])
     by_cases ek : k = i
     · subst ek; exact e
     · exact c2 k hk (by omega)
 · have hi : i = l.length := by simp at h; omega
   have : l.contains n = false := by
    rw [Bool.eq_false_iff]
    intro hc
    rw [List.contains_iff_mem] at hc
    obtain ⟨k,hk,e⟩ := List.getElem_of_mem hc
    exact c2 k hk (by omega) e
   rw [this] at hE
   subst hE
   subst hK0
   simp -implicitDefEqProofs (disch := omega) [wrap_id]
def grtK (s : SH) : Bool := decide (12 < s.k.length) || decide (18 < s.m.length)
theorem grtK_sz {s : SH} (h : grtK s = false) : SzS s ∧ s.k.length ≤ 12 ∧ s.m.length ≤ 18 := by
 unfold grtK at h
 simp only [Bool.or_eq_false_iff,decide_eq_false_iff_not] at h
 exact ⟨⟨by omega,by omega⟩,by omega,by omega⟩
theorem lk_great_ok (f g : Bool) (s : SH) : PureOK Tryz.prog n_l_great [Sn f g s] (B (grtK s)) := by
 refine pure_of (walk func_l_great form_l_great res_l_great (by show 1 ≤ _; decide) ?_)
 simp -implicitDefEqProofs (disch := omega) [G_l_great,wrap_id]
 unfold grtK
 have e1 : decide ((12 : Int) < (s.k.length : Int)) = decide (12 < s.k.length) := by rw [decide_eq_decide]; omega
 have e2 : decide ((18 : Int) < (s.m.length : Int)) = decide (18 < s.m.length) := by rw [decide_eq_decide]; omega
 cases h : decide (12 < s.k.length) with
 | true =>
   rw [h] at e1
   simp -implicitDefEqProofs (disch := omega) [wrap_id,e1]
 | false =>
   rw [h] at e1
   simp -implicitDefEqProofs (disch := omega) [wrap_id,e1,e2]
def finK (s : SH) : Bool := !grtK s && decide (shtE s = 0)
theorem lk_fine_ok (f g : Bool) (s : SH) : PureOK Tryz.prog n_l_fine [Sn f g s] (B (finK s)) := by
 refine pure_of (walk func_l_fine form_l_fine res_l_fine (by show 1 ≤ _; decide) ?_)
 simp -implicitDefEqProofs (disch := omega) [G_l_fine,wrap_id]
 refine callW_pure rfl (lk_great_ok f g s) ?_
 unfold finK
 cases hg : grtK s with
 | true => simp -implicitDefEqProofs (disch := omega) [wrap_id]
 | false =>
   obtain ⟨hz,_⟩ := grtK_sz hg
   simp -implicitDefEqProofs (disch := omega) [wrap_id]
   refine callW_pure rfl (r_CheckSheet_ok f g s hz) ?_
   by_cases h : shtE s = 0
   · rw [h]
     simp -implicitDefEqProofs (disch := omega) [wrap_id]
   · have h' : (shtE s == 0) = false := by rw [beq_eq_false_iff_ne]; exact h
     simp -implicitDefEqProofs (disch := omega) [wrap_id,h',h]
end Go.AM

namespace Go.AM
open Go.RowKit Go.Proofs
theorem mpp2 {c : List AV} : NoMpp [HObj.cells c] := mpp_list rfl
end Go.AM

namespace Go.AM
open Go.RowKit Go.Proofs
theorem has_val {s : SH} (h0 : shtE s = 0) {r : Int × Int} (hk : isK s r.1 = true) : (hasE s r = 0 ∧ bitO s r ≠ 0 ∧ hasL s r = bitL (bitO s r)) ∨ (hasE s r = 19 ∧ bitO s r = 0) := by
 have e : hasE s r = if bitO s r = 0 then 19 else 0 := by
  unfold hasE
  rw [if_neg (by omega),if_neg (by rw [hk]; decide)]
 by_cases hb : bitO s r = 0
 · rw [if_pos hb] at e
   exact .inr ⟨e,hb⟩
 · rw [if_neg hb] at e
   exact .inl ⟨e,hb,by unfold hasL; rw [if_pos e]⟩
theorem allB_bit {s : SH} {R : List (Int × Int)} {k : Nat} : (allB s R).testBit k = true ↔ ∃ r ∈ R,(bitO s r).testBit k = true := by
 rw [← foldl_or_le,foldl_bit,Nat.zero_testBit,Bool.false_or,List.any_eq_true]
 constructor
 · rintro ⟨x,hx,h⟩
   obtain ⟨r,hr,rfl⟩ := List.mem_map.1 hx
   exact ⟨r,hr,h⟩
 · rintro ⟨r,hr,h⟩
   exact ⟨_,List.mem_map.2 ⟨r,hr,rfl⟩,h⟩
theorem bit_4096 {s : SH} (hv : ValS s) {r : Int × Int} : bitO s r < 4096 := Nat.lt_of_lt_of_le (bitO_small hv r) (Nat.le_trans (Nat.pow_le_pow_right (by decide) hv.m12) (by decide))
theorem allB_lt {s : SH} (hv : ValS s) {R : List (Int × Int)} : allB s R < 2 ^ s.m.length := orT_small hv
theorem rest_bit {n x k : Nat} (hx : x < 2 ^ n) : (pwN n - 1 - x).testBit k = (decide (k < n) && !x.testBit k) := by
 unfold pwN
 rw [show 2 ^ n - 1 - x = 2 ^ n - (x + 1) from by omega,Nat.testBit_two_pow_sub_succ hx]
theorem lost_mem {s : SH} (hv : ValS s) {k : Nat} : (k : Int) ∈ lostL s ↔ k < s.m.length ∧ ¬ ∃ r ∈ allR s,(bitO s r).testBit k = true := by
 have w := pw_12 hv
 have hx := allB_lt hv (R := allR s)
 unfold lostL
 rw [bitL_mem (by have := w; omega),rest_bit hx,Bool.and_eq_true,decide_eq_true_eq,Bool.not_eq_true',← allB_bit]
 rw [Bool.not_eq_true]
theorem lost_all {s : SH} {x : Int} (hv : ValS s) (h : x ∈ lostL s) : ∃ k : Nat,x = k ∧ k < s.m.length := by
 have h2 := h
 unfold lostL bitL at h
 obtain ⟨k,rfl,_,_⟩ := bitT_mem.1 h
 exact ⟨k,rfl,((lost_mem hv).1 h2).1⟩
structure HadK (s : SH) (c i : Nat) (l : List Int) (o : Nat) : Prop where
 bit : ∀ t,o.testBit t = true ↔ (∃ r ∈ rwsK s c,(bitO s r).testBit t = true) ∨ (∃ r ∈ (rowOf s c).take i,(bitO s r).testBit t = true) ∨ (t : Int) ∈ l
theorem HadK.zero {s : SH} : HadK s 0 0 [] 0 := ⟨fun t => by
 rw [Nat.zero_testBit]
 constructor
 · intro h; cases h
 · rintro (⟨r,h,_⟩ | ⟨r,h,_⟩ | h)
   · cases h
   · cases h
   · cases h⟩
theorem HadK.row {s : SH} (hv : ValS s) {c i o : Nat} (hi : i < (rowOf s c).length) (h : HadK s c i (bitL (bitO s (rowOf s c)[i])) o) : HadK s c (i + 1) [] o := ⟨fun t => by
 rw [h.bit,List.take_succ_eq_append_getElem hi,bitL_mem (bit_4096 hv)]
 constructor
 · rintro (h | ⟨r,hr,hb⟩ | h)
   · exact .inl h
   · exact .inr (.inl ⟨r,List.mem_append.2 (.inl hr),hb⟩)
   · exact .inr (.inl ⟨_,List.mem_append.2 (.inr (.head _)),h⟩)
 · rintro (h | ⟨r,hr,hb⟩ | h)
   · exact .inl h
   · rcases List.mem_append.1 hr with hr | hr
     · exact .inr (.inl ⟨r,hr,hb⟩)
     · rw [List.mem_singleton] at hr; rw [hr] at hb; exact .inr (.inr hb)
   · cases h⟩
theorem HadK.mark {s : SH} {c i o k : Nat} {l : List Int} (h : HadK s c i l o) : HadK s c i (l ++ [(k : Int)]) (orN o (pwN k)) := ⟨fun t => by
 rw [orN_bit,pwN_bit,Bool.or_eq_true,h.bit,List.mem_append,List.mem_singleton,decide_eq_true_eq]
 constructor
 · rintro ((h | h | h) | h)
   · exact .inl h
   · exact .inr (.inl h)
   · exact .inr (.inr (.inl h))
   · exact .inr (.inr (.inr (by omega)))
 · rintro (h | h | h | h)
   · exact .inl (.inl h)
   · exact .inl (.inr (.inl h))
   · exact .inl (.inr (.inr h))
   · exact .inr (by omega)⟩
theorem HadK.end {s : SH} {o : Nat} (h : HadK s s.k.length 0 [] o) : o = allB s (allR s) := Nat.eq_of_testBit_eq fun t => by
 rw [Bool.eq_iff_iff,h.bit,allB_bit]
 constructor
 · rintro (h | ⟨r,hr,_⟩ | h)
   · exact h
   · cases hr
   · cases h
 · exact fun h => .inl h
theorem HadK.lt {s : SH} (hv : ValS s) {c i o : Nat} {l : List Int} (hl : ∀ x ∈ l,∀ k : Nat,x = k → k < s.m.length) (h : HadK s c i l o) : o < 4096 := by
 have hm := hv.m12
 refine Nat.lt_of_lt_of_le (m := 2 ^ s.m.length) (Nat.lt_pow_two_of_testBit _ fun t ht => ?_) (Nat.le_trans (Nat.pow_le_pow_right (by decide) hm) (by decide))
 have nb : ∀ r,(bitO s r).testBit t = false := fun r => Nat.testBit_lt_two_pow (Nat.lt_of_lt_of_le (bitO_small hv r) (Nat.pow_le_pow_right (by decide) ht))
 rw [← Bool.not_eq_true,h.bit]
 rintro (⟨r,_,h⟩ | ⟨r,_,h⟩ | h)
 · rw [nb] at h; cases h
 · rw [nb] at h; cases h
 · have := hl _ h t rfl; omega
end Go.AM

namespace Go.AM
open Go.RowKit Go.Proofs
def nTe (s : SH) (r : Int × Int) : Nat := (s.k.getD r.1.toNat (0,0)).2.toNat
def tooth (s : SH) (r : Int × Int) (j : Nat) : Int := r.2 + (j : Int) * (s.k.getD r.1.toNat (0,0)).1
def inM (s : SH) (i : Nat) (a : Int) : Prop := ∃ h : i < s.m.length,inP a s.m[i] = true
theorem inK_iff {s : SH} (hv : ValS s) {a : Int} {i : Nat} : inK s.m a = i ↔ inM s i a := by
 constructor
 · intro h
   have hm : ¬ ∀ k (hk : k < s.m.length),inP a s.m[k] = false := fun hn => by
    unfold inK at h
    rw [idxI_none hn] at h
    omega
   have : ∃ k,∃ hk : k < s.m.length,inP a s.m[k] = true := Classical.byContradiction fun hc => hm fun k hk => by
    cases e : inP a s.m[k] with
    | false => rfl
    | true => exact absurd ⟨k,hk,e⟩ hc
   obtain ⟨k,hk,e⟩ := this
   have := inK_at hv hk e
   obtain rfl : k = i := by omega
   exact ⟨hk,e⟩
 · rintro ⟨hi,e⟩
   exact inK_at hv hi e
theorem inK_neg {s : SH} (hv : ValS s) {a : Int} : 0 ≤ inK s.m a ↔ ∃ i,inM s i a := by
 constructor
 · intro h
   exact ⟨(inK s.m a).toNat,(inK_iff hv).1 (by omega)⟩
 · rintro ⟨i,h⟩
   have := (inK_iff hv).2 h
   omega
theorem rowB_some {m : List (Int × Int)} {sp a : Int} : ∀ {t o : Nat},rowB m sp a t = some o → (∀ j,j < t → 0 ≤ inK m (a + (j : Int) * sp)) ∧ ∀ i,o.testBit i = true ↔ ∃ j,j < t ∧ inK m (a + (j : Int) * sp) = (i : Int)
 | 0,o,h => by
   unfold rowB at h
   injection h with h
   subst h
   refine ⟨fun j hj => by omega,fun i => ?_⟩
   rw [Nat.zero_testBit]
   exact ⟨fun h => (by cases h),fun ⟨j,hj,_⟩ => by omega⟩
 | t + 1, o, h => by
   unfold rowB at h
   cases e : rowB m sp a t with
   | none => rw [e] at h; cases h
   | some q =>
     rw [e] at h
     simp only at h
     obtain ⟨h1,h2⟩ := rowB_some e
     split at h
     · cases h
     · rename_i hn
       injection h with h
       subst h
       refine ⟨fun j hj => ?_,fun i => ?_⟩
       · by_cases e : j = t
         · subst e; omega
         · exact h1 j (by omega)
       · rw [orN_bit,pwN_bit,Bool.or_eq_true,h2,decide_eq_true_eq]
         constructor
         · rintro (⟨j,hj,h⟩ | h)
           · exact ⟨j,by omega,h⟩
           · exact ⟨t,by omega,by omega⟩
         · rintro ⟨j,hj,h⟩
           by_cases e : j = t
           · subst e; exact .inr (by omega)
           · exact .inl ⟨j,by omega,h⟩
theorem rowB_no {m : List (Int × Int)} {sp a : Int} : ∀ {t : Nat},rowB m sp a t = none → ∃ j,j < t ∧ inK m (a + (j : Int) * sp) < 0
 | 0,h => by unfold rowB at h; cases h
 | t + 1, h => by
   unfold rowB at h
   cases e : rowB m sp a t with
   | none =>
     obtain ⟨j,hj,h⟩ := rowB_no e
     exact ⟨j,by omega,h⟩
   | some q =>
     rw [e] at h
     simp only at h
     split at h
     · rename_i hn; exact ⟨t,by omega,hn⟩
     · cases h
theorem kc_get {s : SH} (hv : ValS s) {n : Int} (hk : isK s n = true) : 1 ≤ (s.k.getD n.toNat (0,0)).1 ∧ (s.k.getD n.toNat (0,0)).1 ≤ 50 ∧ 2 ≤ (s.k.getD n.toNat (0,0)).2 ∧ (s.k.getD n.toNat (0,0)).2 ≤ 20 := by
 unfold isK at hk
 simp only [Bool.and_eq_true,decide_eq_true_eq] at hk
 have hi : n.toNat < s.k.length := by omega
 rw [getD_at hi]
 exact hv.kc _ (List.getElem_mem hi)
theorem inM_rng {s : SH} (hv : ValS s) {i : Nat} {a : Int} (h : inM s i a) : 0 ≤ a ∧ a ≤ 500 := by
 obtain ⟨hi,h⟩ := h
 have := hv.at hi
 unfold inP at h
 simp only [Bool.and_eq_true,decide_eq_true_eq] at h
 omega
theorem bits_iff {s : SH} (hv : ValS s) {r : Int × Int} (hk : isK s r.1 = true) {i : Nat} : (bitO s r).testBit i = true ↔ (∀ j,j < nTe s r → ∃ q,inM s q (tooth s r j)) ∧ ∃ j,j < nTe s r ∧ inM s i (tooth s r j) := by
 have kc := kc_get hv hk
 have t2 : 2 ≤ nTe s r := by unfold nTe; omega
 have t0 : tooth s r 0 = r.2 := by unfold tooth; simp
 unfold bitO
 by_cases hr : r.2 < 0 ∨ 500 < r.2
 · rw [if_pos hr,Nat.zero_testBit]
   constructor
   · intro h; cases h
   · rintro ⟨h,_⟩
     obtain ⟨q,hq⟩ := h 0 (by omega)
     have := inM_rng hv hq
     omega
 · rw [if_neg hr]
   show ((rowB s.m (s.k.getD r.1.toNat (0,0)).1 r.2 (nTe s r)).getD 0).testBit i = true ↔ _
   cases e : rowB s.m (s.k.getD r.1.toNat (0,0)).1 r.2 (nTe s r) with
   | none =>
     rw [Option.getD_none,Nat.zero_testBit]
     obtain ⟨j,hj,hn⟩ := rowB_no e
     constructor
     · intro h; cases h
     · rintro ⟨h,_⟩
       have := (inK_neg hv).2 (h j hj)
       unfold tooth at this
       omega
   | some o =>
     obtain ⟨h1,h2⟩ := rowB_some e
     rw [Option.getD_some,h2]
     constructor
     · rintro ⟨j,hj,h⟩
       exact ⟨fun j hj => (inK_neg hv).1 (h1 j hj),j,hj,(inK_iff hv).1 h⟩
     · rintro ⟨_,j,hj,h⟩
       exact ⟨j,hj,(inK_iff hv).2 h⟩
theorem bit_mark {s : SH} (hv : ValS s) {r : Int × Int} {i : Nat} (h : (bitO s r).testBit i = true) : i < s.m.length := Classical.byContradiction fun hk => by
 have := Nat.testBit_lt_two_pow (Nat.lt_of_lt_of_le (bitO_small hv r) (Nat.pow_le_pow_right (by decide) (show s.m.length ≤ i by omega)))
 rw [this] at h
 cases h
theorem sht_val {s : SH} (hv : ValS s) : shtE s = 0 := by
 unfold shtE
 have := hv.k1; have := hv.k8; have := hv.m1; have := hv.m12
 rw [if_neg (by omega),if_neg]
 · refine mrkE_good fun k hk => ?_
   have h1 := hv.at hk
   unfold mkB
   rw [getD_at hk]
   simp only [Bool.or_eq_false_iff,Bool.and_eq_false_iff,decide_eq_false_iff_not]
   refine ⟨⟨⟨⟨by omega,by omega⟩,by omega⟩,by omega⟩,?_⟩
   by_cases h0 : 0 < k
   · right
     have := hv.nx (k - 1) k (by omega) hk (by omega)
     rw [getD_at (by omega)]
     omega
   · exact .inl h0
 · rw [Bool.not_eq_false,List.all_eq_true]
   intro p hp
   have := hv.kc p hp
   unfold cmbO
   simp only [Bool.and_eq_true,decide_eq_true_eq]
   omega
def FewV (s : SH) (v : Nat) : Prop := (lostL s ≠ [] ∧ v = 100) ∨ (lostL s = [] ∧ v ≤ s.m.length ∧ RkR s (allR s) 0 v (allN s) ∧ ∀ k,k < v → ¬ RkR s (allR s) 0 k (allN s))
theorem rk_lost {s : SH} (hv : ValS s) {n : Nat} (h : RkR s (allR s) 0 n (allN s)) : lostL s = [] := by
 refine Classical.byContradiction fun hne => ?_
 cases e : lostL s with
 | nil => exact hne e
 | cons x l =>
   have hx : x ∈ lostL s := by rw [e]; exact .head _
   obtain ⟨k,rfl,hk⟩ := lost_all hv hx
   refine ((lost_mem hv).1 hx).2 ?_
   obtain ⟨ks,_,h2,h3⟩ := h
   have : (allN s).testBit k = true := by unfold allN pwN; rw [Nat.testBit_two_pow_sub_one,decide_eq_true hk]
   rw [← h3,foldl_bit,Nat.zero_testBit,Bool.false_or,List.any_eq_true] at this
   obtain ⟨y,hy,hb⟩ := this
   obtain ⟨r,hr,rfl⟩ := h2 y hy
   exact ⟨r,hr,hb⟩
theorem rk_of_cover {s : SH} (hv : ValS s) {R : List (Int × Int)} (h : ∀ k,k < s.m.length → ∃ r ∈ R,(bitO s r).testBit k = true) : RkR s R 0 R.length (allN s) := by
 refine ⟨R.map fun r => bitO s r,by simp,fun k hk => by obtain ⟨r,hr,e⟩ := List.mem_map.1 hk; exact ⟨r,hr,e⟩,Nat.eq_of_testBit_eq fun i => ?_⟩
 rw [foldl_bit,Nat.zero_testBit,Bool.false_or]
 unfold allN pwN
 rw [Nat.testBit_two_pow_sub_one,Bool.eq_iff_iff,List.any_eq_true,decide_eq_true_eq]
 constructor
 · rintro ⟨x,hx,hb⟩
   obtain ⟨r,hr,rfl⟩ := List.mem_map.1 hx
   exact bit_mark hv hb
 · intro hi
   obtain ⟨r,hr,hb⟩ := h i hi
   exact ⟨_,List.mem_map.2 ⟨r,hr,rfl⟩,hb⟩
theorem few_ex {s : SH} (hv : ValS s) : ∃ v,FewV s v := by
 by_cases hL : lostL s = []
 · have h1 : RkR s (allR s) 0 (allR s).length (allN s) := rk_of_cover hv fun k hk => Classical.byContradiction fun hn => by
    have : (k : Int) ∈ lostL s := (lost_mem hv).2 ⟨hk,hn⟩
    rw [hL] at this
    cases this
   obtain ⟨n,h2,h3⟩ := leastR (P := fun n => RkR s (allR s) 0 n (allN s)) ⟨_,h1⟩
   refine ⟨n,.inr ⟨hL,?_,h2,fun k hk h => by have := h3 k h; omega⟩⟩
   have w := pw_12 hv
   obtain ⟨m,a1,a2,a3⟩ := RkR.short (t := allN s) (by unfold allN pwN at *; omega) h2
   rw [cnt_all hv] at a2
   have := h3 m a3
   omega
 · exact ⟨100,.inl ⟨hL,rfl⟩⟩
theorem few_bst {s : SH} {v : Nat} (h : FewV s v) (hL : lostL s = []) {B : List (Int × Int)} (hB : Bst s B) : B.length = v := by
 rcases h with ⟨h,_⟩ | ⟨_,_,h1,h2⟩
 · exact absurd hL h
 · have a := h2 B.length
   have b := hB.few v
   have c := bst_rk hB
   refine Classical.byContradiction fun hne => ?_
   rcases Nat.lt_or_gt_of_ne hne with h | h
   · exact a h c
   · exact b h h1
theorem few_100 {s : SH} (hv : ValS s) {v : Nat} (h : FewV s v) : v = 100 ↔ lostL s ≠ [] := by
 have := hv.m12
 rcases h with ⟨h,e⟩ | ⟨h,e,_⟩
 · exact ⟨fun _ => h,fun _ => e⟩
 · exact ⟨fun e2 => by omega,fun e2 => absurd h e2⟩
end Go.AM

namespace Go.AM
open Go.RowKit Go.Proofs
abbrev delS (s : SH) (k : Nat) : SH := ⟨s.k,s.m.take k ++ s.m.drop (k + 1)⟩
def upM (k i : Nat) : Nat := if i < k then i else i + 1
theorem delK_eq {s : SH} {k : Nat} : (delS s k).m = s.m.eraseIdx k := (List.eraseIdx_eq_take_drop_succ _ _).symm
theorem delK_len {s : SH} {k : Nat} (hk : k < s.m.length) : (delS s k).m.length = s.m.length - 1 := by rw [delK_eq,List.length_eraseIdx_of_lt hk]
theorem delK_at {s : SH} {k i : Nat} (hk : k < s.m.length) (hi : i < (delS s k).m.length) (hu : upM k i < s.m.length) : (delS s k).m[i] = s.m[upM k i] := by
 have hi' : i < (s.m.eraseIdx k).length := by rw [← delK_eq]; exact hi
 have e : (delS s k).m[i] = (s.m.eraseIdx k)[i] := by congr 1; exact delK_eq
 rw [e,List.getElem_eraseIdx]
 unfold upM
 split
 · rename_i h; simp only [h,if_true]
 · rename_i h; simp only [h,if_false]
theorem upK_lt {s : SH} {k i : Nat} (hk : k < s.m.length) : upM k i < s.m.length ↔ i < (delS s k).m.length := by
 rw [delK_len hk]
 unfold upM
 split <;> omega
theorem inM_del {s : SH} {k i : Nat} {a : Int} (hk : k < s.m.length) : inM (delS s k) i a ↔ inM s (upM k i) a := by
 constructor
 · rintro ⟨hi,h⟩
   have hu := (upK_lt hk).2 hi
   exact ⟨hu,by rw [← delK_at hk hi hu]; exact h⟩
 · rintro ⟨hu,h⟩
   have hi := (upK_lt hk).1 hu
   exact ⟨hi,by rw [delK_at hk hi hu]; exact h⟩
theorem val_del {s : SH} (hv : ValS s) {k : Nat} (hk : k < s.m.length) (h2 : 2 ≤ s.m.length) : ValS (delS s k) := by
 have l := delK_len hk
 have := hv.m12
 refine ⟨hv.k1,hv.k8,by omega,by omega,hv.kc,fun p hp => ?_,fun i j hi hj hij => ?_⟩
 · rw [delK_eq] at hp
   exact hv.mc p (List.mem_of_mem_eraseIdx hp)
 · rw [delK_at hk hi ((upK_lt hk).2 hi),delK_at hk hj ((upK_lt hk).2 hj)]
   exact hv.nx _ _ _ _ (by unfold upM; split <;> split <;> omega)
theorem inM_uni {s : SH} (hv : ValS s) {i j : Nat} {a : Int} (h1 : inM s i a) (h2 : inM s j a) : i = j := by
 obtain ⟨hi,h1⟩ := h1
 obtain ⟨hj,h2⟩ := h2
 exact inP_uni hv hi hj h1 h2
theorem upK_ne {k i : Nat} : upM k i ≠ k := by unfold upM; split <;> omega
theorem upK_ex {k q : Nat} (h : q ≠ k) : ∃ i,upM k i = q := by
 unfold upM
 by_cases e : q < k
 · exact ⟨q,by rw [if_pos e]⟩
 · exact ⟨q - 1,by rw [if_neg (by omega)]; omega⟩
theorem delK_bits {s : SH} (hv : ValS s) {k : Nat} (hk : k < s.m.length) (h2 : 2 ≤ s.m.length) {r : Int × Int} (hr : isK s r.1 = true) {i : Nat} : (bitO (delS s k) r).testBit i = true ↔ ¬ (bitO s r).testBit k = true ∧ (bitO s r).testBit (upM k i) = true := by
 rw [bits_iff (val_del hv hk h2) (s := delS s k) hr,bits_iff hv hr,bits_iff hv hr]
 have et : ∀ j,tooth (delS s k) r j = tooth s r j := fun j => rfl
 have en : nTe (delS s k) r = nTe s r := rfl
 rw [en]
 simp only [et,inM_del hk]
 constructor
 · rintro ⟨h1,j,hj,h3⟩
   refine ⟨fun ⟨_,j',hj',h4⟩ => ?_,fun j hj => ?_,j,hj,h3⟩
   · obtain ⟨q,hq⟩ := h1 j' hj'
     exact upK_ne (inM_uni hv hq h4)
   · obtain ⟨q,hq⟩ := h1 j hj
     exact ⟨_,hq⟩
 · rintro ⟨h1,h3,h4⟩
   refine ⟨fun j hj => ?_,h4⟩
   obtain ⟨q,hq⟩ := h3 j hj
   obtain ⟨i',e⟩ := upK_ex (k := k) (q := q) (fun e => h1 ⟨h3,j,hj,e ▸ hq⟩)
   exact ⟨i',by rw [e]; exact hq⟩
theorem delK_row {s : SH} (hv : ValS s) {k : Nat} (hk : k < s.m.length) (h2 : 2 ≤ s.m.length) {r : Int × Int} : r ∈ allR (delS s k) ↔ r ∈ allR s ∧ ¬ (bitO s r).testBit k = true := by
 constructor
 · intro h
   obtain ⟨a,b⟩ := isK_allR h
   have a : isK s r.1 = true := a
   obtain ⟨i,hi⟩ := ne_zero.1 b
   obtain ⟨h1,h3⟩ := (delK_bits hv hk h2 a).1 hi
   exact ⟨mem_allR a (ne_zero.2 ⟨_,h3⟩),h1⟩
 · rintro ⟨h,h1⟩
   obtain ⟨a,b⟩ := isK_allR h
   obtain ⟨q,hq⟩ := ne_zero.1 b
   obtain ⟨i,e⟩ := upK_ex (k := k) (q := q) (fun e => h1 (e ▸ hq))
   exact mem_allR (s := delS s k) a (ne_zero.2 ⟨i,(delK_bits hv hk h2 a).2 ⟨h1,by rw [e]; exact hq⟩⟩)
theorem pick_rows {s : SH} {R : List (Int × Int)} : ∀ {ks : List Nat},(∀ k ∈ ks,∃ r ∈ R,bitO s r = k) → ∃ Q : List (Int × Int),(∀ r ∈ Q,r ∈ R) ∧ (Q.map fun r => bitO s r) = ks
 | [],_ => ⟨[],fun _ h => (by cases h),rfl⟩
 | k :: ks,h => by
   obtain ⟨Q,a,b⟩ := pick_rows (ks := ks) fun k hk => h k (.tail _ hk)
   obtain ⟨r,hr,e⟩ := h k (.head _)
   refine ⟨r :: Q,fun x hx => ?_,by rw [List.map_cons,e,b]⟩
   rcases List.mem_cons.1 hx with rfl | hx
   · exact hr
   · exact a x hx
theorem rk_has {s : SH} {R : List (Int × Int)} {n : Nat} (h : RkR s R 0 n (allN s)) : ∃ Q : List (Int × Int),Q.length = n ∧ (∀ r ∈ Q,r ∈ R) ∧ ∀ i,i < s.m.length → ∃ r ∈ Q,(bitO s r).testBit i = true := by
 obtain ⟨ks,h1,h2,h3⟩ := h
 obtain ⟨Q,a,b⟩ := pick_rows h2
 refine ⟨Q,by rw [← h1,← b,List.length_map],a,fun i hi => ?_⟩
 have : (allN s).testBit i = true := by unfold allN pwN; rw [Nat.testBit_two_pow_sub_one,decide_eq_true hi]
 rw [← h3,foldl_bit,Nat.zero_testBit,Bool.false_or,List.any_eq_true] at this
 obtain ⟨y,hy,hb⟩ := this
 rw [← b] at hy
 obtain ⟨r,hr,rfl⟩ := List.mem_map.1 hy
 exact ⟨r,hr,hb⟩
theorem RkR.of_cover {s : SH} (hv : ValS s) {Q : List (Int × Int)} (h1 : ∀ r ∈ Q,r ∈ allR s) (h : ∀ i,i < s.m.length → ∃ r ∈ Q,(bitO s r).testBit i = true) : RkR s (allR s) 0 Q.length (allN s) :=
 (rk_of_cover hv h).sub fun r hr => ⟨r,h1 r hr,rfl⟩
structure AloneK (s : SH) (k : Nat) : Prop where
 only : ∀ r ∈ allR s,(bitO s r).testBit k = true → ∀ i,(bitO s r).testBit i = true → i = k
 some : ∃ r ∈ allR s,(bitO s r).testBit k = true
theorem few_del {s : SH} (hv : ValS s) {k : Nat} (hk : k < s.m.length) (h2 : 2 ≤ s.m.length) (ha : AloneK s k) {v w : Nat} (hL : lostL s = []) (h1 : FewV s v) (hw : FewV (delS s k) w) : v = w + 1 := by
 have hx := val_del hv hk h2
 rcases h1 with ⟨h,_⟩ | ⟨_,a2,a3,a4⟩
 · exact absurd hL h
 have key : ∃ m,m + 1 ≤ v ∧ RkR (delS s k) (allR (delS s k)) 0 m (allN (delS s k)) := by
  obtain ⟨Q,q1,q2,q3⟩ := rk_has a3
  refine ⟨(Q.filter fun r => !(bitO s r).testBit k).length,?_,RkR.of_cover hx (fun r hr => ?_) fun i hi => ?_⟩
  · obtain ⟨r,hr,hb⟩ := q3 k hk
    have h1 : (Q.filter fun r => !(bitO s r).testBit k).length < Q.length := by
     refine Nat.lt_of_le_of_ne (List.length_filter_le _ _) fun e => ?_
     have := (List.length_filter_eq_length_iff.1 e) r hr
     rw [hb] at this
     cases this
    omega
  · obtain ⟨b1,b2⟩ := List.mem_filter.1 hr
    exact (delK_row hv hk h2).2 ⟨q2 r b1,by intro h; rw [h] at b2; cases b2⟩
  · obtain ⟨r,hr,hb⟩ := q3 (upM k i) ((upK_lt hk).2 hi)
    have hn : ¬ (bitO s r).testBit k = true := fun h => upK_ne (ha.only r (q2 r hr) h _ hb)
    refine ⟨r,List.mem_filter.2 ⟨hr,by rw [Bool.not_eq_true] at hn; rw [hn]; rfl⟩,(delK_bits hv hk h2 (isK_allR (q2 r hr)).1).2 ⟨hn,hb⟩⟩
 obtain ⟨m,m1,m2⟩ := key
 rcases hw with ⟨h,_⟩ | ⟨_,_,b3,b4⟩
 · exact absurd (rk_lost hx m2) h
 have le1 : w ≤ m := Classical.byContradiction fun h => b4 m (by omega) m2
 have le2 : v ≤ w + 1 := by
  obtain ⟨Q,q1,q2,q3⟩ := rk_has b3
  obtain ⟨r0,hr0,hb0⟩ := ha.some
  have : RkR s (allR s) 0 (r0 :: Q).length (allN s) := RkR.of_cover hv (fun r hr => by
   rcases List.mem_cons.1 hr with rfl | hr
   · exact hr0
   · exact ((delK_row hv hk h2).1 (q2 r hr)).1) fun i hi => by
   by_cases e : i = k
   · subst e; exact ⟨r0,.head _,hb0⟩
   · obtain ⟨i',rfl⟩ := upK_ex e
     obtain ⟨r,hr,hb⟩ := q3 i' ((upK_lt hk).1 hi)
     exact ⟨r,.tail _ hr,((delK_bits hv hk h2 (isK_allR ((delK_row hv hk h2).1 (q2 r hr)).1).1).1 hb).2⟩
  refine Classical.byContradiction fun h => a4 _ ?_ this
  rw [List.length_cons,q1]
  omega
 omega
end Go.AM

namespace Go.AM
open Go.RowKit Go.Proofs
theorem wh_19 {s : SH} (h0 : shtE s = 0) (hb : whE s [] ≠ 0) : whE s [] = 19 ∧ lostL s ≠ [] := by
 unfold whE at hb ⊢
 rw [if_neg (by omega),if_neg (by simp)] at hb ⊢
 by_cases hL : lostL s = []
 · rw [if_neg (by simp [hL])] at hb; exact absurd rfl hb
 · rw [if_pos hL]; exact ⟨rfl,hL⟩
set_option maxHeartbeats 8000000 in
theorem lk_fewest_ok (f g : Bool) (s : SH) (hz : SzS s) (h0 : shtE s = 0) {v : Nat} (hF : FewV s v) : PureOK Tryz.prog n_l_fewest [Sn f g s] (.tup [I (v : Int),B true]) := by
 have hv := val_of h0
 refine pure_of (walk func_l_fewest form_l_fewest res_l_fewest (by show 1 ≤ _; decide) ?_)
 simp -implicitDefEqProofs (disch := omega) [G_l_fewest,wrap_id]
 refine k_Best_v hz mpp2 (fun hb => ?_) (fun hb _ hL B hB0 hB hO => ?_)
 · obtain ⟨h19,hL⟩ := wh_19 h0 hb
   obtain rfl := (few_100 hv hF).2 hL
   rw [h19]
   simp -implicitDefEqProofs (disch := omega) [wrap_id]
   exact out_of (is := []) rfl
 · obtain rfl := few_bst hF hL hB
   simp -implicitDefEqProofs (disch := omega) [wrap_id]
   exact out_of (is := []) rfl
theorem getElem_eqL {L : List (Int × Int)} {P : List Int} {c : Int} {i : Nat} (h : L = P.map fun a => (c,a)) (h1 : i < L.length) (h2 : i < P.length) : L[i] = (c,P[i]) := by
 subst h
 exact List.getElem_map ..
theorem HadK.rowP {s : SH} (hv : ValS s) {c i o : Nat} {P : List Int} (hP : rowOf s c = P.map fun a => ((c : Int),a)) (hi : i < P.length) (h : HadK s c i (bitL (bitO s ((c : Int),P[i]'hi))) o) : HadK s c (i + 1) [] o := by
 have hi' : i < (rowOf s c).length := by rw [hP,List.length_map]; exact hi
 refine HadK.row hv hi' ?_
 rw [getElem_eqL hP hi' hi]
 exact h
theorem fin_val {s : SH} (hg : finK s = true) : shtE s = 0 ∧ SzS s ∧ ValS s := by
 have hf : grtK s = false ∧ shtE s = 0 := by
  unfold finK at hg
  simpa using hg
 exact ⟨hf.2,(grtK_sz hf.1).1,val_of hf.2⟩
end Go.AM

namespace Go.AM
open Go.RowKit Go.Proofs
theorem may_step {L i : Nat} {P : ∀ k,k < L → Prop} (hi : i < L) {x y : Bool} (c : x = true ↔ ∃ k,∃ hk : k < L,k < i ∧ P k hk) (hy : y = true ↔ P i hi) : (x || y) = true ↔ ∃ k,∃ hk : k < L,k < i + 1 ∧ P k hk := by
 rw [Bool.or_eq_true,c,hy]
 constructor
 · rintro (⟨k,hk,h1,h2⟩ | h)
   · exact ⟨k,hk,by omega,h2⟩
   · exact ⟨i,hi,by omega,h⟩
 · rintro ⟨k,hk,h1,h2⟩
   by_cases e : k = i
   · subst e; exact .inr h2
   · exact .inl ⟨k,hk,by omega,h2⟩
end Go.AM

namespace Go.AM
open Go.RowKit Go.Proofs
theorem view_flat2 {c : List (Int × Int)} : view (flat2 c) 0 (c.length * 2) = flat2 c := by
 have fl := flat2_len c
 simp only [view,List.drop_zero]
 exact List.take_of_length_le (by omega)
theorem purL_m {hp : List HObj} {id n : Nat} {c m : List (Int × Int)} {g : Bool} (h : nthH hp id = some (.cells (flat2 c))) (hn : n = c.length) : purifyL (hpf hp) [Ps g m,.ms id 0 n 2] = some ([Ps g m,Ps false c],[id]) := by
 have fl := flat2_len c
 subst hn
 simp only [purifyL,purify1,purify0,hpf_nthH,h]
 rw [if_pos ⟨by omega,pcL_pure (flat2_pc c)⟩,view_flat2]
 rfl
theorem flat2_cut {m : List (Int × Int)} {k : Nat} (hk : k ≤ m.length) : (flat2 m).take (k * 2) = flat2 (m.take k) ∧ (flat2 m).drop (k * 2) = flat2 (m.drop k) := by
 have e : flat2 m = flat2 (m.take k) ++ flat2 (m.drop k) := by rw [← flat2_appK,List.take_append_drop]
 have l : (flat2 (m.take k)).length = k * 2 := by rw [flat2_len,List.length_take,Nat.min_eq_left hk]
 rw [e,List.take_left' l,List.drop_left' l]
 exact ⟨rfl,rfl⟩
theorem flat2_del {s : SH} {k : Nat} (hk : k < s.m.length) : List.take (k * 2) (List.take (k * 2) (flat2 s.m)) ++ List.take ((s.m.length - (k + 1)) * 2) (List.drop ((k + 1) * 2) (flat2 s.m)) = flat2 (delS s k).m := by
 rw [List.take_take,Nat.min_self,(flat2_cut (Nat.le_of_lt hk)).1,(flat2_cut (show k + 1 ≤ s.m.length by omega)).2,List.take_of_length_le (l := flat2 (s.m.drop (k + 1))) (by rw [flat2_len,List.length_drop]; omega),flat2_appK]
set_option maxHeartbeats 16000000 in
theorem lawAlone (f g : Bool) (s : SH) {b : Int} (hb : 0 ≤ b ∧ b ≤ 255) : PureOK Tryz.prog n_l_CombAlone [Sn f g s, .v (.int .u8 b)] (B true) := by
 refine pure_of (walk func_l_CombAlone form_l_CombAlone res_l_CombAlone (by show 2 ≤ _; decide) ?_)
 simp -implicitDefEqProofs (disch := omega) [G_l_CombAlone,wrap_id]
 refine callW_pure (ys := [Sn f g s]) (ids := []) rfl (lk_fine_ok f g s) ?_
 cases hg : finK s with
 | false =>
   simp -implicitDefEqProofs (disch := omega) [wrap_id]
   refine callW_pure rfl lk_Works_ok ?_
   simp -implicitDefEqProofs (disch := omega) [wrap_id]
 | true =>
   obtain ⟨h0,hz,hv⟩ := fin_val hg
   have hm12 := hv.m12
   have hk8 := hv.k8
   have hm1 := hv.m1
   by_cases h2 : s.m.length < 2
   · have h2' : ((s.m.length : Int) < 2) = True := by simp only [eq_iff_iff,iff_true]; omega
     simp -implicitDefEqProofs (disch := omega) [wrap_id,h2,h2']
     refine callW_pure rfl lk_Works_ok ?_
     simp -implicitDefEqProofs (disch := omega) [wrap_id]
   have h2' : ((s.m.length : Int) < 2) = False := by simp only [eq_iff_iff,iff_false]; omega
   obtain ⟨b',rfl⟩ : ∃ b' : Nat,b = (b' : Int) := ⟨b.toNat,by omega⟩
   have tm : ((b' : Int)).tmod (s.m.length : Int) = ((b' % s.m.length : Nat) : Int) := by rw [Int.tmod_eq_emod_of_nonneg (by omega)]; omega
   have hk : b' % s.m.length < s.m.length := Nat.mod_lt _ (by omega)
   have mz : ((s.m.length : Int) == 0) = false := by rw [beq_eq_false_iff_ne]; omega
   have lmz : s.m ≠ [] := by intro h; rw [h] at hm1; simp at hm1
   generalize b' % s.m.length = k at *
   obtain ⟨v,hF⟩ := few_ex hv
   have v100 := few_100 hv hF
   have al := allR_len hv
   simp -implicitDefEqProofs (disch := omega) [wrap_id,h2,h2',tm,mz,lmz]
   refine callW_pure (ys := [Sn f g s]) (ids := []) rfl (lk_fewest_ok f g s hz h0 hF) ?_
   simp -implicitDefEqProofs (disch := omega) [wrap_id]
   refine callW_pure (ys := [Sn f g s]) (ids := []) rfl (r_Rows_ok f g s h0) ?_
   simp -implicitDefEqProofs (disch := omega) [wrap_id]
   refine loop_eq (fun p : Nat × Bool => ⟨[(2,.ref 0 0),(5,I (k : Int)),(6,I (v : Int)),(8,Ps (allR s).isEmpty (allR s)),(9,.v (.bool p.2)),(10,I (p.1 : Int))],[.cells [Ps f s.k,Ps g s.m]]⟩) (fun p => p.1 ≤ (allR s).length ∧ (∀ j (hj : j < (allR s).length),j < p.1 → (bitO s (allR s)[j]).testBit k = true → ∀ t,(bitO s (allR s)[j]).testBit t = true → t = k) ∧ (p.2 = true ↔ ∃ j,∃ hj : j < (allR s).length,j < p.1 ∧ (bitO s (allR s)[j]).testBit k = true)) (fun p => (allR s).length - p.1) (0,false) ⟨Nat.zero_le _,fun j _ h => absurd h (Nat.not_lt_zero _),⟨fun h => (by cases h),fun ⟨j,_,h,_⟩ => absurd h (Nat.not_lt_zero _)⟩⟩ rfl ?_
   rintro ⟨i,x⟩ ⟨c1,c2,c3⟩
   simp only at c1 c2 c3
   refine hideK' fun K0 hK0 => ?_
   simp -implicitDefEqProofs (disch := omega) [wrap_id]
   refine c_split (fun hc => ?_) (fun hc => ?_)
   · have hi : i < (allR s).length := by simpa using hc
     have ix : ((i : Int) + 1) = ((i + 1 : Nat) : Int) := by omega
     obtain ⟨rk,rb⟩ := isK_allR (List.getElem_mem hi)
     have cH := k_Has_ok f g s hz (allR s)[i]
     have hh : hasE s (allR s)[i] = 0 ∧ hasL s (allR s)[i] = bitL (bitO s (allR s)[i]) := by
      rcases has_val h0 (r := (allR s)[i]) rk with ⟨a1,a2,a3⟩ | ⟨a1,a2⟩
      · exact ⟨a1,a3⟩
      · exact absurd a2 rb
     rw [hh.1,hh.2] at cH
     have b12 := bit_4096 hv (r := (allR s)[i])
     have two := cnt_two b12
     have hy : (bitL (bitO s (allR s)[i])).contains (k : Int) = (bitO s (allR s)[i]).testBit k := by rw [Bool.eq_iff_iff,List.contains_iff_mem,bitL_mem b12]
     have ml := bitL_len (n := bitO s (allR s)[i])
     have st := may_step hi c3 (y := (bitO s (allR s)[i]).testBit k) Iff.rfl
     have only : ((bitO s (allR s)[i]).testBit k = true → ¬ 1 < (bitL (bitO s (allR s)[i])).length) → ∀ j (hj : j < (allR s).length),j < i + 1 → (bitO s (allR s)[j]).testBit k = true → ∀ t,(bitO s (allR s)[j]).testBit t = true → t = k := fun ho j hj hlt hb t ht => by
      by_cases e : j = i
      · subst e
        refine Classical.byContradiction fun hne => ho hb (two.2 ⟨t,k,hne,ht,hb⟩)
      · exact c2 j hj (by omega) hb t ht
     have cI := lk_in_ok (bitL (bitO s (allR s)[i])).isEmpty (bitL (bitO s (allR s)[i])) (k : Int) (by omega)
     rw [hy] at cI
     generalize bitL (bitO s (allR s)[i]) = M at *
     simp -implicitDefEqProofs (disch := omega) [wrap_id,cells_pair,hi]
     refine ⟨flat2_len _,?_⟩
     refine pureW_of (ys := [Sn f g s,Pr (allR s)[i]]) (ids := []) rfl cH ?_
     simp -implicitDefEqProofs (disch := omega) [wrap_id,cmp2,nthT,disj]
     refine callW_pure rfl cI ?_
     generalize (bitO s (allR s)[i]).testBit k = y at *
     cases y with
     | true =>
       by_cases hM : 1 < M.length
       · have hM' : ((1 : Int) < (M.length : Int)) = True := by simp only [eq_iff_iff,iff_true]; omega
         simp -implicitDefEqProofs (disch := omega) [wrap_id,hM,hM']
         refine callW_pure rfl lk_Works_ok ?_
         simp -implicitDefEqProofs (disch := omega) [wrap_id]
         subst hK0
         simp -implicitDefEqProofs (disch := omega) [wrap_id]
       · have hM' : ((1 : Int) < (M.length : Int)) = False := by simp only [eq_iff_iff,iff_false]; omega
         have only := only (fun _ => hM)
         simp -implicitDefEqProofs (disch := omega) [wrap_id,hM,hM']
         cases x with
         | true =>
           simp -implicitDefEqProofs (disch := omega) [wrap_id]
           rw [hK0]
           exact next_eq (i + 1,true) ⟨by simp only; omega,only,st⟩ (by simp only; omega) (by simp only [ix])
         | false =>
           simp -implicitDefEqProofs (disch := omega) [wrap_id]
           refine callW_pure rfl cI ?_
           simp -implicitDefEqProofs (disch := omega) [wrap_id]
           rw [hK0]
           exact next_eq (i + 1,true) ⟨by simp only; omega,only,st⟩ (by simp only; omega) (by simp only [ix])
     | false =>
       have only := only (fun h => by cases h)
       simp -implicitDefEqProofs (disch := omega) [wrap_id]
       cases x with
       | true =>
         simp -implicitDefEqProofs (disch := omega) [wrap_id]
         rw [hK0]
         exact next_eq (i + 1,true) ⟨by simp only; omega,only,st⟩ (by simp only; omega) (by simp only [ix])
       | false =>
         simp -implicitDefEqProofs (disch := omega) [wrap_id]
         refine callW_pure rfl cI ?_
         simp -implicitDefEqProofs (disch := omega) [wrap_id]
         rw [hK0]
         exact next_eq (i + 1,false) ⟨by simp only; omega,only,st⟩ (by simp only; omega) (by simp only [ix])
   · have hi : i = (allR s).length := by simp at hc; omega
     subst hi
     subst hK0
     simp -implicitDefEqProofs (disch := omega) [wrap_id]
     refine bsl_of (sz := 2) (ys := []) (by rfl) (by rfl) ?_
     simp -implicitDefEqProofs (disch := omega) [wrap_id,zrep]
     rw [flat2_del hk]
     have fl := flat2_len s.m
     have pc : ∀ x ∈ flat2 s.m,AV.isPC x = true := fun x hx => List.all_eq_true.1 (flat2_pc _) x hx
     have dl := delK_len hk
     have xv := val_del hv hk (by omega)
     have x0 := sht_val xv
     have xz : SzS (delS s k) := ⟨hz.k,by rw [dl]; have := hz.m; omega⟩
     obtain ⟨u,hG⟩ := few_ex xv
     refine ⟨⟨by omega,fl⟩,⟨by omega,fun x hx => pc x (List.mem_of_mem_take hx),by omega,by omega⟩,⟨by omega,by omega,fl⟩,⟨by omega,fun x hx => pc x (List.mem_of_mem_drop (List.mem_of_mem_take hx)),by omega,by omega,by omega⟩,?_⟩
     refine callW_pure (ys := [Sn f false (delS s k)]) (ids := [3]) ?_ (lk_fewest_ok f false (delS s k) xz x0 hG) ?_
     · have := purL_m (hp := [.cells [Ps f s.k,Ps g s.m],.cells [Ps f s.k,.ms 3 0 (k + (s.m.length - (k + 1))) 2],.gone,.cells (flat2 (delS s k).m)]) (id := 3) (n := k + (s.m.length - (k + 1))) (c := (delS s k).m) (m := s.k) (g := f) rfl (by rw [dl]; omega)
       simp only [purifyAll,purify,this]
       rfl
     · simp -implicitDefEqProofs (disch := omega) [wrap_id]
       cases x with
       | false =>
         have hno : ¬ ∃ r ∈ allR s,(bitO s r).testBit k = true := by
          rintro ⟨r,hr,hb⟩
          obtain ⟨j,hj,rfl⟩ := List.getElem_of_mem hr
          have := c3.2 ⟨j,hj,hj,hb⟩
          cases this
         obtain rfl : v = 100 := v100.2 (fun hL => by
          have := (lost_mem hv).2 ⟨hk,hno⟩
          rw [hL] at this
          cases this)
         simp -implicitDefEqProofs (disch := omega) [wrap_id]
         refine callW_pure rfl lk_Works_ok ?_
         simp -implicitDefEqProofs (disch := omega) [wrap_id]
       | true =>
         by_cases hv1 : v = 100
         · subst hv1
           simp -implicitDefEqProofs (disch := omega) [wrap_id]
           refine callW_pure rfl lk_Works_ok ?_
           simp -implicitDefEqProofs (disch := omega) [wrap_id]
         · have hL : lostL s = [] := Classical.byContradiction fun h => hv1 (v100.2 h)
           obtain ⟨j,hj,_,hb⟩ := c3.1 rfl
           have ha : AloneK s k := ⟨fun r hr hb t ht => by
            obtain ⟨j,hj,rfl⟩ := List.getElem_of_mem hr
            exact c2 j hj hj hb t ht,_,List.getElem_mem hj,hb⟩
           have hvu := few_del hv hk (by omega) ha hL hF hG
           have hv1' : ((v : Int) == 100) = false := by rw [beq_eq_false_iff_ne]; omega
           have hv2 : ((u : Int) == (v : Int) - 1) = true := by rw [beq_iff_eq]; omega
           have h12 : v ≤ 13 := by
            rcases hF with ⟨h,_⟩ | ⟨_,h,_⟩
            · exact absurd hL h
            · omega
           simp -implicitDefEqProofs (disch := omega) [wrap_id,hv1',hv2]
           refine callW_pure rfl lk_Works_ok ?_
           simp -implicitDefEqProofs (disch := omega) [wrap_id]
end Go.AM
