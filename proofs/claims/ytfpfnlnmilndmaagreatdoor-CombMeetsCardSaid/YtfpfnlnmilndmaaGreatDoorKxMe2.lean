/-
  KxMe2: texts joined: FmCF Cb10 Cb11 Cb12 Cb15 FmCL Lc2 Ld1. Own work.
-/
import Derived.Test.YtfpfnlnmilndmaaGreatDoorKxMe1
import Derived.Test.YtfpfnlnmilndmaaGreatDoorProg
set_option linter.unusedSimpArgs false
set_option linter.unusedVariables false

set_option maxRecDepth 100000
namespace Go.AM
open Go.RowKit Go.Proofs
abbrev n_r_Meet : Nat := 44
def G_r_Meet : AC := (.seq (.rgn [⟨none,[(.mv 8 (.k (I 0))),(.mv 9 (.k (I 0))),(.mv 10 (.k (I 0)))]⟩] [0,1,2,3]) (.seq (.seq (.rgn [⟨none,[(.mv 14 (.t 0)),(.bin 15 .lss (.t 14) (.k (I 1))),(.mv 16 (.t 15))]⟩,⟨(some (16,false)),[(.mv 17 (.t 0)),(.bin 18 .gtr (.t 17) (.k (I 50)))]⟩,⟨none,[(.pick 19 (.t 16) (.k (B true)) (.t 18)),(.mv 20 (.t 19))]⟩,⟨(some (20,false)),[(.mv 21 (.t 1)),(.bin 22 .lss (.t 21) (.k (I 1)))]⟩,⟨none,[(.pick 23 (.t 20) (.k (B true)) (.t 22)),(.mv 24 (.t 23))]⟩,⟨(some (24,false)),[(.mv 25 (.t 1)),(.bin 26 .gtr (.t 25) (.k (I 50)))]⟩,⟨none,[(.pick 27 (.t 24) (.k (B true)) (.t 26)),(.mv 28 (.t 27))]⟩,⟨(some (28,false)),[(.mv 29 (.t 2)),(.bin 30 .lss (.t 29) (.k (I 0)))]⟩,⟨none,[(.pick 31 (.t 28) (.k (B true)) (.t 30)),(.mv 32 (.t 31))]⟩,⟨(some (32,false)),[(.mv 33 (.t 2)),(.bin 34 .gtr (.t 33) (.k (I 500)))]⟩,⟨none,[(.pick 35 (.t 32) (.k (B true)) (.t 34)),(.mv 36 (.t 35))]⟩,⟨(some (36,false)),[(.mv 37 (.t 3)),(.bin 38 .lss (.t 37) (.k (I 0)))]⟩,⟨none,[(.pick 39 (.t 36) (.k (B true)) (.t 38)),(.mv 40 (.t 39))]⟩,⟨(some (40,false)),[(.mv 41 (.t 3)),(.bin 42 .gtr (.t 41) (.k (I 500)))]⟩,⟨none,[(.pick 43 (.t 40) (.k (B true)) (.t 42))]⟩] [0,1,2,3,43]) (.cond (.t 43) (.seq (.rgn [⟨none,[(.mv 8 (.k (I 0))),(.mv 9 (.k (I 0))),(.mv 10 (.k (I 2)))]⟩] [8,9,10]) .ret) .skip)) (.seq (.rgn [⟨none,[(.mv 44 (.t 0)),(.mv 45 (.t 0)),(.mv 46 (.t 1)),(.call 47 55 [(.t 45),(.t 46)]),(.bin 48 .quo (.t 44) (.t 47)),(.mv 49 (.t 1)),(.bin 50 .mul (.t 48) (.t 49)),(.mv 11 (.t 50))]⟩] [0,1,2,3,11]) (.seq (.rgn [⟨none,[(.mv 51 (.t 2)),(.mv 52 (.t 3)),(.mx 53 true (.t 51) (.t 52)),(.mv 12 (.t 53))]⟩] [0,1,2,3,11,12]) (.seq (.seq (.rgn [⟨none,[(.mv 54 (.t 12)),(.mv 13 (.t 54))]⟩] [0,1,2,3,11,12,13]) (.block 0 (.loop (.seq (.seq (.rgn [⟨none,[(.mv 55 (.t 13)),(.mv 56 (.t 12)),(.mv 57 (.t 11)),(.bin 58 .add (.t 56) (.t 57)),(.bin 59 .lss (.t 55) (.t 58))]⟩] [0,1,2,3,11,12,13,59]) (.cond (.t 59) .skip (.exit 0))) (.seq (.block 1 (.seq (.rgn [⟨none,[(.mv 62 (.t 13)),(.mv 63 (.t 2)),(.bin 64 .sub (.t 62) (.t 63)),(.mv 65 (.t 0)),(.bin 66 .rem (.t 64) (.t 65)),(.bin 67 .eql (.t 66) (.k (I 0))),(.mv 68 (.t 67))]⟩,⟨(some (68,true)),[(.mv 69 (.t 13)),(.mv 70 (.t 3)),(.bin 71 .sub (.t 69) (.t 70)),(.mv 72 (.t 1)),(.bin 73 .rem (.t 71) (.t 72)),(.bin 74 .eql (.t 73) (.k (I 0)))]⟩,⟨none,[(.pick 75 (.t 68) (.t 74) (.k (B false)))]⟩] [0,1,2,3,11,12,13,75]) (.cond (.t 75) (.seq (.rgn [⟨none,[(.mv 76 (.t 13)),(.mv 77 (.t 11)),(.mv 8 (.t 76)),(.mv 9 (.t 77)),(.mv 10 (.k (I 0)))]⟩] [8,9,10]) .ret) .skip))) (.rgn [⟨none,[(.mv 60 (.t 13)),(.bin 61 .add (.t 60) (.k (I 1))),(.mv 13 (.t 61))]⟩] [0,1,2,3,11,12,13])))))) (.seq (.rgn [⟨none,[(.mv 8 (.k (I 0))),(.mv 9 (.k (I 0))),(.mv 10 (.k (I 5)))]⟩] [8,9,10]) .ret))))))
theorem func_r_Meet : Tryz.prog.funcs[n_r_Meet]? = some Tryz.f44 := Tryz.func44
theorem form_r_Meet : formOf Tryz.prog Tryz.f44 [8,9,10] = some G_r_Meet := by kernel_rfl
theorem res_r_Meet : resTmps Tryz.f44.results.toList = some [8,9,10] := by kernel_rfl
abbrev n_r_Spaces : Nat := 46
def G_r_Spaces : AC := (.seq (.rgn [⟨none,[(.mv 2 (.k (.sl true 0 []))),(.mv 3 (.k (I 0)))]⟩] [0]) (.seq (.seq (.rgn [⟨none,[(.mv 8 (.t 0)),(.len 9 (.t 8)),(.bin 10 .lss (.t 9) (.k (I 2))),(.mv 11 (.t 10))]⟩,⟨(some (11,false)),[(.mv 12 (.t 0)),(.len 13 (.t 12)),(.bin 14 .gtr (.t 13) (.k (I 12)))]⟩,⟨none,[(.pick 15 (.t 11) (.k (B true)) (.t 14))]⟩] [0,15]) (.cond (.t 15) (.seq (.rgn [⟨none,[(.mv 2 (.k (.sl true 0 []))),(.mv 3 (.k (I 6)))]⟩] [2,3]) .ret) .skip)) (.seq (.seq (.rgn [⟨none,[(.mv 16 (.t 0)),(.call 17 71 [(.t 16)]),(.bin 18 .neq (.t 17) (.k (I 0)))]⟩] [0,18]) (.cond (.t 18) (.seq (.rgn [⟨none,[(.mv 2 (.k (.sl true 0 []))),(.mv 3 (.k (I 3)))]⟩] [2,3]) .ret) .skip)) (.seq (.rgn [⟨none,[(.mv 4 (.k (.sl true 0 [])))]⟩] [0,4]) (.seq (.seq (.rgn [⟨none,[(.mv 5 (.k (I 1)))]⟩] [0,4,5]) (.block 0 (.loop (.seq (.seq (.rgn [⟨none,[(.mv 19 (.t 5)),(.bin 20 .leq (.t 19) (.k (I 50)))]⟩] [0,4,5,20]) (.cond (.t 20) .skip (.exit 0))) (.seq (.block 1 (.seq (.rgn [⟨none,[(.mv 23 (.t 0)),(.ia 24 2 (.t 23) (.k (I 0))),(.ld 25 true 2 (.t 24)),(.al 6 [(I 0),(I 0)]),(.st 2 (.t 6) (.t 25))]⟩] [0,4,5,6]) (.seq (.seq (.rgn [⟨none,[(.mv 7 (.k (I 0)))]⟩] [0,4,5,6,7]) (.block 2 (.loop (.seq (.seq (.rgn [⟨none,[(.mv 26 (.t 7)),(.mv 27 (.t 0)),(.len 28 (.t 27)),(.bin 29 .lss (.t 26) (.t 28))]⟩] [0,4,5,6,7,29]) (.cond (.t 29) .skip (.exit 2))) (.seq (.block 3 (.seq (.drw [⟨none,[(.fa 32 (.t 6) 0),(.ld 33 false 1 (.t 32)),(.mv 34 (.t 0)),(.mv 35 (.t 7)),(.ia 36 2 (.t 34) (.t 35)),(.fa 37 (.t 36) 0),(.ld 38 false 1 (.t 37)),(.mv 39 (.t 7)),(.mv 40 (.t 5)),(.bin 41 .mul (.t 39) (.t 40)),(.bin 42 .sub (.t 38) (.t 41)),(.mx 43 true (.t 33) (.t 42)),(.fa 44 (.t 6) 0),(.st 1 (.t 44) (.t 43))]⟩] [(1,6)] [0,4,5,6,7]) (.drw [⟨none,[(.fa 45 (.t 6) 1),(.ld 46 false 1 (.t 45)),(.mv 47 (.t 0)),(.mv 48 (.t 7)),(.ia 49 2 (.t 47) (.t 48)),(.fa 50 (.t 49) 1),(.ld 51 false 1 (.t 50)),(.mv 52 (.t 7)),(.mv 53 (.t 5)),(.bin 54 .mul (.t 52) (.t 53)),(.bin 55 .sub (.t 51) (.t 54)),(.mx 56 false (.t 46) (.t 55)),(.fa 57 (.t 6) 1),(.st 1 (.t 57) (.t 56))]⟩] [(1,6)] [0,4,5,6,7]))) (.rgn [⟨none,[(.mv 30 (.t 7)),(.bin 31 .add (.t 30) (.k (I 1))),(.mv 7 (.t 31))]⟩] [0,4,5,6,7])))))) (.seq (.rgn [⟨none,[(.fa 58 (.t 6) 0),(.ld 59 false 1 (.t 58)),(.fa 60 (.t 6) 1),(.ld 61 false 1 (.t 60)),(.bin 62 .leq (.t 59) (.t 61))]⟩] [0,4,5,6,62]) (.cond (.t 62) (.rgn [⟨none,[(.mv 63 (.t 4)),(.mv 64 (.t 5)),(.ld 65 true 2 (.t 6)),(.bld 66 [(I 0),(I 0),(I 0)] [(0,1,(.t 64)),(1,2,(.t 65))]),(.bsl 67 1 3 [(I 0),(I 0),(I 0)] [(0,(.t 66))]),(.app 68 3 24 (.t 63) (.t 67)),(.mv 4 (.t 68))]⟩] [0,4,5]) .skip))))) (.rgn [⟨none,[(.mv 21 (.t 5)),(.bin 22 .add (.t 21) (.k (I 1))),(.mv 5 (.t 22))]⟩] [0,4,5])))))) (.seq (.rgn [⟨none,[(.mv 69 (.t 4)),(.mv 2 (.t 69)),(.mv 3 (.k (I 0)))]⟩] [2,3]) .ret))))))
theorem func_r_Spaces : Tryz.prog.funcs[n_r_Spaces]? = some Tryz.f46 := Tryz.func46
theorem form_r_Spaces : formOf Tryz.prog Tryz.f46 [2,3] = some G_r_Spaces := by kernel_rfl
theorem res_r_Spaces : resTmps Tryz.f46.results.toList = some [2,3] := by kernel_rfl
abbrev n_r_Greatest : Nat := 55
def G_r_Greatest : AC := (.seq (.rgn [⟨none,[(.mv 4 (.k (I 0)))]⟩] [0,1]) (.seq (.block 0 (.loop (.seq (.seq (.rgn [⟨none,[(.mv 5 (.t 1)),(.bin 6 .neq (.t 5) (.k (I 0)))]⟩] [0,1,6]) (.cond (.t 6) .skip (.exit 0))) (.block 1 (.drw [⟨none,[(.mv 7 (.t 1)),(.mv 8 (.t 0)),(.mv 9 (.t 1)),(.bin 10 .rem (.t 8) (.t 9)),(.mv 0 (.t 7)),(.mv 1 (.t 10))]⟩] [] [0,1]))))) (.seq (.rgn [⟨none,[(.mv 11 (.t 0)),(.mv 4 (.t 11))]⟩] [4]) .ret)))
theorem func_r_Greatest : Tryz.prog.funcs[n_r_Greatest]? = some Tryz.f55 := Tryz.func55
theorem form_r_Greatest : formOf Tryz.prog Tryz.f55 [4] = some G_r_Greatest := by kernel_rfl
theorem res_r_Greatest : resTmps Tryz.f55.results.toList = some [4] := by kernel_rfl
end Go.AM

namespace Go.AM
open Go.RowKit Go.Proofs
set_option maxHeartbeats 1000000 in
theorem r_Greatest_ok (a b : Nat) (ha : a ≤ 1000000) (hb : b ≤ 1000000) : PureOK Tryz.prog n_r_Greatest [I (a : Int),I (b : Int)] (I (Nat.gcd a b : Nat)) := by
 refine pure_of (walk func_r_Greatest form_r_Greatest res_r_Greatest (by show 2 ≤ _; decide) ?_)
 simp -implicitDefEqProofs (disch := omega) [G_r_Greatest,wrap_id]
 refine loop_eq (fun q : Nat × Nat => ⟨[(0,I (q.1 : Int)),(1,I (q.2 : Int))],[]⟩) (fun q => q.1 ≤ 1000000 ∧ q.2 ≤ 1000000 ∧ Nat.gcd q.1 q.2 = Nat.gcd a b) (fun q => q.2) (a,b) ⟨ha,hb,rfl⟩ rfl ?_
 rintro ⟨x,y⟩ ⟨d1,d2,d3⟩
 simp only at d1 d2 d3 ⊢
 refine hideK' fun K0 hK0 => ?_
 simp -implicitDefEqProofs (disch := omega) [wrap_id]
 refine c_split (fun hc => ?_) (fun hc => ?_)
 · have hy : y ≠ 0 := by
    intro e; subst e; simp at hc
   have hy2 : ((y : Int) == 0) = false := by rw [beq_eq_false_iff_ne]; omega
   have hy3 : (y : Int) ≠ 0 := by omega
   have er : (x : Int).tmod (y : Int) = ((x % y : Nat) : Int) := by rw [Int.tmod_eq_emod_of_nonneg (by omega)]; rfl
   have hl := Nat.mod_lt x (Nat.pos_of_ne_zero hy)
   simp -implicitDefEqProofs (disch := omega) [wrap_id,cmp2,nthT,hy,hy2,hy3,er]
   rw [hK0]
   refine next_eq (y,x % y) ⟨d2,by simp only; omega,by simp only; rw [gcd_step x y hy]; exact d3⟩ (by simp only; omega) rfl
 · have hy : y = 0 := by simpa using hc
   subst hy
   subst hK0
   rw [← d3,Nat.gcd_zero_right]
   simp -implicitDefEqProofs (disch := omega) [wrap_id]
end Go.AM

namespace Go.AM
open Go.RowKit Go.Proofs
theorem both_none {one two a o f m : Int} (h1 : one ∣ f) (h2 : two ∣ f) (hf : 1 ≤ f) (h : ∀ x,m ≤ x → x < m + f → ¬ Both one two a o x) : ∀ x,m ≤ x → ¬ Both one two a o x := fun x hx hb => by
 have e := Int.emod_add_mul_ediv (x - m) f
 have l0 := Int.emod_nonneg (x - m) (by omega : f ≠ 0)
 have l1 := Int.emod_lt_of_pos (x - m) (by omega : 0 < f)
 exact h (m + (x - m) % f) (by omega) (by omega) (both_mod h1 h2 hb ((x - m) / f) (by rw [Int.mul_comm ((x - m) / f) f]; omega))
theorem both_tmod {one two a o x : Int} (h1 : a ≤ x) (h2 : o ≤ x) : Both one two a o x ↔ (x - a).tmod one = 0 ∧ (x - o).tmod two = 0 := by
 unfold Both
 rw [Int.tmod_eq_emod_of_nonneg (by omega),Int.tmod_eq_emod_of_nonneg (by omega),Int.dvd_iff_emod_eq_zero,Int.dvd_iff_emod_eq_zero]
set_option maxHeartbeats 4000000 in
theorem r_Meet_ok (one two a o : Int) {n far e : Int} (hA : AnsM one two a o n far e) : PureOK Tryz.prog n_r_Meet [I one, I two, I a, I o] (.tup [I n, I far, I e]) := by
 refine pure_of (walk func_r_Meet form_r_Meet res_r_Meet (by show 4 ≤ _; decide) ?_)
 simp -implicitDefEqProofs (disch := omega) [G_r_Meet,wrap_id]
 by_cases hk : ¬ okM one two a o
 · obtain ⟨_,rfl,rfl,rfl⟩ : ¬ okM one two a o ∧ n = 0 ∧ far = 0 ∧ e = 2 := hA.resolve_right (fun h => hk h.1)
   have fin : ∀ (p : Prop),p → p := fun p h => h
   by_cases q1 : one < 1
   · simp -implicitDefEqProofs (disch := omega) [wrap_id,q1]
     exact tup3
   by_cases q2 : 50 < one
   · simp -implicitDefEqProofs (disch := omega) [wrap_id,q1,q2]
     exact tup3
   by_cases q3 : two < 1
   · simp -implicitDefEqProofs (disch := omega) [wrap_id,q1,q2,q3]
     exact tup3
   by_cases q4 : 50 < two
   · simp -implicitDefEqProofs (disch := omega) [wrap_id,q1,q2,q3,q4]
     exact tup3
   by_cases q5 : a < 0
   · simp -implicitDefEqProofs (disch := omega) [wrap_id,q1,q2,q3,q4,q5]
     exact tup3
   by_cases q6 : 500 < a
   · simp -implicitDefEqProofs (disch := omega) [wrap_id,q1,q2,q3,q4,q5,q6]
     exact tup3
   by_cases q7 : o < 0
   · simp -implicitDefEqProofs (disch := omega) [wrap_id,q1,q2,q3,q4,q5,q6,q7]
     exact tup3
   by_cases q8 : 500 < o
   · simp -implicitDefEqProofs (disch := omega) [wrap_id,q1,q2,q3,q4,q5,q6,q7,q8]
     exact tup3
   exact absurd ⟨⟨by omega,by omega⟩,⟨by omega,by omega⟩,⟨by omega,by omega⟩,by omega,by omega⟩ hk
 have hk : okM one two a o := Classical.not_not.1 hk
 obtain ⟨_,hA⟩ := hA.resolve_left (fun h => h.1 hk)
 obtain ⟨⟨o1,o2⟩,⟨t1,t2⟩,⟨a1,a2⟩,c1,c2⟩ := id hk
 have q1 : ¬ one < 1 := by omega
 have q2 : ¬ 50 < one := by omega
 have q3 : ¬ two < 1 := by omega
 have q4 : ¬ 50 < two := by omega
 have q5 : ¬ a < 0 := by omega
 have q6 : ¬ 500 < a := by omega
 have q7 : ¬ o < 0 := by omega
 have q8 : ¬ 500 < o := by omega
 obtain ⟨f1,f2,f3,f4,f5,f6⟩ := farM_ok ⟨o1,o2⟩ ⟨t1,t2⟩
 have GR := r_Greatest_ok one.toNat two.toNat (by omega) (by omega)
 rw [Int.toNat_of_nonneg (by omega),Int.toNat_of_nonneg (by omega)] at GR
 have eF : farM one two = one / (Nat.gcd one.toNat two.toNat : Nat) * two := rfl
 have gp : 0 < Nat.gcd one.toNat two.toNat := Nat.gcd_pos_of_pos_left _ (by omega)
 generalize Nat.gcd one.toNat two.toNat = G at *
 have g0 : (G : Int) ≠ 0 := by omega
 have eq : one.tdiv G = one / G := Int.tdiv_eq_ediv_of_nonneg (by omega)
 simp -implicitDefEqProofs (disch := omega) [wrap_id,q1,q2,q3,q4,q5,q6,q7,q8]
 refine callW_pure rfl GR ?_
 generalize one / (G : Int) = D at *
 generalize farM one two = F at *
 have m1 : 1 ≤ D * two := by omega
 have m2 : D * two ≤ 2500 := by omega
 simp -implicitDefEqProofs (disch := omega) [wrap_id,g0,eq]
 rw [← eF]
 obtain ⟨m,hm⟩ : ∃ m,max a o = m := ⟨_,rfl⟩
 have ma : a ≤ m := by omega
 have mo : o ≤ m := by omega
 have mm : m ≤ 500 := by omega
 rw [hm] at hA ⊢
 refine loop_eq (fun x : Int => ⟨[(0,I one),(1,I two),(2,I a),(3,I o),(11,I F),(12,I m),(13,I x)],[]⟩) (fun x => m ≤ x ∧ x ≤ m + F ∧ ∀ y,m ≤ y → y < x → ¬ Both one two a o y) (fun x => (m + F - x).toNat) m ⟨Int.le_refl _,by omega,fun y h1 h2 => by omega⟩ rfl ?_
 rintro x ⟨d1,d2,d3⟩
 refine hideK' fun K0 hK0 => ?_
 simp -implicitDefEqProofs (disch := omega) [wrap_id]
 refine c_split (fun hc => ?_) (fun hc => ?_)
 · have hx : x < m + F := by simpa using hc
   have bt := both_tmod (one := one) (two := two) (a := a) (o := o) (x := x) (by omega) (by omega)
   have n1 : one ≠ 0 := by omega
   have n2 : two ≠ 0 := by omega
   have nb : ¬ Both one two a o x → ∀ y,m ≤ y → y < x + 1 → ¬ Both one two a o y := fun h y h1 h2 => by
    by_cases e : y = x
    · rw [e]; exact h
    · exact d3 y h1 (by omega)
   by_cases r1 : (x - a).tmod one = 0
   · have r1' : ((x - a).tmod one == 0) = true := by simp [r1]
     by_cases r2 : (x - o).tmod two = 0
     · have r2' : ((x - o).tmod two == 0) = true := by simp [r2]
       have hb := bt.2 ⟨r1,r2⟩
       obtain ⟨rfl,rfl,rfl⟩ : n = x ∧ far = F ∧ e = 0 := by
        rcases hA with ⟨h1,_⟩ | ⟨h1,h2,h3,h4,h5⟩
        · exact absurd hb (h1 x d1)
        · refine ⟨?_,h4,h5⟩
          rcases Int.lt_trichotomy n x with h | h | h
          · exact absurd h2 (d3 n h1 h)
          · exact h
          · exact absurd hb (h3 x d1 h)
       subst hK0
       simp -implicitDefEqProofs (disch := omega) [wrap_id,n1,n2,r1',r2']
       exact tup3
     · have r2' : ((x - o).tmod two == 0) = false := by simp [r2]
       have nb := nb fun h => r2 (bt.1 h).2
       simp -implicitDefEqProofs (disch := omega) [wrap_id,n1,n2,r1',r2']
       rw [hK0]
       exact next_eq (x + 1) ⟨by omega,by omega,nb⟩ (by omega) rfl
   · have r1' : ((x - a).tmod one == 0) = false := by simp [r1]
     have nb := nb fun h => r1 (bt.1 h).1
     simp -implicitDefEqProofs (disch := omega) [wrap_id,n1,n2,r1']
     rw [hK0]
     exact next_eq (x + 1) ⟨by omega,by omega,nb⟩ (by omega) rfl
 · have hx : x = m + F := by simp at hc; omega
   subst hK0
   have none := both_none f1 f2 f3 (fun y h1 h2 => d3 y h1 (by omega))
   obtain ⟨rfl,rfl,rfl⟩ : n = 0 ∧ far = 0 ∧ e = 5 := by
    rcases hA with ⟨_,h⟩ | ⟨h1,h2,_⟩
    · exact h
    · exact absurd h2 (none n h1)
   simp -implicitDefEqProofs (disch := omega) [wrap_id]
   exact tup3
end Go.AM

namespace Go.AM
open Go.RowKit Go.Proofs
set_option maxHeartbeats 8000000 in
theorem r_Spaces_ok (f : Bool) (m : List (Int × Int)) (hm : m.length ≤ 1000000) : PureOK Tryz.prog n_r_Spaces [Ps f m] (.tup [Ts (spcL m).isEmpty (spcL m),I (spcE m)]) := by
 refine pure_of (walk func_r_Spaces form_r_Spaces res_r_Spaces (by show 1 ≤ _; decide) ?_)
 simp -implicitDefEqProofs (disch := omega) [G_r_Spaces,wrap_id]
 have en : spcE m ≠ 0 → spcL m = [] := fun h => by unfold spcL; rw [if_neg h]
 by_cases a1 : m.length < 2
 · have a1' : (m.length : Int) < 2 := by omega
   have e : spcE m = 6 := by unfold spcE; rw [if_pos (.inl a1)]
   rw [en (by omega),e]
   simp -implicitDefEqProofs (disch := omega) [wrap_id,a1']
   exact out_of (is := []) rfl
 have a1' : ¬ (m.length : Int) < 2 := by omega
 by_cases a2 : 12 < m.length
 · have a2' : (12 : Int) < m.length := by omega
   have e : spcE m = 6 := by unfold spcE; rw [if_pos (.inr a2)]
   rw [en (by omega),e]
   simp -implicitDefEqProofs (disch := omega) [wrap_id,a1',a2']
   exact out_of (is := []) rfl
 have a2' : ¬ (12 : Int) < m.length := by omega
 have e : spcE m = mrkE m := by unfold spcE; rw [if_neg (by omega)]
 simp -implicitDefEqProofs (disch := omega) [wrap_id,a1',a2']
 refine callW_pure rfl (r_MarksError_ok f m hm) ?_
 by_cases h0 : mrkE m ≠ 0
 · have e3 : mrkE m = 3 := by unfold mrkE at h0 ⊢; split <;> simp_all
   rw [en (by omega),e,e3]
   simp -implicitDefEqProofs (disch := omega) [wrap_id]
   exact out_of (is := []) rfl
 have h0 : mrkE m = 0 := by omega
 have mk := mrk_ok h0
 have eL : spcL m = spcT m 50 := by unfold spcL; rw [if_pos (by omega)]
 rw [eL,e,h0]
 have l0 : 0 < m.length := by omega
 have l0' : (0 : Int) < m.length := by omega
 simp -implicitDefEqProofs (disch := omega) [wrap_id]
 refine loop_eq (fun q : Nat × AV × List HObj => ⟨[(0,Ps f m),(4,q.2.1),(5,I (q.1 : Int))],q.2.2⟩) (fun q => 1 ≤ q.1 ∧ q.1 ≤ 51 ∧ AccG q.2.2 q.2.1 3 (spcT m (q.1 - 1)).length (flat3 (spcT m (q.1 - 1)))) (fun q => 51 - q.1) (1,.sl true 0 [],[]) ⟨Nat.le_refl _,by omega,AccG.nil⟩ rfl ?_
 rintro ⟨sp,x,H⟩ ⟨d1,d2,d3⟩
 simp only at d1 d2 d3 ⊢
 refine hideK' fun K0 hK0 => ?_
 simp -implicitDefEqProofs (disch := omega) [wrap_id]
 refine c_split (fun hc => ?_) (fun hc => ?_)
 · have hs : sp ≤ 50 := by simp at hc; omega
   have sx : ((sp : Int) + 1) = ((sp + 1 : Nat) : Int) := by omega
   have hv0 : List.take 2 (flat2 m) = [I m[0].1,I m[0].2] := by simpa using flat2_view l0
   have rg := fun i (hi : i ≤ m.length) => spR_rng mk (by omega) (by omega) hs (i := i) hi
   simp -implicitDefEqProofs (disch := omega) [wrap_id,cells_pair,l0,l0']
   refine ⟨flat2_len _,by rw [flat2_len]; omega,⟨by rw [flat2_len]; omega,?_⟩,?_⟩
   · rw [hv0]
     intro y hy
     simp only [List.mem_cons,List.not_mem_nil,or_false] at hy
     rcases hy with rfl | rfl <;> rfl
   have hmin : min 2 (flat2 m).length = 2 := by rw [flat2_len]; omega
   rw [hv0,hmin]
   refine loop_eq (fun i : Nat => ⟨[(0,Ps f m),(4,x),(5,I (sp : Int)),(6,.ref H.length 0),(7,I (i : Int))],H ++ [.cells [I (spR m sp i).1,I (spR m sp i).2]]⟩) (fun i => i ≤ m.length) (fun i => m.length - i) 0 (Nat.zero_le _) (by simp only [spR,getD_at l0]; rfl) ?_
   rintro i i1
   refine hideK' fun K1 hK1 => ?_
   simp -implicitDefEqProofs (disch := omega) [wrap_id]
   refine c_split (fun hc => ?_) (fun hc => ?_)
   · have hi : i < m.length := by simpa using hc
     have ix : ((i : Int) + 1) = ((i + 1 : Nat) : Int) := by omega
     have eR : spR m sp (i + 1) = (max (spR m sp i).1 (m[i].1 - (i : Int) * sp),min (spR m sp i).2 (m[i].2 - (i : Int) * sp)) := by
      show (max (spR m sp i).1 ((m.getD i (0,0)).1 - (i : Int) * sp),min (spR m sp i).2 ((m.getD i (0,0)).2 - (i : Int) * sp)) = _
      rw [getD_at hi]
     obtain ⟨g1,g2,g3,g4⟩ := rg i (by omega)
     obtain ⟨u1,u2⟩ := sp_mul (i := i) (sp := sp) (by omega) hs
     obtain ⟨v1,v2,v3⟩ := mk i hi
     generalize spR m sp i = r at *
     simp -implicitDefEqProofs (disch := omega) [wrap_id,cmp2,nthT,flat2_len,flat2_n1,flat2_n2,hi]
     rw [hK1]
     exact next_eq (i + 1) (by omega) (by omega) (by simp only [ix,eR])
   · have hi : i = m.length := by simp at hc; omega
     subst hi
     subst hK1
     simp -implicitDefEqProofs (disch := omega) [wrap_id]
     obtain ⟨k,rfl⟩ : ∃ k,sp = k + 1 := ⟨sp - 1,by omega⟩
     rw [show k + 1 - 1 = k from rfl] at d3
     have sl := spcT_len (m := m) (n := k)
     have eS : spcT m (k + 1) = spcT m k ++ if (spR m (k + 1) m.length).1 ≤ (spR m (k + 1) m.length).2 then [(((k + 1 : Nat) : Int),spR m (k + 1) m.length)] else [] := rfl
     generalize spR m (k + 1) m.length = r at *
     have d4 : AccG (H ++ [HObj.cells [I r.1,I r.2]]) x 3 (spcT m k).length (flat3 (spcT m k)) := d3.mono fun j hj => nthH_front (d3.lt hj)
     refine c_split (fun hc => ?_) (fun hc => ?_)
     · have hr : r.1 ≤ r.2 := by simpa using hc
       rw [if_pos hr] at eS
       generalize hsp : k + 1 = sp at *
       simp -implicitDefEqProofs (disch := omega) [wrap_id]
       refine bsl_of (ys := [.agg [I (sp : Int),I r.1,I r.2]]) rfl rfl ?_
       simp -implicitDefEqProofs (disch := omega) [wrap_id,zrep]
       refine app_accG (ys := [I (sp : Int),I r.1,I r.2]) d4 (by omega) (by decide) rfl rfl fun ws w1 w2 w3 => ?_
       simp -implicitDefEqProofs (disch := omega) [wrap_id]
       rw [hK0]
       have hl : (H ++ [HObj.cells [I r.1,I r.2]]).length = H.length + 1 := by simp
       rw [hl] at w3
       refine next_eq (sp + 1,.ms (H.length + 1) 0 ((spcT m k).length + 1) 3,writeL (H ++ [HObj.cells [I r.1,I r.2]]) ws) ⟨by simp only; omega,by simp only; omega,?_⟩ (by simp only; omega) (by simp only [sx])
       simp only [Nat.add_sub_cancel,eS]
       rw [flat3_app,List.length_append]
       exact w3
     · have hr : ¬ r.1 ≤ r.2 := by simpa using hc
       rw [if_neg hr,List.append_nil] at eS
       have kx : ((k + 1 : Nat) : Int) + 1 = ((k + 1 + 1 : Nat) : Int) := by omega
       simp -implicitDefEqProofs (disch := omega) [wrap_id]
       rw [hK0]
       refine next_eq (k + 1 + 1,x,H ++ [HObj.cells [I r.1,I r.2]]) ⟨by simp only; omega,by simp only; omega,?_⟩ (by simp only; omega) (by simp only [Int.natCast_add]; rfl)
       simp only [Nat.add_sub_cancel,eS]
       exact d4
 · have hs : sp = 51 := by simp at hc; omega
   subst hs
   subst hK0
   simp -implicitDefEqProofs (disch := omega) [wrap_id]
   have := d3.tupG (e := 0)
   rw [← emp_lenK] at this
   exact this
end Go.AM

namespace Go.AM
open Go.RowKit Go.Proofs
theorem ansM_ex (one two a o : Int) : ∃ n far e,AnsM one two a o n far e := by
 by_cases hk : okM one two a o
 · by_cases h : ∃ x,max a o ≤ x ∧ Both one two a o x
   · obtain ⟨x,h1,h2⟩ := h
     obtain ⟨j,_,h3,h4⟩ := leastN (P := fun k : Nat => Both one two a o (max a o + (k : Int))) (k := (x - max a o).toNat) (by show Both one two a o (max a o + (((x - max a o).toNat : Nat) : Int)); rw [Int.toNat_of_nonneg (by omega),show max a o + (x - max a o) = x from by omega]; exact h2)
     refine ⟨max a o + (j : Int),_,_,.inr ⟨hk,.inr ⟨by omega,h3,fun y h5 h6 h7 => ?_,rfl,rfl⟩⟩⟩
     exact h4 (y - max a o).toNat (by omega) (by rw [Int.toNat_of_nonneg (by omega),show max a o + (y - max a o) = y from by omega]; exact h7)
   · exact ⟨0,0,5,.inr ⟨hk,.inl ⟨fun x h1 h2 => h ⟨x,h1,h2⟩,rfl,rfl,rfl⟩⟩⟩
 · exact ⟨0,0,2,.inl ⟨hk,rfl,rfl,rfl⟩⟩
end Go.AM

set_option maxRecDepth 100000
namespace Go.AM
open Go.RowKit Go.Proofs
abbrev n_l_CombMeets : Nat := 7
def G_l_CombMeets : AC := (.seq (.rgn [⟨none,[(.mv 10 (.k (B false)))]⟩] [0,1,2,3,4]) (.seq (.seq (.rgn [⟨none,[(.mv 21 (.t 4)),(.len 22 (.t 21)),(.bin 23 .gtr (.t 22) (.k (I 18)))]⟩] [0,1,2,3,4,23]) (.cond (.t 23) (.seq (.rgn [⟨none,[(.call 24 17 []),(.mv 10 (.t 24))]⟩] [10]) .ret) .skip)) (.seq (.rgn [⟨none,[(.mv 26 (.t 0)),(.mv 27 (.t 1)),(.mv 28 (.t 2)),(.mv 29 (.t 3)),(.call 30 43 [(.t 26),(.t 27),(.t 28),(.t 29)]),(.mv 25 (.t 30)),(.ext 31 (.t 25) 0),(.ext 32 (.t 25) 1),(.ext 33 (.t 25) 2),(.mv 11 (.t 31)),(.mv 12 (.t 32)),(.mv 13 (.t 33))]⟩] [0,1,2,3,4,11,12,13]) (.seq (.rgn [⟨none,[(.mv 35 (.t 0)),(.mv 36 (.t 1)),(.mv 37 (.t 2)),(.mv 38 (.t 3)),(.call 39 44 [(.t 35),(.t 36),(.t 37),(.t 38)]),(.mv 34 (.t 39)),(.ext 40 (.t 34) 0),(.ext 41 (.t 34) 1),(.ext 42 (.t 34) 2),(.mv 14 (.t 40)),(.mv 15 (.t 41)),(.mv 16 (.t 42))]⟩] [4,11,12,13,14,15,16]) (.seq (.rgn [⟨none,[(.mv 44 (.t 4)),(.call 45 45 [(.t 44)]),(.mv 43 (.t 45)),(.ext 46 (.t 43) 0),(.ext 47 (.t 43) 1),(.mv 17 (.t 46)),(.mv 18 (.t 47))]⟩] [4,11,12,13,14,15,16,17,18]) (.seq (.rgn [⟨none,[(.mv 49 (.t 4)),(.call 50 46 [(.t 49)]),(.mv 48 (.t 50)),(.ext 51 (.t 48) 0),(.ext 52 (.t 48) 1),(.mv 19 (.t 51)),(.mv 20 (.t 52))]⟩] [11,12,13,14,15,16,17,18,19,20]) (.seq (.rgn [⟨none,[(.mv 53 (.t 11)),(.mv 54 (.t 14)),(.bin 55 .eql (.t 53) (.t 54)),(.mv 56 (.t 55))]⟩,⟨(some (56,true)),[(.mv 57 (.t 12)),(.mv 58 (.t 15)),(.bin 59 .eql (.t 57) (.t 58))]⟩,⟨none,[(.pick 60 (.t 56) (.t 59) (.k (B false))),(.mv 61 (.t 60))]⟩,⟨(some (61,true)),[(.mv 62 (.t 13)),(.mv 63 (.t 16)),(.bin 64 .eql (.t 62) (.t 63))]⟩,⟨none,[(.pick 65 (.t 61) (.t 64) (.k (B false))),(.mv 66 (.t 65))]⟩,⟨(some (66,true)),[(.mv 67 (.t 17)),(.mv 68 (.t 19)),(.call 69 47 [(.t 67),(.t 68)])]⟩,⟨none,[(.pick 70 (.t 66) (.t 69) (.k (B false))),(.mv 71 (.t 70))]⟩,⟨(some (71,true)),[(.mv 72 (.t 18)),(.mv 73 (.t 20)),(.bin 74 .eql (.t 72) (.t 73))]⟩,⟨none,[(.pick 75 (.t 71) (.t 74) (.k (B false))),(.mv 76 (.t 75))]⟩,⟨(some (76,true)),[(.call 77 17 [])]⟩,⟨none,[(.pick 78 (.t 76) (.t 77) (.k (B false))),(.mv 10 (.t 78))]⟩] [10]) .ret)))))))
theorem func_l_CombMeets : Tryz.prog.funcs[n_l_CombMeets]? = some Tryz.f7 := Tryz.func7
theorem form_l_CombMeets : formOf Tryz.prog Tryz.f7 [10] = some G_l_CombMeets := by kernel_rfl
theorem res_l_CombMeets : resTmps Tryz.f7.results.toList = some [10] := by kernel_rfl
abbrev n_l_spaces : Nat := 47
def G_l_spaces : AC := (.seq (.rgn [⟨none,[(.mv 4 (.k (B false)))]⟩] [0,1]) (.seq (.seq (.rgn [⟨none,[(.mv 6 (.t 0)),(.len 7 (.t 6)),(.mv 8 (.t 1)),(.len 9 (.t 8)),(.bin 10 .neq (.t 7) (.t 9))]⟩] [0,1,10]) (.cond (.t 10) (.seq (.rgn [⟨none,[(.mv 4 (.k (B false)))]⟩] [4]) .ret) .skip)) (.seq (.seq (.rgn [⟨none,[(.mv 5 (.k (I 0)))]⟩] [0,1,5]) (.block 0 (.loop (.seq (.seq (.rgn [⟨none,[(.mv 11 (.t 5)),(.mv 12 (.t 0)),(.len 13 (.t 12)),(.bin 14 .lss (.t 11) (.t 13))]⟩] [0,1,5,14]) (.cond (.t 14) .skip (.exit 0))) (.seq (.block 1 (.seq (.drw [⟨none,[(.mv 17 (.t 0)),(.mv 18 (.t 5)),(.ia 19 3 (.t 17) (.t 18)),(.ld 20 true 3 (.t 19)),(.mv 21 (.t 1)),(.mv 22 (.t 5)),(.ia 23 3 (.t 21) (.t 22)),(.ld 24 true 3 (.t 23)),(.eqk 25 true (true,[.int,.int,.int]) (.t 20) (.t 24))]⟩] [(3,7)] [0,1,5,25]) (.cond (.t 25) (.seq (.rgn [⟨none,[(.mv 4 (.k (B false)))]⟩] [4]) .ret) .skip))) (.rgn [⟨none,[(.mv 15 (.t 5)),(.bin 16 .add (.t 15) (.k (I 1))),(.mv 5 (.t 16))]⟩] [0,1,5])))))) (.seq (.rgn [⟨none,[(.mv 4 (.k (B true)))]⟩] [4]) .ret))))
theorem func_l_spaces : Tryz.prog.funcs[n_l_spaces]? = some Tryz.f47 := Tryz.func47
theorem form_l_spaces : formOf Tryz.prog Tryz.f47 [4] = some G_l_spaces := by kernel_rfl
theorem res_l_spaces : resTmps Tryz.f47.results.toList = some [4] := by kernel_rfl
end Go.AM

namespace Go.AM
open Go.RowKit Go.Proofs
theorem flat3_len (c : List (Int × Int × Int)) : (flat3 c).length = c.length * 3 := by
 induction c with
 | nil => rfl
 | cons p c ih => simp [flat3] at ih ⊢; omega
theorem flat3_drop (c : List (Int × Int × Int)) (i : Nat) : (flat3 c).drop (i * 3) = flat3 (c.drop i) := by
 induction i generalizing c with
 | zero => simp
 | succ i ih =>
   cases c with
   | nil => simp [flat3]
   | cons p c =>
     have : (i + 1) * 3 = i * 3 + 1 + 1 + 1 := by omega
     rw [this]
     simp only [List.drop_succ_cons]
     rw [← ih c]
     rfl
theorem flat3_view {c : List (Int × Int × Int)} {i : Nat} (h : i < c.length) : ((flat3 c).drop (i * 3)).take 3 = [I c[i].1,I c[i].2.1,I c[i].2.2] := by
 rw [flat3_drop,List.drop_eq_getElem_cons h]
 rfl
set_option maxHeartbeats 1000000 in
theorem lk_spaces_ok (f g : Bool) (l m : List (Int × Int × Int)) (hl : l.length ≤ 1000000) (hm : m.length ≤ 1000000) : PureOK Tryz.prog n_l_spaces [Ts f l,Ts g m] (B (decide (l = m))) := by
 refine pure_of (walk func_l_spaces form_l_spaces res_l_spaces (by show 2 ≤ _; decide) ?_)
 have f1 := flat3_len l
 have f2 := flat3_len m
 simp -implicitDefEqProofs (disch := omega) [G_l_spaces,wrap_id]
 by_cases h : l.length = m.length
 · simp -implicitDefEqProofs (disch := omega) [wrap_id,h]
   refine loop_eq (fun i : Nat => ⟨[(0,Ts f l),(1,Ts g m),(5,I (i : Int))],[]⟩) (fun i => i ≤ l.length ∧ l.take i = m.take i) (fun i => l.length - i) 0 ⟨by omega,rfl⟩ (by simp [h]) ?_
   rintro i ⟨hi,he⟩
   refine hideK' fun K0 hK0 => ?_
   simp -implicitDefEqProofs (disch := omega) [wrap_id]
   refine c_split (fun hc => ?_) (fun hc => ?_)
   · have h1 : i < l.length := by simp at hc; omega
     have h2 : i < m.length := by omega
     have ix : ((i : Int) + 1) = ((i + 1 : Nat) : Int) := by omega
     have v1 := flat3_view h1
     have v2 := flat3_view h2
     simp -implicitDefEqProofs (disch := omega) [wrap_id,f1,f2,h1,h2,v1,v2,cmp2,nthT]
     refine ⟨by omega,by omega,?_⟩
     have ek : eqK (true,[Leaf.int,Leaf.int,Leaf.int]) (rowV [l[i].1,l[i].2.1,l[i].2.2]) (rowV [m[i].1,m[i].2.1,m[i].2.2]) = some (decide ([l[i].1,l[i].2.1,l[i].2.2] = [m[i].1,m[i].2.1,m[i].2.2])) := eqK_row (n := 3) rfl rfl
     rw [eqk_of (neg := true) (a := rowV [l[i].1,l[i].2.1,l[i].2.2]) (b := rowV [m[i].1,m[i].2.1,m[i].2.2]) rfl rfl ek]
     by_cases e : l[i] = m[i]
     · have e' : [l[i].1,l[i].2.1,l[i].2.2] = [m[i].1,m[i].2.1,m[i].2.2] := by rw [e]
       rw [decide_eq_true e']
       simp -implicitDefEqProofs (disch := omega) [wrap_id,cmp2,nthT]
       rw [hK0]
       refine next_eq (i + 1) ⟨by omega,?_⟩ (by omega) (by simp only [ix])
       rw [List.take_add_one,List.take_add_one,he]; simp [h1,h2,e]
     · have e' : ¬ [l[i].1,l[i].2.1,l[i].2.2] = [m[i].1,m[i].2.1,m[i].2.2] := fun h => e (by injection h with h1 h; injection h with h2 h; injection h with h3 h; exact Prod.ext h1 (Prod.ext h2 h3))
       have ne : l ≠ m := fun h => by subst h; exact e rfl
       rw [decide_eq_false e']
       subst hK0
       simp -implicitDefEqProofs (disch := omega) [wrap_id,cmp2,nthT,ne]
   · have h1 : l.length ≤ i := by simp at hc; omega
     have e1 : l.take i = l := List.take_of_length_le h1
     have e2 : m.take i = m := List.take_of_length_le (by omega)
     have e : l = m := by rw [← e1,he,e2]
     subst hK0
     simp -implicitDefEqProofs (disch := omega) [wrap_id,e]
 · have ne : l ≠ m := fun e => h (by rw [e])
   have h' : ((l.length : Int) != (m.length : Int)) = true := by simp; omega
   simp -implicitDefEqProofs (disch := omega) [wrap_id,h',ne]
end Go.AM

namespace Go.AM
open Go.RowKit Go.Proofs
set_option maxHeartbeats 8000000 in
theorem lawMeets (one two a o : Int) (f : Bool) (l : List (Int × Int)) : PureOK Tryz.prog n_l_CombMeets [I one,I two,I a,I o,Ps f l] (B true) := by
 refine pure_of (walk func_l_CombMeets form_l_CombMeets res_l_CombMeets (by show 5 ≤ _; decide) ?_)
 simp -implicitDefEqProofs (disch := omega) [G_l_CombMeets,wrap_id]
 refine c_split (fun hc => ?_) (fun hc => ?_)
 · simp -implicitDefEqProofs (disch := omega) [wrap_id]
   refine callW_pure rfl lk_Works_ok ?_
   simp -implicitDefEqProofs (disch := omega) [wrap_id]
 · have hl : l.length ≤ 1000000 := by simp at hc; omega
   obtain ⟨n,far,e,hA⟩ := ansM_ex one two a o
   have ls : (spcL l).length ≤ 1000000 := by
    unfold spcL
    split
    · have := spcT_len (m := l) (n := 50); omega
    · exact Nat.zero_le _
   simp -implicitDefEqProofs (disch := omega) [wrap_id]
   refine callW_pure rfl (k_Meet_ok one two a o hA) ?_
   simp -implicitDefEqProofs (disch := omega) [wrap_id]
   refine callW_pure rfl (r_Meet_ok one two a o hA) ?_
   simp -implicitDefEqProofs (disch := omega) [wrap_id]
   refine callW_pure rfl (k_Spaces_ok f l hl) ?_
   simp -implicitDefEqProofs (disch := omega) [wrap_id]
   refine callW_pure rfl (r_Spaces_ok f l hl) ?_
   simp -implicitDefEqProofs (disch := omega) [wrap_id]
   refine callW_pure rfl (lk_spaces_ok _ _ (spcL l) (spcL l) ls ls) ?_
   simp -implicitDefEqProofs (disch := omega) [wrap_id]
   refine callW_pure rfl lk_Works_ok ?_
   simp -implicitDefEqProofs (disch := omega) [wrap_id]
end Go.AM
