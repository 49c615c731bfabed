/-
  KxMt1: texts joined: FmCF Cb10 Cb11 Cb15 FmCL Ld4. Own work.
-/
import Derived.Test.YtfpfnlnmilndmaaGreatDoorKc6
import Derived.Test.YtfpfnlnmilndmaaGreatDoorProg
set_option linter.unusedSimpArgs false
set_option linter.unusedVariables false

set_option maxRecDepth 100000
namespace Go.AM
open Go.RowKit Go.Proofs
abbrev n_r_Meet : Nat := 44
def G_r_Meet : AC := (.seq (.rgn [⟨none,[(.mv 8 (.k (I 0))),(.mv 9 (.k (I 0))),(.mv 10 (.k (I 0)))]⟩] [0,1,2,3]) (.seq (.seq (.rgn [⟨none,[(.mv 14 (.t 0)),(.bin 15 .lss (.t 14) (.k (I 1))),(.mv 16 (.t 15))]⟩,⟨(some (16,false)),[(.mv 17 (.t 0)),(.bin 18 .gtr (.t 17) (.k (I 50)))]⟩,⟨none,[(.pick 19 (.t 16) (.k (B true)) (.t 18)),(.mv 20 (.t 19))]⟩,⟨(some (20,false)),[(.mv 21 (.t 1)),(.bin 22 .lss (.t 21) (.k (I 1)))]⟩,⟨none,[(.pick 23 (.t 20) (.k (B true)) (.t 22)),(.mv 24 (.t 23))]⟩,⟨(some (24,false)),[(.mv 25 (.t 1)),(.bin 26 .gtr (.t 25) (.k (I 50)))]⟩,⟨none,[(.pick 27 (.t 24) (.k (B true)) (.t 26)),(.mv 28 (.t 27))]⟩,⟨(some (28,false)),[(.mv 29 (.t 2)),(.bin 30 .lss (.t 29) (.k (I 0)))]⟩,⟨none,[(.pick 31 (.t 28) (.k (B true)) (.t 30)),(.mv 32 (.t 31))]⟩,⟨(some (32,false)),[(.mv 33 (.t 2)),(.bin 34 .gtr (.t 33) (.k (I 500)))]⟩,⟨none,[(.pick 35 (.t 32) (.k (B true)) (.t 34)),(.mv 36 (.t 35))]⟩,⟨(some (36,false)),[(.mv 37 (.t 3)),(.bin 38 .lss (.t 37) (.k (I 0)))]⟩,⟨none,[(.pick 39 (.t 36) (.k (B true)) (.t 38)),(.mv 40 (.t 39))]⟩,⟨(some (40,false)),[(.mv 41 (.t 3)),(.bin 42 .gtr (.t 41) (.k (I 500)))]⟩,⟨none,[(.pick 43 (.t 40) (.k (B true)) (.t 42))]⟩] [0,1,2,3,43]) (.cond (.t 43) (.seq (.rgn [⟨none,[(.mv 8 (.k (I 0))),(.mv 9 (.k (I 0))),(.mv 10 (.k (I 2)))]⟩] [8,9,10]) .ret) .skip)) (.seq (.rgn [⟨none,[(.mv 44 (.t 0)),(.mv 45 (.t 0)),(.mv 46 (.t 1)),(.call 47 55 [(.t 45),(.t 46)]),(.bin 48 .quo (.t 44) (.t 47)),(.mv 49 (.t 1)),(.bin 50 .mul (.t 48) (.t 49)),(.mv 11 (.t 50))]⟩] [0,1,2,3,11]) (.seq (.rgn [⟨none,[(.mv 51 (.t 2)),(.mv 52 (.t 3)),(.mx 53 true (.t 51) (.t 52)),(.mv 12 (.t 53))]⟩] [0,1,2,3,11,12]) (.seq (.seq (.rgn [⟨none,[(.mv 54 (.t 12)),(.mv 13 (.t 54))]⟩] [0,1,2,3,11,12,13]) (.block 0 (.loop (.seq (.seq (.rgn [⟨none,[(.mv 55 (.t 13)),(.mv 56 (.t 12)),(.mv 57 (.t 11)),(.bin 58 .add (.t 56) (.t 57)),(.bin 59 .lss (.t 55) (.t 58))]⟩] [0,1,2,3,11,12,13,59]) (.cond (.t 59) .skip (.exit 0))) (.seq (.block 1 (.seq (.rgn [⟨none,[(.mv 62 (.t 13)),(.mv 63 (.t 2)),(.bin 64 .sub (.t 62) (.t 63)),(.mv 65 (.t 0)),(.bin 66 .rem (.t 64) (.t 65)),(.bin 67 .eql (.t 66) (.k (I 0))),(.mv 68 (.t 67))]⟩,⟨(some (68,true)),[(.mv 69 (.t 13)),(.mv 70 (.t 3)),(.bin 71 .sub (.t 69) (.t 70)),(.mv 72 (.t 1)),(.bin 73 .rem (.t 71) (.t 72)),(.bin 74 .eql (.t 73) (.k (I 0)))]⟩,⟨none,[(.pick 75 (.t 68) (.t 74) (.k (B false)))]⟩] [0,1,2,3,11,12,13,75]) (.cond (.t 75) (.seq (.rgn [⟨none,[(.mv 76 (.t 13)),(.mv 77 (.t 11)),(.mv 8 (.t 76)),(.mv 9 (.t 77)),(.mv 10 (.k (I 0)))]⟩] [8,9,10]) .ret) .skip))) (.rgn [⟨none,[(.mv 60 (.t 13)),(.bin 61 .add (.t 60) (.k (I 1))),(.mv 13 (.t 61))]⟩] [0,1,2,3,11,12,13])))))) (.seq (.rgn [⟨none,[(.mv 8 (.k (I 0))),(.mv 9 (.k (I 0))),(.mv 10 (.k (I 5)))]⟩] [8,9,10]) .ret))))))
theorem func_r_Meet : Tryz.prog.funcs[n_r_Meet]? = some Tryz.f44 := Tryz.func44
theorem form_r_Meet : formOf Tryz.prog Tryz.f44 [8,9,10] = some G_r_Meet := by kernel_rfl
theorem res_r_Meet : resTmps Tryz.f44.results.toList = some [8,9,10] := by kernel_rfl
abbrev n_r_Greatest : Nat := 55
def G_r_Greatest : AC := (.seq (.rgn [⟨none,[(.mv 4 (.k (I 0)))]⟩] [0,1]) (.seq (.block 0 (.loop (.seq (.seq (.rgn [⟨none,[(.mv 5 (.t 1)),(.bin 6 .neq (.t 5) (.k (I 0)))]⟩] [0,1,6]) (.cond (.t 6) .skip (.exit 0))) (.block 1 (.drw [⟨none,[(.mv 7 (.t 1)),(.mv 8 (.t 0)),(.mv 9 (.t 1)),(.bin 10 .rem (.t 8) (.t 9)),(.mv 0 (.t 7)),(.mv 1 (.t 10))]⟩] [] [0,1]))))) (.seq (.rgn [⟨none,[(.mv 11 (.t 0)),(.mv 4 (.t 11))]⟩] [4]) .ret)))
theorem func_r_Greatest : Tryz.prog.funcs[n_r_Greatest]? = some Tryz.f55 := Tryz.func55
theorem form_r_Greatest : formOf Tryz.prog Tryz.f55 [4] = some G_r_Greatest := by kernel_rfl
theorem res_r_Greatest : resTmps Tryz.f55.results.toList = some [4] := by kernel_rfl
end Go.AM

namespace Go.AM
open Go.RowKit Go.Proofs
set_option maxHeartbeats 1000000 in
theorem r_Greatest_ok (a b : Nat) (ha : a ≤ 1000000) (hb : b ≤ 1000000) : PureOK Tryz.prog n_r_Greatest [I (a : Int),I (b : Int)] (I (Nat.gcd a b : Nat)) := by
 refine pure_of (walk func_r_Greatest form_r_Greatest res_r_Greatest (by show 2 ≤ _; decide) ?_)
 simp -implicitDefEqProofs (disch := omega) [G_r_Greatest,wrap_id]
 refine loop_eq (fun q : Nat × Nat => ⟨[(0,I (q.1 : Int)),(1,I (q.2 : Int))],[]⟩) (fun q => q.1 ≤ 1000000 ∧ q.2 ≤ 1000000 ∧ Nat.gcd q.1 q.2 = Nat.gcd a b) (fun q => q.2) (a,b) ⟨ha,hb,rfl⟩ rfl ?_
 rintro ⟨x,y⟩ ⟨d1,d2,d3⟩
 simp only at d1 d2 d3 ⊢
 refine hideK' fun K0 hK0 => ?_
 simp -implicitDefEqProofs (disch := omega) [wrap_id]
 refine c_split (fun hc => ?_) (fun hc => ?_)
 · have hy : y ≠ 0 := by
    intro e; subst e; simp at hc
   have hy2 : ((y : Int) == 0) = false := by rw [beq_eq_false_iff_ne]; omega
   have hy3 : (y : Int) ≠ 0 := by omega
   have er : (x : Int).tmod (y : Int) = ((x % y : Nat) : Int) := by rw [Int.tmod_eq_emod_of_nonneg (by omega)]; rfl
   have hl := Nat.mod_lt x (Nat.pos_of_ne_zero hy)
   simp -implicitDefEqProofs (disch := omega) [wrap_id,cmp2,nthT,hy,hy2,hy3,er]
   rw [hK0]
   refine next_eq (y,x % y) ⟨d2,by simp only; omega,by simp only; rw [gcd_step x y hy]; exact d3⟩ (by simp only; omega) rfl
 · have hy : y = 0 := by simpa using hc
   subst hy
   subst hK0
   rw [← d3,Nat.gcd_zero_right]
   simp -implicitDefEqProofs (disch := omega) [wrap_id]
end Go.AM

namespace Go.AM
open Go.RowKit Go.Proofs
theorem both_none {one two a o f m : Int} (h1 : one ∣ f) (h2 : two ∣ f) (hf : 1 ≤ f) (h : ∀ x,m ≤ x → x < m + f → ¬ Both one two a o x) : ∀ x,m ≤ x → ¬ Both one two a o x := fun x hx hb => by
 have e := Int.emod_add_mul_ediv (x - m) f
 have l0 := Int.emod_nonneg (x - m) (by omega : f ≠ 0)
 have l1 := Int.emod_lt_of_pos (x - m) (by omega : 0 < f)
 exact h (m + (x - m) % f) (by omega) (by omega) (both_mod h1 h2 hb ((x - m) / f) (by rw [Int.mul_comm ((x - m) / f) f]; omega))
theorem both_tmod {one two a o x : Int} (h1 : a ≤ x) (h2 : o ≤ x) : Both one two a o x ↔ (x - a).tmod one = 0 ∧ (x - o).tmod two = 0 := by
 unfold Both
 rw [Int.tmod_eq_emod_of_nonneg (by omega),Int.tmod_eq_emod_of_nonneg (by omega),Int.dvd_iff_emod_eq_zero,Int.dvd_iff_emod_eq_zero]
set_option maxHeartbeats 4000000 in
theorem r_Meet_ok (one two a o : Int) {n far e : Int} (hA : AnsM one two a o n far e) : PureOK Tryz.prog n_r_Meet [I one, I two, I a, I o] (.tup [I n, I far, I e]) := by
 refine pure_of (walk func_r_Meet form_r_Meet res_r_Meet (by show 4 ≤ _; decide) ?_)
 simp -implicitDefEqProofs (disch := omega) [G_r_Meet,wrap_id]
 by_cases hk : ¬ okM one two a o
 · obtain ⟨_,rfl,rfl,rfl⟩ : ¬ okM one two a o ∧ n = 0 ∧ far = 0 ∧ e = 2 := hA.resolve_right (fun h => hk h.1)
   have fin : ∀ (p : Prop),p → p := fun p h => h
   by_cases q1 : one < 1
   · simp -implicitDefEqProofs (disch := omega) [wrap_id,q1]
     exact tup3
   by_cases q2 : 50 < one
   · simp -implicitDefEqProofs (disch := omega) [wrap_id,q1,q2]
     exact tup3
   by_cases q3 : two < 1
   · simp -implicitDefEqProofs (disch := omega) [wrap_id,q1,q2,q3]
     exact tup3
   by_cases q4 : 50 < two
   · simp -implicitDefEqProofs (disch := omega) [wrap_id,q1,q2,q3,q4]
     exact tup3
   by_cases q5 : a < 0
   · simp -implicitDefEqProofs (disch := omega) [wrap_id,q1,q2,q3,q4,q5]
     exact tup3
   by_cases q6 : 500 < a
   · simp -implicitDefEqProofs (disch := omega) [wrap_id,q1,q2,q3,q4,q5,q6]
     exact tup3
   by_cases q7 : o < 0
   · simp -implicitDefEqProofs (disch := omega) [wrap_id,q1,q2,q3,q4,q5,q6,q7]
     exact tup3
   by_cases q8 : 500 < o
   · simp -implicitDefEqProofs (disch := omega) [wrap_id,q1,q2,q3,q4,q5,q6,q7,q8]
     exact tup3
   exact absurd ⟨⟨by omega,by omega⟩,⟨by omega,by omega⟩,⟨by omega,by omega⟩,by omega,by omega⟩ hk
 have hk : okM one two a o := Classical.not_not.1 hk
 obtain ⟨_,hA⟩ := hA.resolve_left (fun h => h.1 hk)
 obtain ⟨⟨o1,o2⟩,⟨t1,t2⟩,⟨a1,a2⟩,c1,c2⟩ := id hk
 have q1 : ¬ one < 1 := by omega
 have q2 : ¬ 50 < one := by omega
 have q3 : ¬ two < 1 := by omega
 have q4 : ¬ 50 < two := by omega
 have q5 : ¬ a < 0 := by omega
 have q6 : ¬ 500 < a := by omega
 have q7 : ¬ o < 0 := by omega
 have q8 : ¬ 500 < o := by omega
 obtain ⟨f1,f2,f3,f4,f5,f6⟩ := farM_ok ⟨o1,o2⟩ ⟨t1,t2⟩
 have GR := r_Greatest_ok one.toNat two.toNat (by omega) (by omega)
 rw [Int.toNat_of_nonneg (by omega),Int.toNat_of_nonneg (by omega)] at GR
 have eF : farM one two = one / (Nat.gcd one.toNat two.toNat : Nat) * two := rfl
 have gp : 0 < Nat.gcd one.toNat two.toNat := Nat.gcd_pos_of_pos_left _ (by omega)
 generalize Nat.gcd one.toNat two.toNat = G at *
 have g0 : (G : Int) ≠ 0 := by omega
 have eq : one.tdiv G = one / G := Int.tdiv_eq_ediv_of_nonneg (by omega)
 simp -implicitDefEqProofs (disch := omega) [wrap_id,q1,q2,q3,q4,q5,q6,q7,q8]
 refine callW_pure rfl GR ?_
 generalize one / (G : Int) = D at *
 generalize farM one two = F at *
 have m1 : 1 ≤ D * two := by omega
 have m2 : D * two ≤ 2500 := by omega
 simp -implicitDefEqProofs (disch := omega) [wrap_id,g0,eq]
 rw [← eF]
 obtain ⟨m,hm⟩ : ∃ m,max a o = m := ⟨_,rfl⟩
 have ma : a ≤ m := by omega
 have mo : o ≤ m := by omega
 have mm : m ≤ 500 := by omega
 rw [hm] at hA ⊢
 refine loop_eq (fun x : Int => ⟨[(0,I one),(1,I two),(2,I a),(3,I o),(11,I F),(12,I m),(13,I x)],[]⟩) (fun x => m ≤ x ∧ x ≤ m + F ∧ ∀ y,m ≤ y → y < x → ¬ Both one two a o y) (fun x => (m + F - x).toNat) m ⟨Int.le_refl _,by omega,fun y h1 h2 => by omega⟩ rfl ?_
 rintro x ⟨d1,d2,d3⟩
 refine hideK' fun K0 hK0 => ?_
 simp -implicitDefEqProofs (disch := omega) [wrap_id]
 refine c_split (fun hc => ?_) (fun hc => ?_)
 · have hx : x < m + F := by simpa using hc
   have bt := both_tmod (one := one) (two := two) (a := a) (o := o) (x := x) (by omega) (by omega)
   have n1 : one ≠ 0 := by omega
   have n2 : two ≠ 0 := by omega
   have nb : ¬ Both one two a o x → ∀ y,m ≤ y → y < x + 1 → ¬ Both one two a o y := fun h y h1 h2 => by
    by_cases e : y = x
    · rw [e]; exact h
    · exact d3 y h1 (by omega)
   by_cases r1 : (x - a).tmod one = 0
   · have r1' : ((x - a).tmod one == 0) = true := by simp [r1]
     by_cases r2 : (x - o).tmod two = 0
     · have r2' : ((x - o).tmod two == 0) = true := by simp [r2]
       have hb := bt.2 ⟨r1,r2⟩
       obtain ⟨rfl,rfl,rfl⟩ : n = x ∧ far = F ∧ e = 0 := by
        rcases hA with ⟨h1,_⟩ | ⟨h1,h2,h3,h4,h5⟩
        · exact absurd hb (h1 x d1)
        · refine ⟨?_,h4,h5⟩
          rcases Int.lt_trichotomy n x with h | h | h
          · exact absurd h2 (d3 n h1 h)
          · exact h
          · exact absurd hb (h3 x d1 h)
       subst hK0
       simp -implicitDefEqProofs (disch := omega) [wrap_id,n1,n2,r1',r2']
       exact tup3
     · have r2' : ((x - o).tmod two == 0) = false := by simp [r2]
       have nb := nb fun h => r2 (bt.1 h).2
       simp -implicitDefEqProofs (disch := omega) [wrap_id,n1,n2,r1',r2']
       rw [hK0]
       exact next_eq (x + 1) ⟨by omega,by omega,nb⟩ (by omega) rfl
   · have r1' : ((x - a).tmod one == 0) = false := by simp [r1]
     have nb := nb fun h => r1 (bt.1 h).1
     simp -implicitDefEqProofs (disch := omega) [wrap_id,n1,n2,r1']
     rw [hK0]
     exact next_eq (x + 1) ⟨by omega,by omega,nb⟩ (by omega) rfl
 · have hx : x = m + F := by simp at hc; omega
   subst hK0
   have none := both_none f1 f2 f3 (fun y h1 h2 => d3 y h1 (by omega))
   obtain ⟨rfl,rfl,rfl⟩ : n = 0 ∧ far = 0 ∧ e = 5 := by
    rcases hA with ⟨_,h⟩ | ⟨h1,h2,_⟩
    · exact h
    · exact absurd h2 (none n h1)
   simp -implicitDefEqProofs (disch := omega) [wrap_id]
   exact tup3
end Go.AM

namespace Go.AM
open Go.RowKit Go.Proofs
theorem ansM_ex (one two a o : Int) : ∃ n far e,AnsM one two a o n far e := by
 by_cases hk : okM one two a o
 · by_cases h : ∃ x,max a o ≤ x ∧ Both one two a o x
   · obtain ⟨x,h1,h2⟩ := h
     obtain ⟨j,_,h3,h4⟩ := leastN (P := fun k : Nat => Both one two a o (max a o + (k : Int))) (k := (x - max a o).toNat) (by show Both one two a o (max a o + (((x - max a o).toNat : Nat) : Int)); rw [Int.toNat_of_nonneg (by omega),show max a o + (x - max a o) = x from by omega]; exact h2)
     refine ⟨max a o + (j : Int),_,_,.inr ⟨hk,.inr ⟨by omega,h3,fun y h5 h6 h7 => ?_,rfl,rfl⟩⟩⟩
     exact h4 (y - max a o).toNat (by omega) (by rw [Int.toNat_of_nonneg (by omega),show max a o + (y - max a o) = y from by omega]; exact h7)
   · exact ⟨0,0,5,.inr ⟨hk,.inl ⟨fun x h1 h2 => h ⟨x,h1,h2⟩,rfl,rfl,rfl⟩⟩⟩
 · exact ⟨0,0,2,.inl ⟨hk,rfl,rfl,rfl⟩⟩
theorem ansM_rng {one two a o n far e : Int} (h : AnsM one two a o n far e) : 0 ≤ n ∧ n ≤ 3000 ∧ 0 ≤ far ∧ far ≤ 2500 := by
 rcases h with ⟨_,rfl,rfl,_⟩ | ⟨hk,⟨_,rfl,rfl,_⟩ | ⟨h1,h2,h3,rfl,_⟩⟩
 · omega
 · omega
 · obtain ⟨k1,k2,k3,k4⟩ := hk
   obtain ⟨f1,f2,f3,f4,_⟩ := farM_ok k1 k2
   have : n < max a o + farM one two := by
    apply Classical.byContradiction
    intro h
    exact h3 (n - farM one two) (by omega) (by omega) (both_mod f1 f2 h2 1 (by omega))
   omega
end Go.AM

set_option maxRecDepth 100000
namespace Go.AM
open Go.RowKit Go.Proofs
abbrev n_l_CombMet : Nat := 14
def G_l_CombMet : AC := (.seq (.rgn [⟨none,[(.mv 10 (.k (B false)))]⟩] [0,1,2,3,4]) (.seq (.rgn [⟨none,[(.mv 20 (.t 0)),(.mv 21 (.t 1)),(.mv 22 (.t 2)),(.mv 23 (.t 3)),(.call 24 43 [(.t 20),(.t 21),(.t 22),(.t 23)]),(.mv 19 (.t 24)),(.ext 25 (.t 19) 0),(.ext 26 (.t 19) 1),(.ext 27 (.t 19) 2),(.mv 11 (.t 25)),(.mv 12 (.t 26)),(.mv 13 (.t 27))]⟩] [0,1,2,3,4,11,12,13]) (.seq (.seq (.rgn [⟨none,[(.mv 28 (.t 13)),(.bin 29 .neq (.t 28) (.k (I 0))),(.mv 30 (.t 29))]⟩,⟨(some (30,true)),[(.mv 31 (.t 13)),(.bin 32 .neq (.t 31) (.k (I 5)))]⟩,⟨none,[(.pick 33 (.t 30) (.t 32) (.k (B false)))]⟩] [0,1,2,3,4,11,12,13,33]) (.cond (.t 33) (.seq (.rgn [⟨none,[(.mv 35 (.t 0)),(.mv 36 (.t 1)),(.mv 37 (.t 2)),(.mv 38 (.t 3)),(.call 39 44 [(.t 35),(.t 36),(.t 37),(.t 38)]),(.mv 34 (.t 39)),(.ext 40 (.t 34) 0),(.ext 41 (.t 34) 1),(.ext 42 (.t 34) 2),(.mv 14 (.t 40)),(.mv 15 (.t 41)),(.mv 16 (.t 42))]⟩] [13,16]) (.seq (.rgn [⟨none,[(.mv 43 (.t 13)),(.bin 44 .eql (.t 43) (.k (I 2))),(.mv 45 (.t 44))]⟩,⟨(some (45,true)),[(.mv 46 (.t 16)),(.bin 47 .eql (.t 46) (.k (I 2)))]⟩,⟨none,[(.pick 48 (.t 45) (.t 47) (.k (B false))),(.mv 49 (.t 48))]⟩,⟨(some (49,true)),[(.call 50 17 [])]⟩,⟨none,[(.pick 51 (.t 49) (.t 50) (.k (B false))),(.mv 10 (.t 51))]⟩] [10]) .ret)) .skip)) (.seq (.seq (.rgn [⟨none,[(.mv 52 (.t 0)),(.bin 53 .lss (.t 52) (.k (I 1))),(.mv 54 (.t 53))]⟩,⟨(some (54,false)),[(.mv 55 (.t 0)),(.bin 56 .gtr (.t 55) (.k (I 50)))]⟩,⟨none,[(.pick 57 (.t 54) (.k (B true)) (.t 56)),(.mv 58 (.t 57))]⟩,⟨(some (58,false)),[(.mv 59 (.t 1)),(.bin 60 .lss (.t 59) (.k (I 1)))]⟩,⟨none,[(.pick 61 (.t 58) (.k (B true)) (.t 60)),(.mv 62 (.t 61))]⟩,⟨(some (62,false)),[(.mv 63 (.t 1)),(.bin 64 .gtr (.t 63) (.k (I 50)))]⟩,⟨none,[(.pick 65 (.t 62) (.k (B true)) (.t 64)),(.mv 66 (.t 65))]⟩,⟨(some (66,false)),[(.mv 67 (.t 2)),(.bin 68 .lss (.t 67) (.k (I 0)))]⟩,⟨none,[(.pick 69 (.t 66) (.k (B true)) (.t 68)),(.mv 70 (.t 69))]⟩,⟨(some (70,false)),[(.mv 71 (.t 2)),(.bin 72 .gtr (.t 71) (.k (I 500)))]⟩,⟨none,[(.pick 73 (.t 70) (.k (B true)) (.t 72)),(.mv 74 (.t 73))]⟩,⟨(some (74,false)),[(.mv 75 (.t 3)),(.bin 76 .lss (.t 75) (.k (I 0)))]⟩,⟨none,[(.pick 77 (.t 74) (.k (B true)) (.t 76)),(.mv 78 (.t 77))]⟩,⟨(some (78,false)),[(.mv 79 (.t 3)),(.bin 80 .gtr (.t 79) (.k (I 500)))]⟩,⟨none,[(.pick 81 (.t 78) (.k (B true)) (.t 80))]⟩] [0,1,2,3,4,11,12,13,81]) (.cond (.t 81) (.seq (.rgn [⟨none,[(.mv 10 (.k (B false)))]⟩] [10]) .ret) .skip)) (.seq (.rgn [⟨none,[(.mv 82 (.t 0)),(.mv 83 (.t 1)),(.call 84 55 [(.t 82),(.t 83)]),(.mv 17 (.t 84))]⟩] [0,1,2,3,4,11,12,13,17]) (.seq (.seq (.rgn [⟨none,[(.mv 85 (.t 13)),(.bin 86 .neq (.t 85) (.k (I 0)))]⟩] [0,1,2,3,4,11,12,17,86]) (.cond (.t 86) (.seq (.rgn [⟨none,[(.mv 87 (.t 2)),(.mv 88 (.t 3)),(.bin 89 .sub (.t 87) (.t 88)),(.mv 90 (.t 17)),(.bin 91 .rem (.t 89) (.t 90)),(.bin 92 .neq (.t 91) (.k (I 0))),(.mv 93 (.t 92))]⟩,⟨(some (93,true)),[(.mv 94 (.t 11)),(.bin 95 .eql (.t 94) (.k (I 0)))]⟩,⟨none,[(.pick 96 (.t 93) (.t 95) (.k (B false))),(.mv 97 (.t 96))]⟩,⟨(some (97,true)),[(.mv 98 (.t 12)),(.bin 99 .eql (.t 98) (.k (I 0)))]⟩,⟨none,[(.pick 100 (.t 97) (.t 99) (.k (B false))),(.mv 101 (.t 100))]⟩,⟨(some (101,true)),[(.call 102 17 [])]⟩,⟨none,[(.pick 103 (.t 101) (.t 102) (.k (B false))),(.mv 10 (.t 103))]⟩] [10]) .ret) .skip)) (.seq (.rgn [⟨none,[(.mv 104 (.t 11)),(.bin 105 .sub (.t 104) (.k (I 1))),(.mv 106 (.t 4)),(.cnv 107 .i64 (.t 106)),(.bin 108 .sub (.t 105) (.t 107)),(.mv 18 (.t 108))]⟩] [0,1,2,3,11,12,17,18]) (.seq (.seq (.rgn [⟨none,[(.mv 109 (.t 2)),(.mv 110 (.t 3)),(.bin 111 .sub (.t 109) (.t 110)),(.mv 112 (.t 17)),(.bin 113 .rem (.t 111) (.t 112)),(.bin 114 .neq (.t 113) (.k (I 0))),(.mv 115 (.t 114))]⟩,⟨(some (115,false)),[(.mv 116 (.t 12)),(.mv 117 (.t 0)),(.mv 118 (.t 17)),(.bin 119 .quo (.t 117) (.t 118)),(.mv 120 (.t 1)),(.bin 121 .mul (.t 119) (.t 120)),(.bin 122 .neq (.t 116) (.t 121))]⟩,⟨none,[(.pick 123 (.t 115) (.k (B true)) (.t 122)),(.mv 124 (.t 123))]⟩,⟨(some (124,false)),[(.mv 125 (.t 11)),(.mv 126 (.t 2)),(.mv 127 (.t 3)),(.mx 128 true (.t 126) (.t 127)),(.bin 129 .lss (.t 125) (.t 128))]⟩,⟨none,[(.pick 130 (.t 124) (.k (B true)) (.t 129)),(.mv 131 (.t 130))]⟩,⟨(some (131,false)),[(.mv 132 (.t 11)),(.mv 133 (.t 2)),(.mv 134 (.t 3)),(.mx 135 true (.t 133) (.t 134)),(.mv 136 (.t 12)),(.bin 137 .add (.t 135) (.t 136)),(.bin 138 .geq (.t 132) (.t 137))]⟩,⟨none,[(.pick 139 (.t 131) (.k (B true)) (.t 138)),(.mv 140 (.t 139))]⟩,⟨(some (140,false)),[(.mv 141 (.t 11)),(.mv 142 (.t 2)),(.bin 143 .sub (.t 141) (.t 142)),(.mv 144 (.t 0)),(.bin 145 .rem (.t 143) (.t 144)),(.bin 146 .neq (.t 145) (.k (I 0)))]⟩,⟨none,[(.pick 147 (.t 140) (.k (B true)) (.t 146)),(.mv 148 (.t 147))]⟩,⟨(some (148,false)),[(.mv 149 (.t 11)),(.mv 150 (.t 3)),(.bin 151 .sub (.t 149) (.t 150)),(.mv 152 (.t 1)),(.bin 153 .rem (.t 151) (.t 152)),(.bin 154 .neq (.t 153) (.k (I 0)))]⟩,⟨none,[(.pick 155 (.t 148) (.k (B true)) (.t 154))]⟩] [0,1,2,3,18,155]) (.cond (.t 155) (.seq (.rgn [⟨none,[(.mv 10 (.k (B false)))]⟩] [10]) .ret) .skip)) (.seq (.rgn [⟨none,[(.mv 156 (.t 18)),(.mv 157 (.t 2)),(.mv 158 (.t 3)),(.mx 159 true (.t 157) (.t 158)),(.bin 160 .lss (.t 156) (.t 159)),(.mv 161 (.t 160))]⟩,⟨(some (161,false)),[(.mv 162 (.t 18)),(.mv 163 (.t 2)),(.bin 164 .sub (.t 162) (.t 163)),(.mv 165 (.t 0)),(.bin 166 .rem (.t 164) (.t 165)),(.bin 167 .neq (.t 166) (.k (I 0)))]⟩,⟨none,[(.pick 168 (.t 161) (.k (B true)) (.t 167)),(.mv 169 (.t 168))]⟩,⟨(some (169,false)),[(.mv 170 (.t 18)),(.mv 171 (.t 3)),(.bin 172 .sub (.t 170) (.t 171)),(.mv 173 (.t 1)),(.bin 174 .rem (.t 172) (.t 173)),(.bin 175 .neq (.t 174) (.k (I 0)))]⟩,⟨none,[(.pick 176 (.t 169) (.k (B true)) (.t 175)),(.mv 177 (.t 176))]⟩,⟨(some (177,true)),[(.call 178 17 [])]⟩,⟨none,[(.pick 179 (.t 177) (.t 178) (.k (B false))),(.mv 10 (.t 179))]⟩] [10]) .ret)))))))))
theorem func_l_CombMet : Tryz.prog.funcs[n_l_CombMet]? = some Tryz.f14 := Tryz.func14
theorem form_l_CombMet : formOf Tryz.prog Tryz.f14 [10] = some G_l_CombMet := by kernel_rfl
theorem res_l_CombMet : resTmps Tryz.f14.results.toList = some [10] := by kernel_rfl
end Go.AM

namespace Go.AM
open Go.RowKit Go.Proofs
set_option maxHeartbeats 8000000 in
theorem lawMet (one two a o : Int) {b : Int} (hb : 0 ≤ b ∧ b ≤ 65535) : PureOK Tryz.prog n_l_CombMet [I one,I two,I a,I o,.v (.int .u16 b)] (B true) := by
 obtain ⟨n,far,e,hA⟩ := ansM_ex one two a o
 obtain ⟨rn1,rn2,rf1,rf2⟩ := ansM_rng hA
 refine pure_of (walk func_l_CombMet form_l_CombMet res_l_CombMet (by show 5 ≤ _; decide) ?_)
 simp -implicitDefEqProofs (disch := omega) [G_l_CombMet,wrap_id]
 refine callW_pure rfl (k_Meet_ok one two a o hA) ?_
 rcases hA with ⟨hk,rfl,rfl,rfl⟩ | ⟨hk,hA⟩
 · simp -implicitDefEqProofs (disch := omega) [wrap_id]
   refine callW_pure rfl (r_Meet_ok one two a o (.inl ⟨hk,rfl,rfl,rfl⟩)) ?_
   simp -implicitDefEqProofs (disch := omega) [wrap_id]
   refine callW_pure rfl lk_Works_ok ?_
   simp -implicitDefEqProofs (disch := omega) [wrap_id]
 obtain ⟨⟨k1,k2⟩,⟨k3,k4⟩,⟨k5,k6⟩,k7,k8⟩ := hk
 obtain ⟨p,rfl⟩ : ∃ p : Nat,one = p := ⟨one.toNat,by omega⟩
 obtain ⟨q,rfl⟩ : ∃ q : Nat,two = q := ⟨two.toNat,by omega⟩
 have t1 : ((p : Int) < 1) = False := by simp only [eq_iff_iff,iff_false]; omega
 have t2 : ((50 : Int) < (p : Int)) = False := by simp only [eq_iff_iff,iff_false]; omega
 have t3 : ((q : Int) < 1) = False := by simp only [eq_iff_iff,iff_false]; omega
 have t4 : ((50 : Int) < (q : Int)) = False := by simp only [eq_iff_iff,iff_false]; omega
 have t5 : (a < 0) = False := by simp only [eq_iff_iff,iff_false]; omega
 have t6 : ((500 : Int) < a) = False := by simp only [eq_iff_iff,iff_false]; omega
 have t7 : (o < 0) = False := by simp only [eq_iff_iff,iff_false]; omega
 have t8 : ((500 : Int) < o) = False := by simp only [eq_iff_iff,iff_false]; omega
 have gp : 0 < Nat.gcd p q := Nat.gcd_pos_of_pos_left _ (by omega)
 have gl : Nat.gcd p q ≤ p := Nat.le_of_dvd (by omega) (Nat.gcd_dvd_left p q)
 have d1 : ((Nat.gcd p q : Nat) : Int) ∣ (p : Int) := Int.natCast_dvd_natCast.2 (Nat.gcd_dvd_left p q)
 have d2 : ((Nat.gcd p q : Nat) : Int) ∣ (q : Int) := Int.natCast_dvd_natCast.2 (Nat.gcd_dvd_right p q)
 have rg := r_Greatest_ok p q (by omega) (by omega)
 have u1 : ¬ p < 1 := by omega
 have u2 : ¬ 50 < p := by omega
 have u3 : ¬ q < 1 := by omega
 have u4 : ¬ 50 < q := by omega
 rcases hA with ⟨hno,rfl,rfl,rfl⟩ | ⟨h1,h2,h3,rfl,rfl⟩
 · have nd : ¬ ((Nat.gcd p q : Nat) : Int) ∣ a - o := fun h => by
    obtain ⟨x,x1,x2⟩ := both_ex (p := p) (q := q) (m := max a o) ⟨by omega,by omega⟩ ⟨by omega,by omega⟩ (by omega) k5 h
    exact hno x x1 x2
   generalize Nat.gcd p q = G at *
   have nm : ((a - o).tmod (G : Int) != 0) = true := by
    rw [bne_iff_ne]
    exact fun h => nd (Int.dvd_of_tmod_eq_zero h)
   simp -implicitDefEqProofs (disch := omega) [wrap_id,t1,t2,t3,t4,t5,t6,t7,t8,u1,u2,u3,u4]
   refine callW_pure rfl rg ?_
   simp -implicitDefEqProofs (disch := omega) [wrap_id,nm]
   refine callW_pure rfl lk_Works_ok ?_
   simp -implicitDefEqProofs (disch := omega) [wrap_id]
 · have dd := both_gcd d1 d2 h2
   have fm := farM_ok (one := (p : Int)) (two := (q : Int)) ⟨by omega,by omega⟩ ⟨by omega,by omega⟩
   obtain ⟨f1,f2,f3,f4,_⟩ := fm
   have hlt : n < max a o + farM p q := by
    refine Classical.byContradiction fun hh => ?_
    exact h3 (n - farM p q) (by omega) (by omega) (both_mod f1 f2 h2 1 (by omega))
   have hf : farM p q = (p : Int).tdiv ((Nat.gcd p q : Nat) : Int) * q := by
    unfold farM
    rw [Int.toNat_natCast,Int.toNat_natCast,Int.tdiv_eq_ediv_of_nonneg (by omega)]
   have bt := (both_tmod (one := (p : Int)) (two := (q : Int)) (a := a) (o := o) (x := n) (by omega) (by omega)).1 h2
   have kb : ∀ k,max a o ≤ k → k < n → ¬ ((k - a).tmod p = 0 ∧ (k - o).tmod q = 0) := fun k x1 x2 x3 => h3 k x1 x2 ((both_tmod (by omega) (by omega)).2 x3)
   have m0 : (a - o).tmod ((Nat.gcd p q : Nat) : Int) = 0 := Int.tmod_eq_zero_of_dvd dd
   have qd : 0 ≤ (p : Int).tdiv ((Nat.gcd p q : Nat) : Int) ∧ (p : Int).tdiv ((Nat.gcd p q : Nat) : Int) ≤ 50 := by
    rw [Int.tdiv_eq_ediv_of_nonneg (by omega)]
    have := Int.ediv_le_self (a := (p : Int)) ((Nat.gcd p q : Nat) : Int) (by omega)
    exact ⟨Int.ediv_nonneg (by omega) (by omega),by omega⟩
   generalize Nat.gcd p q = G at *
   generalize hD : (p : Int).tdiv (G : Int) = D at *
   rw [hf] at rf1 rf2 hlt f4 ⊢
   generalize hX : D * (q : Int) = X at *
   simp -implicitDefEqProofs (disch := omega) [wrap_id,t1,t2,t3,t4,t5,t6,t7,t8,u1,u2,u3,u4]
   refine callW_pure rfl rg ?_
   simp -implicitDefEqProofs (disch := omega) [wrap_id,m0,hD,hX]
   have c1 : (n < max a o) = False := by simp only [eq_iff_iff,iff_false]; omega
   have c2 : (max a o + X ≤ n) = False := by simp only [eq_iff_iff,iff_false]; omega
   obtain ⟨bt1,bt2⟩ := bt
   simp -implicitDefEqProofs (disch := omega) [wrap_id,c1,c2,bt1,bt2]
   have hk0 : max a o ≤ n - 1 - b → ¬ ((n - 1 - b - a).tmod p = 0 ∧ (n - 1 - b - o).tmod q = 0) := fun x => kb _ x (by omega)
   by_cases hk : n - 1 - b < max a o
   · have hk' : (n - 1 - b < max a o) = True := by simp only [eq_iff_iff,iff_true]; exact hk
     simp -implicitDefEqProofs (disch := omega) [wrap_id,hk']
     refine callW_pure rfl lk_Works_ok ?_
     simp -implicitDefEqProofs (disch := omega) [wrap_id]
   · have hk' : (n - 1 - b < max a o) = False := by simp only [eq_iff_iff,iff_false]; exact hk
     have hk1 := hk0 (by omega)
     by_cases e1 : (n - 1 - b - a).tmod p = 0
     · have e2 : ((n - 1 - b - o).tmod q != 0) = true := by rw [bne_iff_ne]; exact fun h => hk1 ⟨e1,h⟩
       simp -implicitDefEqProofs (disch := omega) [wrap_id,hk',e1,e2]
       refine callW_pure rfl lk_Works_ok ?_
       simp -implicitDefEqProofs (disch := omega) [wrap_id]
     · have e2 : ((n - 1 - b - a).tmod p != 0) = true := by rw [bne_iff_ne]; exact e1
       simp -implicitDefEqProofs (disch := omega) [wrap_id,hk',e2]
       refine callW_pure rfl lk_Works_ok ?_
       simp -implicitDefEqProofs (disch := omega) [wrap_id]
end Go.AM
