/-
  THE COMPILED FORMS of functions of the program, each held against its body by the kernel. Own work (printed by a program of this claim).
  WHAT THE CODE ANSWERS, PART 19: Spine. Own work.
  THE COMPILED FORMS of functions of the program, each held against its body by the kernel. Own work (printed by a program of this claim).
  LAWS, PART 1: StrokeBenches. Own work.
  LAWS: StrokeRounds. Own work.
-/
import Derived.Test.YtjhfhdmdilmplaaKq13
import Derived.Test.YtjhfhdmdilmplaaProg

/- THE COMPILED FORMS of functions of the program, each held against its body by the kernel. Own work (printed by a program of this claim). -/
set_option maxRecDepth 100000
namespace Go.AM
open Go.RowKit Go.Proofs

/-- oxgall/oxgalllaw02.StrokeRounds -/
def G6 : AC := (.seq (.rgn [⟨none, [(.box 3 2 (.t 0)), (.mv 6 (.k (B false)))]⟩] [1, 2, 3]) (.seq (.seq (.rgn [⟨none, [(.ld 23 true 2 (.t 3)), (.call 24 18 [(.t 23)]), (.mv 25 (.t 24))]⟩, ⟨(some (25, false)), [(.mv 26 (.t 1)), (.len 27 (.t 26)), (.bin 28 .gtr (.t 27) (.k (I 70)))]⟩, ⟨none, [(.pick 29 (.t 25) (.k (B true)) (.t 28)), (.mv 30 (.t 29))]⟩, ⟨(some (30, false)), [(.mv 31 (.t 2)), (.len 32 (.t 31)), (.bin 33 .gtr (.t 32) (.k (I 70)))]⟩, ⟨none, [(.pick 34 (.t 30) (.k (B true)) (.t 33))]⟩] [1, 2, 3, 34]) (.cond (.t 34) (.seq (.rgn [⟨none, [(.call 35 19 []), (.mv 6 (.t 35))]⟩] [6]) .ret) .skip)) (.seq (.rgn [⟨none, [(.ld 37 true 2 (.t 3)), (.mv 38 (.t 1)), (.call 39 32 [(.t 37), (.t 38)]), (.mv 36 (.t 39)), (.ext 40 (.t 36) 0), (.ext 41 (.t 36) 1), (.mv 7 (.t 40)), (.mv 8 (.t 41))]⟩] [1, 2, 3, 7, 8]) (.seq (.rgn [⟨none, [(.ld 43 true 2 (.t 3)), (.mv 44 (.t 1)), (.call 45 33 [(.t 43), (.t 44)]), (.mv 42 (.t 45)), (.ext 46 (.t 42) 0), (.ext 47 (.t 42) 1), (.mv 9 (.t 46)), (.mv 10 (.t 47))]⟩] [1, 2, 3, 7, 8, 9, 10]) (.seq (.rgn [⟨none, [(.ld 49 true 2 (.t 3)), (.mv 50 (.t 1)), (.call 51 34 [(.t 49), (.t 50)]), (.mv 48 (.t 51)), (.ext 52 (.t 48) 0), (.ext 53 (.t 48) 1), (.mv 11 (.t 52)), (.mv 12 (.t 53))]⟩] [1, 2, 3, 7, 8, 9, 10, 11, 12]) (.seq (.rgn [⟨none, [(.ld 55 true 2 (.t 3)), (.mv 56 (.t 1)), (.call 57 35 [(.t 55), (.t 56)]), (.mv 54 (.t 57)), (.ext 58 (.t 54) 0), (.ext 59 (.t 54) 1), (.mv 13 (.t 58)), (.mv 14 (.t 59))]⟩] [1, 2, 3, 7, 8, 9, 10, 11, 12, 13, 14]) (.seq (.rgn [⟨none, [(.ld 61 true 2 (.t 3)), (.mv 62 (.t 1)), (.mv 63 (.t 2)), (.call 64 36 [(.t 61), (.t 62), (.t 63)]), (.mv 60 (.t 64)), (.ext 65 (.t 60) 0), (.ext 66 (.t 60) 1), (.mv 15 (.t 65)), (.mv 16 (.t 66))]⟩] [1, 2, 3, 7, 8, 9, 10, 11, 12, 13, 14, 15, 16]) (.seq (.rgn [⟨none, [(.ld 68 true 2 (.t 3)), (.mv 69 (.t 1)), (.mv 70 (.t 2)), (.call 71 37 [(.t 68), (.t 69), (.t 70)]), (.mv 67 (.t 71)), (.ext 72 (.t 67) 0), (.ext 73 (.t 67) 1), (.mv 17 (.t 72)), (.mv 18 (.t 73))]⟩] [1, 3, 7, 8, 9, 10, 11, 12, 13, 14, 15, 16, 17, 18]) (.seq (.rgn [⟨none, [(.ld 75 true 2 (.t 3)), (.mv 76 (.t 1)), (.call 77 38 [(.t 75), (.t 76)]), (.mv 74 (.t 77)), (.ext 78 (.t 74) 0), (.ext 79 (.t 74) 1), (.mv 19 (.t 78)), (.mv 20 (.t 79))]⟩] [1, 3, 7, 8, 9, 10, 11, 12, 13, 14, 15, 16, 17, 18, 19, 20]) (.seq (.seq (.rgn [⟨none, [(.mv 80 (.t 7)), (.mv 81 (.t 9)), (.call 82 26 [(.t 80), (.t 81)]), (.un 83 .not (.t 82)), (.mv 84 (.t 83))]⟩, ⟨(some (84, false)), [(.mv 85 (.t 8)), (.mv 86 (.t 10)), (.bin 87 .neq (.t 85) (.t 86))]⟩, ⟨none, [(.pick 88 (.t 84) (.k (B true)) (.t 87)), (.mv 89 (.t 88))]⟩, ⟨(some (89, false)), [(.mv 90 (.t 11)), (.mv 91 (.t 13)), (.call 92 39 [(.t 90), (.t 91)]), (.un 93 .not (.t 92))]⟩, ⟨none, [(.pick 94 (.t 89) (.k (B true)) (.t 93)), (.mv 95 (.t 94))]⟩, ⟨(some (95, false)), [(.mv 96 (.t 12)), (.mv 97 (.t 14)), (.bin 98 .neq (.t 96) (.t 97))]⟩, ⟨none, [(.pick 99 (.t 95) (.k (B true)) (.t 98)), (.mv 100 (.t 99))]⟩, ⟨(some (100, false)), [(.mv 101 (.t 15)), (.mv 102 (.t 17)), (.bin 103 .neq (.t 101) (.t 102))]⟩, ⟨none, [(.pick 104 (.t 100) (.k (B true)) (.t 103)), (.mv 105 (.t 104))]⟩, ⟨(some (105, false)), [(.mv 106 (.t 16)), (.mv 107 (.t 18)), (.bin 108 .neq (.t 106) (.t 107))]⟩, ⟨none, [(.pick 109 (.t 105) (.k (B true)) (.t 108)), (.mv 110 (.t 109))]⟩, ⟨(some (110, false)), [(.mv 111 (.t 20)), (.mv 112 (.t 14)), (.bin 113 .neq (.t 111) (.t 112))]⟩, ⟨none, [(.pick 114 (.t 110) (.k (B true)) (.t 113))]⟩] [1, 3, 13, 14, 19, 114]) (.cond (.t 114) (.seq (.rgn [⟨none, [(.mv 6 (.k (B false)))]⟩] [6]) .ret) .skip)) (.seq (.seq (.rgn [⟨none, [(.mv 115 (.t 14)), (.bin 116 .neq (.t 115) (.k (I 0)))]⟩] [1, 3, 13, 19, 116]) (.cond (.t 116) (.seq (.rgn [⟨none, [(.mv 117 (.t 19)), (.len 118 (.t 117)), (.bin 119 .eql (.t 118) (.k (I 0))), (.mv 120 (.t 119))]⟩, ⟨(some (120, true)), [(.call 121 19 [])]⟩, ⟨none, [(.pick 122 (.t 120) (.t 121) (.k (B false))), (.mv 6 (.t 122))]⟩] [6]) .ret) .skip)) (.seq (.rgn [⟨none, [(.ld 124 true 2 (.t 3)), (.mv 125 (.t 1)), (.mv 126 (.t 19)), (.call 127 37 [(.t 124), (.t 125), (.t 126)]), (.mv 123 (.t 127)), (.ext 128 (.t 123) 0), (.ext 129 (.t 123) 1), (.mv 21 (.t 128)), (.mv 22 (.t 129))]⟩] [13, 21, 22]) (.seq (.rgn [⟨none, [(.mv 130 (.t 22)), (.bin 131 .eql (.t 130) (.k (I 0))), (.mv 132 (.t 131))]⟩, ⟨(some (132, true)), [(.mv 133 (.t 21)), (.mv 134 (.t 13)), (.len 135 (.t 134)), (.bin 136 .eql (.t 133) (.t 135))]⟩, ⟨none, [(.pick 137 (.t 132) (.t 136) (.k (B false))), (.mv 138 (.t 137))]⟩, ⟨(some (138, true)), [(.call 139 19 [])]⟩, ⟨none, [(.pick 140 (.t 138) (.t 139) (.k (B false))), (.mv 6 (.t 140))]⟩] [6]) .ret)))))))))))))
theorem form6 : formOf Try.prog Try.f6 [6] = some G6 := by kernel_rfl
theorem res6 : resTmps Try.f6.results.toList = some [6] := by kernel_rfl

end Go.AM

/- WHAT THE CODE ANSWERS, PART 19: Spine. Own work. -/
set_option linter.unusedSimpArgs false
set_option linter.unusedVariables false
namespace Go.AM
open Go.RowKit Go.Proofs

def spineFR (b : Bch) (l : List Int) : List Int := if chkL b l ≠ 0 then [] else spineL b (form b l)

/-- A table under way. -/
def padT (l : List Int) (n : Nat) : List Int := l ++ List.replicate (n - l.length) 0

theorem padT_len {l : List Int} {n : Nat} (h : l.length ≤ n) : (padT l n).length = n := by simp [padT]; omega
theorem padT_set {l : List Int} {n i : Nat} {a : Int} (h : l.length = i) (hi : i < n) : (padT l n).set i a = padT (l ++ [a]) n := by
  subst h
  unfold padT
  obtain ⟨m, hm⟩ : ∃ m, n - l.length = m + 1 := ⟨n - l.length - 1, by omega⟩
  rw [hm, List.set_append_right _ _ (Nat.le_refl _)]
  have : n - (l ++ [a]).length = m := by simp; omega
  rw [this, Nat.sub_self]
  simp [List.replicate_succ]
theorem padT_put {l : List Int} {n i : Nat} {a c : Int} (h : l.length = i) (hi : i < n) : (padT (l ++ [a]) n).set i c = padT (l ++ [c]) n := by
  rw [← padT_set h hi, ← padT_set h hi, List.set_set]
theorem padT_at {l : List Int} {n j : Nat} (h : l.length ≤ n) (hj : j < l.length) (hj' : j < (padT l n).length) : (padT l n)[j] = l.getD j 0 := by
  simp only [padT]
  rw [List.getElem_append_left hj]
  simp [hj]

theorem Lf_top {b : Bch} {w : List Int} : ∀ i : Nat, Lf b w i ≤ i + 1 := by
  intro i
  induction i using Nat.strongRecOn with
  | ind i ih =>
    rcases (Lf_spec (b := b) (w := w) i).2.2 with ⟨_, h⟩ | ⟨j, h1, _, _, h2⟩
    · omega
    · have := ih j h1; omega

set_option maxHeartbeats 1000000 in
theorem spine_w (f g : Bool) (b : Bch) (l : List Int) (hb : b.c.length ≤ 1000000) (hl : l.length ≤ 1000000) : PureOK Try.prog 38 [Bn f b, Ls g l] (.tup [Ls (spineFR b l).isEmpty (spineFR b l), I (chkL b l)]) := by
  refine pure_of (walk Try.func38 form38 res38 (by show 2 ≤ _; decide) ?_)
  simp (disch := omega) [G38, wrap_id]
  refine bsl_of (ys := [Ls g l]) rfl rfl ?_
  simp (disch := omega) [wrap_id, zrep]
  refine callW_pure rfl (open1_ok f true g b l hb hl) ?_
  by_cases hc : chkL b l = 0
  · obtain ⟨s1, l1⟩ := chkL_S8 hc
    have x1 := form_len b l
    have sw := form_S8 (b := b) s1
    have e : spineFR b l = spineL b (form b l) := by unfold spineFR; rw [if_neg (by simp [hc])]
    rw [e, hc]
    simp (disch := omega) [wrap_id, openAV]
    refine callW_pure rfl (form_c f g b l s1 hl) ?_
    generalize hfe : (form b l).isEmpty = fe
    generalize form b l = w at *
    simp (disch := omega) [wrap_id]
    have hw : w.length ≤ 60 := by omega
    refine ⟨w.length, rfl, rfl, by omega, by omega, rfl, ?_⟩
    simp (disch := omega) [wrap_id]
    refine ⟨w.length, rfl, rfl, by omega, by omega, rfl, ?_⟩
    simp (disch := omega) [wrap_id]
    have z0 : zrep w.length [I 0] = (padT [] w.length).map fun n => I n := by rw [zrep_one]; simp [padT]
    rw [z0]
    refine loop_eq (fun i : Nat => ⟨[(6, .ptr (TB f b) 0), (8, Ls fe w), (9, .ms 1 0 w.length 1), (10, .ms 2 0 w.length 1), (11, I (dpLast b w i)), (35, I (w.length : Int)), (36, I (i : Int))],
        [.cells [I b.L, Ps f b.c], .cells ((padT (dpL b w i) w.length).map fun n => I n), .cells ((padT (dpP b w i) w.length).map fun n => I n)]⟩)
      (fun i => i ≤ w.length) (fun i => w.length - i) 0 (Nat.zero_le _) rfl ?_
    intro i hi
    refine hideK' fun K0 hK0 => ?_
    simp (disch := omega) [wrap_id]
    refine c_split (fun hc => ?_) (fun hc => ?_)
    · have hi : i < w.length := by simp at hc; omega
      have ll := dpL_len b w i
      have lp := dpP_len b w i
      have nL : ∀ a : Int, (padT (dpL b w i ++ [a]) w.length).length = w.length := fun a => padT_len (by simp; omega)
      have nP : ∀ a : Int, (padT (dpP b w i ++ [a]) w.length).length = w.length := fun a => padT_len (by simp; omega)
      have nL0 : (padT (dpL b w i) w.length).length = w.length := padT_len (by omega)
      have nP0 : (padT (dpP b w i) w.length).length = w.length := padT_len (by omega)
      have nx : ((i : Int) + 1) = ((i + 1 : Nat) : Int) := by omega
      simp (disch := omega) [wrap_id]
      refine ⟨by omega, by omega, by omega, by omega, ?_⟩
      rw [set_ls _ i _ (by omega), set_ls _ i _ (by omega), padT_set ll hi, padT_set lp hi]
      refine loop_eq (fun k : Nat => ⟨[(6, .ptr (TB f b) 0), (8, Ls fe w), (9, .ms 1 0 w.length 1), (10, .ms 2 0 w.length 1), (11, I (dpLast b w i)), (12, I (i : Int)), (35, I (w.length : Int)), (36, I (i : Int)), (45, I (i : Int)), (46, I (k : Int))],
          [.cells [I b.L, Ps f b.c], .cells ((padT (dpL b w i ++ [(dpIn b w (dpL b w i) i k).1]) w.length).map fun n => I n), .cells ((padT (dpP b w i ++ [(dpIn b w (dpL b w i) i k).2]) w.length).map fun n => I n)]⟩)
        (fun k => k ≤ i) (fun k => i - k) 0 (Nat.zero_le _) rfl ?_
      intro k hk
      refine hideK' fun K1 hK1 => ?_
      simp (disch := omega) [wrap_id]
      refine c_split (fun hc => ?_) (fun hc => ?_)
      · have hk : k < i := by simp at hc; omega
        have hkw : k < w.length := by omega
        have kx : ((k : Int) + 1) = ((k + 1 : Nat) : Int) := by omega
        have w1 := sw w[k] (List.getElem_mem hkw)
        have w2 := sw w[i] (List.getElem_mem hi)
        have d1 : dpIn b w (dpL b w i) i (k + 1) = if canB b w[k] w[i] = false ∧ (dpIn b w (dpL b w i) i k).1 ≤ (dpL b w i).getD k 0 then ((dpL b w i).getD k 0 + 1, (k : Int)) else dpIn b w (dpL b w i) i k := by
          simp only [dpIn]
          rw [show w.getD k 0 = w[k] by simp [hkw], show w.getD i 0 = w[i] by simp [hi]]
        have hb1 : -1000 ≤ (dpL b w i).getD k 0 ∧ (dpL b w i).getD k 0 ≤ 1000 := by
          rw [dpL_get hk]
          have := (Lf_spec (b := b) (w := w) k).1
          have := Lf_top (b := b) (w := w) k
          omega
        generalize dpIn b w (dpL b w i) i k = d at *
        have g1 : ∀ h, (padT (dpL b w i ++ [d.1]) w.length)[k]'h = (dpL b w i).getD k 0 := fun h => by
          rw [padT_at (by simp; omega) (by simp; omega) h, getD_snoc, if_pos (by omega)]
        have g2 : ∀ h, (padT (dpL b w i ++ [d.1]) w.length)[i]'h = d.1 := fun h => by
          rw [padT_at (by simp; omega) (by simp; omega) h, getD_snoc, if_neg (by omega), if_pos ll.symm]
        have n1 := nL d.1
        have n2 := nP d.2
        have s1 : ∀ a : Int, (padT (dpL b w i ++ [d.1]) w.length).set i a = padT (dpL b w i ++ [a]) w.length := fun a => padT_put ll hi
        have s2 : ∀ a : Int, (padT (dpP b w i ++ [d.2]) w.length).set i a = padT (dpP b w i ++ [a]) w.length := fun a => padT_put lp hi
        generalize hlL : padT (dpL b w i ++ [d.1]) w.length = lL at *
        generalize hlP : padT (dpP b w i ++ [d.2]) w.length = lP at *
        generalize hv : (dpL b w i).getD k 0 = v at *
        simp (disch := omega) [wrap_id, cells_ls, hkw, hi]
        refine pureW_of rfl (can_ok f b w[k] w[i] w1 w2) ?_
        cases hcan : canB b w[k] w[i] with
        | true =>
          simp (disch := omega) [wrap_id, cells_ls, hkw, hi]
          rw [hK1]
          have d2 : dpIn b w (dpL b w i) i (k + 1) = d := by rw [d1, if_neg (by simp [hcan])]
          exact next_eq (k + 1) (by omega) (by omega) (by simp only [kx, d2, hlL, hlP])
        | false =>
          have hik : i < lL.length := by omega
          have hkk : k < lL.length := by omega
          simp (disch := omega) [wrap_id, cells_ls, hkw, hi, hik, hkk]
          rw [g1 hkk, g2 hik]
          refine c_split (fun ht => ?_) (fun ht => ?_)
          · have ht : d.1 ≤ v := by simpa using ht
            have d2 : dpIn b w (dpL b w i) i (k + 1) = (v + 1, (k : Int)) := by rw [d1, if_pos ⟨hcan, ht⟩]
            have hip : i < lP.length := by omega
            simp (disch := omega) [wrap_id, cells_ls, hkw, hi, hik, hkk, hip]
            rw [g1 hkk, wrap_id ⟨by omega, by omega⟩, set_ls _ i _ hik, set_ls _ i _ hip, s1, s2]
            refine ⟨by omega, by omega, ?_⟩
            rw [hK1]
            exact next_eq (k + 1) (by omega) (by omega) (by simp only [kx, d2])
          · have ht : ¬ d.1 ≤ v := by simpa using ht
            have d2 : dpIn b w (dpL b w i) i (k + 1) = d := by rw [d1, if_neg (by simp [ht])]
            simp (disch := omega) [wrap_id]
            rw [hK1]
            exact next_eq (k + 1) (by omega) (by omega) (by simp only [kx, d2, hlL, hlP])
      · have hk : k = i := by simp at hc; omega
        subst hk
        subst hK1
        have eL : dpL b w k ++ [(dpIn b w (dpL b w k) k k).1] = dpL b w (k + 1) := rfl
        have eP : dpP b w k ++ [(dpIn b w (dpL b w k) k k).2] = dpP b w (k + 1) := rfl
        simp (disch := omega) [wrap_id]
        rw [eL, eP]
        have ll1 := dpL_len b w (k + 1)
        have nL1 : (padT (dpL b w (k + 1)) w.length).length = w.length := padT_len (by omega)
        have gL : ∀ j, j ≤ k → ∀ h, (padT (dpL b w (k + 1)) w.length)[j]'h = Lf b w j := fun j hj h => by rw [padT_at (by omega) (by omega) h, dpL_get (by omega)]
        have step : ∀ t : Int, dpLast b w (k + 1) = t → dpLast b w (k + 1) = t := fun t h => h
        have e1 : dpLast b w (k + 1) = if dpLast b w k < 0 ∨ Lf b w (dpLast b w k).toNat < Lf b w k then (k : Int) else dpLast b w k := rfl
        obtain ⟨q1, q2⟩ := dpLast_spec (b := b) (w := w) k
        generalize hlP : padT (dpP b w (k + 1)) w.length = lP at *
        generalize hlL : padT (dpL b w (k + 1)) w.length = lL at *
        by_cases h0 : k = 0
        · have q3 := q1 h0
          rw [q3] at e1 ⊢
          rw [if_pos (.inl (by omega))] at e1
          simp (disch := omega) [wrap_id]
          rw [hK0]
          exact next_eq (k + 1) (by omega) (by omega) (by simp only [nx, e1, hlL, hlP])
        · obtain ⟨q, q3, q4, _⟩ := q2 h0
          rw [q4] at e1 ⊢
          have kk : k < lL.length := by omega
          have qq : q < lL.length := by omega
          have nq : ¬ (q : Int) < 0 := by omega
          simp (disch := omega) [wrap_id, cells_ls, kk, qq, nq]
          rw [gL k (by omega) kk, gL q (by omega) qq]
          refine ⟨by omega, by omega, ?_⟩
          refine c_split (fun ht => ?_) (fun ht => ?_)
          · have ht : Lf b w q < Lf b w k := by simpa using ht
            rw [if_pos (.inr (by simpa using ht))] at e1
            simp (disch := omega) [wrap_id]
            rw [hK0]
            exact next_eq (k + 1) (by omega) (by omega) (by simp only [nx, e1, hlL, hlP])
          · have ht : ¬ Lf b w q < Lf b w k := by simpa using ht
            rw [if_neg (by simp [nq]; omega)] at e1
            simp (disch := omega) [wrap_id]
            rw [hK0]
            exact next_eq (k + 1) (by omega) (by omega) (by simp only [nx, e1, hlL, hlP])
    · have hi : i = w.length := by simp at hc; omega
      subst hi
      subst hK0
      simp (disch := omega) [wrap_id]
      have lp := dpP_len b w w.length
      have nP1 : (padT (dpP b w w.length) w.length).length = w.length := padT_len (by omega)
      have gP : ∀ j, j < w.length → ∀ h, (padT (dpP b w w.length) w.length)[j]'h = Pf b w j := fun j hj h => by rw [padT_at (by omega) (by omega) h, dpP_get hj]
      have q0 : spineL b w = upI b w w.length (dpLast b w w.length) := rfl
      have q1 : (dpLast b w w.length < 0 ∨ ∃ k : Nat, dpLast b w w.length = k ∧ k < w.length) ∧ -1 ≤ dpLast b w w.length := by
        obtain ⟨h1, h2⟩ := dpLast_spec (b := b) (w := w) w.length
        by_cases h0 : w.length = 0
        · have := h1 h0; omega
        · obtain ⟨k, g1, g2, _⟩ := h2 h0; exact ⟨.inr ⟨k, g2, g1⟩, by omega⟩
      generalize dpLast b w w.length = la at *
      generalize padT (dpP b w w.length) w.length = lP at *
      generalize padT (dpL b w w.length) w.length = lL at *
      refine loop_eq (fun q : Nat × Int × AV × List Int × List HObj => ⟨[(10, .ms 2 0 w.length 1), (11, I q.2.1), (14, q.2.2.1)], q.2.2.2.2⟩)
        (fun q => AccR q.2.2.2.2 q.2.2.1 q.2.2.2.1 ∧ rid q.2.2.1 ≠ some 2 ∧ nthH q.2.2.2.2 2 = some (.cells (lP.map fun n => I n)) ∧ -1 ≤ q.2.1 ∧ (0 ≤ q.2.1 → q.2.1 < q.1) ∧ q.1 ≤ w.length ∧ q.1 + q.2.2.2.1.length ≤ w.length ∧ spineL b w = upI b w q.1 q.2.1 ++ q.2.2.2.1.reverse)
        (fun q => q.1 + (q.2.1 + 1).toNat) (w.length, la, .sl true 0 [], [], _) ⟨.inl ⟨rfl, rfl⟩, by simp [rid], rfl, q1.2, fun h => by rcases q1.1 with h | ⟨k, h1, h2⟩ <;> (simp only; omega), Nat.le_refl _, by simp, by simpa using q0⟩ rfl ?_
      rintro ⟨n, cur, x, acc, H⟩ ⟨c1, c2, c3, c4, c5, c6, c7, c8⟩
      simp only at c1 c2 c3 c4 c5 c6 c7 c8 ⊢
      refine hideK' fun K0 hK0 => ?_
      simp (disch := omega) [wrap_id]
      refine c_split (fun hc => ?_) (fun hc => ?_)
      · have hc : 0 ≤ cur := by simpa using hc
        obtain ⟨j, rfl⟩ : ∃ j : Nat, cur = j := ⟨cur.toNat, by omega⟩
        have hj : j < n := by have := c5 hc; omega
        obtain ⟨n', rfl⟩ : ∃ n', n = n' + 1 := ⟨n - 1, by omega⟩
        have hjl : j < lP.length := by omega
        simp (disch := omega) [wrap_id]
        refine bsl_of (ys := [I (j : Int)]) rfl rfl ?_
        simp (disch := omega) [wrap_id, zrep]
        refine app_row c1.row (by omega) fun ws w1 w2 w3 => ?_
        have h2 : nthH (writeL H ws) 2 = some (.cells (lP.map fun n => I n)) := (w1 2 (nthH_lt c3) c2).trans c3
        have lt2 := nthH_lt c3
        simp (disch := omega) [wrap_id, h2, cells_ls, hjl]
        rw [gP j (by omega) hjl]
        rw [hK0]
        have pf := (Lf_spec (b := b) (w := w) j).2.2
        have pf1 : -1 ≤ Pf b w j ∧ Pf b w j < j := by
          rcases pf with ⟨h, _⟩ | ⟨i, h1, h2, _⟩ <;> omega
        rw [upI_nat] at c8
        refine ⟨by omega, ?_⟩
        refine next_eq (n', Pf b w j, .ms H.length 0 (acc.length + 1) 1, acc ++ [(j : Int)], writeL H ws) ⟨.inr ⟨H.length, by simp, by simp, w3⟩, by simp [rid]; omega, h2, pf1.1, fun h => by simp only; omega, by simp only; omega, by simp only [List.length_append, List.length_singleton]; omega, by simp only [List.reverse_append, List.reverse_singleton, List.singleton_append]; rw [c8]; simp⟩ (by simp only; omega) rfl
      · have hc : cur < 0 := by simpa using hc
        subst hK0
        rw [upI_neg hc, List.nil_append] at c8
        rw [c8]
        simp (disch := omega) [wrap_id]
        rcases c1 with ⟨rfl, rfl⟩ | ⟨id, rfl, hne, c1⟩
        · refine rev_nil ?_
          simp (disch := omega) [wrap_id]
          exact out_of (is := []) rfl
        · refine rev_w (by omega) c1 ?_
          simp (disch := omega) [wrap_id]
          have hA : AccR (H.set id (.cells (acc.reverse.map fun n => I n))) (.ms id 0 acc.reverse.length 1) acc.reverse := .inr ⟨id, rfl, by simpa using hne, nthH_set_same (nthH_lt c1)⟩
          have := out_accI (n := 0) hA
          rw [List.length_reverse] at this
          simpa using this
  · have hc' : (chkL b l != 0) = true := by simpa using hc
    have e : spineFR b l = [] := by unfold spineFR; rw [if_pos hc]
    rw [e]
    simp (disch := omega) [wrap_id, openAV, hc, hc']
    exact out_of (is := []) rfl

end Go.AM

/- THE COMPILED FORMS of functions of the program, each held against its body by the kernel. Own work (printed by a program of this claim). -/
set_option maxRecDepth 100000
namespace Go.AM
open Go.RowKit Go.Proofs

/-- oxgall/oxgalllaw02.StrokeBenches -/
def G3 : AC := (.seq (.rgn [⟨none, [(.box 2 2 (.t 0)), (.mv 4 (.k (B false)))]⟩] [1, 2]) (.seq (.seq (.rgn [⟨none, [(.ld 5 true 2 (.t 2)), (.call 6 18 [(.t 5)]), (.mv 7 (.t 6))]⟩, ⟨(some (7, false)), [(.mv 8 (.t 1)), (.len 9 (.t 8)), (.bin 10 .gtr (.t 9) (.k (I 70)))]⟩, ⟨none, [(.pick 11 (.t 7) (.k (B true)) (.t 10))]⟩] [1, 2, 11]) (.cond (.t 11) (.seq (.rgn [⟨none, [(.call 12 19 []), (.mv 4 (.t 12))]⟩] [4]) .ret) .skip)) (.seq (.drw [⟨none, [(.ld 13 true 2 (.t 2)), (.call 14 20 [(.t 13)]), (.ld 15 true 2 (.t 2)), (.call 16 21 [(.t 15)]), (.bin 17 .eql (.t 14) (.t 16)), (.mv 18 (.t 17))]⟩, ⟨(some (18, true)), [(.ld 19 true 2 (.t 2)), (.mv 20 (.t 1)), (.call 21 22 [(.t 19), (.t 20)]), (.ld 22 true 2 (.t 2)), (.mv 23 (.t 1)), (.call 24 23 [(.t 22), (.t 23)]), (.bin 25 .eql (.t 21) (.t 24))]⟩, ⟨none, [(.pick 26 (.t 18) (.t 25) (.k (B false))), (.mv 27 (.t 26))]⟩, ⟨(some (27, true)), [(.call 28 19 [])]⟩, ⟨none, [(.pick 29 (.t 27) (.t 28) (.k (B false))), (.mv 4 (.t 29))]⟩] [(0, 2), (1, 2), (6, 9), (8, 9)] [4]) .ret)))
theorem form3 : formOf Try.prog Try.f3 [4] = some G3 := by kernel_rfl
theorem res3 : resTmps Try.f3.results.toList = some [4] := by kernel_rfl

end Go.AM

/- LAWS, PART 1: StrokeBenches. Own work. -/
set_option linter.unusedSimpArgs false
set_option linter.unusedVariables false
namespace Go.AM
open Go.RowKit Go.Proofs

theorem great_ok (f : Bool) (b : Bch) (hb : b.c.length ≤ 9223372036854775807) : PureOK Try.prog 18 [Bn f b] (B (decide (40 < b.c.length))) := by
  refine pure_of (walk Try.func18 form18 res18 (by show 1 ≤ _; decide) ?_)
  simp (disch := omega) [G18, wrap_id]
  omega

theorem law3' (f g : Bool) (b : Bch) (l : List Int) (hb : b.c.length ≤ 9223372036854775807) (hl : l.length ≤ 9223372036854775807) : PureOK Try.prog 3 [Bn f b, Ls g l] (B true) := by
  refine pure_of (walk Try.func3 form3 res3 (by show 2 ≤ _; decide) ?_)
  simp (disch := omega) [G3, wrap_id]
  refine callW_pure rfl (great_ok f b hb) ?_
  by_cases h1 : 40 < b.c.length
  · simp (disch := omega) [wrap_id, h1]
    exact callW_pure rfl works_ok (by simp)
  · by_cases h2 : 70 < l.length
    · have h2' : (70 : Int) < l.length := by omega
      simp (disch := omega) [wrap_id, h1, h2, h2']
      exact callW_pure rfl works_ok (by simp)
    · have h2' : ¬ (70 : Int) < l.length := by omega
      simp (disch := omega) [wrap_id, h1, h2, h2']
      refine pureW_of rfl (bench_ok f b (by omega)) ?_
      simp (disch := omega) [wrap_id]
      refine pureW_of rfl (refBench_ok f b (by omega)) ?_
      simp (disch := omega) [wrap_id]
      refine pureW_of rfl (list_ok f g b l (by omega) (by omega)) ?_
      simp (disch := omega) [wrap_id]
      refine pureW_of rfl (refList_ok f g b l (by omega) (by omega)) ?_
      simp (disch := omega) [wrap_id]
      refine pureW_of rfl works_ok ?_
      simp (disch := omega) [wrap_id]

theorem law3 (b : Bch) (l : List Int) (hb : BOK b) (hl : l.length ≤ 9223372036854775807 ∧ ∀ n ∈ l, In64 n) : PureOK Try.prog 3 [Bn false b, Ls false l] (B true) := law3' false false b l hb.len hl.1

end Go.AM

/- LAWS: StrokeRounds. Own work. -/
set_option linter.unusedSimpArgs false
set_option linter.unusedVariables false
namespace Go.AM
open Go.RowKit Go.Proofs

theorem le_sum_mem {n : Nat} : ∀ {l : List Nat}, n ∈ l → n ≤ l.sum
  | x :: l, h => by
    rcases List.mem_cons.1 h with rfl | h
    · simp
    · have := le_sum_mem h; simp; omega
theorem firstsFR_len {b : Bch} {l : List Int} : (firstsFR b l).length ≤ l.length := by
  unfold firstsFR; split
  · simp
  · have h1 := firstsR_len (b := b) (l := form b l)
    have h2 := form_len b l
    omega
theorem roundsR_len {b : Bch} {l : List Int} (h : chkL b l = 0) : (roundsR b l).length ≤ l.length ∧ ∀ r ∈ roundsR b l, r.length ≤ l.length := by
  have e : roundsR b l = rndF b (form b l) := by unfold roundsR; rw [if_neg (by simp [h])]
  have h2 := form_len b l
  rw [e]
  obtain ⟨_, h3, h4⟩ := rnd_pat (b := b) _ (w := form b l) (Nat.le_refl _)
  refine ⟨by omega, fun r hr => ?_⟩
  have : r.length ≤ (rndF b (form b l)).flatten.length := by
    rw [List.length_flatten]
    exact le_sum_mem (List.mem_map_of_mem hr)
  omega

theorem law6 (b : Bch) (l m : List Int) (hb : BOK b) (hl : l.length ≤ 9223372036854775807 ∧ ∀ n ∈ l, In64 n) (hm : m.length ≤ 9223372036854775807 ∧ ∀ n ∈ m, In64 n) : PureOK Try.prog 6 [Bn false b, Ls false l, Ls false m] (B true) := by
  refine pure_of (walk Try.func6 form6 res6 (by show 3 ≤ _; decide) ?_)
  simp -implicitDefEqProofs (disch := omega) [G6, wrap_id]
  refine callW_pure rfl (great_ok false b hb.len) ?_
  by_cases h1 : 40 < b.c.length
  · simp -implicitDefEqProofs (disch := omega) [wrap_id, h1]
    exact callW_pure rfl works_ok (by simp)
  by_cases h2 : 70 < l.length
  · have h2' : (70 : Int) < l.length := by omega
    simp -implicitDefEqProofs (disch := omega) [wrap_id, h1, h2, h2']
    exact callW_pure rfl works_ok (by simp)
  by_cases h3 : 70 < m.length
  · have h2' : ¬ (70 : Int) < l.length := by omega
    have h3' : (70 : Int) < m.length := by omega
    simp -implicitDefEqProofs (disch := omega) [wrap_id, h1, h2, h2', h3, h3']
    exact callW_pure rfl works_ok (by simp)
  have h2' : ¬ (70 : Int) < l.length := by omega
  have h3' : ¬ (70 : Int) < m.length := by omega
  simp -implicitDefEqProofs (disch := omega) [wrap_id, h1, h2, h2', h3, h3']
  have e1 := firstsFR_len (b := b) (l := l)
  refine callW_pure rfl (firsts_c false false b l (by omega) (by omega)) ?_
  simp -implicitDefEqProofs (disch := omega) [wrap_id]
  refine callW_pure rfl (refFirsts_ok false false b l (by omega) (by omega)) ?_
  simp -implicitDefEqProofs (disch := omega) [wrap_id]
  refine callW_pure rfl (rounds_c false false b l (by omega) (by omega)) ?_
  simp -implicitDefEqProofs (disch := omega) [wrap_id]
  refine callW_pure rfl (refRounds_ok false false b l (by omega) (by omega)) ?_
  simp -implicitDefEqProofs (disch := omega) [wrap_id]
  refine callW_pure rfl (spine_c false false false b l m (by omega) (by omega) (by omega)) ?_
  simp -implicitDefEqProofs (disch := omega) [wrap_id]
  refine callW_pure rfl (refSpine_ok false false false b l m (by omega) (by omega) (by omega)) ?_
  simp -implicitDefEqProofs (disch := omega) [wrap_id]
  refine callW_pure rfl (spine_w false false b l (by omega) (by omega)) ?_
  simp -implicitDefEqProofs (disch := omega) [wrap_id]
  refine callW_pure rfl (equal_ok _ _ (firstsFR b l) (firstsFR b l) (by omega) (by omega)) ?_
  simp -implicitDefEqProofs (disch := omega) [wrap_id]
  by_cases hc : chkL b l = 0
  · obtain ⟨r1, r2⟩ := roundsR_len hc
    refine callW_pure rfl (lists_ok (roundsR b l) (by omega) (fun r hr => by have := r2 r hr; omega)) ?_
    rw [hc]
    simp -implicitDefEqProofs (disch := omega) [wrap_id]
    have eS : spineFR b l = spineL b (form b l) := by unfold spineFR; rw [if_neg (by simp [hc])]
    have eR : roundsR b l = rndF b (form b l) := by unfold roundsR; rw [if_neg (by simp [hc])]
    obtain ⟨s1, s2, s3⟩ := spineL_ok (b := b) (form b l)
    have x1 := form_len b l
    have x2 : (spineFR b l).length ≤ l.length := by rw [eS, s3, ← eR]; exact r1
    have sp : spineR b l (spineFR b l) = (((spineFR b l).length : Int), 0) := by
      unfold spineR; rw [if_neg (by simp [hc]), eS, if_neg (by simp [s1]), if_neg (by simp [s2])]
    refine callW_pure rfl (refSpine_ok false false _ b l (spineFR b l) (by omega) (by omega) (by omega)) ?_
    rw [sp]
    have x3 : ((spineFR b l).length : Int) = ((roundsR b l).length : Int) := by rw [eS, eR, s3]
    simp -implicitDefEqProofs (disch := omega) [wrap_id, x3]
    exact callW_pure rfl works_ok (by simp)
  · have eR : roundsR b l = [] := by unfold roundsR; rw [if_pos hc]
    have eS : spineFR b l = [] := by unfold spineFR; rw [if_pos hc]
    rw [eR, eS]
    refine callW_pure rfl (lists_ok [] (by simp) (fun r hr => by cases hr)) ?_
    have hc' : (chkL b l != 0) = true := by simpa using hc
    simp -implicitDefEqProofs (disch := omega) [wrap_id, hc, hc']
    exact callW_pure rfl works_ok (by simp)

end Go.AM
