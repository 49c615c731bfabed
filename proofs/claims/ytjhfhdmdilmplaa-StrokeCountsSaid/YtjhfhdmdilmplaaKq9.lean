/-
  WHAT THE CODE ANSWERS, PART 3: Clone, Reverse, Concat; Way. Own work.
  WHAT THE CODE ANSWERS, PART 4: Concat; Way. Own work.
  WHAT THE CODE ANSWERS, PART 5: Way, of the code and of the specification. Own work.
  THE THEORY OF MOVES, PART 2: ways. Own work.
-/
import Derived.Test.YtjhfhdmdilmplaaKq8

/- WHAT THE CODE ANSWERS, PART 3: Clone, Reverse, Concat; Way. Own work. -/
set_option linter.unusedSimpArgs false
set_option linter.unusedVariables false
namespace Go.AM
open Go.RowKit Go.Proofs

theorem isn_of {P : Program} {E : HE} {d : Nat} {neg : Bool} {x : Opd} {os : List AOp} {fr : List (Nat × AV)} {hp : List HObj} {K : St → Prop} {f : Bool} {n : Nat} {cs : List AV} (hx : evF (get fr) x = .sl f n cs)
    (h0 : cs = [] → ∀ c, aops P E os ⟨(d, .v (.bool c)) :: fr, hp⟩ K) (h1 : cs ≠ [] → aops P E os ⟨(d, .v (.bool neg)) :: fr, hp⟩ K) : aops P E (.isn d neg 0 x :: os) ⟨fr, hp⟩ K := by
  simp only [aops, aop, AOp.many, hx]
  cases cs with
  | nil => exact ⟨h0 rfl false, h0 rfl true⟩
  | cons a l => exact h1 (by simp)

/-- A list that is somebody's own, or none. -/
def MkR (hp : List HObj) (x : AV) (l : List Int) : Prop := (x = .sl true 0 [] ∧ l = []) ∨ ∃ id, x = .ms id 0 l.length 1 ∧ nthH hp id = some (.cells (l.map fun n => I n))
theorem AccR.mk {hp x l} (h : AccR hp x l) : MkR hp x l := by
  rcases h with h | ⟨id, h1, _, h2⟩
  · exact .inl h
  · exact .inr ⟨id, h1, h2⟩
theorem MkR.row {hp x l} (h : MkR hp x l) : RowIs hp x l := by
  rcases h with h | ⟨id, rfl, h⟩
  · exact .inl h
  · exact .inr ⟨id, 0, _, rfl, h, by simp, by simp [view]; rw [List.take_of_length_le (by simp)]⟩
theorem MkR.mono {hp H x l} (h : MkR hp x l) (hk : ∀ i, rid x = some i → nthH H i = nthH hp i) : MkR H x l := by
  rcases h with h | ⟨id, rfl, h2⟩
  · exact .inl h
  · exact .inr ⟨id, rfl, (hk id rfl).trans h2⟩
theorem MkR.pur {hp x l} (h : MkR hp x l) : ∃ f ids, purify (hpf hp) x = some (Ls f l, ids) ∧ ∀ i ∈ ids, rid x = some i ∧ i < hp.length := by
  rcases h with ⟨rfl, rfl⟩ | ⟨id, rfl, h2⟩
  · exact ⟨true, [], rfl, fun i hi => by simp at hi⟩
  · exact ⟨false, [id], ms_pur h2 rfl, fun i hi => by simp at hi; subst hi; exact ⟨rfl, nthH_lt h2⟩⟩

theorem clone_w (g : Bool) (l : List Int) (hl : l.length ≤ 1000000) {hp : List HObj} {K : AV → List HObj → Prop}
    (hK : ∀ H x, MkR H x l → (∀ i, i < hp.length → nthH H i = nthH hp i) → (∀ i, rid x = some i → hp.length ≤ i) → K x H) : CallW Try.prog 66 [Ls g l] hp K := by
  refine walk Try.func66 form66 res66 (by show 1 ≤ _; decide) ?_
  simp (disch := omega) [G66, wrap_id]
  have app : K (.ms hp.length 0 l.length 1) (hp ++ [.cells (l.map fun n => I n)]) := hK _ _ (.inr ⟨hp.length, rfl, nthH_end⟩) (fun i hi => nthH_front hi) (fun i hi => by simp [rid] at hi; omega)
  refine isn_of (f := g) (n := l.length) (cs := l.map fun n => I n) rfl (fun h c => ?_) (fun h => ?_)
  · have h0 : l = [] := by simpa using h
    subst h0
    cases c with
    | true =>
      simp (disch := omega) [wrap_id]
      exact hK _ _ (.inl ⟨rfl, rfl⟩) (fun _ _ => rfl) (fun i hi => by cases hi)
    | false =>
      simp (disch := omega) [wrap_id]
      refine bsl_of (ys := []) rfl rfl ?_
      simp (disch := omega) [wrap_id, zrep, place]
      exact app
  · simp (disch := omega) [wrap_id]
    refine bsl_of (ys := []) rfl rfl ?_
    simp (disch := omega) [wrap_id, zrep, place]
    refine ⟨⟨by omega, by omega⟩, app⟩

/-- So many swapped from both ends. -/
def revT (l : List Int) (i : Nat) : List Int := (List.range l.length).map fun k => if k < i ∨ l.length - i ≤ k then l.getD (l.length - 1 - k) 0 else l.getD k 0
theorem revT_len (l : List Int) (i : Nat) : (revT l i).length = l.length := by simp [revT]
theorem revT_get {l : List Int} {i k : Nat} (h : k < l.length) : (revT l i)[k]'(by rw [revT_len]; exact h) = if k < i ∨ l.length - i ≤ k then l.getD (l.length - 1 - k) 0 else l.getD k 0 := by
  simp only [revT, List.getElem_map, List.getElem_range]
theorem revT_zero (l : List Int) : revT l 0 = l := by
  apply List.ext_getElem (revT_len l 0)
  intro k h1 h2
  rw [revT_get h2, if_neg (by omega)]; simp [h2]
theorem revT_end {l : List Int} {i : Nat} (h : l.length ≤ 2 * i + 1) : revT l i = l.reverse := by
  apply List.ext_getElem (by rw [revT_len, List.length_reverse])
  intro k h1 h2
  have hk : k < l.length := by rw [revT_len] at h1; exact h1
  rw [revT_get hk, List.getElem_reverse]
  split
  · simp [show l.length - 1 - k < l.length by omega]
  · have : l.length - 1 - k = k := by omega
    simp [hk, this]
theorem revT_step {l : List Int} {i : Nat} (h : 2 * i + 1 < l.length) : ((revT l i).set i (l.getD (l.length - 1 - i) 0)).set (l.length - 1 - i) (l.getD i 0) = revT l (i + 1) := by
  apply List.ext_getElem (by simp [revT_len])
  intro k h1 h2
  have hk : k < l.length := by simpa [revT_len] using h2
  rw [revT_get hk, List.getElem_set, List.getElem_set]
  by_cases e1 : l.length - 1 - i = k
  · rw [if_pos e1, if_pos (by omega)]
    congr 1; omega
  · rw [if_neg e1]
    by_cases e2 : i = k
    · rw [if_pos e2, if_pos (by omega), ← e2]
    · rw [if_neg e2, revT_get hk]
      by_cases e3 : k < i ∨ l.length - i ≤ k
      · rw [if_pos e3, if_pos (by omega)]
      · rw [if_neg e3, if_neg (by omega)]

theorem rev_w {l : List Int} (hl : l.length ≤ 1000000) {hp : List HObj} {id : Nat} (hid : nthH hp id = some (.cells (l.map fun n => I n))) {K : AV → List HObj → Prop} (hK : K (.tup []) (hp.set id (.cells (l.reverse.map fun n => I n)))) :
    CallW Try.prog 76 [.ms id 0 l.length 1] hp K := by
  refine walk Try.func76 form76 res76 (by show 1 ≤ _; decide) ?_
  have hlt := nthH_lt hid
  simp (disch := omega) [G76, wrap_id]
  refine loop_eq (fun i : Nat => ⟨[(0, .ms id 0 l.length 1), (2, I i), (3, I ((l.length : Int) - 1 - i))], hp.set id (.cells ((revT l i).map fun n => I n))⟩) (fun i => i ≤ l.length) (fun i => l.length - i) 0 (by omega) ?_ ?_
  · rw [revT_zero]
    have : hp.set id (.cells (l.map fun n => I n)) = hp := by
      apply List.ext_getElem (by simp)
      intro k h1 h2
      rw [List.getElem_set]
      split
      · rename_i e; subst e
        rw [nthH_eq, List.getElem?_eq_getElem h2] at hid
        exact (Option.some.inj hid).symm
      · rfl
    rw [this]; simp
  intro i hi
  have hc : nthH (hp.set id (.cells ((revT l i).map fun n => I n))) id = some (.cells ((revT l i).map fun n => I n)) := nthH_set_same hlt
  have hrl := revT_len l i
  simp (disch := omega) [wrap_id]
  refine c_split (fun h => ?_) (fun h => ?_)
  · simp at h
    have h2 : 2 * i + 1 < l.length := by omega
    have hi1 : i < (revT l i).length := by omega
    have hj1 : l.length - 1 - i < (revT l i).length := by omega
    have ej : ((l.length : Int) - 1 - i).toNat = l.length - 1 - i := by omega
    have g1 : (revT l i)[i]'hi1 = l.getD i 0 := by rw [revT_get (by omega), if_neg (by omega)]
    have g2 : (revT l i)[l.length - 1 - i]'hj1 = l.getD (l.length - 1 - i) 0 := by rw [revT_get (by omega), if_neg (by omega)]
    simp (disch := omega) [wrap_id, hc, ej, cells_ls, hi1, hj1, g1, g2, hlt]
    have mk : ∀ (a : List Int) (q : Nat) (y : Int), q < a.length → List.take q (a.map fun n => I n) ++ I y :: List.drop (q + 1) (a.map fun n => I n) = (a.set q y).map fun n => I n := fun a q y hq => by
      have := splice_ls (v := y) hq
      simpa [splice] using this
    rw [mk _ i _ hi1]
    have gd1 : l[l.length - 1 - i]'(by omega) = l.getD (l.length - 1 - i) 0 := by simp [show l.length - 1 - i < l.length by omega]
    have gd2 : l[i]'(by omega) = l.getD i 0 := by simp [show i < l.length by omega]
    rw [gd1, gd2]
    have hc2 : nthH (hp.set id (.cells (((revT l i).set i (l.getD (l.length - 1 - i) 0)).map fun n => I n))) id = some (.cells (((revT l i).set i (l.getD (l.length - 1 - i) 0)).map fun n => I n)) := nthH_set_same hlt
    refine ⟨by omega, by omega, by omega, by omega, ?_⟩
    rw [hc2, str_some]
    refine ⟨⟨rfl, rfl, by simp [revT_len]; omega⟩, ?_⟩
    have e3 := splice_ls (l := (revT l i).set i (l.getD (l.length - 1 - i) 0)) (k := l.length - 1 - i) (v := l.getD i 0) (by simp [revT_len]; omega)
    rw [revT_step h2] at e3
    show contD _ _ _ _ _ _ _ _ _ [(id, .cells (splice _ _ [I (l.getD i 0)]))]
    rw [e3]
    simp (disch := omega) [wrap_id, hlt]
    exact next_eq (i + 1) (by omega) (by omega) (by simp; omega)
  · simp at h
    simp (disch := omega) [wrap_id]
    rw [revT_end (by omega)]; exact hK

theorem rev_nil {hp : List HObj} {K : AV → List HObj → Prop} (hK : K (.tup []) hp) : CallW Try.prog 76 [.sl true 0 []] hp K := by
  refine walk Try.func76 form76 res76 (by show 1 ≤ _; decide) ?_
  simp (disch := omega) [G76, wrap_id]
  refine loop_eq (fun _ : Unit => ⟨[(0, .sl true 0 []), (2, I 0), (3, I (-1))], hp⟩) (fun _ => True) (fun _ => 0) () trivial rfl ?_
  intro _ _
  simp (disch := omega) [wrap_id]
  exact hK

/-- So many drawn back. -/
def negT (l : List Int) (i : Nat) : List Int := (l.take i).map (fun n => -n) ++ l.drop i
theorem negT_len (l : List Int) (i : Nat) : (negT l i).length = l.length := by simp [negT]; omega
theorem negT_step {l : List Int} {i : Nat} (h : i < l.length) : (negT l i).set i (-l[i]) = negT l (i + 1) := by
  unfold negT
  rw [List.set_append_right _ _ (by simp; omega)]
  have e : i - ((l.take i).map fun n => -n).length = 0 := by simp; omega
  have e2 : l.take (i + 1) = l.take i ++ [l[i]] := by rw [List.take_add_one]; simp [h]
  rw [e, List.drop_eq_getElem_cons h, List.set_cons_zero, e2, List.map_append, List.append_assoc]
  rfl
theorem negT_get {l : List Int} {i : Nat} (h : i < l.length) : (negT l i)[i]'(by rw [negT_len]; exact h) = l[i] := by
  unfold negT
  rw [List.getElem_append_right (by simp; omega)]
  simp [Nat.min_eq_left (Nat.le_of_lt h)]
theorem backL_neg (l : List Int) : negT l.reverse l.length = backL l := by
  unfold negT backL
  rw [List.take_of_length_le (by simp), List.drop_eq_nil_of_le (by simp)]
  simp

theorem back81_w (g : Bool) (l : List Int) (hl : l.length ≤ 1000000) (hs : Small l) {hp : List HObj} {K : AV → List HObj → Prop}
    (hK : ∀ H x, MkR H x (backL l) → (∀ i, i < hp.length → nthH H i = nthH hp i) → (∀ i, rid x = some i → hp.length ≤ i) → K x H) : CallW Try.prog 81 [Ls g l] hp K := by
  refine walk Try.func81 form81 res81 (by show 1 ≤ _; decide) ?_
  simp (disch := omega) [G81, wrap_id]
  refine clone_w g l hl fun H x a1 a2 a3 => ?_
  simp (disch := omega) [wrap_id]
  rcases a1 with ⟨rfl, rfl⟩ | ⟨id, rfl, a1⟩
  · refine rev_nil ?_
    simp (disch := omega) [wrap_id]
    refine loop_eq (fun _ : Unit => ⟨[(3, .sl true 0 []), (10, I 0), (11, I 0)], H⟩) (fun _ => True) (fun _ => 0) () trivial rfl ?_
    intro _ _
    simp (disch := omega) [wrap_id]
    exact hK H _ (.inl ⟨rfl, rfl⟩) a2 a3
  · have hid : hp.length ≤ id := a3 id rfl
    have hlt := nthH_lt a1
    refine rev_w hl a1 ?_
    simp (disch := omega) [wrap_id]
    refine loop_eq (fun i : Nat => ⟨[(3, .ms id 0 l.length 1), (10, I l.length), (11, I i)], H.set id (.cells ((negT l.reverse i).map fun n => I n))⟩) (fun i => i ≤ l.length) (fun i => l.length - i) 0 (by omega) (by simp [negT]) ?_
    intro i hi
    have hc : nthH (H.set id (.cells ((negT l.reverse i).map fun n => I n))) id = some (.cells ((negT l.reverse i).map fun n => I n)) := nthH_set_same hlt
    have hnl : (negT l.reverse i).length = l.length := by rw [negT_len, List.length_reverse]
    simp (disch := omega) [wrap_id]
    refine c_split (fun h => ?_) (fun h => ?_)
    · simp at h
      have h1 : i < l.reverse.length := by rw [List.length_reverse]; exact h
      have h2 : i < (negT l.reverse i).length := by omega
      have g1 : (negT l.reverse i)[i]'h2 = l.reverse[i] := negT_get h1
      have hsm : -1000000 ≤ l.reverse[i] ∧ l.reverse[i] ≤ 1000000 := hs _ (by have := List.getElem_mem h1; rwa [List.mem_reverse] at this)
      have hneg : IntKind.i64.wrap (0 - l.reverse[i]) = -l.reverse[i] := int_neg_ok _ hsm
      have mk : ∀ (a : List Int) (q : Nat) (y : Int), q < a.length → List.take q (a.map fun n => I n) ++ I y :: List.drop (q + 1) (a.map fun n => I n) = (a.set q y).map fun n => I n := fun a q y hq => by
        have := splice_ls (v := y) hq
        simpa [splice] using this
      simp (disch := omega) [-List.getElem_reverse, wrap_id, h, hc, cells_ls, h2, g1, hneg, hlt]
      rw [mk _ i _ h2, negT_step h1]
      refine ⟨by omega, ?_⟩
      exact next_eq (i + 1) (by omega) (by omega) (by simp)
    · simp at h
      have e : i = l.length := by omega
      subst e
      simp (disch := omega) [wrap_id]
      rw [backL_neg]
      refine hK _ _ (.inr ⟨id, by rw [backL_len], nthH_set_same hlt⟩) (fun j hj => ?_) (fun j hj => ?_)
      · rw [nthH_set_ne (by omega)]; exact a2 j hj
      · simp [rid] at hj; omega

end Go.AM

/- WHAT THE CODE ANSWERS, PART 4: Concat; Way. Own work. -/
set_option linter.unusedSimpArgs false
set_option linter.unusedVariables false
namespace Go.AM
open Go.RowKit Go.Proofs

theorem cap_sl_of {P : Program} {F : Nat → AV} {hp : List HObj} {K : AV → List (Nat × HObj) → Prop} {d n : Nat} {x : Opd} {cs : List AV} (hx : evF F x = .sl true n cs) (k : K (I n) []) : (AOp.cap d x).wp P F hp K := by
  refine ⟨_, _, ?_, k⟩
  simp only [AOp.sem, hx]
  exact ⟨by trivial, by first | rfl | trivial, by first | rfl | trivial⟩

theorem appz_nil_of {P : Program} {F : Nat → AV} {hp : List HObj} {K : AV → List (Nat × HObj) → Prop} {d m : Nat} {z : AV} {x k : Opd} (hx : evF F x = .sl true 0 []) (hk : evF F k = I m) (hb : m * 8 ≤ 140737488355328) (kk : K (.ms hp.length 0 m 1) [(hp.length, .cells (zrep m [z]))]) :
    (AOp.appz d 1 8 [z] x k).wp P F hp K := by
  refine ⟨_, _, ?_, kk⟩
  simp only [AOp.sem, hx, hk]
  refine ⟨m, rfl, ?_⟩
  simp only [semApp]
  exact ⟨by trivial, by first | rfl | trivial, by omega, by omega, by simp, by simp⟩

theorem grow_w {n : Nat} (hn : n ≤ 1000000) {hp : List HObj} {K : AV → List HObj → Prop} (hK : ∀ H x, RowIs H x [] → (∀ i, i < hp.length → nthH H i = nthH hp i) → (∀ i, rid x = some i → hp.length ≤ i) → K x H) : CallW Try.prog 103 [.sl true 0 [], I n] hp K := by
  refine walk Try.func103 form103 res103 (by show 2 ≤ _; decide) ?_
  simp (disch := omega) [G103, wrap_id]
  refine c_split (fun h => ?_) (fun _ => ?_)
  · simp at h; omega
  simp (disch := omega) [wrap_id]
  refine cap_sl_of (n := 0) (cs := []) (by rfl) ?_
  simp (disch := omega) [wrap_id]
  refine c_split (fun h => ?_) (fun h => ?_)
  · simp at h
    simp (disch := omega) [wrap_id]
    refine cap_sl_of (n := 0) (cs := []) (by rfl) ?_
    simp (disch := omega) [wrap_id]
    refine appz_nil_of (m := n) (by rfl) (by rfl) (by omega) ?_
    simp (disch := omega) [wrap_id]
    refine slc_ms_of (l := 0) (h := 0) rfl (by simp) trivial (Nat.le_refl _) (by omega) ?_
    simp (disch := omega) [wrap_id]
    refine hK _ _ (.inr ⟨hp.length, 0, _, rfl, nthH_end, by simp, by simp [view]⟩) (fun i hi => nthH_front hi) (fun i hi => by simp [rid] at hi; omega)
  · simp at h
    simp (disch := omega) [wrap_id]
    exact hK _ _ (.inl ⟨rfl, rfl⟩) (fun _ _ => rfl) (fun i hi => by cases hi)

/-- The first lists, joined. -/
def joinT (l m : List Int) (i : Nat) : List Int := if i = 0 then [] else if i = 1 then l else l ++ m

theorem concat_w (g a c : Bool) (l m : List Int) (hl : l.length ≤ 10000) (hm : m.length ≤ 10000) {hp : List HObj} {K : AV → List HObj → Prop}
    (hK : ∀ H id, nthH H id = some (.cells ((l ++ m).map fun n => I n)) → (∀ i, i < hp.length → nthH H i = nthH hp i) → hp.length ≤ id → K (.ms id 0 (l.length + m.length) 1) H) : CallW Try.prog 80 [.sl g 2 [Ls a l, Ls c m]] hp K := by
  refine walk Try.func80 form80 res80 (by show 1 ≤ _; decide) ?_
  simp (disch := omega) [G80, wrap_id]
  refine loop_eq (fun i : Nat => ⟨[(0, .sl g 2 [Ls a l, Ls c m]), (3, I (joinT l m i).length), (9, .sl g 2 [Ls a l, Ls c m]), (10, I 2), (11, I i)], hp⟩) (fun i => i ≤ 2) (fun i => 2 - i) 0 (by omega) rfl ?_
  intro i hi
  simp (disch := omega) [wrap_id]
  by_cases h : i < 2
  · have hI : (i : Int) < 2 := by omega
    obtain rfl | rfl : i = 0 ∨ i = 1 := by omega
    · simp (disch := omega) [wrap_id, joinT]
      refine c_split (fun h => ?_) (fun _ => ?_)
      · simp at h; omega
      simp (disch := omega) [wrap_id]
      exact next_eq 1 (by omega) (by omega) (by simp [joinT])
    · simp (disch := omega) [wrap_id, joinT]
      refine c_split (fun h => ?_) (fun _ => ?_)
      · simp at h; omega
      simp (disch := omega) [wrap_id]
      exact next_eq 2 (by omega) (by omega) (by simp [joinT])
  · have : i = 2 := by omega
    subst this
    simp (disch := omega) [wrap_id, joinT]
    have e0 : (l.length : Int) + m.length = ((l.length + m.length : Nat) : Int) := by omega
    rw [e0]
    refine grow_w (by omega) fun H x a1 a2 a3 => ?_
    simp (disch := omega) [wrap_id]
    refine loop_eq (fun q : Nat × AV × List HObj => ⟨[(6, q.2.1), (25, .sl g 2 [Ls a l, Ls c m]), (26, I 2), (27, I q.1)], q.2.2⟩)
      (fun q => q.1 ≤ 2 ∧ RowIs q.2.2 q.2.1 (joinT l m q.1) ∧ (∀ i, i < hp.length → nthH q.2.2 i = nthH hp i) ∧ (∀ i, rid q.2.1 = some i → hp.length ≤ i) ∧ hp.length ≤ q.2.2.length ∧
        (0 < q.1 → ∃ id, q.2.1 = .ms id 0 (joinT l m q.1).length 1 ∧ nthH q.2.2 id = some (.cells ((joinT l m q.1).map fun n => I n)))) (fun q => 2 - q.1) (0, x, H)
      ⟨by simp, a1, a2, a3, by
        by_cases h0 : hp.length = 0
        · omega
        · have := a2 (hp.length - 1) (by omega)
          have h1 : nthH hp (hp.length - 1) = hp[hp.length - 1]? := nthH_eq ..
          rw [h1, List.getElem?_eq_getElem (by omega)] at this
          have := nthH_lt this
          simp only; omega, fun h => by simp at h⟩ rfl ?_
    rintro ⟨i, y, G⟩ ⟨c1, c2, c3, c4, c5, c6⟩
    simp only at c1 c2 c3 c4 c5 c6
    simp (disch := omega) [wrap_id]
    by_cases h2 : i < 2
    · have h2I : (i : Int) < 2 := by omega
      obtain rfl | rfl : i = 0 ∨ i = 1 := by omega
      · simp (disch := omega) [wrap_id]
        refine app_rowL (l := []) (m := l) c2 (by simp) (by omega) fun ws w1 w2 w3 w4 => ?_
        simp (disch := omega) [wrap_id]
        refine next_eq (1, .ms G.length 0 l.length 1, writeL G ws) ⟨by simp, .inr ⟨G.length, 0, _, by simp [joinT], w3, by simp [joinT], by simp [joinT, view]; rw [List.take_of_length_le (by simp)]⟩, fun i hi => ?_, fun i hi => ?_, by simp only; omega, fun _ => ⟨G.length, by simp [joinT], by simpa [joinT] using w3⟩⟩ (by simp) (by simp)
        · rw [w1 i (by omega) (fun e => by have := c4 i e; omega)]; exact c3 i hi
        · cases hi; exact c5
      · simp (disch := omega) [wrap_id]
        refine app_rowL (l := l) (m := m) (by simpa [joinT] using c2) (by omega) (by omega) fun ws w1 w2 w3 w4 => ?_
        simp (disch := omega) [wrap_id]
        refine next_eq (2, .ms G.length 0 (l.length + m.length) 1, writeL G ws) ⟨by simp, .inr ⟨G.length, 0, _, by simp [joinT], w3, by simp [joinT], by simp [joinT, view]; rw [List.take_of_length_le (by simp)]⟩, fun i hi => ?_, fun i hi => ?_, by simp only; omega, fun _ => ⟨G.length, by simp [joinT], by simpa [joinT] using w3⟩⟩ (by simp) (by simp)
        · rw [w1 i (by omega) (fun e => by have := c4 i e; omega)]; exact c3 i hi
        · cases hi; exact c5
    · have : i = 2 := by omega
      subst this
      obtain ⟨id, rfl, d2⟩ := c6 (by omega)
      simp (disch := omega) [wrap_id, joinT] at d2 ⊢
      exact hK G id (by simpa using d2) c3 (c4 id rfl)

end Go.AM

/- WHAT THE CODE ANSWERS, PART 5: Way, of the code and of the specification. Own work. -/
set_option linter.unusedSimpArgs false
set_option linter.unusedVariables false
namespace Go.AM
open Go.RowKit Go.Proofs

def wayR (b : Bch) (l m : List Int) : List Int := if twoR b l m ≠ 0 then [] else form b (backL l ++ m)

theorem isC_ls (f : Bool) (l : List Int) : ((Ls f l).cells.all AV.isCell && (Ls f l).cells.all AV.isPure && ((Ls f l).cells.length == 1)) = true := rfl

theorem way_ok (f g h : Bool) (b : Bch) (l m : List Int) (hb : b.c.length ≤ 1000000) (hl : l.length ≤ 1000000) (hm : m.length ≤ 1000000) : PureOK Try.prog 43 [Bn f b, Ls g l, Ls h m] (.tup [Ls (wayR b l m).isEmpty (wayR b l m), I (twoR b l m)]) := by
  refine pure_of (walk Try.func43 form43 res43 (by show 3 ≤ _; decide) ?_)
  simp (disch := omega) [G43, wrap_id]
  refine bsl_of (ys := [Ls g l, Ls h m]) rfl rfl ?_
  simp (disch := omega) [wrap_id, zrep]
  refine callW_pure rfl (open2_ok f true g h b l m hb hl hm) ?_
  by_cases hc : twoR b l m = 0
  · obtain ⟨h1, h2⟩ := two_S8 hc
    obtain ⟨s1, l1⟩ := chkL_S8 h1
    obtain ⟨s2, l2⟩ := chkL_S8 h2
    have bl := backL_len l
    simp (disch := omega) [wrap_id, openAV, hc]
    refine back81_w g l hl s1.small fun H x a1 a2 a3 => ?_
    obtain ⟨fx, ix, px, hix⟩ := a1.pur
    simp (disch := omega) [wrap_id]
    refine bsl_of (ys := [Ls fx (backL l), Ls h m]) (purifyAll2 px ls_pur) rfl ?_
    simp (disch := omega) [wrap_id, zrep]
    refine concat_w true fx h (backL l) m (by omega) (by omega) fun H2 id c1 c2 c3 => ?_
    simp (disch := omega) [wrap_id]
    refine callW_pure (purifyAll2 (a := .ptr (TB f b) 0) rfl (ms_pur (n := (backL l).length + m.length) c1 (by simp only [List.length_append]))) (form_c f false b (backL l ++ m) ((backL_S8 s1).append s2) (by rw [List.length_append]; omega)) ?_
    have e : wayR b l m = form b (backL l ++ m) := by unfold wayR; rw [if_neg (by simp [hc])]
    rw [e]
    simp (disch := omega) [wrap_id]
    refine out_of (is := []) ?_
    rfl
  · have hc' : (twoR b l m != 0) = true := by simpa using hc
    simp (disch := omega) [wrap_id, openAV, hc, hc']
    have e : wayR b l m = [] := by unfold wayR; rw [if_pos hc]
    rw [e]
    refine out_of (is := []) ?_
    rfl

theorem back_nil (g : Bool) : PureOK Try.prog 49 [Ls g []] (.sl true 0 []) :=
  pure_of (back_w g [] (by simp) (fun x h => by simp at h) fun H x h _ _ => by
    rcases h with ⟨rfl, _⟩ | ⟨_, _, h, _⟩
    · exact ⟨[], rfl⟩
    · exact absurd backL_nil h)
theorem back_made (g : Bool) (l : List Int) (hl : l.length ≤ 1000000) (hs : Small l) (hne : l ≠ []) : MadeOK Try.prog 49 [Ls g l] l.length 1 ((backL l).map fun n => I n) :=
  made_of (is_pc_ls _) (back_w g l hl hs fun H x h _ _ => by
    rcases h with ⟨_, h⟩ | ⟨id, rfl, _, h2⟩
    · have := backL_len l
      rw [h] at this
      exact absurd (List.eq_nil_of_length_eq_zero this.symm) hne
    · exact ⟨id, by rw [backL_len], by rw [hpf_nthH]; exact h2⟩)

theorem refWay_ok (f g h : Bool) (b : Bch) (l m : List Int) (hb : b.c.length ≤ 1000000) (hl : l.length ≤ 1000000) (hm : m.length ≤ 1000000) : PureOK Try.prog 44 [Bn f b, Ls g l, Ls h m] (.tup [Ls (wayR b l m).isEmpty (wayR b l m), I (twoR b l m)]) := by
  refine pure_of (walk Try.func44 form44 res44 (by show 3 ≤ _; decide) ?_)
  simp (disch := omega) [G44, wrap_id]
  refine callW_pure rfl (two_ok f g h b l m hb hl hm) ?_
  rw [show (if chkL b l ≠ 0 then chkL b l else chkL b m) = twoR b l m from rfl]
  by_cases hc : twoR b l m = 0
  · obtain ⟨h1, h2⟩ := two_S8 hc
    obtain ⟨s1, l1⟩ := chkL_S8 h1
    obtain ⟨s2, l2⟩ := chkL_S8 h2
    have bl := backL_len l
    have e : wayR b l m = form b (backL l ++ m) := by unfold wayR; rw [if_neg (by simp [hc])]
    simp (disch := omega) [wrap_id, hc]
    have fin : ∀ x : AV, ∀ hp : List HObj, x = Ls (form b (backL l ++ m)).isEmpty (form b (backL l ++ m)) → Out (.tup [Ls (wayR b l m).isEmpty (wayR b l m), I 0]) (.tup [x, I 0]) hp := fun x hp hx => by
      subst hx; rw [e]; exact ⟨[], rfl⟩
    by_cases h0 : l = []
    · subst h0
      refine pureW_of rfl (back_nil g) ?_
      simp (disch := omega) [wrap_id]
      refine ⟨by omega, ?_⟩
      have hm1 : nthH [HObj.cells [I b.L, Ps f b.c], HObj.cells (m.map fun n => I n)] 1 = some (.cells (m.map fun n => I n)) := rfl
      refine pureW_of (purifyAll2 bn_pur (ms_pur (n := m.length) hm1 rfl)) (form_ok f false b m (by omega) (by omega) s2.small) ?_
      simp (disch := omega) [wrap_id]
      exact fin _ _ (by rw [backL_nil]; rfl)
    · refine pureW_made rfl (back_made g l (by omega) s1.small h0) ?_
      simp (disch := omega) [wrap_id]
      have et : List.take l.length ((backL l).map fun n => I n) = (backL l).map fun n => I n := List.take_of_length_le (by simp [bl])
      rw [et]
      refine ⟨⟨by omega, by omega, by omega⟩, ?_⟩
      have hm2 : nthH [HObj.cells [I b.L, Ps f b.c], HObj.gone, HObj.cells (((backL l).map fun n => I n) ++ m.map fun n => I n)] 2 = some (.cells ((backL l ++ m).map fun n => I n)) := by rw [List.map_append]; rfl
      refine pureW_of (purifyAll2 bn_pur (ms_pur (n := l.length + m.length) hm2 (by rw [List.length_append, bl]))) (form_ok f false b (backL l ++ m) (by omega) (by rw [List.length_append]; omega) ((backL_S8 s1).append s2).small) ?_
      simp (disch := omega) [wrap_id]
      exact fin _ _ rfl
  · have hc' : (twoR b l m != 0) = true := by simpa using hc
    simp (disch := omega) [wrap_id, hc, hc']
    refine callW_pure rfl (two_ok f g h b l m hb hl hm) ?_
    rw [show (if chkL b l ≠ 0 then chkL b l else chkL b m) = twoR b l m from rfl]
    simp (disch := omega) [wrap_id, hc, hc']
    have e : wayR b l m = [] := by unfold wayR; rw [if_pos hc]
    rw [e]
    refine out_of (is := []) ?_
    rfl

end Go.AM

/- THE THEORY OF MOVES, PART 2: ways. Own work. -/
set_option linter.unusedSimpArgs false
set_option linter.unusedVariables false
namespace Go.AM
open Go.RowKit Go.Proofs

variable {b : Bch}

theorem redF_mem : ∀ (n : Nat) {l : List Int} {s : Int}, s ∈ redF b n l → s ∈ l
  | 0, l, s, h => h
  | n + 1, l, s, h => by
    simp only [redF] at h
    split at h
    · exact List.mem_of_mem_eraseIdx (List.mem_of_mem_eraseIdx (redF_mem n h))
    · exact h
theorem formF_mem : ∀ (n : Nat) {w : List Int} {s : Int}, S8 w → w.length = n → s ∈ formF b w.length w → s ∈ w
  | 0, w, s, hw, hn, h => by
    have : w = [] := List.eq_nil_of_length_eq_zero hn
    subst this; cases h
  | n + 1, w, s, hw, hn, h => by
    have hne : w ≠ [] := fun e => by rw [e] at hn; cases hn
    obtain ⟨j, hj, g1, g2, g3, g4, g5⟩ := form_step (b := b) hw hne
    have hlen : (w.eraseIdx j).length = w.length - 1 := by rw [List.length_eraseIdx, if_pos hj]
    have e : formF b w.length w = w[j] :: formF b (w.length - 1) (w.eraseIdx j) := by
      rw [formF_step b w (by omega), g1]; simp [hj]
    rw [e, ← hlen] at h
    rcases List.mem_cons.1 h with rfl | h
    · exact List.getElem_mem hj
    · exact List.mem_of_mem_eraseIdx (formF_mem n (fun x hx => hw x (List.mem_of_mem_eraseIdx hx)) (by omega) h)
theorem form_mem {l : List Int} {s : Int} (hl : S8 l) (h : s ∈ form b l) : s ∈ l :=
  redF_mem _ (formF_mem _ (redF_sim (b := b) l.length hl).2.1 rfl h)

theorem chkL_form {l : List Int} (h : chkL b l = 0) : chkL b (form b l) = 0 := by
  obtain ⟨h1, h2, h3⟩ := chkL0.1 h
  have := form_len b l
  exact chkL0.2 ⟨h1, by omega, fun s hs => h3 s (form_mem (chkL_S8 h).1 hs)⟩
theorem chkL_sub {l m : List Int} (h : chkL b l = 0) (hl : m.length ≤ 60) (hm : ∀ s ∈ m, s ∈ l) : chkL b m = 0 := by
  obtain ⟨h1, h2, h3⟩ := chkL0.1 h
  exact chkL0.2 ⟨h1, hl, fun s hs => h3 s (hm s hs)⟩
theorem chkL_app {l m : List Int} (h : chkL b l = 0) (h' : chkL b m = 0) (hl : l.length + m.length ≤ 60) : chkL b (l ++ m) = 0 := by
  obtain ⟨h1, h2, h3⟩ := chkL0.1 h
  obtain ⟨_, h4, h5⟩ := chkL0.1 h'
  refine chkL0.2 ⟨h1, by rw [List.length_append]; omega, fun s hs => ?_⟩
  rcases List.mem_append.1 hs with h | h
  · exact h3 s h
  · exact h5 s h
theorem chkL_back {l : List Int} (h : chkL b l = 0) : chkL b (backL l) = 0 := by
  obtain ⟨h1, h2, h3⟩ := chkL0.1 h
  exact chkL0.2 ⟨h1, by rw [backL_len]; omega, strokeB_back h3⟩
theorem two_zero {l m : List Int} (h : chkL b l = 0) (h' : chkL b m = 0) : twoR b l m = 0 := by unfold twoR; rw [if_neg (by simp [h])]; exact h'
theorem sameR_pat {l m : List Int} (h : chkL b l = 0) (h' : chkL b m = 0) : sameR b l m = 0 ↔ Pat b l m := by
  unfold sameR
  rw [if_neg (fun k => k (two_zero h h')), sim_iff (chkL_S8 h).1 (chkL_S8 h').1]
  split <;> simp_all
theorem sameR_val {l m : List Int} (h : chkL b l = 0) (h' : chkL b m = 0) : sameR b l m = 0 ∨ sameR b l m = 18 := by
  unfold sameR
  rw [if_neg (fun k => k (two_zero h h'))]
  split <;> simp

/-- The way there is as long as the way back. -/
theorem way_len {l m : List Int} (hl : S8 l) (hm : S8 m) : (form b (backL l ++ m)).length = (form b (backL m ++ l)).length := by
  have := form_back_len (b := b) (l := backL m ++ l) ((backL_S8 hm).append hl)
  rw [backL_append, backL_back] at this
  exact this
theorem way_join {l m n : List Int} (hm : S8 m) : Pat b (backL l ++ n) ((backL l ++ m) ++ (backL m ++ n)) := by
  have := ((sim_back (b := b) hm).symm.left n).right (backL l)
  simpa using this
theorem way_tri {l m n : List Int} (hl : S8 l) (hm : S8 m) (hn : S8 n) : (form b (backL l ++ n)).length ≤ (form b (backL l ++ m)).length + (form b (backL m ++ n)).length := by
  have h1 := (way_join (l := l) (n := n) hm).trans ((form_sim (b := b) ((backL_S8 hl).append hm)).app (form_sim (b := b) ((backL_S8 hm).append hn)))
  have := form_le ((backL_S8 hl).append hn) h1
  rwa [List.length_append] at this
theorem way_draw {l m : List Int} (hl : S8 l) (hm : S8 m) : Pat b (l ++ form b (backL l ++ m)) m := by
  have h1 := (form_sim (b := b) ((backL_S8 hl).append hm)).symm.right l
  have h2 := (sim_back (b := b) hl).left m
  rw [List.append_assoc] at h2
  exact h1.trans h2
theorem way_zero {l m : List Int} (hl : S8 l) (hm : S8 m) : form b (backL l ++ m) = [] ↔ Pat b l m := by
  constructor
  · intro h
    have := way_draw (b := b) hl hm
    rw [h, List.append_nil] at this
    exact this
  · intro h
    have h1 := (h.symm.right (backL l)).trans (sim_back' hl)
    exact (sim_iff ((backL_S8 hl).append hm) S8.nil).1 h1
theorem form_more {l : List Int} {s : Int} (hl : S8 l) (hs : St8 s) : (form b (l ++ [s])).length = (form b l).length + 1 ∨ (form b (l ++ [s])).length + 1 = (form b l).length := by
  have hls := hl.append (S8.one hs)
  have h1 := form_le hls ((form_sim (b := b) hl).left [s])
  have h2 : Pat b l (form b (l ++ [s]) ++ [-s]) := by
    have := (form_sim (b := b) hls).left [-s]
    refine Pat.trans ?_ this
    have := (sim_back (b := b) (S8.one hs)).symm.right l
    simpa [backL] using this
  have h2 := form_le hl h2
  have h3 := form_par (b := b) hl
  have h4 := form_par (b := b) hls
  rw [List.length_append, List.length_singleton] at h1 h2 h4
  omega

end Go.AM
