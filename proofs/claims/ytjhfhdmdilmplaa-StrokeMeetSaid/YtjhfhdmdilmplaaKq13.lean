/-
  THE THEORY OF MOVES, PART 6: the strokes that can be first, in order. Own work.
  WHAT THE CODE ANSWERS, PART 13: Firsts. Own work.
  WHAT THE CODE ANSWERS, PART 14: CheckSpine. Own work.
  WHAT THE CODE ANSWERS, PART 15: Rounds. Own work.
  WHAT THE CODE ANSWERS, PART 16: Rounds, of the specification. Own work.
  WHAT THE CODE ANSWERS, PART 17: Rounds. Own work.
  WHAT THE CODE ANSWERS, PART 18: lists (of a list of lists and itself). Own work.
  THE THEORY OF MOVES, PART 7: chains and rounds. Own work.
  THE THEORY OF MOVES, PART 8: the longest chain, as a table. Own work.
  THE THEORY OF MOVES, PART 9: chains of the short form, and lists in groups. Own work.
  THE THEORY OF MOVES, PART 10: what two patterns have in common. Own work.
-/
import Derived.Test.YtjhfhdmdilmplaaKq12

/- THE THEORY OF MOVES, PART 6: the strokes that can be first, in order. Own work. -/
set_option linter.unusedSimpArgs false
set_option linter.unusedVariables false
namespace Go.AM
open Go.RowKit Go.Proofs

variable {b : Bch}

theorem insK_perm {v : Int} {l : List Int} : ∀ k, (insK v l k).Perm (v :: l)
  | 0 => by simp only [insK]; exact List.Perm.refl _
  | k + 1 => by
    simp only [insK]
    split
    · exact insK_perm k
    · have := @List.perm_middle _ v (l.take (k + 1)) (l.drop (k + 1))
      rw [List.take_append_drop] at this
      exact this

theorem firstsTo_nodup (l : List Int) : ∀ i, i ≤ l.length → (firstsTo b l i).Nodup
  | 0, _ => List.nodup_nil
  | i + 1, h => by
    simp only [firstsTo]
    split
    · rename_i hf
      have hi : i < l.length := by omega
      have gd : l.getD i 0 = l[i] := by simp [hi]
      rw [insR, (insK_perm _).nodup_iff, List.nodup_cons]
      refine ⟨fun hm => ?_, firstsTo_nodup l i (by omega)⟩
      obtain ⟨j, h1, h2, h3⟩ := (firstsTo_mem i).1 hm
      rw [gd] at h3
      have hj : j < l.length := by omega
      have gj : l.getD j 0 = l[j] := by simp [hj]
      rw [gj] at h3
      have := (freeB_iff hi).1 hf l[j] (List.mem_take_iff_getElem.2 ⟨j, by omega, rfl⟩)
      rw [h3, canB_self] at this
      cases this
    · exact firstsTo_nodup l i (by omega)

/-- In strict order. -/
def SSrt (l : List Int) : Prop := l.Pairwise fun x y => keyR x < keyR y

theorem ssrt_of {l : List Int} (h1 : Srt l) (h2 : l.Nodup) (h0 : ∀ s ∈ l, s ≠ 0) : SSrt l := by
  induction l with
  | nil => exact List.Pairwise.nil
  | cons x l ih =>
    obtain ⟨a1, a2⟩ := List.pairwise_cons.1 h1
    obtain ⟨b1, b2⟩ := List.nodup_cons.1 h2
    refine List.pairwise_cons.2 ⟨fun y hy => ?_, ih a2 b2 fun s hs => h0 s (by simp [hs])⟩
    have := a1 y hy
    by_cases e : keyR x = keyR y
    · have := key_inj (h0 x (by simp)) (h0 y (by simp [hy])) e
      subst this; exact absurd hy b1
    · omega

theorem ssrt_eq : ∀ {l m : List Int}, SSrt l → SSrt m → (∀ s, s ∈ l ↔ s ∈ m) → l = m
  | [], [], _, _, _ => rfl
  | [], y :: m, _, _, h => by have := (h y).2 (by simp); cases this
  | x :: l, [], _, _, h => by have := (h x).1 (by simp); cases this
  | x :: l, y :: m, hl, hm, h => by
    obtain ⟨a1, a2⟩ := List.pairwise_cons.1 hl
    obtain ⟨b1, b2⟩ := List.pairwise_cons.1 hm
    have exy : x = y := by
      rcases List.mem_cons.1 ((h x).1 (by simp)) with e | e
      · exact e
      · rcases List.mem_cons.1 ((h y).2 (by simp)) with e' | e'
        · exact e'.symm
        · have := b1 x e; have := a1 y e'; omega
    subst exy
    have nl : x ∉ l := fun hx => by have := a1 x hx; omega
    have nm : x ∉ m := fun hx => by have := b1 x hx; omega
    rw [ssrt_eq a2 b2 fun s => ?_]
    constructor
    · intro hs
      rcases List.mem_cons.1 ((h s).1 (by simp [hs])) with e | e
      · subst e; exact absurd hs nl
      · exact e
    · intro hs
      rcases List.mem_cons.1 ((h s).2 (by simp [hs])) with e | e
      · subst e; exact absurd hs nm
      · exact e

theorem fsTo_ssrt {w : List Int} : ∀ k, SSrt (fsTo (Pj b w) k) ∧ ∀ s ∈ fsTo (Pj b w) k, lineI s < k
  | 0 => ⟨List.Pairwise.nil, fun s hs => by cases hs⟩
  | k + 1 => by
    obtain ⟨h1, h2⟩ := fsTo_ssrt (w := w) k
    have hh : ∀ s ∈ headS (Pj b w k), lineI s = k := fun s hs => by
      obtain ⟨h0, r, hr⟩ := headS_mem.1 hs
      obtain ⟨_, _, _, _, h⟩ := head_free h0 hr
      exact h
    have kb : ∀ s : Int, 2 * lineI s ≤ keyR s ∧ keyR s ≤ 2 * lineI s + 1 := fun s => by unfold keyR; split <;> omega
    refine ⟨List.pairwise_append.2 ⟨h1, ?_, fun x hx y hy => ?_⟩, fun s hs => ?_⟩
    · unfold headS
      split
      · exact List.Pairwise.nil
      · split
        · exact List.Pairwise.nil
        · exact List.pairwise_singleton _ _
    · have := h2 x hx
      have := hh y hy
      have := (kb x).2
      have := (kb y).1
      omega
    · rcases List.mem_append.1 hs with hs | hs
      · have := h2 s hs; omega
      · have := hh s hs; omega

/-- The fronts of the piles are the strokes that can be first, in their order. -/
theorem fs_firsts {w : List Int} (hw : S8 w) : fsR (Pj b w) = firstsR b w := by
  refine ssrt_eq (fsTo_ssrt 8).1 (ssrt_of (firstsTo_srt w w.length) (firstsTo_nodup w w.length (Nat.le_refl _)) fun s hs => ?_) fun s => ?_
  · obtain ⟨u, v, e, _⟩ := firsts_mem.1 hs
    exact (hw s (by rw [e]; simp)).1
  · rw [firsts_mem]; exact fs_Pj hw

end Go.AM

/- WHAT THE CODE ANSWERS, PART 13: Firsts. Own work. -/
set_option linter.unusedSimpArgs false
set_option linter.unusedVariables false
namespace Go.AM
open Go.RowKit Go.Proofs

def firstsFR (b : Bch) (l : List Int) : List Int := if chkL b l ≠ 0 then [] else firstsR b (form b l)

theorem refFirsts_ok (f g : Bool) (b : Bch) (l : List Int) (hb : b.c.length ≤ 1000000) (hl : l.length ≤ 1000000) : PureOK Try.prog 33 [Bn f b, Ls g l] (.tup [Ls (firstsFR b l).isEmpty (firstsFR b l), I (chkL b l)]) := by
  refine pure_of (walk Try.func33 form33 res33 (by show 2 ≤ _; decide) ?_)
  simp (disch := omega) [G33, wrap_id]
  refine callW_pure rfl (refList_ok f g b l hb hl) ?_
  by_cases hc : chkL b l = 0
  · obtain ⟨s1, l1⟩ := chkL_S8 hc
    have x1 := form_len b l
    have e : firstsFR b l = firstsR b (form b l) := by unfold firstsFR; rw [if_neg (by simp [hc])]
    rw [e, hc]
    simp (disch := omega) [wrap_id]
    refine pureW_of rfl (form_ok f g b l hb (by omega) s1.small) ?_
    simp (disch := omega) [wrap_id]
    refine pureW_of rfl (firsts_ok f (form b l).isEmpty b (form b l) hb (by omega) (form_S8 s1).small) ?_
    simp (disch := omega) [wrap_id]
    exact out_of (is := []) rfl
  · have hc' : (chkL b l != 0) = true := by simpa using hc
    have e : firstsFR b l = [] := by unfold firstsFR; rw [if_pos hc]
    rw [e]
    simp (disch := omega) [wrap_id, hc, hc']
    refine callW_pure rfl (refList_ok f g b l hb hl) ?_
    simp (disch := omega) [wrap_id, hc, hc']
    exact out_of (is := []) rfl

theorem out_accI {H : List HObj} {a : AV} {l : List Int} {n : Int} (h : AccR H a l) : Out (.tup [Ls l.isEmpty l, I n]) (.tup [a, I n]) H := by
  rcases h with ⟨rfl, rfl⟩ | ⟨id, rfl, h2, h3⟩
  · exact out_of (is := []) rfl
  · have e : l.isEmpty = false := by cases l <;> simp_all
    rw [e]
    rw [nthH_eq] at h3
    refine out_of (is := [id]) ?_
    simp only [purify, purifyL, purify1, hpf, h3]
    rw [if_pos ⟨by simp, ls_isPure _⟩]
    simp [view]
    rw [List.take_of_length_le (by simp)]

theorem slc_acc {hp : List HObj} {y : AV} {l : List Int} {j : Nat} {K : AV → List (Nat × HObj) → Prop} (h : AccR hp y l) (hj : l.length = j) (hK : K y []) : SlcW 1 y none (some (I (j : Int))) (some (I (j : Int))) K := by
  subst hj
  rcases h with ⟨rfl, rfl⟩ | ⟨id, rfl, h2, h3⟩
  · exact ⟨.sl true 0 [], [], ⟨0, 0, rfl, rfl, by omega, by omega, rfl, ⟨rfl, rfl, rfl⟩, rfl⟩, hK⟩
  · exact slc_ms_of (l := 0) (h := l.length) rfl rfl ⟨l.length, rfl, by omega, by omega, rfl⟩ (by omega) (by omega) hK

/-- A range over fronts that gathers in a cell. -/
def GaJ (H : List HObj) (F : List Int) (a id : Nat) (j : Nat) (G : List HObj) : Prop :=
  (∀ i, i < id → i ≠ a → nthH G i = nthH H i) ∧ (∃ y, nthH G a = some (.cells [y]) ∧ AccR G y (F.take j) ∧ ∀ i, rid y = some i → id + 2 ≤ i) ∧ nthH G id = some (.lp .ready (id + 1)) ∧ id + 2 ≤ G.length

theorem firsts_c (f g : Bool) (b : Bch) (l : List Int) (hb : b.c.length ≤ 1000000) (hl : l.length ≤ 1000000) : PureOK Try.prog 32 [Bn f b, Ls g l] (.tup [Ls (firstsFR b l).isEmpty (firstsFR b l), I (chkL b l)]) := by
  refine pure_of (walk Try.func32 form32 res32 (by show 2 ≤ _; decide) ?_)
  simp (disch := omega) [G32, wrap_id]
  refine bsl_of (ys := [Ls g l]) rfl rfl ?_
  simp (disch := omega) [wrap_id, zrep]
  refine callW_pure rfl (open1_ok f true g b l hb hl) ?_
  by_cases hc : chkL b l = 0
  · obtain ⟨s1, l1⟩ := chkL_S8 hc
    have x1 := form_len b l
    have e : firstsFR b l = fsR (Pj b (form b l)) := by unfold firstsFR; rw [if_neg (by simp [hc]), fs_firsts (form_S8 s1)]
    rw [e, hc]
    simp (disch := omega) [wrap_id, openAV]
    refine pile_w f g b l s1 hl (pileNe s1) fun H rs P u1 u2 => ?_
    simp (disch := omega) [wrap_id]
    have P : PLr H 2 (TB f b) rs (Pj b (form b l)) := P.congr (pile_form s1)
    have c1 : nthH H 1 = some (.cells [.sl true 0 []]) := u1 1 (by simp)
    have u2 : ∀ i, Own 2 rs i → 2 ≤ i := u2
    have H0 := nthH_lt P.obj
    refine fronts_w ?_
    simp (disch := omega) [wrap_id]
    have ho : ∀ i, Own 2 rs i → i < H.length := fun i hi => own_lt P hi
    have hid : (H ++ [HObj.cells [AV.ref 2 0]]).length = H.length + 1 := by simp
    have front : ∀ (i : Nat) (l : List HObj), i < H.length → nthH (H ++ l) i = nthH H i := fun i l hi => nthH_front hi
    refine rf_of (K0 := GaJ (H ++ [HObj.cells [AV.ref 2 0]]) (fsR (Pj b (form b l))) 1 (H.length + 1) (fsR (Pj b (form b l))).length) (fronts_R (f := f) (b := b) (p := 2) (rs := rs) (R := Pj b (form b l)) (J := GaJ (H ++ [HObj.cells [AV.ref 2 0]]) (fsR (Pj b (form b l))) 1 (H.length + 1)) (P.mono fun i hi => front i _ (ho i hi)) ?_ ?_ (fun j G h => P.mono fun i hi => ?_) ?_) ?_
    · exact nthH_end
    · rw [hid]
      refine ⟨fun i hi _ => by rw [nthH_front (by omega)], ⟨.sl true 0 [], ?_, .inl ⟨rfl, rfl⟩, fun i hi => (by cases hi)⟩, ?_, by simp⟩
      · rw [nthH_front (by simp; omega), nthH_front (by omega)]; exact c1
      · rw [nthH_eq, List.getElem?_append_right (by omega)]; simp
    · rw [h.1 i (by have := ho i hi; omega) (by have := u2 i hi; omega)]; exact front i _ (ho i hi)
    · intro j G hj hJ
      obtain ⟨f1, ⟨y, f3, f4, f5⟩, f6, f7⟩ := hJ
      rw [hid]
      refine ⟨by rw [hpf_nthH]; exact f6, rfl, ?_⟩
      generalize hF : fsR (Pj b (form b l)) = F at *
      have h8 : F.length ≤ 8 := by rw [← hF]; exact fsR_len _
      have gl : H.length + 1 < G.length := by omega
      have ga : nthH (G.set (H.length + 1) (HObj.lp LpSt.busy (H.length + 1 + 1))) 1 = some (.cells [y]) := by rw [nthH_set_ne (by omega)]; exact f3
      have gy : AccR (G.set (H.length + 1) (HObj.lp LpSt.busy (H.length + 1 + 1))) y (F.take j) := f4.mono fun i hi => nthH_set_ne (by have := f5 i hi; omega)
      have gid : nthH (G.set (H.length + 1) (HObj.lp LpSt.busy (H.length + 1 + 1))) (H.length + 1) = some (.lp .busy (H.length + 1 + 1)) := nthH_set_same gl
      have gll : (G.set (H.length + 1) (HObj.lp LpSt.busy (H.length + 1 + 1))).length = G.length := by simp
      have kb : ∀ i, i < H.length + 1 → i ≠ 1 → nthH (G.set (H.length + 1) (HObj.lp LpSt.busy (H.length + 1 + 1))) i = nthH (H ++ [HObj.cells [AV.ref 2 0]]) i := fun i hi hn => by rw [nthH_set_ne (by omega)]; exact f1 i hi hn
      have tk : F.take (j + 1) = F.take j ++ [F[j]] := List.take_succ_eq_append_getElem hj
      have hjl : (F.take j).length ≤ j := by rw [List.length_take]; omega
      simp (disch := omega) [wrap_id, putPs, hpf_nthH, f6, gl, ga, len_row gy.row]
      generalize G.set (H.length + 1) (HObj.lp LpSt.busy (H.length + 1 + 1)) = Gb at *
      generalize F[j] = s at *
      have hjl : (F.take j).length = j := by rw [List.length_take]; omega
      refine slc_acc gy hjl ?_
      simp (disch := omega) [wrap_id]
      refine bsl_of (ys := [I s]) rfl rfl ?_
      simp (disch := omega) [wrap_id, zrep]
      refine app_row gy.row (by omega) fun ws w1 w2 w3 => ?_
      generalize hH1 : writeL Gb ws = Hn at w1 w2 w3
      have w1' : ∀ i, i < G.length → rid y ≠ some i → nthH Hn i = nthH Gb i := fun i hi hr => w1 i (by omega) hr
      have a1 : nthH Hn 1 = some (.cells [y]) := by rw [w1' 1 (by omega) (fun e => by have := f5 _ e; omega)]; exact ga
      have a2 : nthH Hn (H.length + 1) = some (.lp .busy (H.length + 1 + 1)) := by rw [w1' (H.length + 1) gl (fun e => by have := f5 _ e; omega)]; exact gid
      have a3 : 1 < Hn.length := by omega
      have a4 : H.length + 1 < Hn.length := by omega
      simp (disch := omega) [wrap_id, hH1, a1, a3]
      refine ⟨?_, rfl, ?_⟩
      · rw [hpf_nthH, nthH_set_ne (by omega)]; exact a2
      · simp only [setL, List.length_set]
        rw [if_pos a4]
        refine ⟨fun i hi hn => ?_, ⟨_, by rw [nthH_set_ne (by omega)]; exact nthH_set_same a3, ?_, fun i hi => ?_⟩, nthH_set_same (by simp; omega), by simp; omega⟩
        · rw [nthH_set_ne (by omega), nthH_set_ne (by omega), w1' i (by omega) (fun e => by have := f5 _ e; omega)]; exact kb i hi hn
        · rw [tk]
          refine .inr ⟨Gb.length, by simp; omega, by simp, ?_⟩
          rw [nthH_set_ne (by omega), nthH_set_ne (by omega)]; exact w3
        · cases hi; omega
    · rintro G ⟨f1, ⟨y, f3, f4, f5⟩, f6, f7⟩
      rw [hid]
      rw [List.take_length] at f4
      refine rfEnd_ready f6 ?_
      have ga : nthH (G.set (H.length + 1) .gone) 1 = some (.cells [y]) := by rw [nthH_set_ne (by omega)]; exact f3
      have gy : AccR (G.set (H.length + 1) .gone) y (fsR (Pj b (form b l))) := f4.mono fun i hi => nthH_set_ne (by have := f5 i hi; omega)
      generalize G.set (H.length + 1) HObj.gone = G2 at ga gy
      simp (disch := omega) [wrap_id, ga]
      exact out_accI gy
  · have hc' : (chkL b l != 0) = true := by simpa using hc
    simp (disch := omega) [wrap_id, openAV, hc, hc']
    have e : firstsFR b l = [] := by unfold firstsFR; rw [if_pos hc]
    rw [e]
    exact out_of (is := []) rfl

end Go.AM

/- WHAT THE CODE ANSWERS, PART 14: CheckSpine. Own work. -/
set_option linter.unusedSimpArgs false
set_option linter.unusedVariables false
namespace Go.AM
open Go.RowKit Go.Proofs

/-- The index at a place may stand there. -/
def spAt (n : Nat) (sp : List Int) (i : Nat) : Bool := decide (0 ≤ sp.getD i 0) && decide (sp.getD i 0 < n) && (decide (i = 0) || decide (sp.getD (i - 1) 0 < sp.getD i 0))
def spOK (n : Nat) (sp : List Int) : Bool := (List.range sp.length).all (spAt n sp)
/-- Two neighbours of a spine can be exchanged. -/
def spCan (b : Bch) (w sp : List Int) (i : Nat) : Bool := canB b (w.getD (sp.getD (i - 1) 0).toNat 0) (w.getD (sp.getD i 0).toNat 0)
def spNo (b : Bch) (w sp : List Int) : Bool := (List.range sp.length).all fun i => decide (i = 0) || !spCan b w sp i
def spineR (b : Bch) (l sp : List Int) : Int × Int :=
  if chkL b l ≠ 0 then (0, chkL b l) else if spOK (form b l).length sp = false then (0, 3) else if spNo b (form b l) sp = false then (0, 16) else (sp.length, 0)

theorem spOK_iff {n : Nat} {sp : List Int} : spOK n sp = true ↔ ∀ i, i < sp.length → spAt n sp i = true := by
  unfold spOK; rw [List.all_eq_true]; simp [List.mem_range]
theorem spOK_no {n : Nat} {sp : List Int} {i : Nat} (h : i < sp.length) (hi : spAt n sp i = false) : spOK n sp = false := by
  cases h2 : spOK n sp with
  | false => rfl
  | true => rw [spOK_iff.1 h2 i h] at hi; cases hi
theorem spNo_iff {b : Bch} {w sp : List Int} : spNo b w sp = true ↔ ∀ i, i < sp.length → i ≠ 0 → spCan b w sp i = false := by
  unfold spNo; rw [List.all_eq_true]
  constructor
  · intro h i hi h0
    have := h i (List.mem_range.2 hi)
    simpa [h0] using this
  · intro h i hi
    by_cases h0 : i = 0
    · simp [h0]
    · simp [h0, h i (List.mem_range.1 hi) h0]
theorem spNo_no {b : Bch} {w sp : List Int} {i : Nat} (h : i < sp.length) (h0 : i ≠ 0) (hi : spCan b w sp i = true) : spNo b w sp = false := by
  cases h2 : spNo b w sp with
  | false => rfl
  | true => rw [spNo_iff.1 h2 i h h0] at hi; cases hi

theorem refSpine_ok (f g h : Bool) (b : Bch) (l sp : List Int) (hb : b.c.length ≤ 1000000) (hl : l.length ≤ 1000000) (hs : sp.length ≤ 1000000) : PureOK Try.prog 37 [Bn f b, Ls g l, Ls h sp] (.tup [I (spineR b l sp).1, I (spineR b l sp).2]) := by
  refine pure_of (walk Try.func37 form37 res37 (by show 3 ≤ _; decide) ?_)
  simp (disch := omega) [G37, wrap_id]
  refine callW_pure rfl (refList_ok f g b l hb hl) ?_
  by_cases hc : chkL b l = 0
  · obtain ⟨s1, l1⟩ := chkL_S8 hc
    have x1 := form_len b l
    have sw := form_S8 (b := b) s1
    have ev : spineR b l sp = if spOK (form b l).length sp = false then (0, 3) else if spNo b (form b l) sp = false then (0, 16) else ((sp.length : Int), 0) := by unfold spineR; rw [if_neg (by simp [hc])]
    rw [hc]
    simp (disch := omega) [wrap_id]
    refine callW_pure rfl (form_ok f g b l hb (by omega) s1.small) ?_
    generalize hfe : (form b l).isEmpty = fe
    generalize form b l = w at *
    simp (disch := omega) [wrap_id]
    refine loop_eq (fun i : Nat => ⟨[(2, Ls h sp), (3, .ref 0 0), (8, Ls fe w), (9, I (i : Int))], [.cells [I b.L, Ps f b.c]]⟩) (fun i => i ≤ sp.length ∧ ∀ k, k < i → spAt w.length sp k = true) (fun i => sp.length - i) 0 ⟨Nat.zero_le _, fun k h => by omega⟩ rfl ?_
    rintro i ⟨c1, c2⟩
    refine hideK' fun K0 hK0 => ?_
    simp (disch := omega) [wrap_id]
    refine c_split (fun hi => ?_) (fun hi => ?_)
    · have hi : i < sp.length := by simp at hi; omega
      have gd : sp.getD i 0 = sp[i] := by simp [hi]
      have nx : ((i : Int) + 1) = ((i + 1 : Nat) : Int) := by omega
      have bad : spAt w.length sp i = false → spineR b l sp = (0, 3) := fun hb => by rw [ev, if_pos (spOK_no hi hb)]
      have good : spAt w.length sp i = true → ∀ k, k < i + 1 → spAt w.length sp k = true := fun hg k hk => by
        by_cases e : k = i
        · subst e; exact hg
        · exact c2 k (by omega)
      have sa : spAt w.length sp i = (decide (0 ≤ sp[i]) && decide (sp[i] < w.length) && (decide (i = 0) || decide (sp.getD (i - 1) 0 < sp[i]))) := by unfold spAt; rw [gd]
      simp (disch := omega) [wrap_id, cells_ls, hi]
      by_cases t1 : sp[i] < 0
      · rw [bad (by rw [sa]; simp [show ¬ 0 ≤ sp[i] by omega])] at hK0
        simp (disch := omega) [wrap_id, t1]
        subst hK0
        exact out_of (is := []) rfl
      by_cases t2 : (w.length : Int) ≤ sp[i]
      · rw [bad (by rw [sa]; simp [show ¬ sp[i] < w.length by omega])] at hK0
        simp (disch := omega) [wrap_id, cells_ls, hi, t1, t2]
        subst hK0
        exact out_of (is := []) rfl
      by_cases t3 : i = 0
      · subst t3
        simp (disch := omega) [wrap_id, cells_ls, hi, t1, t2]
        rw [hK0]
        exact next_eq 1 ⟨by omega, good (by rw [sa]; simp; omega)⟩ (by omega) rfl
      have j1 : ((i : Int) - 1).toNat = i - 1 := by omega
      have hj : i - 1 < sp.length := by omega
      have gj : sp.getD (i - 1) 0 = sp[i - 1] := by simp [hj]
      have t3' : 0 < i := by omega
      by_cases t4 : sp[i] ≤ sp[i - 1]
      · rw [bad (by rw [sa, gj]; simp [show ¬ sp[i - 1] < sp[i] by omega, t3])] at hK0
        simp (disch := omega) [wrap_id, cells_ls, hi, t1, t2, t3', j1, hj, t4]
        refine ⟨⟨by omega, by omega⟩, ?_⟩
        subst hK0
        exact out_of (is := []) rfl
      · simp (disch := omega) [wrap_id, cells_ls, hi, t1, t2, t3', j1, hj, t4]
        refine ⟨⟨by omega, by omega⟩, ?_⟩
        rw [hK0]
        exact next_eq (i + 1) ⟨by omega, good (by rw [sa, gj]; simp; omega)⟩ (by omega) (by simp only [nx])
    · have hi : i = sp.length := by simp at hi; omega
      subst hi
      subst hK0
      have ok := spOK_iff.2 c2
      rw [ok] at ev
      simp only [Bool.true_eq_false, if_false] at ev
      simp (disch := omega) [wrap_id]
      have rg : ∀ k (hk : k < sp.length), 0 ≤ sp[k] ∧ sp[k] < w.length := fun k hk => by
        have := c2 k hk
        unfold spAt at this
        have gd : sp.getD k 0 = sp[k] := by simp [hk]
        rw [gd] at this
        simp at this; omega
      refine loop_eq (fun k : Nat => ⟨[(2, Ls h sp), (3, .ref 0 0), (8, Ls fe w), (10, I (k : Int))], [.cells [I b.L, Ps f b.c]]⟩) (fun k => 1 ≤ k ∧ (k ≤ sp.length ∨ k = 1) ∧ ∀ j, j < k → j ≠ 0 → spCan b w sp j = false) (fun k => sp.length + 1 - k) 1 ⟨by omega, .inr rfl, fun j h1 h2 => by omega⟩ rfl ?_
      rintro k ⟨d1, d2, d3⟩
      refine hideK' fun K1 hK1 => ?_
      simp (disch := omega) [wrap_id]
      refine c_split (fun hk => ?_) (fun hk => ?_)
      · have hk : k < sp.length := by simp at hk; omega
        have hj : k - 1 < sp.length := by omega
        have j1 : ((k : Int) - 1).toNat = k - 1 := by omega
        obtain ⟨n1, hn1⟩ : ∃ n : Nat, sp[k] = n := ⟨sp[k].toNat, by have := rg k hk; omega⟩
        obtain ⟨n2, hn2⟩ : ∃ n : Nat, sp[k - 1] = n := ⟨sp[k - 1].toNat, by have := rg (k - 1) hj; omega⟩
        have m1 : n1 < w.length := by have := rg k hk; omega
        have m2 : n2 < w.length := by have := rg (k - 1) hj; omega
        have sc : spCan b w sp k = canB b w[n2] w[n1] := by
          unfold spCan
          have g1 : sp.getD k 0 = sp[k] := by simp [hk]
          have g2 : sp.getD (k - 1) 0 = sp[k - 1] := by simp [hj]
          rw [g1, g2, hn1, hn2]
          simp [m1, m2]
        have nx : ((k : Int) + 1) = ((k + 1 : Nat) : Int) := by omega
        have w1 := sw w[n1] (List.getElem_mem m1)
        have w2 := sw w[n2] (List.getElem_mem m2)
        simp (disch := omega) [wrap_id, cells_ls, hk, hj, j1, hn1, hn2, m1, m2]
        refine ⟨⟨by omega, by omega⟩, ?_⟩
        refine pureW_of rfl (refCan_ok f b hb w[n2] w[n1] ⟨by have := w2.2; omega, by have := w2.2; omega⟩ ⟨by have := w1.2; omega, by have := w1.2; omega⟩) ?_
        rw [← sc]
        cases hcan : spCan b w sp k with
        | true =>
          rw [spNo_no hk (by omega) hcan] at ev
          simp only [if_true] at ev
          simp (disch := omega) [wrap_id]
          subst hK1
          rw [ev]
          exact out_of (is := []) rfl
        | false =>
          simp (disch := omega) [wrap_id]
          rw [hK1]
          exact next_eq (k + 1) ⟨by omega, .inl (by omega), fun j h1 h2 => by
            by_cases e : j = k
            · subst e; exact hcan
            · exact d3 j (by omega) h2⟩ (by omega) (by simp only [nx])
      · subst hK1
        have fin : spNo b w sp = true := spNo_iff.2 fun j hj h0 => d3 j (by simp at hk; omega) h0
        rw [fin] at ev
        simp only [Bool.true_eq_false, if_false] at ev
        rw [ev]
        simp (disch := omega) [wrap_id]
        exact out_of (is := []) rfl
  · have hc' : (chkL b l != 0) = true := by simpa using hc
    have e : spineR b l sp = (0, chkL b l) := by unfold spineR; rw [if_pos hc]
    rw [e]
    simp (disch := omega) [wrap_id, hc, hc']
    refine callW_pure rfl (refList_ok f g b l hb hl) ?_
    simp (disch := omega) [wrap_id, hc, hc']
    exact out_of (is := []) rfl

theorem spine_c (f g h : Bool) (b : Bch) (l sp : List Int) (hb : b.c.length ≤ 1000000) (hl : l.length ≤ 1000000) (hs : sp.length ≤ 1000000) : PureOK Try.prog 36 [Bn f b, Ls g l, Ls h sp] (.tup [I (spineR b l sp).1, I (spineR b l sp).2]) := by
  refine pure_of (walk Try.func36 form36 res36 (by show 3 ≤ _; decide) ?_)
  simp (disch := omega) [G36, wrap_id]
  refine bsl_of (ys := [Ls g l]) rfl rfl ?_
  simp (disch := omega) [wrap_id, zrep]
  refine callW_pure rfl (open1_ok f true g b l hb hl) ?_
  by_cases hc : chkL b l = 0
  · obtain ⟨s1, l1⟩ := chkL_S8 hc
    have x1 := form_len b l
    have sw := form_S8 (b := b) s1
    have ev : spineR b l sp = if spOK (form b l).length sp = false then (0, 3) else if spNo b (form b l) sp = false then (0, 16) else ((sp.length : Int), 0) := by unfold spineR; rw [if_neg (by simp [hc])]
    rw [hc]
    simp (disch := omega) [wrap_id, openAV]
    refine callW_pure rfl (form_c f g b l s1 hl) ?_
    generalize hfe : (form b l).isEmpty = fe
    generalize form b l = w at *
    simp (disch := omega) [wrap_id]
    refine loop_eq (fun q : Nat × Int => ⟨[(2, Ls h sp), (8, .ptr (TB f b) 0), (10, Ls fe w), (11, I q.2), (28, Ls h sp), (29, I (sp.length : Int)), (30, I (q.1 : Int))], [.cells [I b.L, Ps f b.c]]⟩) (fun q => q.1 ≤ sp.length ∧ (∀ k, k < q.1 → spAt w.length sp k = true) ∧ q.2 = if q.1 = 0 then 0 else sp.getD (q.1 - 1) 0 + 1) (fun q => sp.length - q.1) (0, 0) ⟨Nat.zero_le _, fun k h => by simp only at h; omega, rfl⟩ rfl ?_
    rintro ⟨i, nxt⟩ ⟨c1, c2, c3⟩
    simp only at c1 c2 c3 ⊢
    refine hideK' fun K0 hK0 => ?_
    simp (disch := omega) [wrap_id]
    refine c_split (fun hi => ?_) (fun hi => ?_)
    · have hi : i < sp.length := by simp at hi; omega
      have gd : sp.getD i 0 = sp[i] := by simp [hi]
      have nx : ((i : Int) + 1) = ((i + 1 : Nat) : Int) := by omega
      have bad : spAt w.length sp i = false → spineR b l sp = (0, 3) := fun hb => by rw [ev, if_pos (spOK_no hi hb)]
      have good : spAt w.length sp i = true → ∀ k, k < i + 1 → spAt w.length sp k = true := fun hg k hk => by
        by_cases e : k = i
        · subst e; exact hg
        · exact c2 k (by omega)
      have sa : spAt w.length sp i = (decide (0 ≤ sp[i]) && decide (sp[i] < w.length) && (decide (i = 0) || decide (sp.getD (i - 1) 0 < sp[i]))) := by unfold spAt; rw [gd]
      have prev : i ≠ 0 → 0 ≤ sp.getD (i - 1) 0 := fun h0 => by
        have := c2 (i - 1) (by omega)
        unfold spAt at this
        simp only [Bool.and_eq_true, decide_eq_true_eq] at this
        exact this.1.1
      generalize sp.getD (i - 1) 0 = pq at sa c3 prev
      have wi : allIn nxt ((w.length : Int) - 1) [sp[i]] = spAt w.length sp i := by
        rw [sa]
        unfold allIn
        simp only [List.all_cons, List.all_nil, Bool.and_true]
        by_cases h0 : i = 0
        · rw [if_pos h0] at c3
          rw [Bool.eq_iff_iff]; simp [h0, c3]; omega
        · rw [if_neg h0] at c3
          have := prev h0
          rw [Bool.eq_iff_iff]; simp [h0, c3]; omega
      simp (disch := omega) [wrap_id, cells_ls, hi]
      refine bsl_of (ys := [I sp[i]]) rfl rfl ?_
      simp (disch := omega) [wrap_id, zrep, place]
      refine callW_pure rfl (within_ok nxt ((w.length : Int) - 1) true [sp[i]] (by simp)) ?_
      rw [wi]
      cases hsp : spAt w.length sp i with
      | false =>
        rw [bad hsp] at hK0
        simp (disch := omega) [wrap_id]
        subst hK0
        exact out_of (is := []) rfl
      | true =>
        have bd : 0 ≤ sp[i] ∧ sp[i] < w.length := by rw [hsp] at sa; have := sa.symm; simp at this; omega
        simp (disch := omega) [wrap_id]
        rw [hK0]
        refine next_eq (i + 1, sp[i] + 1) ⟨by simp only; omega, good hsp, ?_⟩ (by simp only; omega) (by simp only [nx])
        simp only
        rw [if_neg (by omega), Nat.add_sub_cancel, gd]
    · have hi : i = sp.length := by simp at hi; omega
      subst hi
      subst hK0
      have ok := spOK_iff.2 c2
      rw [ok] at ev
      simp only [Bool.true_eq_false, if_false] at ev
      simp (disch := omega) [wrap_id]
      have rg : ∀ k (hk : k < sp.length), 0 ≤ sp[k] ∧ sp[k] < w.length := fun k hk => by
        have := c2 k hk
        unfold spAt at this
        have gd : sp.getD k 0 = sp[k] := by simp [hk]
        rw [gd] at this
        simp at this; omega
      refine loop_eq (fun k : Nat => ⟨[(2, Ls h sp), (8, .ptr (TB f b) 0), (10, Ls fe w), (14, I (k : Int))], [.cells [I b.L, Ps f b.c]]⟩) (fun k => 1 ≤ k ∧ (k ≤ sp.length ∨ k = 1) ∧ ∀ j, j < k → j ≠ 0 → spCan b w sp j = false) (fun k => sp.length + 1 - k) 1 ⟨by omega, .inr rfl, fun j h1 h2 => by omega⟩ rfl ?_
      rintro k ⟨d1, d2, d3⟩
      refine hideK' fun K1 hK1 => ?_
      simp (disch := omega) [wrap_id]
      refine c_split (fun hk => ?_) (fun hk => ?_)
      · have hk : k < sp.length := by simp at hk; omega
        have hj : k - 1 < sp.length := by omega
        have j1 : ((k : Int) - 1).toNat = k - 1 := by omega
        obtain ⟨n1, hn1⟩ : ∃ n : Nat, sp[k] = n := ⟨sp[k].toNat, by have := rg k hk; omega⟩
        obtain ⟨n2, hn2⟩ : ∃ n : Nat, sp[k - 1] = n := ⟨sp[k - 1].toNat, by have := rg (k - 1) hj; omega⟩
        have m1 : n1 < w.length := by have := rg k hk; omega
        have m2 : n2 < w.length := by have := rg (k - 1) hj; omega
        have sc : spCan b w sp k = canB b w[n2] w[n1] := by
          unfold spCan
          have g1 : sp.getD k 0 = sp[k] := by simp [hk]
          have g2 : sp.getD (k - 1) 0 = sp[k - 1] := by simp [hj]
          rw [g1, g2, hn1, hn2]
          simp [m1, m2]
        have nx : ((k : Int) + 1) = ((k + 1 : Nat) : Int) := by omega
        have w1 := sw w[n1] (List.getElem_mem m1)
        have w2 := sw w[n2] (List.getElem_mem m2)
        simp (disch := omega) [wrap_id, cells_ls, hk, hj, j1, hn1, hn2, m1, m2]
        refine ⟨⟨by omega, by omega⟩, ?_⟩
        refine pureW_of rfl (can_ok f b w[n2] w[n1] w2 w1) ?_
        rw [← sc]
        cases hcan : spCan b w sp k with
        | true =>
          rw [spNo_no hk (by omega) hcan] at ev
          simp only [if_true] at ev
          simp (disch := omega) [wrap_id]
          subst hK1
          rw [ev]
          exact out_of (is := []) rfl
        | false =>
          simp (disch := omega) [wrap_id]
          rw [hK1]
          exact next_eq (k + 1) ⟨by omega, .inl (by omega), fun j h1 h2 => by
            by_cases e : j = k
            · subst e; exact hcan
            · exact d3 j (by omega) h2⟩ (by omega) (by simp only [nx])
      · subst hK1
        have fin : spNo b w sp = true := spNo_iff.2 fun j hj h0 => d3 j (by simp at hk; omega) h0
        rw [fin] at ev
        simp only [Bool.true_eq_false, if_false] at ev
        rw [ev]
        simp (disch := omega) [wrap_id]
        exact out_of (is := []) rfl
  · have hc' : (chkL b l != 0) = true := by simpa using hc
    have e : spineR b l sp = (0, chkL b l) := by unfold spineR; rw [if_pos hc]
    rw [e]
    simp (disch := omega) [wrap_id, openAV, hc, hc']
    exact out_of (is := []) rfl

end Go.AM

/- WHAT THE CODE ANSWERS, PART 15: Rounds. Own work. -/
set_option linter.unusedSimpArgs false
set_option linter.unusedVariables false
namespace Go.AM
open Go.RowKit Go.Proofs

/-- A list of lists that grows. -/
abbrev LsC (c : List (List Int)) : List AV := c.map fun l => Ls false l
def AccL (hp : List HObj) (x : AV) (c : List (List Int)) : Prop := (x = .sl true 0 [] ∧ c = []) ∨ ∃ id, x = .ms id 0 c.length 1 ∧ c ≠ [] ∧ nthH hp id = some (.cells (LsC c))
theorem AccL.mono {hp H x l} (h : AccL hp x l) (hk : ∀ i, rid x = some i → nthH H i = nthH hp i) : AccL H x l := by
  rcases h with h | ⟨id, rfl, h1, h2⟩
  · exact .inl h
  · exact .inr ⟨id, rfl, h1, (hk id rfl).trans h2⟩
theorem AccL.lt {hp x l i} (h : AccL hp x l) (hi : rid x = some i) : i < hp.length := by
  rcases h with ⟨rfl, _⟩ | ⟨id, rfl, _, h2⟩
  · cases hi
  · cases hi; exact nthH_lt h2
theorem app_accL {hp : List HObj} {x : AV} {c : List (List Int)} {m : List Int} {K : AV → List (Nat × HObj) → Prop} (hA : AccL hp x c) (hl : c.length ≤ 1000000)
    (hK : ∀ ws, (∀ i, i < hp.length → rid x ≠ some i → nthH (writeL hp ws) i = nthH hp i) → hp.length < (writeL hp ws).length → nthH (writeL hp ws) hp.length = some (.cells (LsC (c ++ [m]))) → K (.ms hp.length 0 (c.length + 1) 1) ws) :
    AppW hp 1 24 x (.sl true 1 [Ls false m]) K := by
  rcases hA with ⟨rfl, rfl⟩ | ⟨id, rfl, hne, hc⟩
  · rw [app_sl]
    have hn : nthH (writeL hp [(hp.length, HObj.cells (LsC ([] ++ [m])))]) hp.length = some (.cells (LsC ([] ++ [m]))) := by
      rw [nthH_writeL (by simp)]; simp [Hp.write, Hp.set_same]
    refine ⟨by simp, hK _ (fun i hi _ => ?_) (nthH_lt hn) hn⟩
    rw [nthH_writeL (by simp), nthH_eq]
    simp only [Hp.write]
    rw [Hp.set_other _ _ (by omega)]; rfl
  · have hlt := nthH_lt hc
    have fl : (LsC c).length = c.length := by simp
    rw [app_ms, hc, appr_some]
    have ev : view (LsC c) 0 (c.length * 1) = LsC c := by simp [view]; rw [List.take_of_length_le (by simp)]
    have e2 : LsC c ++ [Ls false m] = LsC (c ++ [m]) := by simp
    have hn : nthH (writeL hp [(id, HObj.gone), (hp.length, HObj.cells (LsC (c ++ [m])))]) hp.length = some (.cells (LsC (c ++ [m]))) := by
      rw [nthH_writeL (by simp; omega)]
      simp [Hp.write, Hp.set_same]
    rw [ev, e2]
    refine ⟨by simp; omega, hK _ (fun i hi hr => ?_) (nthH_lt hn) hn⟩
    rw [nthH_writeL (by simp; omega), nthH_eq]
    simp only [Hp.write]
    rw [Hp.set_other _ _ (by omega), Hp.set_other _ _ (fun e => hr (by rw [e]; rfl))]; rfl

abbrev LLr (c : List (List Int)) : AV := .sl c.isEmpty c.length (LsC c)
theorem out_accL {H : List HObj} {a : AV} {c : List (List Int)} {n : Int} (h : AccL H a c) : Out (.tup [LLr c, I n]) (.tup [a, I n]) H := by
  rcases h with ⟨rfl, rfl⟩ | ⟨id, rfl, h2, h3⟩
  · exact out_of (is := []) rfl
  · have e : c.isEmpty = false := by cases c <;> simp_all
    unfold LLr
    rw [e]
    rw [nthH_eq] at h3
    refine out_of (is := [id]) ?_
    have pu : ((LsC c).all AV.isPure) = true := by
      rw [List.all_eq_true]; intro x hx
      obtain ⟨l, _, rfl⟩ := List.mem_map.1 hx
      exact (by first | exact ls_isPure l | rfl)
    simp only [purify, purifyL, purify1, hpf, h3]
    rw [if_pos ⟨by simp, pu⟩]
    simp [view]
    rw [List.take_of_length_le (by simp)]

end Go.AM

/- WHAT THE CODE ANSWERS, PART 16: Rounds, of the specification. Own work. -/
set_option linter.unusedSimpArgs false
set_option linter.unusedVariables false
namespace Go.AM
open Go.RowKit Go.Proofs

/-- What is left without these strokes. -/
def remR (w p : List Int) : List Int := p.foldl List.erase w
theorem remR_mem {s : Int} : ∀ {p w : List Int}, s ∈ w → s ∉ p → s ∈ remR w p
  | [], w, h, _ => h
  | t :: p, w, h, hp => by
    have : s ≠ t := fun e => hp (by simp [e])
    exact remR_mem (p := p) ((List.mem_erase_of_ne this).2 h) fun h => hp (by simp [h])
theorem remR_sub {s : Int} : ∀ {p w : List Int}, s ∈ remR w p → s ∈ w
  | [], w, h => h
  | t :: p, w, h => List.mem_of_mem_erase (remR_sub (p := p) h)
theorem remR_len : ∀ {p w : List Int}, (remR w p).length ≤ w.length
  | [], w => Nat.le_refl _
  | t :: p, w => Nat.le_trans (remR_len (p := p)) List.length_erase_le
theorem remR_snoc (w p : List Int) (s : Int) : remR w (p ++ [s]) = (remR w p).erase s := by simp [remR, List.foldl_append]
theorem remR_S8 {w p : List Int} (h : S8 w) : S8 (remR w p) := fun s hs => h s (remR_sub hs)

def roundsF (b : Bch) : Nat → List Int → List (List Int)
  | 0, _ => []
  | n + 1, w => if w = [] then [] else firstsR b w :: roundsF b n (remR w (firstsR b w))
def rndF (b : Bch) (w : List Int) : List (List Int) := roundsF b w.length w
def roundsR (b : Bch) (l : List Int) : List (List Int) := if chkL b l ≠ 0 then [] else rndF b (form b l)

theorem firsts_ne {b : Bch} {w : List Int} (h : w ≠ []) : firstsR b w ≠ [] := by
  cases w with
  | nil => exact absurd rfl h
  | cons s r =>
    have : s ∈ firstsR b (s :: r) := firsts_mem.2 ⟨[], r, rfl, fun t ht => by cases ht⟩
    intro e; rw [e] at this; cases this
theorem firsts_sub {b : Bch} {w : List Int} {s : Int} (h : s ∈ firstsR b w) : s ∈ w := by
  obtain ⟨u, v, e, _⟩ := firsts_mem.1 h
  rw [e]; simp
theorem rem_less {b : Bch} {w : List Int} (h : w ≠ []) : (remR w (firstsR b w)).length < w.length := by
  have h1 := firsts_ne (b := b) h
  cases hp : firstsR b w with
  | nil => exact absurd hp h1
  | cons s p =>
    have hs : s ∈ w := firsts_sub (b := b) (by rw [hp]; simp)
    have h2 : (remR w (s :: p)).length ≤ (w.erase s).length := remR_len (p := p)
    have h3 := List.length_erase_of_mem hs
    have h4 := List.length_pos_of_mem hs
    omega
theorem roundsF_more {b : Bch} : ∀ (n m : Nat) {w : List Int}, w.length ≤ n → w.length ≤ m → roundsF b n w = roundsF b m w
  | 0, 0, _, _, _ => rfl
  | 0, m + 1, w, h, _ => by
    have : w = [] := List.eq_nil_of_length_eq_zero (by omega)
    subst this; rfl
  | n + 1, 0, w, _, h => by
    have : w = [] := List.eq_nil_of_length_eq_zero (by omega)
    subst this; rfl
  | n + 1, m + 1, w, h, h' => by
    simp only [roundsF]
    split
    · rfl
    · rename_i hw
      have := rem_less (b := b) hw
      rw [roundsF_more n m (by omega) (by omega)]
theorem rndF_step {b : Bch} {w : List Int} (h : w ≠ []) : rndF b w = firstsR b w :: rndF b (remR w (firstsR b w)) := by
  have h1 := rem_less (b := b) h
  unfold rndF
  obtain ⟨n, hn⟩ : ∃ n, w.length = n + 1 := ⟨w.length - 1, by have := List.length_pos_iff.2 h; omega⟩
  rw [hn]
  simp only [roundsF]
  rw [if_neg h, roundsF_more n (remR w (firstsR b w)).length (by omega) (Nat.le_refl _)]

theorem refRounds_ok (f g : Bool) (b : Bch) (l : List Int) (hb : b.c.length ≤ 1000000) (hl : l.length ≤ 1000000) : PureOK Try.prog 35 [Bn f b, Ls g l] (.tup [LLr (roundsR b l), I (chkL b l)]) := by
  refine pure_of (walk Try.func35 form35 res35 (by show 2 ≤ _; decide) ?_)
  simp (disch := omega) [G35, wrap_id]
  refine callW_pure rfl (refList_ok f g b l hb hl) ?_
  by_cases hc : chkL b l = 0
  · obtain ⟨s1, l1⟩ := chkL_S8 hc
    have x1 := form_len b l
    have e : roundsR b l = rndF b (form b l) := by unfold roundsR; rw [if_neg (by simp [hc])]
    rw [e, hc]
    simp (disch := omega) [wrap_id]
    refine callW_pure rfl (form_ok f g b l hb (by omega) s1.small) ?_
    simp (disch := omega) [wrap_id]
    refine loop_eq (fun q : List Int × Bool × AV × List (List Int) × List HObj => ⟨[(2, .ref 0 0), (6, Ls q.2.1 q.1), (7, q.2.2.1)], q.2.2.2.2⟩)
      (fun q => nthH q.2.2.2.2 0 = some (.cells [I b.L, Ps f b.c]) ∧ AccL q.2.2.2.2 q.2.2.1 q.2.2.2.1 ∧ rid q.2.2.1 ≠ some 0 ∧ S8 q.1 ∧ q.1.length + q.2.2.2.1.length ≤ 60 ∧ rndF b (form b l) = q.2.2.2.1 ++ rndF b q.1)
      (fun q => q.1.length) (form b l, (form b l).isEmpty, .sl true 0 [], [], [.cells [I b.L, Ps f b.c]]) ⟨rfl, .inl ⟨rfl, rfl⟩, by simp [rid], form_S8 s1, by simp only [List.length_nil]; omega, rfl⟩ rfl ?_
    rintro ⟨w, fw, a, out, H⟩ ⟨c1, c2, c3, c4, c5, c6⟩
    simp only at c1 c2 c3 c4 c5 c6 ⊢
    refine hideK' fun K0 hK0 => ?_
    have H0 := nthH_lt c1
    simp (disch := omega) [wrap_id]
    by_cases hw : w = []
    · subst hw
      have e2 : rndF b (form b l) = out := by rw [c6]; simp [rndF, roundsF]
      rw [e2] at hK0
      simp (disch := omega) [wrap_id]
      subst hK0
      simp (disch := omega) [wrap_id]
      exact out_accL c2
    · have hw' : 0 < w.length := List.length_pos_iff.2 hw
      have hp := firsts_ne (b := b) hw
      have hpl := firstsR_len (b := b) (l := w)
      have hless := rem_less (b := b) hw
      have hnd := firstsTo_nodup (b := b) w w.length (Nat.le_refl _)
      have hsub : ∀ s ∈ firstsR b w, s ∈ w := fun s hs => firsts_sub hs
      rw [rndF_step hw] at c6
      simp (disch := omega) [wrap_id, hw', c1]
      refine callW_pure rfl (firsts_ok f fw b w hb (by omega) c4.small) ?_
      have ep : (firstsR b w).isEmpty = false := by cases h : firstsR b w <;> simp_all
      rw [ep]
      have hnd : (firstsR b w).Nodup := hnd
      generalize firstsR b w = p at *
      simp (disch := omega) [wrap_id]
      refine bsl_of (ys := [Ls false p]) rfl rfl ?_
      simp (disch := omega) [wrap_id, zrep]
      refine app_accL c2 (by omega) fun ws w1 w2 w3 => ?_
      simp (disch := omega) [wrap_id]
      have d0 := (w1 0 H0 c3).trans c1
      generalize writeL H ws = H2 at *
      refine loop_eq (fun q : Nat × List Int × Bool => ⟨[(2, .ref 0 0), (6, Ls q.2.2 q.2.1), (7, .ms H.length 0 (out.length + 1) 1), (8, Ls false p), (9, I (q.1 : Int))], H2⟩) (fun q => q.1 ≤ p.length ∧ q.2.1 = remR w (p.take q.1)) (fun q => p.length - q.1) (0, w, fw) ⟨Nat.zero_le _, by simp [remR]⟩ rfl ?_
      rintro ⟨i, v, fv⟩ ⟨a1, a2⟩
      simp only at a1 a2 ⊢
      refine hideK' fun K1 hK1 => ?_
      simp (disch := omega) [wrap_id]
      refine c_split (fun hi => ?_) (fun hi => ?_)
      · have hi : i < p.length := by simp at hi; omega
        have nx : ((i : Int) + 1) = ((i + 1 : Nat) : Int) := by omega
        have hm : p[i] ∈ v := by
          rw [a2]
          refine remR_mem (hsub _ (List.getElem_mem hi)) fun hmem => ?_
          obtain ⟨k, hk, e⟩ := List.mem_take_iff_getElem.1 hmem
          have := (List.pairwise_iff_getElem.1 hnd) k i (by omega) hi (by omega)
          exact this e
        have vl : v.length ≤ w.length := by rw [a2]; exact remR_len
        obtain ⟨i1, i2, i3⟩ := idx_facts hm
        have er : v.eraseIdx (v.idxOf p[i]) = v.erase p[i] := by
          rw [List.erase_eq_eraseIdx_of_idxOf]; rfl
        simp (disch := omega) [wrap_id]
        refine loop_eq (fun k : Nat => ⟨[(2, .ref 0 0), (6, Ls fv v), (7, .ms H.length 0 (out.length + 1) 1), (8, Ls false p), (9, I (i : Int)), (10, I (k : Int))], H2⟩) (fun k => k ≤ v.idxOf p[i]) (fun k => v.idxOf p[i] - k) 0 (Nat.zero_le _) rfl ?_
        intro k hk
        refine hideK' fun K2 hK2 => ?_
        have kl : k < v.length := by omega
        simp (disch := omega) [wrap_id, cells_ls, hi, kl]
        by_cases hkk : k = v.idxOf p[i]
        · have hx1 : v[k] = p[i] := by
            have := i2
            simp only [← hkk] at this; exact this
          have hx2 : (v[k] != p[i]) = false := by simp [hx1]
          rw [hx2]
          rw [← hkk] at er
          clear hkk
          subst hK2
          simp (disch := omega) [wrap_id]
          refine callW_pure rfl (without_ok fv v (by omega) k kl) ?_
          rw [er]
          simp (disch := omega) [wrap_id]
          rw [hK1]
          exact next_eq (i + 1, v.erase p[i], false) ⟨by simp only; omega, by simp only; rw [List.take_succ_eq_append_getElem hi, remR_snoc, ← a2]⟩ (by simp only; omega) (by simp only [nx])
        · have hx2 : (v[k] != p[i]) = true := by simpa using i3 k kl (by omega)
          rw [hx2]
          have nx : ((k : Int) + 1) = ((k + 1 : Nat) : Int) := by omega
          simp (disch := omega) [wrap_id]
          rw [hK2]
          exact next_eq (k + 1) (by omega) (by omega) (by simp only [nx])
      · have hi : i = p.length := by simp at hi; omega
        subst hi
        subst hK1
        rw [List.take_length] at a2
        simp (disch := omega) [wrap_id]
        rw [hK0]
        refine Exists.intro (v, fv, AV.ms H.length 0 (out.length + 1) 1, out ++ [p], H2) ⟨?_, ?_, le_drop fun t => ?_⟩
        rotate_left 2
        · simp only [get_cons, get_nil]; (repeat' split) <;> first | (exfalso; omega) | exact .inl rfl | exact .inr rfl
        · exact ⟨d0, .inr ⟨H.length, by simp, by simp, w3⟩, fun e => by simp [rid] at e; rw [e] at H0; simp at H0, by rw [a2]; exact remR_S8 c4, by simp only [List.length_append, List.length_singleton]; rw [a2]; omega, by rw [a2]; simp only [List.append_assoc, List.singleton_append]; exact c6⟩
        · simp only; rw [a2]; omega
  · have hc' : (chkL b l != 0) = true := by simpa using hc
    have e : roundsR b l = [] := by unfold roundsR; rw [if_pos hc]
    rw [e]
    simp (disch := omega) [wrap_id, hc, hc']
    refine callW_pure rfl (refList_ok f g b l hb hl) ?_
    simp (disch := omega) [wrap_id, hc, hc']
    exact out_of (is := []) rfl

end Go.AM

/- WHAT THE CODE ANSWERS, PART 17: Rounds. Own work. -/
set_option linter.unusedSimpArgs false
set_option linter.unusedVariables false
namespace Go.AM
open Go.RowKit Go.Proofs

theorem free_erase {b : Bch} {w : List Int} {s t : Int} (h : Free b w s) (hne : s ≠ t) : Free b (w.erase t) s := by
  obtain ⟨u, v, rfl, h⟩ := h
  by_cases ht : t ∈ u
  · exact ⟨u.erase t, v, by rw [List.erase_append_left _ ht], fun x hx => h x (List.mem_of_mem_erase hx)⟩
  · refine ⟨u, v.erase t, ?_, h⟩
    rw [List.erase_append_right _ ht, List.erase_cons_tail (by simpa using hne)]
theorem free_rem {b : Bch} {s : Int} : ∀ {p w : List Int}, Free b w s → s ∉ p → Free b (remR w p) s
  | [], w, h, _ => h
  | t :: p, w, h, hp => free_rem (p := p) (free_erase h fun e => hp (by simp [e])) fun h => hp (by simp [h])
theorem take_free {b : Bch} {w : List Int} {s : Int} (hs : St8 s) (h : Free b w s) : (∀ k, takeR b (Pj b w) s k = Pj b (w.erase s) k) ∧ ∀ k : Nat, ((k : Int) = lineI s ∨ crC b.c (lineI s) k = true) → Pj b w k ≠ [] := by
  obtain ⟨u, v, e, hu, _, _, he, _⟩ := free_split h
  exact ⟨fun k => by rw [he, e]; exact take_Pj hs hu k, fun k hk => by rw [e]; exact cross_ne hk⟩

set_option maxHeartbeats 1000000 in
theorem rounds_c (f g : Bool) (b : Bch) (l : List Int) (hb : b.c.length ≤ 1000000) (hl : l.length ≤ 1000000) : PureOK Try.prog 34 [Bn f b, Ls g l] (.tup [LLr (roundsR b l), I (chkL b l)]) := by
  refine pure_of (walk Try.func34 form34 res34 (by show 2 ≤ _; decide) ?_)
  simp (disch := omega) [G34, wrap_id]
  refine bsl_of (ys := [Ls g l]) rfl rfl ?_
  simp (disch := omega) [wrap_id, zrep]
  refine callW_pure rfl (open1_ok f true g b l hb hl) ?_
  by_cases hc : chkL b l = 0
  · obtain ⟨s1, l1⟩ := chkL_S8 hc
    have x1 := form_len b l
    have e : roundsR b l = rndF b (form b l) := by unfold roundsR; rw [if_neg (by simp [hc])]
    rw [e, hc]
    simp (disch := omega) [wrap_id, openAV]
    refine pile_w f g b l s1 hl (pileNe s1) fun H rs P u1 u2 => ?_
    simp (disch := omega) [wrap_id]
    have P : PLr H 1 (TB f b) rs (Pj b (form b l)) := P.congr (pile_form s1)
    refine loop_eq (fun q : List Int × List AV × AV × List (List Int) × List HObj => ⟨[(4, .sl true 0 []), (5, I 0), (8, q.2.2.1), (9, .ref 1 0)], q.2.2.2.2⟩)
      (fun q => PLr q.2.2.2.2 1 (TB f b) q.2.1 (Pj b q.1) ∧ AccL q.2.2.2.2 q.2.2.1 q.2.2.2.1 ∧ (∀ i, rid q.2.2.1 = some i → ¬ Own 1 q.2.1 i) ∧ S8 q.1 ∧ q.1.length + q.2.2.2.1.length ≤ 60 ∧ rndF b (form b l) = q.2.2.2.1 ++ rndF b q.1)
      (fun q => q.1.length) (form b l, rs, .sl true 0 [], [], H) ⟨P, .inl ⟨rfl, rfl⟩, fun i h => by simp [rid] at h, form_S8 s1, by simp only [List.length_nil]; omega, rfl⟩ rfl ?_
    rintro ⟨w, rs, x, out, H⟩ ⟨c1, c2, c3, c4, c5, c6⟩
    simp only at c1 c2 c3 c4 c5 c6 ⊢
    refine hideK' fun K0 hK0 => ?_
    simp (disch := omega) [wrap_id]
    refine fronts_w ?_
    simp (disch := omega) [wrap_id]
    have hid : (H ++ [HObj.cells [AV.sl true 0 []], HObj.cells [AV.ref 1 0]]).length = H.length + 2 := by simp
    have ho : ∀ i, Own 1 rs i → i < H.length := fun i hi => own_lt c1 hi
    have hx : ∀ i, rid x = some i → i < H.length := fun i hi => c2.lt hi
    have front : ∀ (i : Nat) (l : List HObj), i < H.length → nthH (H ++ l) i = nthH H i := fun i l hi => nthH_front hi
    have fF := fs_firsts (b := b) c4
    refine rf_of (K0 := GaJ (H ++ [HObj.cells [AV.sl true 0 []], HObj.cells [AV.ref 1 0]]) (fsR (Pj b w)) H.length (H.length + 2) (fsR (Pj b w)).length) (fronts_R (f := f) (b := b) (p := 1) (rs := rs) (R := Pj b w) (J := GaJ (H ++ [HObj.cells [AV.sl true 0 []], HObj.cells [AV.ref 1 0]]) (fsR (Pj b w)) H.length (H.length + 2)) (c1.mono fun i hi => front i _ (ho i hi)) ?_ ?_ (fun j G h => c1.mono fun i hi => ?_) ?_) ?_
    · rw [nthH_eq, List.getElem?_append_right (by omega)]; simp
    · rw [hid]
      refine ⟨fun i hi _ => by rw [nthH_front (by omega)], ⟨.sl true 0 [], ?_, .inl ⟨rfl, rfl⟩, fun i hi => (by cases hi)⟩, ?_, by simp⟩
      · rw [nthH_front (by simp), nthH_eq, List.getElem?_append_right (by omega)]; simp
      · rw [nthH_eq, List.getElem?_append_right (by simp)]; simp
    · rw [h.1 i (by have := ho i hi; omega) (by have := ho i hi; omega)]; exact front i _ (ho i hi)
    · intro j G hj hJ
      obtain ⟨f1, ⟨y, f3, f4, f5⟩, f6, f7⟩ := hJ
      rw [hid]
      refine ⟨by rw [hpf_nthH]; exact f6, rfl, ?_⟩
      generalize hF : fsR (Pj b w) = F at *
      have h8 : F.length ≤ 8 := by rw [← hF]; exact fsR_len _
      have gl : H.length + 2 < G.length := by omega
      have ga : nthH (G.set (H.length + 2) (HObj.lp LpSt.busy (H.length + 2 + 1))) H.length = some (.cells [y]) := by rw [nthH_set_ne (by omega)]; exact f3
      have gy : AccR (G.set (H.length + 2) (HObj.lp LpSt.busy (H.length + 2 + 1))) y (F.take j) := f4.mono fun i hi => nthH_set_ne (by have := f5 i hi; omega)
      have gid : nthH (G.set (H.length + 2) (HObj.lp LpSt.busy (H.length + 2 + 1))) (H.length + 2) = some (.lp .busy (H.length + 2 + 1)) := nthH_set_same gl
      have gll : (G.set (H.length + 2) (HObj.lp LpSt.busy (H.length + 2 + 1))).length = G.length := by simp
      have kb : ∀ i, i < H.length + 2 → i ≠ H.length → nthH (G.set (H.length + 2) (HObj.lp LpSt.busy (H.length + 2 + 1))) i = nthH (H ++ [HObj.cells [AV.sl true 0 []], HObj.cells [AV.ref 1 0]]) i := fun i hi hn => by rw [nthH_set_ne (by omega)]; exact f1 i hi hn
      have tk : F.take (j + 1) = F.take j ++ [F[j]] := List.take_succ_eq_append_getElem hj
      have hjl : (F.take j).length = j := by rw [List.length_take]; omega
      simp (disch := omega) [wrap_id, putPs, hpf_nthH, f6, gl, ga, len_row gy.row]
      generalize G.set (H.length + 2) (HObj.lp LpSt.busy (H.length + 2 + 1)) = Gb at *
      generalize F[j] = s at *
      refine bsl_of (ys := [I s]) rfl rfl ?_
      simp (disch := omega) [wrap_id, zrep]
      refine app_row gy.row (by omega) fun ws w1 w2 w3 => ?_
      generalize hH1 : writeL Gb ws = Hn at w1 w2 w3
      have w1' : ∀ i, i < G.length → rid y ≠ some i → nthH Hn i = nthH Gb i := fun i hi hr => w1 i (by omega) hr
      have a1 : nthH Hn H.length = some (.cells [y]) := by rw [w1' H.length (by omega) (fun e => by have := f5 _ e; omega)]; exact ga
      have a2 : nthH Hn (H.length + 2) = some (.lp .busy (H.length + 2 + 1)) := by rw [w1' (H.length + 2) gl (fun e => by have := f5 _ e; omega)]; exact gid
      have a3 : H.length < Hn.length := by omega
      have a4 : H.length + 2 < Hn.length := by omega
      simp (disch := omega) [wrap_id, hH1, a1, a3]
      refine ⟨?_, rfl, ?_⟩
      · rw [hpf_nthH, nthH_set_ne (by omega)]; exact a2
      · simp only [setL, List.length_set]
        rw [if_pos a4]
        refine ⟨fun i hi hn => ?_, ⟨_, by rw [nthH_set_ne (by omega)]; exact nthH_set_same a3, ?_, fun i hi => ?_⟩, nthH_set_same (by simp; omega), by simp; omega⟩
        · rw [nthH_set_ne (by omega), nthH_set_ne (by omega), w1' i (by omega) (fun e => by have := f5 _ e; omega)]; exact kb i hi hn
        · rw [tk]
          refine .inr ⟨Gb.length, by simp; omega, by simp, ?_⟩
          rw [nthH_set_ne (by omega), nthH_set_ne (by omega)]; exact w3
        · cases hi; omega
    · rintro G ⟨f1, ⟨y, f3, f4, f5⟩, f6, f7⟩
      rw [hid]
      rw [List.take_length, fF] at f4
      refine rfEnd_ready f6 ?_
      have kb : ∀ i, i < H.length → nthH (G.set (H.length + 2) .gone) i = nthH H i := fun i hi => by rw [nthH_set_ne (by omega), f1 i (by omega) (by omega)]; exact front i _ hi
      have ga : nthH (G.set (H.length + 2) .gone) H.length = some (.cells [y]) := by rw [nthH_set_ne (by omega)]; exact f3
      have gy : AccR (G.set (H.length + 2) .gone) y (firstsR b w) := f4.mono fun i hi => nthH_set_ne (by have := f5 i hi; omega)
      have glen : H.length + 2 ≤ (G.set (H.length + 2) HObj.gone).length := by simp; omega
      have yid : ∀ i, rid y = some i → H.length + 2 + 2 ≤ i := f5
      generalize G.set (H.length + 2) HObj.gone = G2 at kb ga gy glen
      have q1 : PLr G2 1 (TB f b) rs (Pj b w) := c1.mono fun i hi => kb i (ho i hi)
      have qx : AccL G2 x out := c2.mono fun i hi => kb i (hx i hi)
      simp (disch := omega) [wrap_id, ga, len_row gy.row]
      by_cases hw : w = []
      · subst hw
        have e2 : rndF b (form b l) = out := by rw [c6]; simp [rndF, roundsF]
        rw [e2] at hK0
        have e0 : firstsR b [] = [] := rfl
        simp (disch := omega) [wrap_id, e0]
        subst hK0
        exact out_accL qx
      · have hp := firsts_ne (b := b) hw
        have hless := rem_less (b := b) hw
        have hnd : (firstsR b w).Nodup := firstsTo_nodup (b := b) w w.length (Nat.le_refl _)
        have hfr : ∀ s ∈ firstsR b w, Free b w s := fun s hs => firsts_mem.1 hs
        have hsub : ∀ s ∈ firstsR b w, s ∈ w := fun s hs => firsts_sub hs
        have hpl := firstsR_len (b := b) (l := w)
        rw [rndF_step hw] at c6
        generalize firstsR b w = p at *
        have hl0 : ((p.length : Int) == 0) = false := by
          rw [beq_eq_false_iff_ne]
          have := List.length_pos_iff.2 hp
          omega
        rcases gy with ⟨_, e⟩ | ⟨iy, rfl, _, gy⟩
        · exact absurd e hp
        have hiy := yid iy rfl
        simp (disch := omega) [wrap_id, hl0, ga]
        refine loop_eq (fun q : Nat × List AV × List HObj => ⟨[(4, .sl true 0 []), (5, I 0), (8, x), (9, .ref 1 0), (10, .ref H.length 0), (38, .ms iy 0 p.length 1), (39, I (p.length : Int)), (40, I (q.1 : Int))], q.2.2⟩)
          (fun q => q.1 ≤ p.length ∧ PLr q.2.2 1 (TB f b) q.2.1 (Pj b (remR w (p.take q.1))) ∧ (∀ i, Own 1 q.2.1 i → Own 1 rs i) ∧ (∀ i, i < G2.length → ¬ Own 1 rs i → nthH q.2.2 i = nthH G2 i) ∧ q.2.2.length = G2.length) (fun q => p.length - q.1) (0, rs, G2) ⟨Nat.zero_le _, q1, fun i h => h, fun i _ _ => rfl, rfl⟩ rfl ?_
        rintro ⟨k, rk, Hk⟩ ⟨d1, d2, d3, d4, d5⟩
        simp only at d1 d2 d3 d4 d5 ⊢
        refine hideK' fun K1 hK1 => ?_
        have niy : ¬ Own 1 rs iy := fun h => by have := ho _ h; omega
        have gk : nthH Hk iy = some (.cells (p.map fun n => I n)) := (d4 iy (nthH_lt gy) niy).trans gy
        simp (disch := omega) [wrap_id]
        refine c_split (fun hk => ?_) (fun hk => ?_)
        · have hk : k < p.length := by simp at hk; omega
          have nx : ((k : Int) + 1) = ((k + 1 : Nat) : Int) := by omega
          have hmem : p[k] ∉ p.take k := fun hmem => by
            obtain ⟨j, hj, e⟩ := List.mem_take_iff_getElem.1 hmem
            exact (List.pairwise_iff_getElem.1 hnd) j k (by omega) hk (by omega) e
          have s8 : St8 p[k] := c4 _ (hsub _ (List.getElem_mem hk))
          obtain ⟨t1, t2⟩ := take_free s8 (free_rem (hfr _ (List.getElem_mem hk)) hmem)
          simp (disch := omega) [wrap_id, gk, cells_ls, hk]
          refine take_w f b p[k] s8 d2 (fun j _ hj => t2 j hj) fun H3 rs3 r1 r2 r3 r4 => ?_
          have r1 := r1.congr fun j _ => t1 j
          have o3 : ∀ i, Own 1 rs3 i → Own 1 rk i := fun i hi => by
            rcases r3 i hi with h | h
            · exact h
            · have := own_lt r1 hi; omega
          simp (disch := omega) [wrap_id]
          rw [hK1]
          refine next_eq (k + 1, rs3, H3) ⟨by simp only; omega, ?_, fun i hi => d3 i (o3 i hi), fun i hi hn => ?_, by simp only; omega⟩ (by simp only; omega) (by simp only [nx])
          · simp only
            rw [List.take_succ_eq_append_getElem hk, remR_snoc]; exact r1
          · exact (r2.2 i (by omega) (fun h => hn (d3 i h))).trans (d4 i hi hn)
        · have hk : k = p.length := by simp at hk; omega
          subst hk
          subst hK1
          rw [List.take_length] at d2
          have lt2 : ∀ {i : Nat}, i < H.length → i < G2.length := fun h => by omega
          have ga : nthH Hk H.length = some (.cells [.ms iy 0 p.length 1]) := (d4 H.length (by omega) (fun h => by have := ho _ h; omega)).trans ga
          have qx : AccL Hk x out := qx.mono fun i hi => d4 i (lt2 (hx i hi)) (c3 i hi)
          have hpa : purifyAll (hpf Hk) [.ms iy 0 p.length 1] = some ([Ls false p], [iy]) := by simp [purifyAll, ms_pur gk rfl]
          have iyl := nthH_lt gk
          simp (disch := omega) [wrap_id, ga]
          refine bsl_of (ys := [Ls false p]) hpa rfl ?_
          simp (disch := omega) [wrap_id, zrep, iyl]
          have qx : AccL (Hk.set iy .gone) x out := qx.mono fun i hi => nthH_set_ne (by have := hx i hi; omega)
          have d2 : PLr (Hk.set iy .gone) 1 (TB f b) rk (Pj b (remR w p)) := d2.mono fun i hi => nthH_set_ne (by have := ho i (d3 i hi); omega)
          have hlen : (Hk.set iy HObj.gone).length = G2.length := by simp; omega
          generalize Hk.set iy HObj.gone = Hm at qx d2 hlen ⊢
          refine app_accL qx (by omega) fun ws w1 w2 w3 => ?_
          simp (disch := omega) [wrap_id]
          rw [hK0]
          refine next_eq (remR w p, rk, .ms Hm.length 0 (out.length + 1) 1, out ++ [p], writeL Hm ws) ⟨d2.mono fun i hi => w1 i (own_lt d2 hi) (fun e => c3 i e (d3 i hi)), .inr ⟨Hm.length, by simp, by simp, w3⟩, fun i hi hown => ?_, remR_S8 c4, by simp only [List.length_append, List.length_singleton]; omega, by simp only [List.append_assoc, List.singleton_append]; exact c6⟩ (by simp only; omega) rfl
          cases hi
          have := own_lt d2 hown
          omega
  · have hc' : (chkL b l != 0) = true := by simpa using hc
    have e : roundsR b l = [] := by unfold roundsR; rw [if_pos hc]
    rw [e]
    simp (disch := omega) [wrap_id, openAV, hc, hc']
    exact out_of (is := []) rfl

end Go.AM

/- WHAT THE CODE ANSWERS, PART 18: lists (of a list of lists and itself). Own work. -/
set_option linter.unusedSimpArgs false
set_option linter.unusedVariables false
namespace Go.AM
open Go.RowKit Go.Proofs

theorem cells_lsc {c : List (List Int)} {j sz} {K : AV → List (Nat × HObj) → Prop} (h : j < c.length) : CellsW (LsC c) j sz false K = K (Ls false c[j]) [] := by
  simp [CellsW, h]

theorem lists_ok (c : List (List Int)) (hc : c.length ≤ 1000000) (hl : ∀ l ∈ c, l.length ≤ 1000000) : PureOK Try.prog 39 [LLr c, LLr c] (B true) := by
  refine pure_of (walk Try.func39 form39 res39 (by show 2 ≤ _; decide) ?_)
  simp (disch := omega) [G39, wrap_id]
  refine loop_eq (fun i : Nat => ⟨[(0, LLr c), (1, LLr c), (5, I (i : Int))], []⟩) (fun i => i ≤ c.length) (fun i => c.length - i) 0 (Nat.zero_le _) rfl ?_
  intro i hi
  refine hideK' fun K0 hK0 => ?_
  simp (disch := omega) [wrap_id]
  refine c_split (fun h => ?_) (fun h => ?_)
  · have hi : i < c.length := by simp at h; omega
    have nx : ((i : Int) + 1) = ((i + 1 : Nat) : Int) := by omega
    have hli := hl c[i] (List.getElem_mem hi)
    simp (disch := omega) [wrap_id, cells_lsc, hi]
    refine pureW_of rfl (equal_ok false false c[i] c[i] hli hli) ?_
    simp (disch := omega) [wrap_id]
    rw [hK0]
    exact next_eq (i + 1) (by omega) (by omega) (by simp only [nx])
  · subst hK0
    simp (disch := omega) [wrap_id]

end Go.AM

/- THE THEORY OF MOVES, PART 7: chains and rounds. Own work. -/
set_option linter.unusedSimpArgs false
set_option linter.unusedVariables false
namespace Go.AM
open Go.RowKit Go.Proofs

variable {b : Bch}

/-- Neighbours cannot be exchanged. -/
def Chn (b : Bch) : List Int → Prop
  | [] => True
  | [_] => True
  | x :: y :: c => canB b x y = false ∧ Chn b (y :: c)
theorem Chn.tail {x : Int} {c : List Int} (h : Chn b (x :: c)) : Chn b c := by
  cases c with
  | nil => trivial
  | cons y c => exact h.2
theorem Chn.mid : ∀ {u : List Int} {x : Int} {c : List Int}, Chn b (u ++ x :: c) → u = [] ∨ ∃ v y, u = v ++ [y] ∧ canB b y x = false
  | [], x, c, _ => .inl rfl
  | [y], x, c, h => .inr ⟨[], y, rfl, h.1⟩
  | y :: z :: u, x, c, h => by
    rcases Chn.mid (u := z :: u) (x := x) (c := c) h.tail with h1 | ⟨v, t, h1, h2⟩
    · cases h1
    · exact .inr ⟨y :: v, t, by rw [h1]; rfl, h2⟩

theorem chn_erase {w c : List Int} {t : Int} (hf : Free b w t) (hc : c.Sublist w) (hn : Chn b c) : c.Sublist (w.erase t) ∨ ∃ c1, c = t :: c1 ∧ c1.Sublist (w.erase t) := by
  obtain ⟨u, v, e, hu, _, _, he, _⟩ := free_split hf
  rw [he]
  rw [e] at hc
  obtain ⟨cu, cv, rfl, h1, h2⟩ := List.sublist_append_iff.1 hc
  rcases List.sublist_cons_iff.1 h2 with h3 | ⟨c1, rfl, h3⟩
  · exact .inl (h1.append h3)
  · rcases Chn.mid hn with h4 | ⟨z, y, h4, h5⟩
    · subst h4
      exact .inr ⟨c1, rfl, h3.trans (List.sublist_append_right _ _)⟩
    · have : y ∈ u := h1.subset (by rw [h4]; simp)
      rw [hu y this] at h5; cases h5

/-- Strokes that can be first can be exchanged with one another. -/
theorem free_can {w : List Int} {s t : Int} (hs : Free b w s) (ht : Free b w t) (hne : s ≠ t) : canB b s t = true := by
  obtain ⟨u, v, e, hu⟩ := hs
  obtain ⟨u', v', e', hu'⟩ := ht
  rw [e] at e'
  rcases List.append_eq_append_iff.1 e' with ⟨z, h1, h2⟩ | ⟨z, h1, h2⟩
  · cases z with
    | nil => simp at h2; exact absurd h2.1 hne
    | cons y z => simp at h2; obtain ⟨rfl, _⟩ := h2; exact hu' s (by rw [h1]; simp)
  · cases z with
    | nil => simp at h2; exact absurd h2.1.symm hne
    | cons y z => simp at h2; obtain ⟨rfl, _⟩ := h2; rw [canB_comm]; exact hu t (by rw [h1]; simp)

theorem chn_rem : ∀ {p w : List Int}, p.Nodup → (∀ s ∈ p, Free b w s) → ∀ {c : List Int}, c.Sublist w → Chn b c → c.Sublist (remR w p) ∨ ∃ t c1, c = t :: c1 ∧ t ∈ p ∧ c1.Sublist (remR w p)
  | [], w, _, _, c, hc, _ => .inl hc
  | t :: p, w, hp, hf, c, hc, hn => by
    obtain ⟨hp1, hp2⟩ := List.nodup_cons.1 hp
    have hf' : ∀ s ∈ p, Free b (w.erase t) s := fun s hs => free_erase (hf s (by simp [hs])) fun e => hp1 (e ▸ hs)
    rcases chn_erase (hf t (by simp)) hc hn with h | ⟨c1, rfl, h⟩
    · rcases chn_rem hp2 hf' h hn with h1 | ⟨x, c1, h1, h2, h3⟩
      · exact .inl h1
      · exact .inr ⟨x, c1, h1, by simp [h2], h3⟩
    · rcases chn_rem hp2 hf' h hn.tail with h1 | ⟨x, c2, rfl, h2, h3⟩
      · exact .inr ⟨t, c1, rfl, by simp, h1⟩
      · exfalso
        have hne : t ≠ x := fun e => hp1 (e ▸ h2)
        have := free_can (hf t (by simp)) (hf x (by simp [h2])) hne
        rw [hn.1] at this; cases this

/-- A chain is not longer than there are rounds. -/
theorem chn_le : ∀ (n : Nat) {w c : List Int}, w.length ≤ n → c.Sublist w → Chn b c → c.length ≤ (rndF b w).length
  | 0, w, c, hw, hc, _ => by
    have : w = [] := List.eq_nil_of_length_eq_zero (by omega)
    subst this
    have := hc.length_le
    simp at this; simp [this]
  | n + 1, w, c, hw, hc, hn => by
    by_cases h0 : w = []
    · subst h0
      have := hc.length_le
      simp at this; simp [this]
    have hl := rem_less (b := b) h0
    rw [rndF_step h0, List.length_cons]
    have hnd : (firstsR b w).Nodup := firstsTo_nodup (b := b) w w.length (Nat.le_refl _)
    rcases chn_rem hnd (fun s hs => firsts_mem.1 hs) hc hn with h | ⟨t, c1, rfl, _, h⟩
    · have := chn_le n (c := c) (by omega) h hn
      exact Nat.le_succ_of_le this
    · have := chn_le n (c := c1) (by omega) h hn.tail
      rw [List.length_cons]
      exact Nat.succ_le_succ this

theorem remR_sublist : ∀ {p w : List Int}, (remR w p).Sublist w
  | [], w => List.Sublist.refl _
  | t :: p, w => (remR_sublist (p := p)).trans (List.erase_sublist ..)
theorem remR_erase {x : Int} : ∀ {p w : List Int}, x ∈ p → (remR w p).Sublist (w.erase x)
  | t :: p, w, h => by
    by_cases e : x = t
    · subst e; exact remR_sublist (p := p)
    · have hx : x ∈ p := by
        rcases List.mem_cons.1 h with h | h
        · exact absurd h e
        · exact h
      have h1 := remR_erase (p := p) (w := w.erase t) hx
      rw [List.erase_comm] at h1
      exact h1.trans (List.erase_sublist ..)

theorem chn_pred {w c : List Int} {x : Int} (h : (x :: c).Sublist (remR w (firstsR b w))) : ∃ y, canB b y x = false ∧ (y :: x :: c).Sublist w := by
  by_cases hx : x ∈ firstsR b w
  · obtain ⟨u, v, e, hu, hn, _, he, _⟩ := free_split (firsts_mem.1 hx)
    have h1 := h.trans (remR_erase hx)
    rw [he] at h1
    obtain ⟨l1, l2, e1, h2, h3⟩ := List.sublist_append_iff.1 h1
    cases l1 with
    | cons a l1 =>
      simp at e1
      have : a ∈ u := h2.subset (by simp)
      rw [← e1.1] at this
      exact absurd this hn
    | nil =>
      simp at e1
      rw [← e1] at h3
      exact ⟨x, canB_self x, by rw [e]; exact (h3.cons_cons x).trans (List.sublist_append_right _ _)⟩
  · have h1 := h.trans remR_sublist
    obtain ⟨r1, r2, e, hx1, h2⟩ := List.cons_sublist_iff.1 h1
    obtain ⟨s, t, e1⟩ := List.append_of_mem hx1
    have hnf : ¬ ∀ y ∈ s, canB b y x = true := fun hall => hx (firsts_mem.2 ⟨s, t ++ r2, by rw [e, e1]; simp, hall⟩)
    obtain ⟨y, hy, hyx⟩ : ∃ y, y ∈ s ∧ canB b y x = false := by
      refine Classical.byContradiction fun hno => hnf fun y hy => ?_
      cases hc : canB b y x with
      | true => rfl
      | false => exact absurd ⟨y, hy, hc⟩ hno
    refine ⟨y, hyx, ?_⟩
    rw [e, e1, List.append_assoc]
    have a1 : [y].Sublist s := List.singleton_sublist.2 hy
    have a2 : (x :: c).Sublist (x :: t ++ r2) := by
      rw [List.cons_append]
      exact (h2.trans (List.sublist_append_right t r2)).cons_cons x
    exact a1.append a2

/-- And there is one that is so long. -/
theorem chn_ex : ∀ (n : Nat) {w : List Int}, w.length ≤ n → ∃ c, c.Sublist w ∧ Chn b c ∧ c.length = (rndF b w).length
  | 0, w, hw => by
    have : w = [] := List.eq_nil_of_length_eq_zero (by omega)
    subst this
    exact ⟨[], List.Sublist.refl _, trivial, rfl⟩
  | n + 1, w, hw => by
    by_cases h0 : w = []
    · subst h0; exact ⟨[], List.Sublist.refl _, trivial, rfl⟩
    have hl := rem_less (b := b) h0
    obtain ⟨c, h1, h2, h3⟩ := chn_ex n (w := remR w (firstsR b w)) (by omega)
    rw [rndF_step h0, List.length_cons, ← h3]
    cases c with
    | nil =>
      cases w with
      | nil => exact absurd rfl h0
      | cons s r => exact ⟨[s], List.singleton_sublist.2 (by simp), trivial, rfl⟩
    | cons x c =>
      obtain ⟨y, g1, g2⟩ := chn_pred h1
      exact ⟨y :: x :: c, g2, ⟨g1, h2⟩, rfl⟩

end Go.AM

/- THE THEORY OF MOVES, PART 8: the longest chain, as a table. Own work. -/
set_option linter.unusedSimpArgs false
set_option linter.unusedVariables false
namespace Go.AM
open Go.RowKit Go.Proofs

/-- How long a chain to a stroke is, and which stroke comes before it, as far as the first k are looked at. -/
def dpIn (b : Bch) (w lg : List Int) (i : Nat) : Nat → Int × Int
  | 0 => (1, -1)
  | k + 1 => if canB b (w.getD k 0) (w.getD i 0) = false ∧ (dpIn b w lg i k).1 ≤ lg.getD k 0 then (lg.getD k 0 + 1, (k : Int)) else dpIn b w lg i k
def dpL (b : Bch) (w : List Int) : Nat → List Int
  | 0 => []
  | i + 1 => dpL b w i ++ [(dpIn b w (dpL b w i) i i).1]
def dpP (b : Bch) (w : List Int) : Nat → List Int
  | 0 => []
  | i + 1 => dpP b w i ++ [(dpIn b w (dpL b w i) i i).2]
def Lf (b : Bch) (w : List Int) (i : Nat) : Int := (dpIn b w (dpL b w i) i i).1
def Pf (b : Bch) (w : List Int) (i : Nat) : Int := (dpIn b w (dpL b w i) i i).2
def dpLast (b : Bch) (w : List Int) : Nat → Int
  | 0 => -1
  | i + 1 => if dpLast b w i < 0 ∨ Lf b w (dpLast b w i).toNat < Lf b w i then (i : Int) else dpLast b w i

theorem dpL_len (b : Bch) (w : List Int) : ∀ i, (dpL b w i).length = i
  | 0 => rfl
  | i + 1 => by simp [dpL, dpL_len b w i]
theorem dpP_len (b : Bch) (w : List Int) : ∀ i, (dpP b w i).length = i
  | 0 => rfl
  | i + 1 => by simp [dpP, dpP_len b w i]
theorem getD_snoc {l : List Int} {x : Int} {j : Nat} : (l ++ [x]).getD j 0 = if j < l.length then l.getD j 0 else if j = l.length then x else 0 := by
  by_cases h : j < l.length
  · rw [if_pos h]; simp [List.getElem?_append_left h]
  · rw [if_neg h]
    by_cases e : j = l.length
    · subst e; simp
    · rw [if_neg e]; simp [List.getElem?_append_right (Nat.le_of_not_lt h)]
      have : j - l.length ≠ 0 := by omega
      cases hj : j - l.length with
      | zero => exact absurd hj this
      | succ n => simp
theorem dpL_get {b : Bch} {w : List Int} {j : Nat} : ∀ {i}, j < i → (dpL b w i).getD j 0 = Lf b w j
  | i + 1, h => by
    simp only [dpL]
    rw [getD_snoc, dpL_len]
    by_cases e : j = i
    · subst e; rw [if_neg (by omega), if_pos rfl]; rfl
    · rw [if_pos (by omega)]; exact dpL_get (by omega)
theorem dpP_get {b : Bch} {w : List Int} {j : Nat} : ∀ {i}, j < i → (dpP b w i).getD j 0 = Pf b w j
  | i + 1, h => by
    simp only [dpP]
    rw [getD_snoc, dpP_len]
    by_cases e : j = i
    · subst e; rw [if_neg (by omega), if_pos rfl]; rfl
    · rw [if_pos (by omega)]; exact dpP_get (by omega)

variable {b : Bch} {w : List Int}

theorem dpIn_spec {lg : List Int} {i : Nat} (hlg : ∀ k, k < i → 1 ≤ lg.getD k 0) : ∀ k, k ≤ i → 1 ≤ (dpIn b w lg i k).1 ∧ (∀ j, j < k → canB b (w.getD j 0) (w.getD i 0) = false → lg.getD j 0 < (dpIn b w lg i k).1) ∧
    (((dpIn b w lg i k).2 = -1 ∧ (dpIn b w lg i k).1 = 1) ∨ ∃ j, j < k ∧ (dpIn b w lg i k).2 = (j : Int) ∧ canB b (w.getD j 0) (w.getD i 0) = false ∧ (dpIn b w lg i k).1 = lg.getD j 0 + 1)
  | 0, _ => ⟨by simp [dpIn], fun j h => by omega, .inl ⟨rfl, rfl⟩⟩
  | k + 1, hk => by
    obtain ⟨h1, h2, h3⟩ := dpIn_spec hlg k (by omega)
    simp only [dpIn]
    split
    · rename_i hc
      have := hlg k (by omega)
      refine ⟨by simp only; omega, fun j hj hcan => ?_, .inr ⟨k, by omega, rfl, hc.1, rfl⟩⟩
      by_cases e : j = k
      · subst e; simp only; omega
      · have := h2 j (by omega) hcan; have := hc.2; simp only; omega
    · rename_i hc
      refine ⟨h1, fun j hj hcan => ?_, ?_⟩
      · by_cases e : j = k
        · subst e
          refine Int.not_le.1 fun hle => hc ⟨hcan, hle⟩
        · exact h2 j (by omega) hcan
      · rcases h3 with h3 | ⟨j, g1, g2, g3, g4⟩
        · exact .inl h3
        · exact .inr ⟨j, by omega, g2, g3, g4⟩

theorem Lf_spec : ∀ i, 1 ≤ Lf b w i ∧ (∀ j, j < i → canB b (w.getD j 0) (w.getD i 0) = false → Lf b w j < Lf b w i) ∧
    ((Pf b w i = -1 ∧ Lf b w i = 1) ∨ ∃ j, j < i ∧ Pf b w i = (j : Int) ∧ canB b (w.getD j 0) (w.getD i 0) = false ∧ Lf b w i = Lf b w j + 1) := by
  intro i
  induction i using Nat.strongRecOn with
  | ind i ih =>
    obtain ⟨h1, h2, h3⟩ := dpIn_spec (b := b) (w := w) (lg := dpL b w i) (i := i) (fun k hk => by rw [dpL_get hk]; exact (ih k hk).1) i (Nat.le_refl _)
    refine ⟨h1, fun j hj hc => ?_, ?_⟩
    · have := h2 j hj hc
      rw [dpL_get hj] at this; exact this
    · rcases h3 with h3 | ⟨j, g1, g2, g3, g4⟩
      · exact .inl h3
      · rw [dpL_get g1] at g4
        exact .inr ⟨j, g1, g2, g3, g4⟩

/-- The indexes of a chain, from its last one. -/
def upI (b : Bch) (w : List Int) : Nat → Int → List Int
  | 0, _ => []
  | n + 1, i => if i < 0 then [] else upI b w n (Pf b w i.toNat) ++ [i]
theorem upI_neg {n : Nat} {i : Int} (h : i < 0) : upI b w n i = [] := by
  cases n with
  | zero => rfl
  | succ n => simp only [upI]; rw [if_pos h]
theorem upI_nat (n i : Nat) : upI b w (n + 1) (i : Int) = upI b w n (Pf b w i) ++ [(i : Int)] := by
  simp only [upI]; rw [if_neg (by omega)]; rfl

def UpOK (b : Bch) (w : List Int) (i : Nat) (sp : List Int) : Prop :=
  sp.length = (Lf b w i).toNat ∧ sp.getD (sp.length - 1) 0 = i ∧ (∀ j, j < sp.length → 0 ≤ sp.getD j 0 ∧ sp.getD j 0 ≤ i) ∧
  (∀ j, j < sp.length → j ≠ 0 → sp.getD (j - 1) 0 < sp.getD j 0 ∧ canB b (w.getD (sp.getD (j - 1) 0).toNat 0) (w.getD (sp.getD j 0).toNat 0) = false)

theorem upI_ok : ∀ (n i : Nat), i < n → UpOK b w i (upI b w n (i : Int))
  | 0, i, h => by omega
  | n + 1, i, h => by
    rw [upI_nat]
    obtain ⟨h1, h2, h3⟩ := Lf_spec (b := b) (w := w) i
    rcases h3 with ⟨h3, h4⟩ | ⟨j, g1, g2, g3, g4⟩
    · rw [h3, upI_neg (by omega)]
      refine ⟨by rw [h4]; rfl, rfl, fun j hj => ?_, fun j hj h0 => ?_⟩
      · have : j = 0 := by simp at hj; omega
        subst this; simp
      · simp at hj; omega
    · rw [g2]
      obtain ⟨k1, k2, k3, k4⟩ := upI_ok n j (by omega)
      have hj1 := (Lf_spec (b := b) (w := w) j).1
      generalize upI b w n (j : Int) = sp at *
      have hl : 0 < sp.length := by omega
      refine ⟨by rw [List.length_append, List.length_singleton]; omega, ?_, fun q hq => ?_, fun q hq h0 => ?_⟩
      · rw [getD_snoc, List.length_append, List.length_singleton, if_neg (by omega), if_pos (by omega)]
      · rw [getD_snoc]
        rw [List.length_append, List.length_singleton] at hq
        by_cases e : q < sp.length
        · rw [if_pos e]; have := k3 q e; omega
        · rw [if_neg e, if_pos (by omega)]; omega
      · rw [List.length_append, List.length_singleton] at hq
        rw [getD_snoc, getD_snoc]
        by_cases e : q < sp.length
        · rw [if_pos e, if_pos (by omega)]; exact k4 q e h0
        · have eq : q = sp.length := by omega
          subst eq
          rw [if_neg e, if_pos rfl, if_pos (by omega), k2]
          exact ⟨by omega, g3⟩

/-- The strokes of the chain. -/
def upS (w : List Int) (sp : List Int) : List Int := sp.map fun i => w.getD i.toNat 0
theorem chn_snoc : ∀ {c : List Int} {y x : Int}, Chn b (c ++ [y]) → canB b y x = false → Chn b (c ++ [y, x])
  | [], y, x, _, h => ⟨h, trivial⟩
  | [z], y, x, h, h' => ⟨h.1, h', trivial⟩
  | z :: t :: c, y, x, h, h' => ⟨h.1, chn_snoc (c := t :: c) h.2 h'⟩
theorem upI_chain : ∀ (n i : Nat), i < n → i < w.length → ∃ c, upS w (upI b w n (i : Int)) = c ++ [w.getD i 0] ∧ c.Sublist (w.take i) ∧ Chn b (c ++ [w.getD i 0])
  | 0, i, h, _ => by omega
  | n + 1, i, h, hi => by
    rw [upI_nat]
    obtain ⟨h1, h2, h3⟩ := Lf_spec (b := b) (w := w) i
    rcases h3 with ⟨h3, h4⟩ | ⟨j, g1, g2, g3, g4⟩
    · rw [h3, upI_neg (by omega)]
      exact ⟨[], by simp [upS], List.nil_sublist _, trivial⟩
    · rw [g2]
      obtain ⟨c, k1, k2, k3⟩ := upI_chain n j (by omega) (by omega)
      have hj : j < w.length := by omega
      have gd : w.getD j 0 = w[j] := by simp [hj]
      refine ⟨c ++ [w.getD j 0], ?_, ?_, ?_⟩
      · simp only [upS, List.map_append] at k1 ⊢
        rw [k1]; simp
      · have t1 : (w.take (j + 1)) = w.take j ++ [w[j]] := List.take_succ_eq_append_getElem hj
        have t2 : (c ++ [w.getD j 0]).Sublist (w.take (j + 1)) := by rw [t1, gd]; exact k2.append (List.Sublist.refl _)
        refine t2.trans ?_
        have : w.take (j + 1) = (w.take i).take (j + 1) := by rw [List.take_take]; congr 1; omega
        rw [this]; exact List.take_sublist _ _
      · rw [List.append_assoc]; exact chn_snoc k3 g3

/-- No chain to a stroke is longer than the table says. -/
theorem Lf_max : ∀ (n : Nat) {u v c : List Int} {x : Int}, u.length ≤ n → w = u ++ x :: v → c.Sublist u → Chn b (c ++ [x]) → ((c.length + 1 : Nat) : Int) ≤ Lf b w u.length := by
  intro n
  induction n with
  | zero =>
    intro u v c x hn e hc hch
    have hu : u = [] := List.eq_nil_of_length_eq_zero (by omega)
    subst hu
    have : c = [] := List.sublist_nil.1 hc
    subst this
    have := (Lf_spec (b := b) (w := w) 0).1
    simp; omega
  | succ n ih =>
    intro u v c x hn e hc hch
    rcases Chn.mid hch with h | ⟨c1, y, h, hyx⟩
    · subst h
      have := (Lf_spec (b := b) (w := w) u.length).1
      simp; omega
    · subst h
      obtain ⟨r1, r2, e1, h2, h3⟩ := List.append_sublist_iff.1 hc
      have hy : y ∈ r2 := h3.subset (by simp)
      obtain ⟨s, t, e2⟩ := List.append_of_mem hy
      have ue : u = (r1 ++ s) ++ y :: t := by rw [e1, e2]; simp
      have hlen : (r1 ++ s).length < u.length := by rw [ue]; simp
      have hch' : Chn b (c1 ++ [y]) := by
        have : ∀ {p q : List Int}, Chn b (p ++ q) → Chn b p := fun {p q} h => by
          induction p with
          | nil => trivial
          | cons a p ih =>
            cases p with
            | nil => trivial
            | cons a' p => exact ⟨h.1, ih h.2⟩
        exact this hch
      have i1 := ih (u := r1 ++ s) (v := t ++ x :: v) (c := c1) (x := y) (by omega) (by rw [e, ue]; simp) (h2.trans (List.sublist_append_left _ _)) hch'
      have gy : w.getD (r1 ++ s).length 0 = y := by rw [e, ue]; simp
      have gx : w.getD u.length 0 = x := by rw [e]; simp
      have := (Lf_spec (b := b) (w := w) u.length).2.1 (r1 ++ s).length hlen (by rw [gy, gx]; exact hyx)
      simp at this i1 ⊢
      omega

theorem dpLast_spec : ∀ i, (i = 0 → dpLast b w i = -1) ∧ (i ≠ 0 → ∃ k, k < i ∧ dpLast b w i = (k : Int) ∧ ∀ j, j < i → Lf b w j ≤ Lf b w k)
  | 0 => ⟨fun _ => rfl, fun h => absurd rfl h⟩
  | i + 1 => by
    refine ⟨fun h => by omega, fun _ => ?_⟩
    obtain ⟨h1, h2⟩ := dpLast_spec i
    simp only [dpLast]
    by_cases h0 : i = 0
    · subst h0
      rw [h1 rfl, if_pos (.inl (by omega))]
      exact ⟨0, by omega, rfl, fun j hj => by have : j = 0 := by omega
                                              subst this; exact Int.le_refl _⟩
    · obtain ⟨k, g1, g2, g3⟩ := h2 h0
      rw [g2]
      split
      · rename_i hc
        have hc : Lf b w k < Lf b w i := by
          rcases hc with hc | hc
          · omega
          · simpa using hc
        refine ⟨i, by omega, rfl, fun j hj => ?_⟩
        by_cases e : j = i
        · subst e; exact Int.le_refl _
        · have := g3 j (by omega); omega
      · rename_i hc
        have hc : ¬ Lf b w k < Lf b w i := fun h => hc (.inr (by simpa using h))
        refine ⟨k, by omega, rfl, fun j hj => ?_⟩
        by_cases e : j = i
        · subst e; omega
        · exact g3 j (by omega)

/-- The spine that the table gives. -/
def spineL (b : Bch) (w : List Int) : List Int := upI b w w.length (dpLast b w w.length)
theorem spineL_ok (w : List Int) : spOK w.length (spineL b w) = true ∧ spNo b w (spineL b w) = true ∧ (spineL b w).length = (rndF b w).length := by
  by_cases h0 : w = []
  · subst h0; exact ⟨rfl, rfl, rfl⟩
  have hl : w.length ≠ 0 := fun e => h0 (List.eq_nil_of_length_eq_zero e)
  obtain ⟨k, g1, g2, g3⟩ := (dpLast_spec (b := b) (w := w) w.length).2 hl
  have e : spineL b w = upI b w w.length (k : Int) := by unfold spineL; rw [g2]
  rw [e]
  obtain ⟨k1, k2, k3, k4⟩ := upI_ok (b := b) (w := w) w.length k g1
  obtain ⟨c, c1, c2, c3⟩ := upI_chain (b := b) (w := w) w.length k g1 g1
  have Lk := (Lf_spec (b := b) (w := w) k).1
  refine ⟨spOK_iff.2 fun i hi => ?_, spNo_iff.2 fun i hi h0 => (k4 i hi h0).2, ?_⟩
  · have := k3 i hi
    unfold spAt
    by_cases e0 : i = 0
    · subst e0; simp only [Bool.and_eq_true, decide_eq_true_eq, Bool.or_eq_true]
      exact ⟨⟨by omega, by omega⟩, .inl trivial⟩
    · have := (k4 i hi e0).1
      simp only [Bool.and_eq_true, decide_eq_true_eq, Bool.or_eq_true]; omega
  · have a1 : (upI b w w.length (k : Int)).length ≤ (rndF b w).length := by
      have hs : (upS w (upI b w w.length (k : Int))).Sublist w := by
        rw [c1]
        have gd : w.getD k 0 = w[k] := by simp [g1]
        have t1 : (w.take (k + 1)) = w.take k ++ [w[k]] := List.take_succ_eq_append_getElem g1
        have t2 : (c ++ [w.getD k 0]).Sublist (w.take (k + 1)) := by rw [t1, gd]; exact c2.append (List.Sublist.refl _)
        exact t2.trans (List.take_sublist _ _)
      have := chn_le (b := b) w.length (Nat.le_refl _) hs (by rw [c1]; exact c3)
      simpa [upS] using this
    have a2 : (rndF b w).length ≤ (upI b w w.length (k : Int)).length := by
      obtain ⟨d, d1, d2, d3⟩ := chn_ex (b := b) w.length (w := w) (Nat.le_refl _)
      rw [← d3, k1]
      rcases List.eq_nil_or_concat d with h | ⟨d', x, h⟩
      · subst h; simp
      · rw [List.concat_eq_append] at h
        subst h
        obtain ⟨r1, r2, e1, h2, h3⟩ := List.append_sublist_iff.1 d1
        have hx : x ∈ r2 := h3.subset (by simp)
        obtain ⟨s, t, e2⟩ := List.append_of_mem hx
        have ue : w = (r1 ++ s) ++ x :: t := by rw [e1, e2]; simp
        have := Lf_max (b := b) (w := w) (r1 ++ s).length (Nat.le_refl _) ue (h2.trans (List.sublist_append_left _ _)) d2
        have h5 := g3 (r1 ++ s).length (by have := congrArg List.length ue; simp at this ⊢; omega)
        simp at this h5 ⊢
        omega
    omega

end Go.AM

/- THE THEORY OF MOVES, PART 9: chains of the short form, and lists in groups. Own work. -/
set_option linter.unusedSimpArgs false
set_option linter.unusedVariables false
namespace Go.AM
open Go.RowKit Go.Proofs

variable {b : Bch}

theorem Chn.right : ∀ {u v : List Int}, Chn b (u ++ v) → Chn b v
  | [], v, h => h
  | x :: u, v, h => Chn.right (u := u) (v := v) (Chn.tail (x := x) (c := u ++ v) h)
theorem Chn.left : ∀ {u v : List Int}, Chn b (u ++ v) → Chn b u
  | [], v, _ => trivial
  | [x], v, _ => trivial
  | x :: y :: u, v, h => ⟨h.1, Chn.left (u := y :: u) (v := v) h.2⟩

theorem chn_pass {s : Int} {u v c : List Int} (hu : ∀ t ∈ u, canB b t s = true) (hc : c.Sublist (s :: (u ++ v))) (hn : Chn b c) : c.Sublist (u ++ s :: v) := by
  rcases List.sublist_cons_iff.1 hc with h | ⟨r, rfl, h⟩
  · exact h.trans ((List.Sublist.refl u).append (List.sublist_cons_self s v))
  · obtain ⟨c1, c2, rfl, h1, h2⟩ := List.sublist_append_iff.1 h
    cases c1 with
    | nil => exact ((h2.cons_cons s)).trans (List.sublist_append_right _ _)
    | cons y c1 =>
      have := hu y (h1.subset (by simp))
      have h3 : canB b s y = false := hn.1
      rw [canB_comm, h3] at this; cases this

theorem chn_formF : ∀ (n : Nat) {w c : List Int}, S8 w → w.length = n → c.Sublist (formF b w.length w) → Chn b c → c.Sublist w
  | 0, w, c, _, hl, hc, _ => by
    have : w = [] := List.eq_nil_of_length_eq_zero hl
    subst this; exact hc
  | n + 1, w, c, hw, hl, hc, hn => by
    cases w with
    | nil => cases hl
    | cons x r =>
      obtain ⟨j, h1, hj, h3, h4⟩ := firstI_spec (b := b) (w := x :: r) (x :: r).length (by simp) (Nat.le_refl _)
      have hj : j < (x :: r).length := hj
      rw [show (x :: r).length = r.length + 1 from rfl] at hc h1
      simp only [formF] at hc
      rw [h1] at hc
      simp only [Int.toNat_natCast] at hc
      have gd : (x :: r).getD j 0 = (x :: r)[j] := by rw [List.getD_eq_getElem?_getD, List.getElem?_eq_getElem hj]; rfl
      have hrl : r.length + 1 = (x :: r).length := rfl
      rw [gd] at hc
      have hf := (freeB_iff hj).1 h3
      generalize x :: r = w at *
      have e : w = w.take j ++ w[j] :: w.drop (j + 1) := by
        rw [List.getElem_cons_drop, List.take_append_drop]
      have e2 : w.eraseIdx j = w.take j ++ w.drop (j + 1) := List.eraseIdx_eq_take_drop_succ ..
      have hl2 : (w.eraseIdx j).length = r.length := by rw [List.length_eraseIdx_of_lt hj]; omega
      have hs2 : S8 (w.eraseIdx j) := fun s hs => hw s (List.mem_of_mem_eraseIdx hs)
      rw [← hl2] at hc
      rw [e]
      refine chn_pass hf ?_ hn
      rw [← e2]
      rcases List.sublist_cons_iff.1 hc with h | ⟨c1, rfl, h⟩
      · exact (chn_formF n hs2 (by omega) h hn).trans (List.sublist_cons_self _ _)
      · exact (chn_formF n hs2 (by omega) h hn.tail).cons_cons _

theorem redF_sublist : ∀ (n : Nat) (l : List Int), (redF b n l).Sublist l
  | 0, l => List.Sublist.refl _
  | n + 1, l => by
    simp only [redF]
    split
    · exact ((redF_sublist n _).trans (List.eraseIdx_sublist ..)).trans (List.eraseIdx_sublist ..)
    · exact List.Sublist.refl _

/-- A chain of the short form is one of the list. -/
theorem chn_form {l c : List Int} (hl : S8 l) (hc : c.Sublist (form b l)) (hn : Chn b c) : c.Sublist l :=
  (chn_formF _ (pile_red_eq (b := b) hl).2.1 rfl hc hn).trans (redF_sublist _ _)

/-- Where the group that begins at i ends, if it goes as far as k. -/
def endG (b : Bch) (m : List Int) (i : Nat) : Nat → Nat → Nat
  | 0, k => k
  | n + 1, k => if k < m.length ∧ (((m.take k).drop i).all fun t => canB b t (m.getD k 0)) = true then endG b m i n (k + 1) else k
/-- How many groups there are from i on. -/
def grpN (b : Bch) (m : List Int) : Nat → Nat → Nat
  | 0, _ => 0
  | n + 1, i => if i < m.length then grpN b m n (endG b m i (m.length - (i + 1)) (i + 1)) + 1 else 0

/-- Each two strokes can be exchanged. -/
def GrpX (b : Bch) (l : List Int) : Prop := l.Pairwise fun x y => canB b x y = true
theorem grp_chn {c g : List Int} (hg : GrpX b g) (hc : c.Sublist g) (hn : Chn b c) : c.length ≤ 1 := by
  match c, hn with
  | [], _ => simp
  | [_], _ => simp
  | x :: y :: r, hn =>
    have := (List.Pairwise.sublist hc hg)
    rw [List.pairwise_cons] at this
    have := this.1 y (by simp)
    rw [hn.1] at this; cases this
theorem endG_ok {m : List Int} {i : Nat} : ∀ (n k : Nat), i < k → k ≤ m.length → GrpX b ((m.take k).drop i) → k ≤ endG b m i n k ∧ endG b m i n k ≤ m.length ∧ GrpX b ((m.take (endG b m i n k)).drop i)
  | 0, k, h1, h2, h3 => ⟨Nat.le_refl _, h2, h3⟩
  | n + 1, k, h1, h2, h3 => by
    simp only [endG]
    split
    · rename_i hc
      have gd : m.getD k 0 = m[k]'hc.1 := by simp [hc.1]
      have := endG_ok (m := m) (i := i) n (k + 1) (by omega) hc.1 (by
        rw [List.take_succ_eq_append_getElem hc.1, List.drop_append_of_le_length (by rw [List.length_take]; omega)]
        refine List.pairwise_append.2 ⟨h3, List.pairwise_singleton .., fun x hx y hy => ?_⟩
        have := List.all_eq_true.1 hc.2 x hx
        simp only [List.mem_singleton] at hy
        subst hy
        rw [gd] at this; exact this)
      exact ⟨by omega, this.2⟩
    · exact ⟨Nat.le_refl _, h2, h3⟩

theorem chn_grp {m : List Int} : ∀ (n i : Nat) {c : List Int}, m.length - i ≤ n → c.Sublist (m.drop i) → Chn b c → c.length ≤ grpN b m n i
  | 0, i, c, h, hc, _ => by
    have := hc.length_le
    rw [List.length_drop] at this
    simp only [grpN]; omega
  | n + 1, i, c, h, hc, hn => by
    simp only [grpN]
    split
    · rename_i hi
      have h1 : (m.take (i + 1)).drop i = [m[i]] := by
        rw [List.take_succ_eq_append_getElem hi, List.drop_append_of_le_length (by rw [List.length_take]; omega)]
        simp
      obtain ⟨g1, g2, g3⟩ := endG_ok (b := b) (m := m) (i := i) (m.length - (i + 1)) (i + 1) (by omega) hi (by rw [h1]; exact List.pairwise_singleton ..)
      generalize endG b m i (m.length - (i + 1)) (i + 1) = k at *
      have e : m.drop i = (m.take k).drop i ++ m.drop k := by
        have h4 : (m.take k).drop i ++ m.drop k = (m.take k ++ m.drop k).drop i := by
          rw [List.drop_append_of_le_length (by rw [List.length_take]; omega)]
        rw [h4, List.take_append_drop]
      rw [e] at hc
      obtain ⟨c1, c2, rfl, k1, k2⟩ := List.sublist_append_iff.1 hc
      have := grp_chn g3 k1 hn.left
      have := chn_grp n k (c := c2) (by omega) k2 hn.right
      rw [List.length_append]; omega
    · have := hc.length_le
      rw [List.length_drop] at this
      omega

/-- A list that makes the pattern has no fewer groups than there are rounds. -/
theorem rnd_grp {l m : List Int} (hl : S8 l) (hm : S8 m) (h : Pat b l m) : (rndF b (form b l)).length ≤ grpN b m m.length 0 := by
  obtain ⟨c, h1, h2, h3⟩ := chn_ex (b := b) _ (w := form b l) (Nat.le_refl _)
  rw [← h3]
  rw [(sim_iff hl hm).1 h] at h1
  exact chn_grp m.length 0 (by omega) (by simpa using chn_form hm h1 h2) h2

/-- Indexes that are a spine give a chain. -/
theorem spine_sub {w : List Int} : ∀ {sp : List Int} {lo : Nat}, (∀ i, i < sp.length → (lo : Int) ≤ sp.getD i 0 ∧ sp.getD i 0 < w.length) → (∀ i, i < sp.length → i ≠ 0 → sp.getD (i - 1) 0 < sp.getD i 0) → (upS w sp).Sublist (w.drop lo)
  | [], lo, _, _ => List.nil_sublist _
  | s :: sp, lo, h1, h2 => by
    have h0 := h1 0 (by simp)
    simp only [List.getD_cons_zero] at h0
    have hs : s.toNat < w.length := by omega
    have inc : ∀ i, i < sp.length → s < sp.getD i 0 := by
      intro i
      induction i with
      | zero =>
        intro hi
        have := h2 1 (by simp; omega) (by omega)
        simpa using this
      | succ i ih =>
        intro hi
        have := h2 (i + 2) (by simp; omega) (by omega)
        have h3 := ih (by omega)
        simp only [List.getD_cons_succ, show i + 2 - 1 = i + 1 by omega] at this
        omega
    have ih := spine_sub (sp := sp) (lo := s.toNat + 1) (fun i hi => ⟨by have := inc i hi; omega, by have := (h1 (i + 1) (by simp; omega)).2; simpa using this⟩) (fun i hi h0 => by
      have := h2 (i + 1) (by simp; omega) (by omega)
      obtain ⟨j, rfl⟩ : ∃ j, i = j + 1 := ⟨i - 1, by omega⟩
      simpa using this)
    have gd : w.getD s.toNat 0 = w[s.toNat] := by simp [hs]
    show (w.getD s.toNat 0 :: upS w sp).Sublist _
    rw [gd]
    have h3 : (w[s.toNat] :: upS w sp).Sublist (w.drop s.toNat) := by
      rw [List.drop_eq_getElem_cons hs]; exact ih.cons_cons _
    have h4 : w.drop s.toNat = (w.drop lo).drop (s.toNat - lo) := by rw [List.drop_drop]; congr 1; omega
    rw [h4] at h3
    exact h3.trans (List.drop_sublist _ _)
theorem spine_chn {w : List Int} : ∀ {sp : List Int}, (∀ i, i < sp.length → i ≠ 0 → canB b (w.getD (sp.getD (i - 1) 0).toNat 0) (w.getD (sp.getD i 0).toNat 0) = false) → Chn b (upS w sp)
  | [], _ => trivial
  | [_], _ => trivial
  | s :: t :: sp, h => by
    have h1 := h 1 (by simp) (by omega)
    have h2 := spine_chn (sp := t :: sp) (fun i hi h0 => by
      have := h (i + 1) (by simp at hi ⊢; omega) (by omega)
      obtain ⟨j, rfl⟩ : ∃ j, i = j + 1 := ⟨i - 1, by omega⟩
      simpa using this)
    exact ⟨by simpa using h1, h2⟩
theorem spine_le {w sp : List Int} (h1 : spOK w.length sp = true) (h2 : spNo b w sp = true) : sp.length ≤ (rndF b w).length := by
  have a1 := spOK_iff.1 h1
  have hs : (upS w sp).Sublist w := by
    have := spine_sub (w := w) (sp := sp) (lo := 0) (fun i hi => by
      have := a1 i hi
      unfold spAt at this
      simp only [Bool.and_eq_true, decide_eq_true_eq] at this
      exact ⟨by omega, this.1.2⟩) (fun i hi h0 => by
      have := a1 i hi
      unfold spAt at this
      simp only [Bool.and_eq_true, Bool.or_eq_true, decide_eq_true_eq] at this
      rcases this.2 with h | h
      · exact absurd h h0
      · exact h)
    simpa using this
  have hc : Chn b (upS w sp) := spine_chn fun i hi h0 => spNo_iff.1 h2 i hi h0
  have := chn_le (b := b) w.length (Nat.le_refl _) hs hc
  simpa [upS] using this

/-- The rounds joined make the pattern, and are no longer. -/
theorem remR_pat : ∀ {p w : List Int}, p.Nodup → (∀ s ∈ p, Free b w s) → Pat b w (p ++ remR w p) ∧ w.length = p.length + (remR w p).length
  | [], w, _, _ => ⟨.refl _, by simp [remR]⟩
  | t :: p, w, hp, hf => by
    obtain ⟨hp1, hp2⟩ := List.nodup_cons.1 hp
    obtain ⟨u, v, e, hu, _, _, he, _⟩ := free_split (hf t (by simp))
    have hf' : ∀ s ∈ p, Free b (w.erase t) s := fun s hs => free_erase (hf s (by simp [hs])) fun e => hp1 (e ▸ hs)
    obtain ⟨h1, h2⟩ := remR_pat (w := w.erase t) hp2 hf'
    have e1 : remR w (t :: p) = remR (w.erase t) p := rfl
    refine ⟨?_, ?_⟩
    · rw [e1]
      have a1 : Pat b w (t :: w.erase t) := by
        rw [he, e]
        exact sim_pass [] v hu
      exact a1.trans (h1.right [t])
    · rw [e1, List.length_cons]
      have : w.length = (w.erase t).length + 1 := by rw [he, e]; simp; omega
      omega
theorem rnd_pat : ∀ (n : Nat) {w : List Int}, w.length ≤ n → Pat b w (rndF b w).flatten ∧ (rndF b w).flatten.length = w.length ∧ (rndF b w).length ≤ w.length
  | 0, w, hw => by
    have : w = [] := List.eq_nil_of_length_eq_zero (by omega)
    subst this
    exact ⟨.refl _, rfl, Nat.le_refl _⟩
  | n + 1, w, hw => by
    by_cases h0 : w = []
    · subst h0; exact ⟨.refl _, rfl, Nat.le_refl _⟩
    have hl := rem_less (b := b) h0
    have hne := firsts_ne (b := b) h0
    have hnd : (firstsR b w).Nodup := firstsTo_nodup (b := b) w w.length (Nat.le_refl _)
    obtain ⟨a1, a2⟩ := remR_pat hnd (fun s hs => firsts_mem.1 hs)
    obtain ⟨h1, h2, h3⟩ := rnd_pat n (w := remR w (firstsR b w)) (by omega)
    rw [rndF_step h0]
    refine ⟨a1.trans (h1.right _), ?_, ?_⟩
    · rw [List.flatten_cons, List.length_append, h2, a2]
    · rw [List.length_cons]
      have := List.length_pos_iff.2 hne
      omega
theorem rnd_mem : ∀ (n : Nat) {w r : List Int}, w.length ≤ n → r ∈ rndF b w → r ≠ [] ∧ r.Nodup ∧ (∀ s ∈ r, s ∈ w) ∧ ∀ s ∈ r, ∀ t ∈ r, s ≠ t → canB b s t = true
  | 0, w, r, hw, hr => by
    have : w = [] := List.eq_nil_of_length_eq_zero (by omega)
    subst this
    cases hr
  | n + 1, w, r, hw, hr => by
    by_cases h0 : w = []
    · subst h0; cases hr
    have hl := rem_less (b := b) h0
    rw [rndF_step h0] at hr
    rcases List.mem_cons.1 hr with h | h
    · subst h
      exact ⟨firsts_ne h0, firstsTo_nodup (b := b) w w.length (Nat.le_refl _), fun s hs => firsts_sub hs, fun s hs t ht hne => free_can (firsts_mem.1 hs) (firsts_mem.1 ht) hne⟩
    · obtain ⟨h1, h2, h3, h4⟩ := rnd_mem n (by omega) h
      exact ⟨h1, h2, fun s hs => remR_sub (h3 s hs), h4⟩

/-- Strokes that can all be exchanged are no more than there are lines. -/
theorem lines_le : ∀ (n : Nat) {r : List Int}, r.Nodup → (∀ s ∈ r, 0 ≤ lineI s ∧ lineI s < n) → (∀ s ∈ r, ∀ t ∈ r, s ≠ t → lineI s ≠ lineI t) → r.length ≤ n
  | 0, r, _, h, _ => by
    cases r with
    | nil => simp
    | cons s r => have := h s (by simp); omega
  | n + 1, r, hd, h, hne => by
    by_cases hx : ∃ x ∈ r, lineI x = n
    · obtain ⟨x, hx, hl⟩ := hx
      have := lines_le n (r := r.erase x) (hd.erase x) (fun s hs => by
        have h1 := h s (List.mem_of_mem_erase hs)
        have h2 : s ≠ x := fun e => by subst e; exact (List.Nodup.mem_erase_iff hd).1 hs |>.1 rfl
        have h3 := hne s (List.mem_of_mem_erase hs) x hx h2
        omega) (fun s hs t ht => hne s (List.mem_of_mem_erase hs) t (List.mem_of_mem_erase ht))
      have e : (r.erase x).length = r.length - 1 := List.length_erase_of_mem hx
      omega
    · have := lines_le n hd (fun s hs => by
        have h1 := h s hs
        have h2 : lineI s ≠ n := fun e => hx ⟨s, hs, e⟩
        omega) hne
      omega

end Go.AM

/- THE THEORY OF MOVES, PART 10: what two patterns have in common. Own work. -/
set_option linter.unusedSimpArgs false
set_option linter.unusedVariables false
namespace Go.AM
open Go.RowKit Go.Proofs

variable {b : Bch}

/-- Equal but for exchanges. -/
def Trc (b : Bch) (w v : List Int) : Prop := Eq8 (Pj b w) (Pj b v)
theorem Trc.refl (w : List Int) : Trc b w w := Eq8.refl _
theorem Trc.symm {w v : List Int} (h : Trc b w v) : Trc b v w := Eq8.symm h
theorem Trc.trans {w v z : List Int} (h : Trc b w v) (k : Trc b v z) : Trc b w z := Eq8.trans h k
theorem Trc.app {w v w' v' : List Int} (h : Trc b w v) (h' : Trc b w' v') : Trc b (w ++ w') (v ++ v') := fun k hk => by rw [Pj_append, Pj_append, h k hk, h' k hk]
theorem Trc.cons {s : Int} {w v : List Int} (h : Trc b w v) : Trc b (s :: w) (s :: v) := (Trc.refl [s]).app h
theorem Trc.tail {s : Int} {w v : List Int} (h : Trc b (s :: w) (s :: v)) : Trc b w v := fun k hk => by
  have := h k hk
  rw [show s :: w = [s] ++ w from rfl, show s :: v = [s] ++ v from rfl, Pj_append, Pj_append] at this
  exact List.append_cancel_left this
theorem Trc.pat {w v : List Int} (hw : S8 w) (hv : S8 v) (h : Trc b w v) : Pat b w v := by
  have e := formF_rows (b := b) w.length hw hv rfl h
  have h1 := (formF_sim (b := b) w.length hw rfl).1
  have h2 := (formF_sim (b := b) v.length hv rfl).1
  rw [e] at h1
  exact h1.trans h2.symm
theorem Trc.len {w v : List Int} (hw : S8 w) (hv : S8 v) (h : Trc b w v) : w.length = v.length := by
  have e := formF_rows (b := b) w.length hw hv rfl h
  have h1 := (formF_sim (b := b) w.length hw rfl).2.1
  have h2 := (formF_sim (b := b) v.length hv rfl).2.1
  rw [e] at h1
  omega
theorem fsTo_congr {R R' : Nat → List Int} : ∀ {m : Nat}, (∀ k, k < m → R k = R' k) → ∀ {s}, s ∈ fsTo R m → s ∈ fsTo R' m := fun {m} h s hs => by
  obtain ⟨k, h1, h2⟩ := fs_mem.1 hs
  exact fs_mem.2 ⟨k, h1, by rw [← h k h1]; exact h2⟩
theorem Trc.free {w v : List Int} {s : Int} (hw : S8 w) (hv : S8 v) (h : Trc b w v) (hs : Free b w s) : Free b v s :=
  (fs_Pj hv).1 (fsTo_congr h ((fs_Pj hw).2 hs))
theorem tr_pass {s : Int} {u v : List Int} (hs : St8 s) (h : ∀ t ∈ u, canB b t s = true) : Trc b (u ++ s :: v) (s :: (u ++ v)) := fun k hk => by
  rw [show u ++ s :: v = (u ++ [s]) ++ v by simp, show s :: (u ++ v) = (s :: u) ++ v from rfl, Pj_append, Pj_append _ v, Pj_pass hs h]
theorem tr_erase {w : List Int} {s : Int} (hw : S8 w) (h : Free b w s) : Trc b w (s :: w.erase s) := by
  obtain ⟨u, v, e, hu, _, _, he, _⟩ := free_split h
  rw [he, e]
  exact tr_pass (hw s (by rw [e]; simp)) hu
theorem S8.erase {w : List Int} {s : Int} (h : S8 w) : S8 (w.erase s) := fun x hx => h x (List.mem_of_mem_erase hx)
theorem Free.mem {w : List Int} {s : Int} (h : Free b w s) : s ∈ w := by
  obtain ⟨u, v, rfl, _⟩ := h; simp
theorem free_app {f x : List Int} {p : Int} (h : Free b (f ++ x) p) : Free b f p ∨ ((∀ t ∈ f, canB b t p = true) ∧ Free b x p) := by
  obtain ⟨u, v, e, hu⟩ := h
  rcases List.append_eq_append_iff.1 e with ⟨z, h1, h2⟩ | ⟨z, h1, h2⟩
  · exact .inr ⟨fun t ht => hu t (by rw [h1]; simp [ht]), z, v, h2, fun t ht => hu t (by rw [h1]; simp [ht])⟩
  · cases z with
    | nil => simp at h1 h2; exact .inr ⟨fun t ht => hu t (by rw [← h1]; exact ht), [], v, h2.symm, fun t ht => by cases ht⟩
    | cons y z => simp at h2; obtain ⟨rfl, _⟩ := h2; exact .inl ⟨u, z, h1, hu⟩

/-- Reduced lists. -/
theorem NoAdj.tail {l m : List Int} (h : NoAdj (l ++ m)) : NoAdj m := fun p x q e => h (l ++ p) x q (by rw [e]; simp)
theorem NoAdj.app {l m : List Int} (h : NoAdj l) (k : NoAdj m) (hb : ∀ s p q, l = p ++ [s] → m = -s :: q → s = 0) : NoAdj (l ++ m) := fun p x q e => by
  rcases List.append_eq_append_iff.1 e with ⟨z, h1, h2⟩ | ⟨z, h1, h2⟩
  · exact k z x q h2
  · match z, h1, h2 with
    | [], h1, h2 => simp at h2; exact k [] x q h2.symm
    | [y], h1, h2 => simp at h2; obtain ⟨rfl, h2⟩ := h2; exact hb x p q h1 h2.symm
    | y :: y' :: z, h1, h2 => simp at h2; obtain ⟨rfl, rfl, _⟩ := h2; exact h p x z h1
theorem Pj_back {w : List Int} (hw : S8 w) (k : Nat) : Pj b (backL w) k = backL (Pj b w k) := by
  induction w with
  | nil => rfl
  | cons s w ih =>
    have hs := hw.head
    have e1 : lineI (-s) = lineI s := lineI_neg hs.1
    rw [backL_cons, Pj_append, ih hw.tail]
    by_cases h1 : lineI s = k
    · rw [Pj_own h1, Pj_own (e1.trans h1), backL_cons]; rfl
    · cases h2 : crC b.c (lineI s) k with
      | true => rw [Pj_cross h1 h2, Pj_cross (by rw [e1]; exact h1) (by rw [e1]; exact h2), backL_cons]; rfl
      | false => rw [Pj_skip h1 h2, Pj_skip (by rw [e1]; exact h1) (by rw [e1]; exact h2)]; simp [Pj]
theorem NoAdj.back {l : List Int} (h : NoAdj l) : NoAdj (backL l) := fun p x q e => by
  have e2 := congrArg backL e
  rw [backL_back, backL_append, backL_cons, backL_cons] at e2
  simp only [List.append_assoc, List.cons_append, List.nil_append, Int.neg_neg] at e2
  have := h (backL q) x (backL p) (by rw [e2])
  exact this
theorem red_len {w : List Int} (hw : S8 w) (h : Red8 (Pj b w)) : (form b w).length = w.length :=
  Trc.len (form_S8 hw) hw ((pile_form hw).symm.trans (pile_of_red hw h))
theorem form_red {l : List Int} (hl : S8 l) : Red8 (Pj b (form b l)) := (pile_red hl).congr (pile_form hl)
theorem Red8.left {u v : List Int} (h : Red8 (Pj b (u ++ v))) : Red8 (Pj b u) := fun k hk => by have := h k hk; rw [Pj_append] at this; exact this.init
theorem Red8.right {u v : List Int} (h : Red8 (Pj b (u ++ v))) : Red8 (Pj b v) := fun k hk => by have := h k hk; rw [Pj_append] at this; exact this.tail
theorem red_meet {x y : List Int} (hx : S8 x) (hy : S8 y) (rx : Red8 (Pj b x)) (ry : Red8 (Pj b y)) (h : ∀ s, Free b x s → Free b y s → False) : Red8 (Pj b (backL x ++ y)) := fun k hk => by
  rw [Pj_append, Pj_back hx]
  refine (rx k hk).back.app (ry k hk) fun s p q e1 e2 => Classical.byContradiction fun h0 => ?_
  have e3 : Pj b x k = -s :: backL p := by
    have := congrArg backL e1
    rw [backL_back, backL_append] at this
    rw [this]; rfl
  have h0' : -s ≠ 0 := by omega
  obtain ⟨u, v, k1, k2, _⟩ := head_free h0' e3
  obtain ⟨u', v', g1, g2, _⟩ := head_free h0' e2
  exact h (-s) ⟨u, v, k1, k2⟩ ⟨u', v', g1, g2⟩

/-- The common beginning. -/
theorem cm_spec : ∀ (n : Nat) {x y : List Int}, x.length ≤ n → S8 x → S8 y → ∃ x' y', S8 x' ∧ S8 y' ∧ Trc b x (comF b x y ++ x') ∧ Trc b y (comF b x y ++ y') ∧ (∀ s, Free b x' s → Free b y' s → False) ∧ ∀ s ∈ comF b x y, s ∈ x := by
  intro n
  induction n with
  | zero =>
    intro x y h hx hy
    have : x = [] := List.eq_nil_of_length_eq_zero (by omega)
    subst this
    exact ⟨[], y, hx, hy, .refl _, .refl _, fun s hs => by obtain ⟨u, v, e, _⟩ := hs; simp at e, fun s hs => by cases hs⟩
  | succ n ih =>
    intro x y h hx hy
    by_cases h0 : cms b x y = []
    · rw [comF_nil h0]
      refine ⟨x, y, hx, hy, .refl _, .refl _, fun s h1 h2 => ?_, fun s hs => by cases hs⟩
      have := (cms_mem hx).2 ⟨h1, h2⟩
      rw [h0] at this; cases this
    · obtain ⟨g1, g2, g3, _⟩ := cms_least hx h0
      rw [comF_cons hx h0]
      generalize leastC (cms b x y) = s at *
      have hl : (x.erase s).length = x.length - 1 := List.length_erase_of_mem g1.mem
      have hp : 0 < x.length := List.length_pos_of_mem g1.mem
      obtain ⟨x', y', k1, k2, k3, k4, k5, k6⟩ := ih (x := x.erase s) (y := y.erase s) (by omega) hx.erase hy.erase
      refine ⟨x', y', k1, k2, (tr_erase hx g1).trans k3.cons, (tr_erase hy g2).trans k4.cons, k5, fun t ht => ?_⟩
      rcases List.mem_cons.1 ht with rfl | ht
      · exact g1.mem
      · exact List.mem_of_mem_erase (k6 t ht)
theorem cm_comm : ∀ (n : Nat) {x y : List Int}, x.length ≤ n → S8 x → S8 y → comF b x y = comF b y x := by
  intro n
  induction n with
  | zero =>
    intro x y h hx hy
    have : x = [] := List.eq_nil_of_length_eq_zero (by omega)
    subst this
    have h1 : cms b [] y = [] := by
      rw [List.eq_nil_iff_forall_not_mem]; intro s hs
      obtain ⟨⟨u, v, e, _⟩, _⟩ := (cms_mem hx).1 hs; simp at e
    have h2 : cms b y [] = [] := by
      rw [List.eq_nil_iff_forall_not_mem]; intro s hs
      obtain ⟨_, ⟨u, v, e, _⟩⟩ := (cms_mem hy).1 hs; simp at e
    rw [comF_nil h1, comF_nil h2]
  | succ n ih =>
    intro x y h hx hy
    by_cases h0 : cms b x y = []
    · have h2 : cms b y x = [] := by
        rw [List.eq_nil_iff_forall_not_mem]; intro s hs
        obtain ⟨k1, k2⟩ := (cms_mem hy).1 hs
        have := (cms_mem hx).2 ⟨k2, k1⟩
        rw [h0] at this; cases this
      rw [comF_nil h0, comF_nil h2]
    · have h2 : cms b y x ≠ [] := fun e => by
        obtain ⟨g1, g2, _⟩ := cms_least hx h0
        have := (cms_mem hy).2 ⟨g2, g1⟩
        rw [e] at this; cases this
      obtain ⟨g1, g2, g3, g4⟩ := cms_least hx h0
      obtain ⟨k1, k2, k3, k4⟩ := cms_least hy h2
      have e : leastC (cms b x y) = leastC (cms b y x) := key_inj g3.1 k3.1 (by have := g4 _ k2 k1; have := k4 _ g2 g1; omega)
      rw [comF_cons hx h0, comF_cons hy h2, ← e]
      have hl := List.length_erase_of_mem g1.mem
      have hp : 0 < x.length := List.length_pos_of_mem g1.mem
      rw [ih (by omega) hx.erase hy.erase]
theorem cm_div : ∀ (n : Nat) {x y f x1 y1 : List Int}, x.length ≤ n → S8 x → S8 y → S8 f → S8 x1 → S8 y1 → Trc b x (f ++ x1) → Trc b y (f ++ y1) → ∃ r, S8 r ∧ Trc b (comF b x y) (f ++ r) := by
  intro n
  induction n with
  | zero =>
    intro x y f x1 y1 h hx hy hf h1 h2 t1 t2
    have : x = [] := List.eq_nil_of_length_eq_zero (by omega)
    subst this
    have := t1.len hx (hf.append h1)
    have : f = [] := List.eq_nil_of_length_eq_zero (by rw [List.length_append] at this; simp only [List.length_nil] at this; omega)
    subst this
    exact ⟨[], .nil, .refl _⟩
  | succ n ih =>
    intro x y f x1 y1 h hx hy hf h1 h2 t1 t2
    by_cases h0 : cms b x y = []
    · rw [comF_nil h0]
      cases f with
      | nil => exact ⟨[], .nil, .refl _⟩
      | cons s f =>
        exfalso
        have fr : ∀ {z : List Int}, Free b (s :: f ++ z) s := fun {z} => ⟨[], f ++ z, rfl, fun t ht => by cases ht⟩
        have := (cms_mem (b := b) hx).2 ⟨t1.symm.free (hf.append h1) hx fr, t2.symm.free (hf.append h2) hy fr⟩
        rw [h0] at this; cases this
    · obtain ⟨g1, g2, g3, _⟩ := cms_least hx h0
      rw [comF_cons hx h0]
      generalize leastC (cms b x y) = p at *
      have hl : (x.erase p).length = x.length - 1 := List.length_erase_of_mem g1.mem
      have hp : 0 < x.length := List.length_pos_of_mem g1.mem
      have tx := (tr_erase hx g1).symm.trans t1
      have ty := (tr_erase hy g2).symm.trans t2
      rcases free_app (t1.free hx (hf.append h1) g1) with a1 | ⟨a1, a2⟩
      · have tf := tr_erase hf a1
        obtain ⟨r, k1, k2⟩ := ih (x := x.erase p) (y := y.erase p) (f := f.erase p) (by omega) hx.erase hy.erase hf.erase h1 h2 (tx.trans (tf.app (.refl x1))).tail (ty.trans (tf.app (.refl y1))).tail
        exact ⟨r, k1, k2.cons.trans (tf.symm.app (.refl r))⟩
      · rcases free_app (t2.free hy (hf.append h2) g2) with b1 | ⟨b1, b2⟩
        · have := a1 p b1.mem
          rw [canB_self] at this; cases this
        · have mv : ∀ {z : List Int}, S8 z → Free b z p → Trc b (f ++ z) (p :: (f ++ z.erase p)) := fun {z} hz h => ((Trc.refl f).app (tr_erase hz h)).trans (tr_pass g3 a1)
          obtain ⟨r, k1, k2⟩ := ih (x := x.erase p) (y := y.erase p) (f := f) (by omega) hx.erase hy.erase hf h1.erase h2.erase (tx.trans (mv h1 a2)).tail (ty.trans (mv h2 b2)).tail
          exact ⟨p :: r, .cons g3 k1, k2.cons.trans (tr_pass g3 a1).symm⟩

/-- What is common, and the way. -/
structure Meets (b : Bch) (l m c : List Int) (x' y' : List Int) : Prop where
  sx : S8 x'
  sy : S8 y'
  sc : S8 c
  px : Trc b (form b l) (c ++ x')
  py : Trc b (form b m) (c ++ y')
  rc : Red8 (Pj b c)
  rx : Red8 (Pj b x')
  ry : Red8 (Pj b y')
  no : ∀ s, Free b x' s → Free b y' s → False
theorem meets {l m : List Int} (hl : S8 l) (hm : S8 m) : ∃ x' y', Meets b l m (comF b (form b l) (form b m)) x' y' := by
  obtain ⟨x', y', k1, k2, k3, k4, k5, k6⟩ := cm_spec (b := b) _ (Nat.le_refl _) (form_S8 (b := b) hl) (form_S8 (b := b) hm)
  have r1 := (form_red (b := b) hl).congr k3
  have r2 := (form_red (b := b) hm).congr k4
  exact ⟨x', y', k1, k2, fun s hs => form_S8 hl s (k6 s hs), k3, k4, r1.left, r1.right, r2.right, k5⟩

theorem way_of {l c x' : List Int} (hl : S8 l) (hc : S8 c) (hx : S8 x') (h : Trc b (form b l) (c ++ x')) {k : List Int} (hk : S8 k) (e : Pat b k c) : Pat b (backL k ++ l) x' := by
  have h1 : Pat b l (c ++ x') := (form_sim hl).trans (h.pat (form_S8 hl) (hc.append hx))
  have h2 : Pat b (backL k ++ l) (backL c ++ (c ++ x')) := (e.inv hk).app h1
  have h3 := (sim_back' (b := b) hc).left x'
  rw [List.append_assoc] at h3
  exact h2.trans h3
theorem meet_way {l m c x' y' : List Int} (hl : S8 l) (hm : S8 m) (h : Meets b l m c x' y') : (form b (backL l ++ m)).length = x'.length + y'.length ∧ (form b l).length = c.length + x'.length ∧ (form b m).length = c.length + y'.length ∧ (form b c).length = c.length := by
  have p1 : Pat b l (c ++ x') := (form_sim hl).trans (h.px.pat (form_S8 hl) (h.sc.append h.sx))
  have p2 : Pat b m (c ++ y') := (form_sim hm).trans (h.py.pat (form_S8 hm) (h.sc.append h.sy))
  have p3 : Pat b (backL l ++ m) (backL x' ++ y') := by
    have a1 := (p1.inv hl).app p2
    rw [backL_append] at a1
    have a2 := (sim_back' (b := b) h.sc).ctx (backL x') y'
    simp only [List.append_assoc] at a1 a2
    exact a1.trans (by simpa using a2)
  have sb : S8 (backL x' ++ y') := (backL_S8 h.sx).append h.sy
  have e1 := (sim_iff ((backL_S8 hl).append hm) sb).1 p3
  have e2 := red_len sb (red_meet h.sx h.sy h.rx h.ry h.no)
  have e3 := h.px.len (form_S8 hl) (h.sc.append h.sx)
  have e4 := h.py.len (form_S8 hm) (h.sc.append h.sy)
  rw [List.length_append] at e3 e4
  rw [List.length_append, backL_len] at e2
  exact ⟨by rw [e1, e2], e3, e4, red_len h.sc h.rc⟩
theorem meet_back {l m c x' y' : List Int} (hl : S8 l) (h : Meets b l m c x' y') {k : List Int} (hk : S8 k) (e : Pat b k c) : (form b (backL k ++ l)).length = x'.length := by
  have := (sim_iff ((backL_S8 hk).append hl) h.sx).1 (way_of hl h.sc h.sx h.px hk e)
  rw [this]; exact red_len h.sx h.rx
theorem Meets.swap {l m c x' y' : List Int} (h : Meets b l m c x' y') : Meets b m l c y' x' := ⟨h.sy, h.sx, h.sc, h.py, h.px, h.rc, h.ry, h.rx, fun s h1 h2 => h.no s h2 h1⟩

/-- A list that is as long as its short form has the same strokes. -/
theorem form_tr {w : List Int} (hw : S8 w) (h : (form b w).length = w.length) : Trc b (form b w) w := by
  have e1 := form_len_eq (b := b) hw
  have e2 : red b w = w := (redF_sublist w.length w).eq_of_length (by show (red b w).length = _; omega)
  have := (formF_sim (b := b) _ (pile_red_eq (b := b) hw).2.1 rfl).2.2
  rw [e2] at this
  have e3 : form b w = formF b w.length w := by unfold form; rw [e2]
  rw [e3]; exact this
theorem front_tr {f l : List Int} (hf : S8 f) (hl : S8 l) (h : (form b (f ++ l)).length = (form b f).length + (form b l).length) : Trc b (form b (f ++ l)) (form b f ++ form b l) := by
  have sw : S8 (form b f ++ form b l) := (form_S8 hf).append (form_S8 hl)
  have e := (sim_iff (hf.append hl) sw).1 ((form_sim hf).app (form_sim hl))
  rw [e] at h ⊢
  exact form_tr sw (by rw [h, List.length_append])
theorem meet_front {f l m : List Int} (hf : S8 f) (hl : S8 l) (hm : S8 m) (h1 : (form b (f ++ l)).length = (form b f).length + (form b l).length) (h2 : (form b (f ++ m)).length = (form b f).length + (form b m).length) :
    (form b f).length + (form b (backL f ++ form b (comF b (form b (f ++ l)) (form b (f ++ m))))).length = (form b (comF b (form b (f ++ l)) (form b (f ++ m)))).length := by
  obtain ⟨x', y', M⟩ := meets (b := b) (hf.append hl) (hf.append hm)
  obtain ⟨r, k1, k2⟩ := cm_div (b := b) _ (Nat.le_refl _) (form_S8 (b := b) (hf.append hl)) (form_S8 (hf.append hm)) (form_S8 hf) (form_S8 hl) (form_S8 hm) (front_tr hf hl h1) (front_tr hf hm h2)
  obtain ⟨_, _, _, e1⟩ := meet_way (hf.append hl) (hf.append hm) M
  have sc := M.sc
  have rr : Red8 (Pj b r) := (M.rc.congr k2).right
  generalize comF b (form b (f ++ l)) (form b (f ++ m)) = g at *
  have sf := form_S8 (b := b) hf
  have e2 := k2.len sc (sf.append k1)
  rw [List.length_append] at e2
  have p : Pat b (backL f ++ form b g) r := by
    have a1 : Pat b (backL f ++ form b g) (backL (form b f) ++ (form b f ++ r)) := ((form_sim hf).inv hf).app ((form_sim sc).symm.trans (k2.pat sc (sf.append k1)))
    have a2 := (sim_back' (b := b) sf).left r
    rw [List.append_assoc] at a2
    exact a1.trans a2
  rw [(sim_iff ((backL_S8 hf).append (form_S8 sc)) k1).1 p, red_len k1 rr]
  omega

end Go.AM
