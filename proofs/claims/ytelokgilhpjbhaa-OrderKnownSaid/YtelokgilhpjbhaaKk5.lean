/-
  Kk5: texts joined: Do12 Do27 Sb1 SbO Do28 Do13 Do14 Do15 Do16 Do17 Do18 Do19 Do20 Do21 Do22 Do23 Do24 Do25 FmOL Lo1 Lo2 Lo3. Own work.
-/
import Derived.Test.YtelokgilhpjbhaaKk4
import Derived.Shelf.SlSortCmp.Whole1
import Derived.Test.YtelokgilhpjbhaaProg

set_option linter.unusedSimpArgs false
set_option linter.unusedVariables false
namespace Go.AM
open Go.RowKit Go.Proofs
def AnsN (S : List (List Int)) (r x : List Int) (v : Int) (ok : Bool) : Prop := (NoW S r x ∧ v = 0 ∧ ok = false) ∨ ∃ D, Dist S r x D ∧ v = (min mostN (cntW S D r x) : Nat) ∧ ok = true
def snf (Ss : List Nat) (L : List R3) (y : List Int) : Bool := L.any fun q => Ss.contains q.2.1 && (q.1 == pad y)
theorem snf_nil {L : List R3} {y : List Int} : snf [] L y = false := by simp [snf]
theorem snf_new {Ss : List Nat} {L : List R3} {clk : Nat} (hm : MapR 6 L clk) {q : R3} (hq : q ∈ L) (hs : q.2.1 ∉ Ss) {y : List Int} (e : q.1 = pad y) : snf Ss L y = false := by
  rw [snf, List.any_eq_false]
  intro p hp h
  simp only [Bool.and_eq_true, List.contains_eq_mem, decide_eq_true_eq, beq_iff_eq] at h
  have : p = q := pw_inj (f := fun q : R3 => q.1) hm.keys hp hq (h.2.trans e.symm)
  subst this
  exact hs h.1
theorem snf_step {Ss : List Nat} {L : List R3} {clk : Nat} (hm : MapR 6 L clk) {q : R3} (hq : q ∈ L) {n : Nat} {y0 : List Int} (hy0 : y0.length = n) (e : q.1 = pad y0) : ∀ y : List Int, y.length = n → snf (Ss ++ [q.2.1]) L y = (snf Ss L y || decide (y = y0)) := fun y hy => by
  rw [Bool.eq_iff_iff, Bool.or_eq_true, decide_eq_true_iff]
  simp only [snf, List.any_eq_true, Bool.and_eq_true, List.contains_eq_mem, decide_eq_true_eq, beq_iff_eq, List.mem_append, List.mem_singleton]
  constructor
  · rintro ⟨p, hp, h1, h2⟩
    rcases h1 with h1 | h1
    · exact .inl ⟨p, hp, h1, h2⟩
    · have : p = q := pw_inj (f := fun q : R3 => q.2.1) hm.brs hp hq h1
      subst this
      exact .inr (pad_inj (by rw [hy, hy0]) (h2.symm.trans e))
  · rintro (⟨p, hp, h1, h2⟩ | rfl)
    · exact ⟨p, hp, .inl h1, h2⟩
    · exact ⟨q, hq, .inr rfl, e⟩
theorem snf_all {Ss : List Nat} {L : List R3} {y : List Int} (hall : ∀ q ∈ L, q.2.1 ∈ Ss) (h : getR L (pad y) ≠ none) : snf Ss L y = true := by
  cases hg : getR L (pad y) with
  | none => exact absurd hg h
  | some v =>
    obtain ⟨q, hq, e, _⟩ := getR_mem hg
    rw [snf, List.any_eq_true]
    exact ⟨q, hq, by simp [hall q hq, e]⟩
theorem lkuR0 {P : Program} {F : Nat → AV} {hp : List HObj} {K : AV → List (Nat × HObj) → Prop} {n d x : Nat} {D : List Int} {m ky : Opd} {L : List R3} {clk : Nat} (hm : evF F m = .mp x) (hk : (evF F ky).val = some (rowV D)) (ho : nthH hp x = some (mpR L clk)) (hD : D.length = n) (hL : ∀ q ∈ L, q.1.length = n)
    (k : K (I ((getR L D).getD 0)) []) : (AOp.lku d (ksR n) (I 0) false m ky).wp P F hp K := by
  refine lkuR hm hk ho hD hL ?_
  cases h : getR L D with
  | some v => rw [h] at k; exact k
  | none => rw [h] at k; exact k
structure CntH (H : List HObj) (id z8 z9 : Nat) (L : List R3) (ck : Nat) (x : List Int) (m : Int) : Prop where
  c5 : nthH H 1 = some (.cells (rowC (pad x)))
  c8 : nthH H z8 = some (.cells [.mp id])
  l : nthH H id = some (mpR L ck)
  c9 : nthH H z9 = some (.cells [I m])
theorem CntH.mono {H H' : List HObj} {id z8 z9 : Nat} {L : List R3} {ck : Nat} {x : List Int} {m : Int} (h : CntH H id z8 z9 L ck x m) (hk : ∀ j, j = 1 ∨ j = z8 ∨ j = id ∨ j = z9 → nthH H' j = nthH H j) : CntH H' id z8 z9 L ck x m :=
  ⟨(hk _ (.inl rfl)).trans h.c5, (hk _ (.inr (.inl rfl))).trans h.c8, (hk _ (.inr (.inr (.inl rfl)))).trans h.l, (hk _ (.inr (.inr (.inr rfl)))).trans h.c9⟩
theorem CntH.front {H H' : List HObj} {id z8 z9 : Nat} {L : List R3} {ck : Nat} {x : List Int} {m : Int} (h : CntH H id z8 z9 L ck x m) (hk : ∀ j, j < H.length → nthH H' j = nthH H j) : CntH H' id z8 z9 L ck x m :=
  h.mono fun j hj => hk j (by
    rcases hj with rfl | rfl | rfl | rfl
    · exact nthH_lt h.c5
    · exact nthH_lt h.c8
    · exact nthH_lt h.l
    · exact nthH_lt h.c9)
structure CntJ (g : Bool) (b : OB) (n W a : Nat) (y0 : List Int) (id z8 z9 zr nx c5 : Nat) (L : List R3) (ck : Nat) (x : List Int) (m : Int) (Lr : List R3) (kr : Nat) (Ss : List Nat) (r : List Int) (D k : Nat) (sn : List Int → Bool) (m0 s : Nat) (H : List HObj) : Prop where
  box : BoxB g b n_d_drawn y0 a H
  lp : nthH H W = some (.lp .ready (W + 1))
  len : W < H.length
  c : CntH H id z8 z9 L ck x m
  ro : nthH H zr = some (mpR Lr kr)
  nc : nthH H (nx + 1) = some (.cells [.mp nx])
  it : nthH H (nx + 2) = some (.it zr kr Ss kr)
  v : nthH H (c5 + 1) = some (.cells [I (m0 : Int)])
  st : ∃ Ln kn, nthH H nx = some (mpR Ln kn) ∧ MapR 6 Ln kn ∧ LvS n b.S r x D k sn y0 s Ln
set_option maxHeartbeats 8000000 in
theorem d_count_ok (g : Bool) {b : OB} {n : Nat} (hb : Okb b n) {r x : List Int} (hr : r.length = n) (hx : x.length = n) (hc : ∀ y ∈ x, 0 ≤ y ∧ y ≤ 5) {v : Int} {ok : Bool} (ha : AnsN b.S r x v ok) :
    PureOK Try.prog n_d_count [DK g b, .agg (rowC (pad r)), .agg (rowC (pad x))] (.tup [I v, B ok]) := by
  have h6 := hb.hi
  have hmany := hb.many
  have hS := hb.pmS
  have pr : (pad r).length = 6 := pad_len (by omega)
  have px : (pad x).length = 6 := pad_len (by omega)
  have tr := take_row pr
  have tx := take_row px
  refine pure_of (walk func_d_count form_d_count res_d_count (by show 3 ≤ _; decide) ?_)
  simp -implicitDefEqProofs (disch := omega) [G_d_count, wrap_id, pr, px, tr, tx]
  refine d_far_w hb (step_undone g hb) hx hc fun H id L ck mL fL oL lid keep => ?_
  have k0 : nthH H 0 = some (.cells (rowC (pad r))) := keep 0 (by simp)
  have k1 : nthH H 1 = some (.cells (rowC (pad x))) := keep 1 (by simp)
  have l0 := nthH_lt k1
  have lL := nthH_lt oL
  have key : ∀ z : List Int, z.length = n → ∀ v, getR L (pad z) = some v ↔ ∃ d : Nat, v = d ∧ Dist b.S z x d := fun z hz v => by
    rw [fL.out z hz]
    exact exists_congr fun d => and_congr_right fun _ => Dist.rev_iff hS hz hx
  simp -implicitDefEqProofs (disch := omega) [wrap_id]
  obtain ⟨f1, f2, f3⟩ := app_new (H := H) (o := .cells [.mp id])
  have k0 := (f1 0 (by omega)).trans k0
  have k1 := (f1 1 (by omega)).trans k1
  have oL := (f1 id lL).trans oL
  generalize hz8 : H.length = z8 at *
  generalize H ++ [HObj.cells [AV.mp id]] = H1 at *
  simp -implicitDefEqProofs (disch := omega) [wrap_id, f2, k0, pr, tr]
  refine lkuR (n := 6) (x := id) (D := pad r) rfl row_valC oL pr mL.wid ?_
  cases hg : getR L (pad r) with
  | none =>
    have nw : NoW b.S r x := fun w hw => by
      obtain ⟨d, hd, _⟩ := Dist.of hw
      have := (key r hr d).2 ⟨d, rfl, hd⟩
      rw [hg] at this; cases this
    rcases ha with ⟨_, rfl, rfl⟩ | ⟨D, hd, _⟩
    · simp -implicitDefEqProofs (disch := omega) [wrap_id]
      exact out_of (is := []) rfl
    · obtain ⟨⟨w, hw, _⟩, _⟩ := hd
      exact absurd hw (nw w)
  | some u =>
    obtain ⟨D, rfl, hd⟩ := (key r hr u).1 hg
    have ev : v = (min mostN (cntW b.S D r x) : Nat) ∧ ok = true := by
      rcases ha with ⟨nw, _⟩ | ⟨D', hd', h1, h2⟩
      · obtain ⟨⟨w, hw, _⟩, _⟩ := hd
        exact absurd hw (nw w)
      · have := hd'.uniq hd
        subst this; exact ⟨h1, h2⟩
    obtain ⟨rfl, rfl⟩ := ev
    have Dlt : D < 46656 := by
      refine far_lt hb.pmS.inv hx h6 hc (x := r) (m := D) ((Dist.rev_iff hS hr hx).2 hd)
    simp -implicitDefEqProofs (disch := omega) [wrap_id]
    obtain ⟨e1, e2, e3⟩ := app_new (H := H1) (o := .cells [I (D : Int)])
    have k0 := (e1 0 (by omega)).trans k0
    have k1 := (e1 1 (by omega)).trans k1
    have oL := (e1 id (by omega)).trans oL
    have k8 := (e1 z8 (by omega)).trans f2
    generalize hz9 : H1.length = z9 at *
    generalize H1 ++ [HObj.cells [I (D : Int)]] = H2 at *
    refine mkmR (d := 32) ?_
    obtain ⟨g1, g2, g3⟩ := app_new (H := H2) (o := mpR [] 0)
    have w1 : writeL H2 [(H2.length, mpR [] 0)] = H2 ++ [mpR [] 0] := by simp [writeL, setL]
    rw [x_contA, w1]
    have k0 := (g1 0 (by omega)).trans k0
    have k1 := (g1 1 (by omega)).trans k1
    have oL := (g1 id (by omega)).trans oL
    have k8 := (g1 z8 (by omega)).trans k8
    have k9 := (g1 z9 (by omega)).trans e2
    generalize hzr : H2.length = zr at *
    generalize H2 ++ [mpR [] 0] = H3 at *
    simp -implicitDefEqProofs (disch := omega) [wrap_id, k0, pr, tr]
    refine insR_of (n := 6) (x := zr) (D := pad r) (v := 1) rfl row_valC rfl g2 pr (by simp) (fun A q B e => by simp at e) (fun _ => ?_)
    rw [List.nil_append]
    have lzr := nthH_lt g2
    have u1 : ∀ j, j ≠ zr → nthH (H3.set zr (mpR [(pad r, 0, 1)] 1)) j = nthH H3 j := fun j hj => nthH_set_ne (Ne.symm hj)
    have u2 : nthH (H3.set zr (mpR [(pad r, 0, 1)] 1)) zr = some (mpR [(pad r, 0, 1)] 1) := nthH_set_same lzr
    have cH : CntH (H3.set zr (mpR [(pad r, 0, 1)] 1)) id z8 z9 L ck x D := ⟨(u1 _ (by omega)).trans k1, (u1 _ (by omega)).trans k8, (u1 _ (by omega)).trans oL, (u1 _ (by omega)).trans k9⟩
    have m1 : MapR 6 [(pad r, 0, 1)] 1 := ⟨by simp, by simp [pr], by simp, by simp⟩
    simp -implicitDefEqProofs (disch := omega) [wrap_id, lzr]
    generalize H3.set zr (mpR [(pad r, 0, 1)] 1) = H4 at *
    refine loop_eq (fun q : Nat × Nat × List HObj => ⟨[(0, DK g b), (5, .ref 1 0), (6, I 0), (7, B false), (8, .ref z8 0), (9, .ref z9 0), (11, .mp q.2.1)], q.2.2⟩)
      (fun q => q.1 ≤ D ∧ CntH q.2.2 id z8 z9 L ck x ((D - q.1 : Nat) : Int) ∧ z9 < q.2.1 ∧ ∃ Lr kr, nthH q.2.2 q.2.1 = some (mpR Lr kr) ∧ MapR 6 Lr kr ∧ LvO n b.S r x D q.1 Lr) (fun q => D - q.1)
      (0, zr, H4) ⟨Nat.zero_le _, cH, by simp only; omega, _, _, u2, m1, LvO.init hr hd⟩ rfl ?_
    clear u1 u2 cH m1 lzr
    rintro ⟨k, zr, H⟩ ⟨c1, cH, c2, Lr, kr, oR, mR, lv⟩
    simp only at c1 cH c2 oR lv ⊢
    refine hideK' fun K0 hK0 => ?_
    simp -implicitDefEqProofs (disch := omega) [wrap_id, cH.c9]
    refine c_split (fun h => ?_) (fun h => ?_)
    · have hk : k < D := by simp at h; omega
      have lz9 := nthH_lt cH.c9
      have lzr := nthH_lt oR
      simp -implicitDefEqProofs (disch := omega) [wrap_id]
      refine mkmR (d := 39) ?_
      obtain ⟨g1, g2, g3⟩ := app_new (H := H) (o := mpR [] 0)
      have w1 : writeL H [(H.length, mpR [] 0)] = H ++ [mpR [] 0] := by simp [writeL, setL]
      rw [x_contA, w1]
      have cH := cH.front g1
      have oR := (g1 zr lzr).trans oR
      generalize hnx : H.length = nx at *
      generalize H ++ [mpR [] 0] = H1 at *
      simp -implicitDefEqProofs (disch := omega) [wrap_id]
      obtain ⟨f1, f2, f3⟩ := app_new (H := H1) (o := .cells [.mp nx])
      have cH := cH.front f1
      have oR := (f1 zr (by omega)).trans oR
      have oN := (f1 nx (by omega)).trans g2
      rw [g3] at f2 ⊢
      generalize H1 ++ [HObj.cells [AV.mp nx]] = H2 at *
      simp -implicitDefEqProofs (disch := omega) [wrap_id, xx_rng]
      refine rngR_of oR ?_
      obtain ⟨b1, b2, b3⟩ := app_new (H := H2) (o := .it zr kr [] kr)
      have cH := cH.front b1
      have oR := (b1 zr (by omega)).trans oR
      have oN := (b1 nx (by omega)).trans oN
      have oC := (b1 (nx + 1) (by omega)).trans f2
      simp -implicitDefEqProofs (disch := omega) [wrap_id]
      have l2 : H2.length = nx + 2 := by omega
      rw [l2] at b2 b3 ⊢
      generalize H2 ++ [HObj.it zr kr [] kr] = H3 at *
      refine loop_eq (fun q : List Nat × List HObj => ⟨[(0, DK g b), (5, .ref 1 0), (6, I 0), (7, B false), (8, .ref z8 0), (9, .ref z9 0), (11, .mp zr), (12, .ref (nx + 1) 0), (41, .ref (nx + 2) 0)], q.2⟩)
        (fun q => CntH q.2 id z8 z9 L ck x ((D - k : Nat) : Int) ∧ nthH q.2 zr = some (mpR Lr kr) ∧ nthH q.2 (nx + 1) = some (.cells [.mp nx]) ∧ nthH q.2 (nx + 2) = some (.it zr kr q.1 kr) ∧
          ∃ Ln kn, nthH q.2 nx = some (mpR Ln kn) ∧ MapR 6 Ln kn ∧ LvS n b.S r x D k (snf q.1 Lr) [] 0 Ln) (fun q => unsR q.1 Lr)
        ([], H3) ⟨cH, oR, oC, b2, [], 0, oN, .nil, by
          have : snf [] Lr = fun _ => false := funext fun y => snf_nil
          simp only [this]; exact LvS.start⟩ rfl ?_
      clear cH oR oC b2 oN
      rintro ⟨Ss, H4⟩ ⟨cH, oR, oC, oI, Ln, kn, oN, mN, ls⟩
      simp only at cH oR oC oI oN ls ⊢
      refine hideK' fun K1 hK1 => ?_
      simp -implicitDefEqProofs (disch := omega) [wrap_id, xx_nxt]
      refine nxtR_of oI oR mR (fun hall => ?_) (fun e he hns => ?_)
      · have nxt := ls.fin hS hr hd hk lv (fun y hy hg => snf_all hall hg)
        subst hK1
        have lz9 := nthH_lt cH.c9
        have ed : (((D - k : Nat) : Int) - 1) = ((D - (k + 1) : Nat) : Int) := by omega
        simp -implicitDefEqProofs (disch := omega) [wrap_id, oC, cH.c9, lz9, ed]
        rw [hK0]
        have n9 : ∀ j, j ≠ z9 → nthH (H4.set z9 (.cells [I ((D - (k + 1) : Nat) : Int)])) j = nthH H4 j := fun j hj => nthH_set_ne (Ne.symm hj)
        exact next_eq (k + 1, nx, H4.set z9 (.cells [I ((D - (k + 1) : Nat) : Int)])) ⟨by simp only; omega, ⟨(n9 _ (by omega)).trans cH.c5, (n9 _ (by omega)).trans cH.c8, (n9 _ (by omega)).trans cH.l, nthH_set_same lz9⟩, by simp only; omega, Ln, kn, (n9 nx (by omega)).trans oN, mN, nxt⟩ (by simp only; omega) rfl
      · obtain ⟨y0, ly, ey⟩ := lv.ko e he
        have py : (pad y0).length = 6 := pad_len (by omega)
        have ty := take_row py
        have lit := nthH_lt oI
        have ul := unsR_lt he hns
        have hge : getR Lr (pad y0) = some e.2.2 := by rw [← ey]; exact getR_of mR.keys he
        obtain ⟨_, hc0, hv0⟩ := (lv.val y0 ly _).1 hge
        have hsn := snf_new mR he hns ey
        have hstep := snf_step mR (Ss := Ss) he ly ey
        have ls := ls.look (y1 := y0)
        have i3 : nthH (H4.set (nx + 2) (.it zr kr (Ss ++ [e.2.1]) kr)) (nx + 2) = some (.it zr kr (Ss ++ [e.2.1]) kr) := nthH_set_same lit
        have n3 : ∀ j, j ≠ nx + 2 → nthH (H4.set (nx + 2) (.it zr kr (Ss ++ [e.2.1]) kr)) j = nthH H4 j := fun j hj => nthH_set_ne (Ne.symm hj)
        have cH := cH.mono fun j hj => n3 j (by omega)
        have oR := (n3 zr (by omega)).trans oR
        have oC := (n3 (nx + 1) (by omega)).trans oC
        have oN := (n3 nx (by omega)).trans oN
        simp -implicitDefEqProofs (disch := omega) [wrap_id, lit]
        generalize H4.set (nx + 2) (.it zr kr (Ss ++ [e.2.1]) kr) = H5 at *
        simp -implicitDefEqProofs (disch := omega) [wrap_id, xx_ent]
        refine entR_of (L := Lr) (clk := kr) (S := Ss) i3 oR mR he ?_
        rw [ey, hv0]
        obtain ⟨m0, hm0⟩ : ∃ m0, min mostN (cK b.S r k y0) = m0 := ⟨_, rfl⟩
        rw [hm0]
        have m0le : m0 ≤ mostN := by omega
        simp -implicitDefEqProofs (disch := omega) [wrap_id, py]
        have f5 : ∀ j, j < H5.length → nthH (H5 ++ [HObj.cells [I 0, I 0, I 0, I 0, I 0, I 0], HObj.cells [I 0]]) j = nthH H5 j := fun j hj => nthH_front hj
        have z5 : nthH (H5 ++ [HObj.cells [I 0, I 0, I 0, I 0, I 0, I 0], HObj.cells [I 0]]) H5.length = some (.cells [I 0, I 0, I 0, I 0, I 0, I 0]) := by
          rw [nthH_eq, List.getElem?_append_right (Nat.le_refl _)]; simp
        have y5 : nthH (H5 ++ [HObj.cells [I 0, I 0, I 0, I 0, I 0, I 0], HObj.cells [I 0]]) (H5.length + 1) = some (.cells [I 0]) := by
          rw [nthH_eq, List.getElem?_append_right (by omega)]; simp
        have l5 : (H5 ++ [HObj.cells [I 0, I 0, I 0, I 0, I 0, I 0], HObj.cells [I 0]]).length = H5.length + 2 := by simp
        have lI5 := nthH_lt i3
        have lR5 := nthH_lt oR
        have cH := cH.front f5
        have oR := (f5 zr (by omega)).trans oR
        have oC := (f5 (nx + 1) (by omega)).trans oC
        have oN := (f5 nx (by omega)).trans oN
        have i3 := (f5 (nx + 2) (by omega)).trans i3
        have l8 := nthH_lt cH.c8
        generalize H5 ++ [HObj.cells [I 0, I 0, I 0, I 0, I 0, I 0], HObj.cells [I 0]] = H6 at *
        generalize hc5 : H5.length = c5 at *
        have l6 : c5 < H6.length := by omega
        have l6' : c5 + 1 < H6.length := by omega
        have q1 : nthH ((H6.set c5 (.cells (rowC (pad y0)))).set (c5 + 1) (.cells [I (m0 : Int)])) c5 = some (.cells (rowC (pad y0))) := by
          rw [nthH_set_ne (by omega)]; exact nthH_set_same l6
        have q2 : nthH ((H6.set c5 (.cells (rowC (pad y0)))).set (c5 + 1) (.cells [I (m0 : Int)])) (c5 + 1) = some (.cells [I (m0 : Int)]) := nthH_set_same (by rw [List.length_set]; exact l6')
        have q3 : ∀ j, j ≠ c5 → j ≠ c5 + 1 → nthH ((H6.set c5 (.cells (rowC (pad y0)))).set (c5 + 1) (.cells [I (m0 : Int)])) j = nthH H6 j := fun j h1 h2 => by
          rw [nthH_set_ne (Ne.symm h2), nthH_set_ne (Ne.symm h1)]
        have y5' : nthH (H6.set c5 (.cells (rowC (pad y0)))) (c5 + 1) = some (.cells [I 0]) := by rw [nthH_set_ne (by omega)]; exact y5
        have q4 : ((H6.set c5 (.cells (rowC (pad y0)))).set (c5 + 1) (.cells [I (m0 : Int)])).length = c5 + 2 := by simp [l5]
        have lid8 : id ≠ c5 ∧ id ≠ c5 + 1 ∧ z8 ≠ c5 ∧ z8 ≠ c5 + 1 := by omega
        have cH := cH.mono fun j hj => q3 j (by omega) (by omega)
        have oR := (q3 zr (by omega) (by omega)).trans oR
        have oC := (q3 (nx + 1) (by omega) (by omega)).trans oC
        have oN := (q3 nx (by omega) (by omega)).trans oN
        have i3 := (q3 (nx + 2) (by omega) (by omega)).trans i3
        simp -implicitDefEqProofs (disch := omega) [wrap_id, z5, l6, l6', py, y5']
        generalize (H6.set c5 (HObj.cells (rowC (pad y0)))).set (c5 + 1) (HObj.cells [I (m0 : Int)]) = H7 at *
        simp -implicitDefEqProofs (disch := omega) [wrap_id, q1, py, ty]
        refine d_behind_w (fs := n_d_drawn) ly h6 ?_
        have bk : ∀ (j : Nat) (l : List HObj), j < H7.length → nthH (H7 ++ l) j = nthH H7 j := fun j l hj => nthH_front hj
        have l3 : (H7 ++ [HObj.cells [DK g b], HObj.cells (rowC (pad y0)), HObj.cells [stepV g b n_d_drawn]]).length = H7.length + 3 := by simp
        simp -implicitDefEqProofs (disch := omega) [wrap_id]
        refine rf_of (K0 := fun H' => CntJ g b n (H7.length + 3) H7.length y0 id z8 z9 zr nx c5 L ck x ((D - k : Nat) : Int) Lr kr (Ss ++ [e.2.1]) r D k (snf Ss Lr) m0 b.s.length H' ∨ False)
          (d_behind_R (step_drawn g hb) (by omega) h6 ly (J := CntJ g b n (H7.length + 3) H7.length y0 id z8 z9 zr nx c5 L ck x ((D - k : Nat) : Int) Lr kr (Ss ++ [e.2.1]) r D k (snf Ss Lr) m0) (D := fun _ => False) (a := H7.length) ?_ ?_ (fun s H' h => h.box) ?_) ?_
        · exact ⟨by rw [nthH_eq, List.getElem?_append_right (Nat.le_refl _)]; simp, by rw [nthH_eq, List.getElem?_append_right (by omega)]; simp, by rw [nthH_eq, List.getElem?_append_right (by omega)]; simp⟩
        · rw [l3, List.append_assoc]
          have ew : ∀ i, nthH (H7 ++ ([HObj.cells [DK g b], HObj.cells (rowC (pad y0)), HObj.cells [stepV g b n_d_drawn]] ++ [HObj.lp .ready (H7.length + 3 + 1), HObj.gone])) (H7.length + i) = nthH [HObj.cells [DK g b], HObj.cells (rowC (pad y0)), HObj.cells [stepV g b n_d_drawn], HObj.lp .ready (H7.length + 3 + 1), HObj.gone] i := fun i => by
            rw [nthH_eq, List.getElem?_append_right (by omega), nthH_eq]
            simp
          exact ⟨⟨ew 0, ew 1, ew 2⟩, ew 3, by simp, cH.front fun j hj => bk _ _ hj, (bk _ _ (by omega)).trans oR, (bk _ _ (by omega)).trans oC, (bk _ _ (by omega)).trans i3, (bk _ _ (by omega)).trans q2, Ln, kn, (bk _ _ (by omega)).trans oN, mN, ls⟩
        · intro s H' hs' hJ
          rw [l3]
          obtain ⟨b1, b2, b3, cH, oR, oC, oI, oM, Ln, kn, oN, mN, ls⟩ := hJ
          refine ⟨by rw [hpf_nthH]; exact b2, rfl, ?_⟩
          have sT : s < b.S.length := by rw [S_len]; exact hs'
          have lz : (aft (b.S.getD s []) y0).length = n := by rw [aft_len]; exact (hS.at sT).len
          have old := ls.old hS ly sT
          have new := fun (L2 : List R3) (m : Nat) => ls.new hS ly hsn sT (L' := L2) (m := m)
          generalize aft (b.S.getD s []) y0 = z at lz old new ⊢
          have pz : (pad z).length = 6 := pad_len (by omega)
          have tz := take_row pz
          have lW : H7.length + 3 < H'.length + 1 := by omega
          obtain ⟨f1, f2, f3⟩ := app_new (H := H'.set (H7.length + 3) (.lp .busy (H7.length + 3 + 1))) (o := .cells (rowC (pad z)))
          rw [List.length_set] at f1 f2 f3
          have e4 : ∀ i, i ≠ H7.length + 3 → i < H'.length → nthH (H'.set (H7.length + 3) (.lp .busy (H7.length + 3 + 1)) ++ [.cells (rowC (pad z))]) i = nthH H' i := fun i hi h2 => (f1 i h2).trans (nthH_set_ne (Ne.symm hi))
          have e5 : nthH (H'.set (H7.length + 3) (.lp .busy (H7.length + 3 + 1)) ++ [.cells (rowC (pad z))]) (H7.length + 3) = some (.lp .busy (H7.length + 3 + 1)) := (f1 _ b3).trans (nthH_set_same b3)
          have lp0 := (nthH_front (k := [HObj.cells (rowC (pad z))]) b3).trans b2
          simp -implicitDefEqProofs (disch := omega) [wrap_id, putPs, hpf_nthH, b2, pz, lW, lp0]
          generalize H'.set (H7.length + 3) (.lp .busy (H7.length + 3 + 1)) ++ [HObj.cells (rowC (pad z))] = Hb at f1 f2 f3 e4 e5 ⊢
          have cb := cH.mono (H' := Hb) fun i hi => e4 i (by omega) (by omega)
          have bx' : BoxB g b n_d_drawn y0 H7.length Hb := ⟨(e4 _ (by omega) (by omega)).trans b1.1, (e4 _ (by omega) (by omega)).trans b1.2.1, (e4 _ (by omega) (by omega)).trans b1.2.2⟩
          have oR := (e4 zr (by omega) (by omega)).trans oR
          have oC := (e4 (nx + 1) (by omega) (by omega)).trans oC
          have oI := (e4 (nx + 2) (by omega) (by omega)).trans oI
          have oM := (e4 (c5 + 1) (by omega) (by omega)).trans oM
          have oN := (e4 nx (by omega) (by omega)).trans oN
          have fin : ∀ (fr : List (Nat × AV)) (H2 : List HObj) (L2 : List R3) (k2 : Nat), (∀ i, i ≠ nx → nthH H2 i = nthH Hb i) → nthH H2 nx = some (mpR L2 k2) → MapR 6 L2 k2 → LvS n b.S r x D k (snf Ss Lr) y0 (s + 1) L2 →
              RoundQ (H7.length + 3) (fun rr hp'' => rr = AM.B true ∧ CntJ g b n (H7.length + 3) H7.length y0 id z8 z9 zr nx c5 L ck x ((D - k : Nat) : Int) Lr kr (Ss ++ [e.2.1]) r D k (snf Ss Lr) m0 (s + 1) hp'') .normal ⟨fr, H2⟩ := fun fr H2 L2 k2 q1 q2 q3 q4 => by
            have w2 := (q1 (H7.length + 3) (by omega)).trans e5
            have lw2 := nthH_lt w2
            refine ⟨by rw [hpf_nthH]; exact w2, rfl, ?_⟩
            simp only [setL, lw2, if_true]
            have e6 : ∀ i, i ≠ H7.length + 3 → nthH (H2.set (H7.length + 3) (.lp .ready (H7.length + 3 + 1))) i = nthH H2 i := fun i hi => nthH_set_ne (Ne.symm hi)
            have e7 : ∀ i, i ≠ H7.length + 3 → i ≠ nx → nthH (H2.set (H7.length + 3) (.lp .ready (H7.length + 3 + 1))) i = nthH Hb i := fun i h1 h2 => (e6 i h1).trans (q1 i h2)
            exact ⟨⟨(e7 _ (by omega) (by omega)).trans bx'.1, (e7 _ (by omega) (by omega)).trans bx'.2.1, (e7 _ (by omega) (by omega)).trans bx'.2.2⟩, nthH_set_same lw2, by rw [List.length_set]; exact lw2,
              cb.mono fun i hi => e7 i (by omega) (by omega), (e7 zr (by omega) (by omega)).trans oR, (e7 (nx + 1) (by omega) (by omega)).trans oC, (e7 (nx + 2) (by omega) (by omega)).trans oI, (e7 (c5 + 1) (by omega) (by omega)).trans oM, L2, k2, (e6 nx (by omega)).trans q2, q3, q4⟩
          simp -implicitDefEqProofs (disch := omega) [wrap_id, cb.c8, f2, pz, tz]
          refine lkuR (n := 6) (x := id) (D := pad z) rfl row_valC cb.l pz mL.wid ?_
          cases hgz : getR L (pad z) with
          | none =>
            have nd : ¬ Dist b.S z x (D - (k + 1)) := fun hd => by
              have := (key z lz _).2 ⟨_, rfl, hd⟩
              rw [hgz] at this; cases this
            simp -implicitDefEqProofs (disch := omega) [wrap_id]
            exact fin _ _ _ _ (fun i _ => rfl) oN mN (old nd)
          | some u =>
            obtain ⟨d, rfl, hdz⟩ := (key z lz u).1 hgz
            by_cases hdd : d = D - (k + 1)
            · subst hdd
              have ed : (((D - k : Nat) : Int) - 1) = ((D - (k + 1) : Nat) : Int) := by omega
              obtain ⟨mm, hmm, hml⟩ : ∃ mm : Nat, (getR Ln (pad z)).getD 0 = mm ∧ mm ≤ mostN := by
                cases hgn : getR Ln (pad z) with
                | none => exact ⟨0, rfl, by decide⟩
                | some u =>
                  obtain ⟨_, _, e3⟩ := (ls.val z lz u).1 hgn
                  exact ⟨_, e3, Nat.min_le_left _ _⟩
              simp -implicitDefEqProofs (disch := omega) [wrap_id, cb.c9, ed, oC, f2, pz, tz]
              refine lkuR0 (n := 6) (x := nx) (D := pad z) rfl row_valC oN pz mN.wid ?_
              rw [hmm]
              have m0b : m0 ≤ 1099511627777 := m0le
              have mmb : mm ≤ 1099511627777 := hml
              obtain ⟨sv, hsv, hsm⟩ : ∃ sv : Nat, min mostN (mm + m0) = sv ∧ min 1099511627777 ((mm : Int) + m0) = (sv : Int) := by
                refine ⟨_, rfl, ?_⟩
                show min (1099511627777 : Int) _ = ((min 1099511627777 (mm + m0) : Nat) : Int)
                omega
              simp -implicitDefEqProofs (disch := omega) [wrap_id, oM]
              have gO := new
              have kN : ∀ (L2 : List R3), (∀ q ∈ L2, q ∈ Ln ∨ q.1 = pad z) → Keys6 n L2 := fun L2 h q hq => by
                rcases h q hq with h | h
                · exact ls.ko q h
                · exact ⟨z, lz, h⟩
              have fin2 : ∀ (fr : List (Nat × AV)) (L2 : List R3) (k2 : Nat), MapR 6 L2 k2 → (∀ q ∈ L2, q ∈ Ln ∨ q.1 = pad z) → (∀ E, getR L2 E = if E = pad z then some (sv : Int) else getR Ln E) →
                  RoundQ (H7.length + 3) (fun rr hp'' => rr = AM.B true ∧ CntJ g b n (H7.length + 3) H7.length y0 id z8 z9 zr nx c5 L ck x ((D - k : Nat) : Int) Lr kr (Ss ++ [e.2.1]) r D k (snf Ss Lr) m0 (s + 1) hp'') .normal ⟨fr, Hb.set nx (mpR L2 k2)⟩ := fun fr L2 k2 q1 q2 q3 =>
                fin _ _ L2 k2 (fun i hi => nthH_set_ne (Ne.symm hi)) (nthH_set_same (nthH_lt oN)) q1 (new L2 mm hdz hc0 hmm (kN L2 q2) (by rw [hm0, hsv]; exact q3))
              have lN := nthH_lt oN
              refine insR_of (n := 6) (x := nx) (D := pad z) (v := (sv : Int)) rfl row_valC ?_ oN pz mN.wid (fun A q B' e e2 e3 => ?_) (fun hgw => ?_)
              · rw [← hsm]; rfl
              · subst e
                simp -implicitDefEqProofs (disch := omega) [wrap_id, lN, cmp2, nthT]
                refine fin2 _ _ _ mN.set (fun p hp => ?_) fun E => ?_
                · rcases List.mem_append.1 hp with hp | hp
                  · exact .inl (by simp [hp])
                  · rcases List.mem_cons.1 hp with rfl | hp
                    · exact .inr e2
                    · exact .inl (by simp [hp])
                · rw [getR_set (by rw [e2]; exact e3), e2]
              · simp -implicitDefEqProofs (disch := omega) [wrap_id, lN, cmp2, nthT]
                refine fin2 _ _ _ (mN.push pz hgw) (fun p hp => ?_) fun E => getR_push hgw
                rcases List.mem_append.1 hp with hp | hp
                · exact .inl hp
                · rw [List.mem_singleton] at hp; subst hp; exact .inr rfl
            · have nd : ¬ Dist b.S z x (D - (k + 1)) := fun hd => hdd (hdz.uniq hd)
              have ed : (((D - k : Nat) : Int) - 1) = ((D - (k + 1) : Nat) : Int) := by omega
              have ne : ((d : Int) == ((D - (k + 1) : Nat) : Int)) = false := by rw [beq_eq_false_iff_ne]; omega
              simp -implicitDefEqProofs (disch := omega) [wrap_id, cb.c9, ed, ne]
              exact fin _ _ _ _ (fun i _ => rfl) oN mN (old nd)
        · rintro H' (hJ | h)
          · obtain ⟨b1, b2, b3, cH, oR, oC, oI, oM, Ln, kn, oN, mN, ls⟩ := hJ
            rw [l3]
            refine rfEnd_ready b2 ?_
            simp -implicitDefEqProofs (disch := omega) [wrap_id]
            rw [hK1]
            have e4 : ∀ i, i ≠ H7.length + 3 → nthH (H'.set (H7.length + 3) .gone) i = nthH H' i := fun i hi => nthH_set_ne (Ne.symm hi)
            rw [← S_len] at ls
            exact next_eq (Ss ++ [e.2.1], H'.set (H7.length + 3) .gone) ⟨cH.mono fun j hj => e4 j (by omega), (e4 zr (by omega)).trans oR, (e4 (nx + 1) (by omega)).trans oC, (e4 (nx + 2) (by omega)).trans oI, Ln, kn, (e4 nx (by omega)).trans oN, mN, ls.row ly hS hstep⟩ ul rfl
          · exact h.elim
    · have hk : k = D := by simp at h; omega
      subst hk
      subst hK0
      simp -implicitDefEqProofs (disch := omega) [wrap_id, cH.c5, px, tx]
      refine lkuR (n := 6) (x := zr) (D := pad x) rfl row_valC oR px mR.wid ?_
      rw [lv.fin hS hr hx hd]
      simp -implicitDefEqProofs (disch := omega) [wrap_id]
      exact out_of (is := []) rfl
end Go.AM

set_option linter.unusedSimpArgs false
set_option linter.unusedVariables false
namespace Go.AM
open Go.RowKit Go.Proofs
def InM (n : Nat) (L : List R3) (R : List (List Int)) : Prop := ∀ y : List Int, y.length = n → getR L (pad y) = if y ∈ R then some 1 else none
theorem InM.nil {n : Nat} : InM n [] [] := fun y hy => by simp [getR]
theorem InM.set {n : Nat} {A B : List R3} {q : R3} {R : List (List Int)} {l : List Int} (h : InM n (A ++ q :: B) R) (h6 : n ≤ 6) (hl : l.length = n) (hq : q.1 = pad l) (hA : ∀ r ∈ A, r.1 ≠ pad l) : InM n (A ++ (q.1, q.2.1, 1) :: B) (R ++ [l]) := fun y hy => by
  rw [getR_set (by rw [hq]; exact hA), hq]
  by_cases e : y = l
  · subst e; rw [if_pos rfl, if_pos (by simp)]
  · rw [if_neg (fun he => e (pad_inj (by omega) he)), h y hy]
    simp [e]
theorem InM.push {n c : Nat} {L : List R3} {R : List (List Int)} {l : List Int} (h : InM n L R) (h6 : n ≤ 6) (hl : l.length = n) (hL : ∀ r ∈ L, r.1 ≠ pad l) : InM n (L ++ [(pad l, c, 1)]) (R ++ [l]) := fun y hy => by
  rw [getR_push hL]
  by_cases e : y = l
  · subst e; rw [if_pos rfl, if_pos (by simp)]
  · rw [if_neg (fun he => e (pad_inj (by omega) he)), h y hy]
    simp [e]
theorem srtO_iff {R : List (List Int)} : srtO R = true ↔ ∀ k, k + 1 < R.length → frst (R.getD k []) (R.getD (k + 1) []) = true := by
  unfold srtO
  rw [List.all_eq_true]
  simp only [List.mem_range]
  exact ⟨fun h k hk => h k (by omega), fun h k hk => h k (by omega)⟩
theorem dk_purS {hp : Hp} {g : Bool} {b : OB} {r : List Int} {fs : Nat} : purifyAll hp [DK g b, .agg (rowC r), stepV g b fs] = some ([DK g b, .agg (rowC r), stepV g b fs], []) := by
  simp only [purifyAll, row_pur]; rfl
theorem o_CheckClosed_1_w {g f : Bool} {b : OB} {l : List Int} (hl : l.length ≤ 1000000) {hp : List HObj} {a : Nat} {K : AV → List HObj → Prop} (ha : nthH hp a = some (.cells [DK g b])) (hK : K (B (!rowO b l)) hp) : CallW Try.prog n_o_CheckClosed_1 [Ls f l, .ref a 0] hp K := by
  refine walk func_o_CheckClosed_1 form_o_CheckClosed_1 res_o_CheckClosed_1 (by show 2 ≤ _; decide) ?_
  simp -implicitDefEqProofs (disch := omega) [G_o_CheckClosed_1, wrap_id, ha]
  refine callW_pure rfl (d_isRow_ok g f l hl) ?_
  simp -implicitDefEqProofs (disch := omega) [wrap_id]
  exact hK
structure CclH (g : Bool) (b : OB) (L : List R3) (ck : Nat) (e : Int) (H : List HObj) : Prop where
  c8 : nthH H 1 = some (.cells [I e])
  c9 : nthH H 2 = some (.cells [DK g b])
  m : nthH H 3 = some (mpR L ck)
  c11 : nthH H 4 = some (.cells [.mp 3])
theorem CclH.mono {g : Bool} {b : OB} {L : List R3} {ck : Nat} {e : Int} {H H' : List HObj} (h : CclH g b L ck e H) (hk : ∀ j, j < 5 → nthH H' j = nthH H j) : CclH g b L ck e H' :=
  ⟨(hk _ (by omega)).trans h.c8, (hk _ (by omega)).trans h.c9, (hk _ (by omega)).trans h.m, (hk _ (by omega)).trans h.c11⟩
theorem CclH.len {g : Bool} {b : OB} {L : List R3} {ck : Nat} {e : Int} {H : List HObj} (h : CclH g b L ck e H) : 5 ≤ H.length := nthH_lt h.c11
structure CclJ (g : Bool) (b : OB) (L : List R3) (ck : Nat) (R : List (List Int)) (y : List Int) (W s : Nat) (H : List HObj) : Prop where
  sh : CclH g b L ck 0 H
  lp : nthH H W = some (.lp .ready (W + 1))
  len : W < H.length
  all : ∀ t, t < s → aft (b.S.getD t []) y ∈ R
def CclD (g : Bool) (b : OB) (L : List R3) (ck : Nat) (R : List (List Int)) (y : List Int) (W : Nat) (H : List HObj) : Prop :=
  nthH H W = some (.lp (.done none) (W + 1)) ∧ CclH g b L ck 14 H ∧ ∃ s, s < b.S.length ∧ ¬ aft (b.S.getD s []) y ∈ R
set_option maxHeartbeats 8000000 in
theorem o_CheckClosed_ok (g f h q : Bool) (b : OB) (hz : Sz12 b) (r x : List Int) (rows : List (Bool × List Int)) (hr : r.length ≤ 1000000) (hx : x.length ≤ 1000000) (hl : rows.length ≤ 1000000) (hlz : ∀ p ∈ rows, p.2.length ≤ 1000000) :
    PureOK Try.prog n_o_CheckClosed [On g b, Ls f r, Ls h x, LLs q rows] (I (cclE b r x (rows.map (·.2)))) := by
  refine pure_of (callW_of func_o_CheckClosed form_o_CheckClosed resc_o_CheckClosed (by show 4 ≤ _; decide) ?_)
  simp -implicitDefEqProofs (disch := omega) [G_o_CheckClosed, wrap_id]
  refine bsl_of (ys := [Ls f r, Ls h x]) rfl rfl ?_
  simp -implicitDefEqProofs (disch := omega) [wrap_id, zrep]
  refine callW_pure (ys := [On g b, LLs true [(f, r), (h, x)]]) (ids := []) rfl (o_open_ok g true b hz [(f, r), (h, x)] (by simp) (by simp; exact ⟨hr, hx⟩)) ?_
  have eo := opnE_two (b := b) (f := f) (g := h) (r := r) (x := x)
  have hm : (rows.map (·.2)).length = rows.length := List.length_map _
  generalize hR : rows.map (·.2) = R at *
  have eR : ∀ i (hi : i < rows.length), R.getD i [] = rows[i].2 := fun i hi => by
    subst hR
    rw [List.getD_eq_getElem?_getD, List.getElem?_eq_getElem (by simpa using hi)]
    simp
  by_cases h0 : rwsE b r x = 0
  · obtain ⟨n, hb, lr, lx, o1, o2⟩ := rws_ok h0
    have h6 := hb.hi
    have hmany := hb.many
    have eV : opnV g b [(f, r), (h, x)] = DK g b := by unfold opnV; rw [if_pos (by rw [eo]; exact h0)]
    have e0 : cclE b r x R = if 720 < R.length then 6 else if (R.all (rowO b)) = false then 3 else if srtO R = false then 3 else if R.contains r = false ∨ R.contains x = true then 14 else if clsO b R = false then 14 else 0 := by
      unfold cclE; rw [if_neg (by omega)]
    generalize cclE b r x R = E at e0 ⊢
    rw [eo, eV, h0]
    simp -implicitDefEqProofs (disch := omega) [wrap_id]
    by_cases h1 : 720 < rows.length
    · have h1' : (720 : Int) < rows.length := by omega
      rw [if_pos (by omega)] at e0
      subst e0
      simp -implicitDefEqProofs (disch := omega) [wrap_id, h1']
      exact retC_one (id := 1) (off := 0) (cs := [I 6]) rfl rfl rfl (by rw [out_v])
    have h1' : ¬ (720 : Int) < rows.length := by omega
    rw [if_neg (by omega)] at e0
    simp -implicitDefEqProofs (disch := omega) [wrap_id, h1']
    refine s_containsLL_w q rows hl (p := fun p => !rowO b p.2) (by kernel_rfl) (fun i hi KK h => o_CheckClosed_1_w (g := g) (hlz _ (List.getElem_mem hi)) rfl h) ?_
    have ea : rows.any (fun p => !rowO b p.2) = !(R.all (rowO b)) := by
      rw [← hR, List.all_map, List.all_eq_not_any_not, Bool.not_not]
      rfl
    rw [ea]
    cases h2 : R.all (rowO b) with
    | false =>
      rw [if_pos h2] at e0
      subst e0
      simp -implicitDefEqProofs (disch := omega) [wrap_id]
      exact retC_one (id := 1) (off := 0) (cs := [I 3]) rfl rfl rfl (by rw [out_v])
    | true =>
      rw [if_neg (by rw [h2]; decide)] at e0
      have lenR : ∀ i (hi : i < rows.length), rows[i].2.length = n := fun i hi => by
        have := List.all_eq_true.1 h2 (R.getD i []) (by rw [eR i hi, ← hR]; exact List.mem_map_of_mem (List.getElem_mem hi))
        rw [eR i hi] at this
        exact rowO_len hb this
      simp -implicitDefEqProofs (disch := omega) [wrap_id]
      refine mkmR (d := 38) ?_
      simp -implicitDefEqProofs (disch := omega) [wrap_id]
      refine loop_eq (fun p : Nat × List R3 × Nat => ⟨[(1, Ls f r), (2, Ls h x), (3, LLs q rows), (8, .ref 1 0), (9, .ref 2 0), (11, .ref 4 0), (39, LLs q rows), (40, I rows.length), (41, I (p.1 : Int))], [.cells [I b.P, LLs g b.s], .cells [I 0], .cells [DK g b], mpR p.2.1 p.2.2, .cells [.mp 3]]⟩)
        (fun p => p.1 ≤ rows.length ∧ MapR 6 p.2.1 p.2.2 ∧ InM n p.2.1 (R.take p.1) ∧ ∀ k, k + 1 < p.1 → frst (R.getD k []) (R.getD (k + 1) []) = true) (fun p => rows.length - p.1) (0, [], 0) ⟨Nat.zero_le _, MapR.nil, by simpa using InM.nil, fun k hk => by simp at hk⟩ rfl ?_
      rintro ⟨i, L, ck⟩ ⟨c1, c2, c3, c4⟩
      simp only at c1 c2 c3 c4 ⊢
      refine hideK' fun K0 hK0 => ?_
      simp -implicitDefEqProofs (disch := omega) [wrap_id]
      refine c_split (fun hc => ?_) (fun hc => ?_)
      · have hi : i < rows.length := by simpa using hc
        have ix : ((i : Int) + 1) = ((i + 1 : Nat) : Int) := by omega
        have li := lenR i hi
        have pl : (pad rows[i].2).length = 6 := pad_len (by omega)
        have tl := take_row pl
        have tk : R.take (i + 1) = R.take i ++ [rows[i].2] := by
          rw [List.take_add_one, ← eR i hi, List.getD_eq_getElem?_getD, List.getElem?_eq_getElem (by omega)]
          rfl
        cases i with
        | zero =>
          simp -implicitDefEqProofs (disch := omega) [wrap_id, cmp2, nthT, cells_lls, hi]
          refine pureW_of rfl (o_rowOf_ok rows[0].1 (by omega)) ?_
          simp -implicitDefEqProofs (disch := omega) [wrap_id, cmp2, nthT, pl, tl]
          refine insR_of (n := 6) (x := 3) (D := pad rows[0].2) (v := 1) rfl row_valC rfl rfl pl c2.wid (fun A q B e e2 e3 => ?_) (fun hn => ?_)
          · subst e
            simp -implicitDefEqProofs (disch := omega) [wrap_id, cmp2, nthT]
            rw [hK0]
            exact next_eq (1, A ++ (q.1, q.2.1, 1) :: B, ck) ⟨by simp only; omega, c2.set, by simp only; rw [tk]; exact c3.set h6 li e2 e3, fun k hk => by simp only at hk; omega⟩ (by simp only; omega) (by first | (simp only [ix]; done) | (simp only [ix]; rfl) | simp)
          · simp -implicitDefEqProofs (disch := omega) [wrap_id, cmp2, nthT]
            rw [hK0]
            exact next_eq (1, L ++ [(pad rows[0].2, ck, 1)], ck + 1) ⟨by simp only; omega, c2.push pl hn, by simp only; rw [tk]; exact c3.push h6 li hn, fun k hk => by simp only at hk; omega⟩ (by simp only; omega) (by first | (simp only [ix]; done) | (simp only [ix]; rfl) | simp)
        | succ k =>
          have kx : (((k + 1 : Nat) : Int) - 1) = (k : Int) := by omega
          have hk : k < rows.length := by omega
          have lk := lenR k hk
          have m0 : ((0 : Int) < ((k + 1 : Nat) : Int)) = True := by simp only [eq_iff_iff, iff_true]; omega
          obtain ⟨m, hm⟩ : ∃ m : Int, ((k + 1 : Nat) : Int) = m := ⟨_, rfl⟩
          rw [hm] at kx m0 ix
          have mn : m.toNat = k + 1 := by omega
          simp only [hm]
          have mr : m < rows.length := by omega
          have kr : (k : Int) < rows.length := by omega
          simp -implicitDefEqProofs (disch := omega) [wrap_id, m0, mn, kx, cells_lls, hi, hk, mr, kr]
          refine ⟨by omega, callW_pure rfl (s_Compare_ok rows[k].1 rows[k + 1].1 rows[k].2 rows[k + 1].2 (by omega) (by omega)) ?_⟩
          have cf := cmpL_frst (l := rows[k].2) (m := rows[k + 1].2) (by omega)
          by_cases hf : frst rows[k].2 rows[k + 1].2 = true
          · have h3 : ¬ (0 ≤ cmpL rows[k].2 rows[k + 1].2) := by have := cf.1 hf; omega
            have srt : ∀ j, j + 1 < k + 1 + 1 → frst (R.getD j []) (R.getD (j + 1) []) = true := fun j hj => by
              by_cases e : j = k
              · subst e; rw [eR j hk, eR (j + 1) hi]; exact hf
              · exact c4 j (by omega)
            simp -implicitDefEqProofs (disch := omega) [wrap_id, h3, cmp2, nthT]
            refine pureW_of rfl (o_rowOf_ok rows[k + 1].1 (by omega)) ?_
            simp -implicitDefEqProofs (disch := omega) [wrap_id, cmp2, nthT, pl, tl]
            refine insR_of (n := 6) (x := 3) (D := pad rows[k + 1].2) (v := 1) rfl row_valC rfl rfl pl c2.wid (fun A q B e e2 e3 => ?_) (fun hn => ?_)
            · subst e
              simp -implicitDefEqProofs (disch := omega) [wrap_id, cmp2, nthT]
              rw [hK0]
              exact next_eq (k + 1 + 1, A ++ (q.1, q.2.1, 1) :: B, ck) ⟨by simp only; omega, c2.set, by simp only; rw [tk]; exact c3.set h6 li e2 e3, srt⟩ (by simp only; omega) (by first | (simp only [ix]; done) | (simp only [ix]; rfl) | simp)
            · simp -implicitDefEqProofs (disch := omega) [wrap_id, cmp2, nthT]
              rw [hK0]
              exact next_eq (k + 1 + 1, L ++ [(pad rows[k + 1].2, ck, 1)], ck + 1) ⟨by simp only; omega, c2.push pl hn, by simp only; rw [tk]; exact c3.push h6 li hn, srt⟩ (by simp only; omega) (by first | (simp only [ix]; done) | (simp only [ix]; rfl) | simp)
          · have h3 : (0 ≤ cmpL rows[k].2 rows[k + 1].2) = True := by simp only [eq_iff_iff, iff_true]; exact Int.not_lt.1 fun h => hf (cf.2 h)
            have e3 : srtO R = false := by
              rw [Bool.eq_false_iff]
              intro h
              have := srtO_iff.1 h k (by omega)
              rw [eR k hk, eR (k + 1) hi] at this
              exact hf this
            rw [if_pos e3] at e0
            subst e0
            subst hK0
            simp -implicitDefEqProofs (disch := omega) [wrap_id, h3, cmp2, nthT]
            exact retC_one (id := 1) (off := 0) (cs := [I 3]) rfl rfl rfl (by rw [out_v])
      · have hi : i = rows.length := by simp at hc; omega
        subst hi
        have e3 : srtO R = true := srtO_iff.2 fun k hk => c4 k (by omega)
        rw [if_neg (by rw [e3]; decide)] at e0
        rw [List.take_of_length_le (by omega)] at c3
        subst hK0
        have pr : (pad r).length = 6 := pad_len (by omega)
        have px : (pad x).length = 6 := pad_len (by omega)
        have tr := take_row pr
        have tx := take_row px
        simp -implicitDefEqProofs (disch := omega) [wrap_id, cmp2, nthT]
        refine pureW_of rfl (o_rowOf_ok f (by omega)) ?_
        simp -implicitDefEqProofs (disch := omega) [wrap_id, cmp2, nthT]
        refine lkuR0 (n := 6) (x := 3) (D := pad r) rfl row_valC rfl pr c2.wid ?_
        rw [c3 r lr]
        by_cases hrR : r ∈ R
        · have hr1 : R.contains r = true := by simpa using hrR
          rw [if_pos hrR]
          simp -implicitDefEqProofs (disch := omega) [wrap_id, cmp2, nthT]
          refine pureW_of rfl (o_rowOf_ok h (by omega)) ?_
          simp -implicitDefEqProofs (disch := omega) [wrap_id, cmp2, nthT]
          refine lkuR0 (n := 6) (x := 3) (D := pad x) rfl row_valC rfl px c2.wid ?_
          rw [c3 x lx]
          by_cases hxR : x ∈ R
          · have hx1 : R.contains x = true := by simpa using hxR
            rw [if_pos (.inr hx1)] at e0
            subst e0
            rw [if_pos hxR]
            simp -implicitDefEqProofs (disch := omega) [wrap_id, cmp2, nthT]
            exact retC_one (id := 1) (off := 0) (cs := [I 14]) rfl rfl rfl (by rw [out_v])
          · have hx1 : R.contains x = false := by simpa using hxR
            rw [if_neg (by rw [hr1, hx1]; decide)] at e0
            rw [if_neg hxR]
            simp -implicitDefEqProofs (disch := omega) [wrap_id, cmp2, nthT]
            refine loop_eq (fun p : Nat × List HObj => ⟨[(8, .ref 1 0), (9, .ref 2 0), (11, .ref 4 0), (74, LLs q rows), (75, I rows.length), (76, I (p.1 : Int))], p.2⟩)
              (fun p => p.1 ≤ rows.length ∧ CclH g b L ck 0 p.2 ∧ ∀ k (hk : k < rows.length), k < p.1 → ∀ s, s < b.S.length → aft (b.S.getD s []) rows[k].2 ∈ R) (fun p => rows.length - p.1)
              (0, [.cells [I b.P, LLs g b.s], .cells [I 0], .cells [DK g b], mpR L ck, .cells [.mp 3]]) ⟨Nat.zero_le _, ⟨rfl, rfl, rfl, rfl⟩, fun k hk h => by simp at h⟩ rfl ?_
            rintro ⟨i, H⟩ ⟨d1, d2, d3⟩
            simp only at d1 d2 d3 ⊢
            refine hideK' fun K0 hK0 => ?_
            simp -implicitDefEqProofs (disch := omega) [wrap_id]
            refine c_split (fun hc => ?_) (fun hc => ?_)
            · have hi : i < rows.length := by simpa using hc
              have ix : ((i : Int) + 1) = ((i + 1 : Nat) : Int) := by omega
              have ly := lenR i hi
              have py : (pad rows[i].2).length = 6 := pad_len (by omega)
              have ty := take_row py
              have lH := d2.len
              simp -implicitDefEqProofs (disch := omega) [wrap_id, cmp2, nthT, cells_lls, hi, d2.c9]
              refine pureW_of rfl (o_rowOf_ok rows[i].1 (by omega)) ?_
              simp -implicitDefEqProofs (disch := omega) [wrap_id, cmp2, nthT, d2.c9]
              refine pureW_of dk_purS (d_behind_ok ly h6) ?_
              simp -implicitDefEqProofs (disch := omega) [wrap_id, cmp2, nthT]
              refine rf_of (K0 := fun H' => CclJ g b L ck R rows[i].2 H.length b.s.length H' ∨ CclD g b L ck R rows[i].2 H.length H')
                (d_behind_Rp (step_drawn g hb) (by omega) h6 ly (J := CclJ g b L ck R rows[i].2 H.length) (D := CclD g b L ck R rows[i].2 H.length) ?_ ?_) ?_
              · exact ⟨d2.mono fun j hj => nthH_front (by omega), by rw [nthH_eq, List.getElem?_append_right (Nat.le_refl _)]; simp, by simp, fun t ht => by omega⟩
              · intro s H' hs' hJ
                obtain ⟨sh, b2, b3, hno⟩ := hJ
                refine ⟨by rw [hpf_nthH]; exact b2, rfl, ?_⟩
                have sT : s < b.S.length := by rw [S_len]; exact hs'
                have lz : (aft (b.S.getD s []) rows[i].2).length = n := by rw [aft_len]; exact (hb.pmS.at sT).len
                obtain ⟨z, hz⟩ : ∃ z, aft (b.S.getD s []) rows[i].2 = z := ⟨_, rfl⟩
                rw [hz] at lz ⊢
                have pz : (pad z).length = 6 := pad_len (by omega)
                have tz := take_row pz
                have lW : H.length < H'.length + 1 := by omega
                obtain ⟨f1, f2, f3⟩ := app_new (H := H'.set H.length (.lp .busy (H.length + 1))) (o := .cells (rowC (pad z)))
                rw [List.length_set] at f1 f2 f3
                have e4 : ∀ i, i ≠ H.length → i < H'.length → nthH (H'.set H.length (.lp .busy (H.length + 1)) ++ [.cells (rowC (pad z))]) i = nthH H' i := fun i hi h2 => (f1 i h2).trans (nthH_set_ne (Ne.symm hi))
                have e5 : nthH (H'.set H.length (.lp .busy (H.length + 1)) ++ [.cells (rowC (pad z))]) H.length = some (.lp .busy (H.length + 1)) := (f1 _ b3).trans (nthH_set_same b3)
                have lp0 := (nthH_front (k := [HObj.cells (rowC (pad z))]) b3).trans b2
                simp -implicitDefEqProofs (disch := omega) [wrap_id, putPs, hpf_nthH, b2, pz, lW, lp0]
                generalize H'.set H.length (.lp .busy (H.length + 1)) ++ [HObj.cells (rowC (pad z))] = Hb at f1 f2 f3 e4 e5 ⊢
                have cb := sh.mono (H' := Hb) fun j hj => e4 j (by omega) (by omega)
                simp -implicitDefEqProofs (disch := omega) [wrap_id, cb.c11, f2, pz, tz]
                refine lkuR0 (n := 6) (x := 3) (D := pad z) rfl row_valC cb.m pz c2.wid ?_
                rw [c3 z lz]
                have lw2 := nthH_lt e5
                by_cases hzR : z ∈ R
                · rw [if_pos hzR]
                  simp -implicitDefEqProofs (disch := omega) [wrap_id]
                  refine ⟨by rw [hpf_nthH]; exact e5, .inl ⟨rfl, ?_⟩⟩
                  simp only [setL, lw2, if_true]
                  refine ⟨cb.mono fun j hj => nthH_set_ne (by omega), nthH_set_same lw2, by rw [List.length_set]; exact lw2, fun t ht => ?_⟩
                  by_cases e : t = s
                  · subst e; rw [hz]; exact hzR
                  · exact hno t (by omega)
                · rw [if_neg hzR]
                  have l8 := nthH_lt cb.c8
                  simp -implicitDefEqProofs (disch := omega) [wrap_id, cb.c8, l8]
                  have cb' : CclH g b L ck 14 (Hb.set 1 (.cells [I 14])) := ⟨nthH_set_same l8, (nthH_set_ne (by decide)).trans cb.c9, (nthH_set_ne (by decide)).trans cb.m, (nthH_set_ne (by decide)).trans cb.c11⟩
                  have e6 : nthH (Hb.set 1 (.cells [I 14])) H.length = some (.lp .busy (H.length + 1)) := (nthH_set_ne (by omega)).trans e5
                  generalize Hb.set 1 (HObj.cells [I 14]) = Hc at cb' e6 ⊢
                  have lw3 := nthH_lt e6
                  refine ⟨by rw [hpf_nthH]; exact e6, .inr ⟨rfl, ?_⟩⟩
                  simp only [setL, lw3, if_true]
                  exact ⟨nthH_set_same lw3, cb'.mono fun j hj => nthH_set_ne (by omega), s, sT, by rw [hz]; exact hzR⟩
              · rintro H' (⟨sh, b2, b3, hno⟩ | ⟨b2, sh, s, hs, hzR⟩)
                · refine rfEnd_ready b2 ?_
                  simp -implicitDefEqProofs (disch := omega) [wrap_id]
                  rw [hK0]
                  refine next_eq (i + 1, H'.set H.length .gone) ⟨by simp only; omega, sh.mono fun j hj => nthH_set_ne (by omega), fun k hk hk2 t ht => ?_⟩ (by simp only; omega) (by simp only [ix])
                  by_cases e : k = i
                  · subst e; exact hno t (by rw [S_len] at ht; exact ht)
                  · exact d3 k hk (by simp only at hk2; omega) t ht
                · have lW := nthH_lt b2
                  have ec : clsO b R = false := by
                    rw [Bool.eq_false_iff]
                    intro h
                    unfold clsO at h
                    have h5 := List.all_eq_true.1 h (R.getD i []) (by rw [eR i hi, ← hR]; exact List.mem_map_of_mem (List.getElem_mem hi))
                    have h6 := List.all_eq_true.1 h5 (b.S.getD s []) (getD_mem hs)
                    rw [eR i hi] at h6
                    exact hzR (by simpa using h6)
                  rw [if_pos ec] at e0
                  subst e0
                  subst hK0
                  simp only [RfEnd, hpf_nthH, b2]
                  simp -implicitDefEqProofs (disch := omega) [wrap_id, lW]
                  exact retC_one (id := 1) (off := 0) (cs := [I 14]) rfl ((nthH_set_ne (by have := d2.len; omega)).trans sh.c8) rfl (by rw [out_v])
            · have hi : i = rows.length := by simp at hc; omega
              subst hi
              have ec : clsO b R = true := by
                unfold clsO
                rw [List.all_eq_true]
                intro y hy
                rw [List.all_eq_true]
                intro s hs
                obtain ⟨k, hk, rfl⟩ := mem_getD (d := []) hy
                obtain ⟨t, ht, rfl⟩ := mem_getD (d := []) hs
                have hk2 : k < rows.length := by omega
                rw [eR k hk2]
                simpa using d3 k hk2 hk2 t ht
              rw [if_neg (by rw [ec]; decide)] at e0
              subst e0
              subst hK0
              have l8 := nthH_lt d2.c8
              simp -implicitDefEqProofs (disch := omega) [wrap_id, d2.c8, l8]
              exact retC_one (id := 1) (off := 0) (cs := [I 0]) rfl (nthH_set_same l8) rfl (by rw [out_v])
        · have hr1 : R.contains r = false := by simpa using hrR
          rw [if_pos (.inl hr1)] at e0
          subst e0
          rw [if_neg hrR]
          simp -implicitDefEqProofs (disch := omega) [wrap_id, cmp2, nthT]
          exact retC_one (id := 1) (off := 0) (cs := [I 14]) rfl rfl rfl (by rw [out_v])
  · have e0 : cclE b r x R = rwsE b r x := by unfold cclE; rw [if_pos h0]
    have h0' : (rwsE b r x != 0) = true := by simpa using h0
    rw [eo, e0]
    have eV : opnV g b [(f, r), (h, x)] = .v (.pointer none) := by unfold opnV; rw [if_neg (by rw [eo]; exact h0)]
    rw [eV]
    simp -implicitDefEqProofs (disch := omega) [wrap_id, h0']
    exact retC_one (id := 1) (off := 0) (cs := [I (rwsE b r x)]) rfl rfl rfl (by rw [out_v])
end Go.AM

set_option linter.unusedSimpArgs false
set_option linter.unusedVariables false
namespace Go.AM
open Go.RowKit Go.Proofs
theorem world_grown {w w' : World} (h1 : w'.os = w.os) (h2 : w'.tape = w.tape) (h3 : w'.output = w.output) (h4 : w.drawn ≤ w'.drawn) (h5 : w.heap.size ≤ w'.heap.size) (h6 : ∀ b, b < w.heap.size → w'.heap[b]? = w.heap[b]?) :
    ∃ q os', w' = Sort.grow (w.drewN q) os' := by
  refine ⟨w'.drawn - w.drawn, w'.heap.extract w.heap.size w'.heap.size, ?_⟩
  have e1 : w'.heap = w.heap ++ w'.heap.extract w.heap.size w'.heap.size := by
    apply Array.ext_getElem?
    intro k
    by_cases hk : k < w.heap.size
    · rw [h6 k hk, Array.getElem?_append_left hk]
    · rw [Array.getElem?_append_right (by omega), Array.getElem?_extract]
      by_cases hk2 : k < w'.heap.size
      · rw [if_pos (by omega)]; congr 1; omega
      · rw [if_neg (by omega), Array.getElem?_eq_none (by omega)]
  have e2 : w'.drawn = w.drawn + (w'.drawn - w.drawn) := by omega
  cases w with
  | mk heap tape drawn os output =>
    cases w' with
    | mk heap' tape' drawn' os' output' =>
      simp only at h1 h2 h3 e1 e2
      subst h1; subst h2; subst h3
      simp only [Sort.grow, World.drewN]
      rw [← e1, ← e2]
theorem putRow_setArr {α : Type} [Inhabited α] {enc : α → Value} {w : World} {blk off : Nat} {d : Array α} {arr : Array Value} {ty : TypeId} {fz : Nat × Nat} (hb : w.heap[blk]? = some (.cells arr ty fz)) :
    Sort.putRow enc w blk off d = World.setArr w blk (Sort.putCells enc off d arr) ty fz := by
  unfold Sort.putRow Sort.mapBlock World.setArr
  congr 1
  apply Array.ext_getElem?
  intro k
  rw [Array.getElem?_modify, Array.getElem?_setIfInBounds]
  by_cases hk : blk = k
  · subst hk
    have := (Array.getElem?_eq_some_iff.1 hb).1
    have e : w.heap[blk] = .cells arr ty fz := by
      have := hb
      rw [Array.getElem?_eq_getElem (Array.getElem?_eq_some_iff.1 hb).1] at this
      exact Option.some.inj this
    simp [this, e, Sort.onCells]
  · simp [hk]
theorem HeapOK.grown {hp g w} (h : HeapOK hp g w) (n : Nat) (os : Array Obj) : HeapOK hp g (Sort.grow (Sort.ahead w n) os) ∧ Upd hp g w hp g (Sort.grow (Sort.ahead w n) os) := by
  have hk : ∀ b, b < w.heap.size → (Sort.grow (Sort.ahead w n) os).heap[b]? = w.heap[b]? := fun b hb => Array.getElem?_append_left hb
  have hcell : ∀ b q, g.S b q → (Sort.grow (Sort.ahead w n) os).cell? ⟨b, q, none⟩ = w.cell? ⟨b, q, none⟩ := fun b q hs => by
    obtain ⟨v, hv⟩ := h.ex b q hs
    exact World.cell?_of_block (hk b (World.block_lt_of_cell? _ _ hv))
  have tr : Trans w g (Sort.grow (Sort.ahead w n) os) g := ⟨fun _ _ x => x, hcell, fun _ _ x => x, fun b arr ty fz hb => ⟨arr, (hk b (Array.getElem?_eq_some_iff.1 hb).1).trans hb, rfl⟩, rfl, rfl, rfl, by simp [Sort.grow, Sort.ahead], by simp [Sort.grow, Sort.ahead]⟩
  refine ⟨h.change (fun _ => False) tr (fun _ _ => rfl) (fun _ _ => rfl) (fun i o c d hi ho hl hr' => hk _ (h.lt ho hl hr')) (fun i o c d hi ho hl hr' q hq => hq) (fun _ h => h.elim) (fun _ _ _ _ _ _ _ h => h.elim) (fun b q hs => ?_), tr, fun c hc => .inl hc, fun b q hs => .inl hs, fun b hb _ => hk b hb⟩
  obtain ⟨v, hv⟩ := h.ex b q hs
  exact ⟨v, (tr.cell b q hs).trans hv⟩
theorem putCells_at {α : Type} [Inhabited α] {enc : α → Value} {off : Nat} {d : Array α} {arr : Array Value} {i : Nat} (hi : i < d.size) (ha : off + d.size ≤ arr.size) : (Sort.putCells enc off d arr)[off + i]? = some (enc d[i]!) := by
  have h1 : off + i < arr.size := by omega
  simp only [Sort.putCells, Array.getElem?_mapIdx, Array.getElem?_eq_getElem h1, Option.map_some]
  rw [if_pos ⟨by omega, by omega⟩, Nat.add_sub_cancel_left]
theorem putCells_low {α : Type} [Inhabited α] {enc : α → Value} {off : Nat} {d : Array α} {arr : Array Value} {q : Nat} (hq : q < off) : (Sort.putCells enc off d arr)[q]? = arr[q]? := by
  simp only [Sort.putCells, Array.getElem?_mapIdx]
  cases h : arr[q]? with
  | none => rfl
  | some x => simp only [Option.map_some]; rw [if_neg (by omega)]
theorem putCells_size {α : Type} [Inhabited α] {enc : α → Value} {off : Nat} {d : Array α} {arr : Array Value} : (Sort.putCells enc off d arr).size = arr.size := by simp [Sort.putCells]
theorem hpf_set' {hp : List HObj} {id : Nat} {o : HObj} (h : id < hp.length) : hpf (hp.set id o) = Hp.set (hpf hp) id o := by
  funext i
  simp only [hpf, Hp.set]
  by_cases e : i = id
  · subst e; rw [if_pos rfl, List.getElem?_set_self h]
  · rw [if_neg e, List.getElem?_set_ne (Ne.symm e)]
set_option maxHeartbeats 1000000 in
theorem sort_w {P : Program} {ρ : Go.Shelf.Ren} (L : SlLaysF.n6 P ρ) {E : Type} {av : E → AV} {ok : E → Prop} {cmp : E → E → Int} {cf : FuncId} (hav : ∀ e, ok e → (av e).isPC = true)
    (hirr : ∀ x, ok x → ¬ cmp x x < 0) (htr : ∀ x y z, ok x → ok y → ok z → cmp x y < 0 → cmp y z < 0 → cmp x z < 0) (hnt : ∀ x y z, ok x → ok y → ok z → ¬ cmp x y < 0 → ¬ cmp y z < 0 → ¬ cmp x z < 0)
    (eg : ∀ args w, (callFunc cf args).run P w = .ok (.enter cf args) w) (hc : ∀ x y, ok x → ok y → PureOK P cf [av x, av y] (I (cmp x y)))
    {hp : List HObj} {id : Nat} {rows : List E} (hid : nthH hp id = some (.cells (rows.map av))) (hok : ∀ x ∈ rows, ok x) (h0 : rows ≠ []) (hsz : rows.length < 4611686018427387904) {K : AV → List HObj → Prop}
    (hK : ∀ Q : List E, Q.Perm rows → (Q.Pairwise fun a b => ¬ cmp b a < 0) → K (.tup []) (hp.set id (.cells (Q.map av)))) :
    CallW P (ρ.f 6) [.ms id 0 rows.length 1, .fn (.func cf) [] []] hp K := by
  intro ro n w g vs hw hvs hrep
  have hlt := nthH_lt hid
  have hid' : hpf hp id = some (.cells (rows.map av)) := by rw [show hpf hp id = nthH hp id from (nthH_eq hp id).symm]; exact hid
  obtain ⟨l, hl, hrl⟩ := hw.rep id _ hid'
  have hpos : 0 < rows.length := List.length_pos_iff.2 h0
  have r0 := hrep 0 (by simp)
  have r1 := hrep 1 (by simp)
  simp only [List.getElem_cons_zero, List.getElem_cons_succ] at r0 r1
  obtain ⟨c, d, cap, arr, ty, fz, v0, lρ, hb, hsize⟩ : ∃ (c d cap : Nat) (arr : Array Value) (ty : TypeId) (fz : Nat × Nat), vs.getD 0 undef = .slice (some ⟨c, d, none⟩) rows.length cap ∧ g.ρ id = some (.blk c d) ∧ w.heap[c]? = some (.cells arr ty fz) ∧ d + rows.length ≤ arr.size := by
    generalize vs.getD 0 undef = v at r0
    generalize hm : rows.length = m at r0
    cases r0 with
    | ms _ _ _ _ c d cap arr ty fz h1 h2 h3 h4 => exact ⟨c, d, cap, arr, ty, fz, rfl, h1, h3, by omega⟩
    | msz => omega
  have v1 : vs.getD 1 undef = .func (.func cf) #[] #[] := by
    generalize vs.getD 1 undef = v at r1
    cases r1 with
    | fn _ _ _ _ xs ys h1 h2 =>
      rw [List.length_eq_zero_iff.1 h1, List.length_eq_zero_iff.1 h2]
  have evs : vs = #[.slice (some ⟨c, d, none⟩) rows.length cap, .func (.func cf) #[] #[]] := by
    have hs2 : vs.size = 2 := hvs
    apply Array.ext
    · simp [hs2]
    · intro i h1 h2
      have : i = 0 ∨ i = 1 := by simp at h2; omega
      rcases this with rfl | rfl
      · rw [Array.getD_eq_getD_getElem?, Array.getElem?_eq_getElem h1] at v0; exact v0
      · rw [Array.getD_eq_getD_getElem?, Array.getElem?_eq_getElem h1] at v1; exact v1
  subst evs
  rw [hl] at lρ; cases lρ
  obtain ⟨arr0, ty0, fz0, g1, g2, g3, g4, g5⟩ := hrl
  rw [hb] at g1; cases g1
  have g5' : ∀ i (hi : i < rows.length), ∃ x, arr[d + i]? = some x ∧ Rep w g true (av rows[i]) x := fun i hi => by
    obtain ⟨x, hx, hr⟩ := g5 i (by simpa using hi)
    rw [List.getElem_map] at hr
    exact ⟨x, hx, pure_rep (pc_pure (hav _ (hok _ (List.getElem_mem hi)))) hr⟩
  let α := { p : Value × E // ok p.2 ∧ Rep w g true (av p.2) p.1 }
  have mk : ∀ i (hi : i < rows.length), ok rows[i] ∧ Rep w g true (av rows[i]) ((arr[d + i]?).getD undef) := fun i hi => by
    obtain ⟨x, hx, hr⟩ := g5' i hi
    rw [hx]; exact ⟨hok _ (List.getElem_mem hi), hr⟩
  have inst : Inhabited α := ⟨⟨((arr[d + 0]?).getD undef, rows[0]), mk 0 hpos⟩⟩
  let dd : Array α := Array.ofFn (n := rows.length) fun i => ⟨((arr[d + i.1]?).getD undef, rows[i.1]), mk i.1 i.2⟩
  have dsz : dd.size = rows.length := Array.size_ofFn
  have dget : ∀ i (hi : i < rows.length), dd[i]! = ⟨((arr[d + i]?).getD undef, rows[i]), mk i hi⟩ := fun i hi => by
    rw [getElem!_pos dd i (by omega)]
    simp [dd]
  have erows : dd.toList.map (fun p => p.1.2) = rows := by
    refine List.ext_getElem (by simp [dsz]) fun i h1 h2 => ?_
    have hi : i < dd.size := by omega
    have := dget i h2
    rw [getElem!_pos dd i hi] at this
    rw [List.getElem_map, Array.getElem_toList, this]
  let enc : α → Value := fun p => p.1.1
  have one : OneCell enc := fun p => pc_one p.2.2 (hav _ p.2.1)
  have ltd : ∀ x y : α, ltOf (fun x y : α => cmp x.1.2 y.1.2) x y = decide (cmp x.1.2 y.1.2 < 0) := fun x y => rfl
  have swo : Sort.SWO (ltOf fun x y : α => cmp x.1.2 y.1.2) :=
    ⟨fun x => by rw [ltd]; exact decide_eq_false (hirr _ x.2.1), fun x y z h1 h2 => by
      rw [ltd, decide_eq_true_iff] at *; exact htr _ _ _ x.2.1 y.2.1 z.2.1 h1 h2, fun x y z h1 h2 => by
      rw [ltd, decide_eq_false_iff_not] at *; exact hnt _ _ _ x.2.1 y.2.1 z.2.1 h1 h2⟩
  have hblk : c < w.heap.size := (Array.getElem?_eq_some_iff.1 hb).1
  have holds : Sort.Holds enc w c d dd := fun j hj => by
    have hj' : j < rows.length := by omega
    obtain ⟨x, hx, hr⟩ := g5' j hj'
    refine ⟨?_, g4 (d + j) (by omega) (by omega)⟩
    simp only [World.cell?, hb]
    rw [dget j hj']
    simp [enc, hx]
  have key : ∀ (m : Nat) (os : Array Obj) (dk : Array α), dk.size = rows.length →
      HeapOK (Hp.set (hpf hp) id (.cells (dk.toList.map fun p => av p.1.2))) g (sortWorld enc w c d m dk os) ∧ Upd (hpf hp) g w (Hp.set (hpf hp) id (.cells (dk.toList.map fun p => av p.1.2))) g (sortWorld enc w c d m dk os) := fun m os dk hs => by
    have e : sortWorld enc w c d m dk os = Sort.grow (Sort.ahead (World.setArr w c (Sort.putCells enc d dk arr) ty fz) m) os := by
      unfold sortWorld
      rw [putRow_setArr (w := Sort.ahead w m) (arr := arr) (ty := ty) (fz := fz) hb]
      rfl
    rw [e]
    obtain ⟨q1, q2⟩ := hw.rewrite hid' hl hb (arr' := Sort.putCells enc d dk arr) putCells_size (cs' := dk.toList.map fun p => av p.1.2) (fun q hq => putCells_low hq) ⟨by rw [putCells_size]; simp [hs]; exact hsize, fun i hi => by
      have hi' : i < dk.size := by simpa using hi
      refine ⟨_, putCells_at hi' (by omega), ?_⟩
      rw [List.getElem_map, Array.getElem_toList, getElem!_pos dk i hi']
      exact (dk[i].2.2).of⟩
    obtain ⟨q3, q4⟩ := q1.grown m os
    exact ⟨q3, q2.trans q4⟩
  have hcmp : CmpLays1 P cf #[] enc (fun x y : α => cmp x.1.2 y.1.2) c d dd.size w := fun m os dk hs x y => by
    obtain ⟨k1, k2⟩ := key m os dk (by omega)
    generalize sortWorld enc w c d m dk os = W1 at k1 k2
    have hk0 : HeapOK (fun _ => none) { S := g.S, ρ := fun _ => none } W1 := ⟨fun _ _ => rfl, (fun _ _ h => nomatch h), (fun _ _ _ _ _ _ _ h => nomatch h), k1.ex⟩
    have rx : ∀ z : α, Rep W1 { S := g.S, ρ := fun _ => none } true (av z.1.2) z.1.1 := fun z => (z.2.2.mono k2.tr).pure rfl _
    have := hc x.1.2 y.1.2 x.2.1 y.2.1 none 0 W1 { S := g.S, ρ := fun _ => none } (#[enc x, enc y] ++ #[]) hk0 (by simp) (fun i hi => by
      have : i = 0 ∨ i = 1 := by simp at hi; omega
      rcases this with rfl | rfl
      · exact rx x
      · exact rx y)
    refine ((callsIn_wide (n := 0)).1 this).mono ?_
    rintro e w' ⟨v, g', rfl, hv, hk', hu⟩
    refine ⟨by rw [rep_v hv], ?_⟩
    exact world_grown hu.tr.os hu.tr.tape hu.tr.output hu.tr.drawn hu.tr.size fun b hb => hu.keep b hb (fun ⟨_, _, _, h, _⟩ => by cases h)
  have main := Any.slices_SortFunc L enc one (fun x y : α => cmp x.1.2 y.1.2) swo cf #[] c d cap dd w eg hcmp holds hblk (by omega)
  rw [dsz] at main
  have main2 : CallsIn Fence.wide n P (ρ.f 6) #[.slice (some ⟨c, d, none⟩) rows.length cap, .func (.func cf) #[] #[]] w _ := callsIn_wide.2 main
  refine CallsIn.mono (F := W ro) main2 ?_
  rintro e w' ⟨rfl, d', n', os, hperm, hsort, rfl⟩
  obtain ⟨hs', _, hp2⟩ := hperm
  rw [dsz] at hs'
  obtain ⟨k1, k2⟩ := key n' os d' hs'
  refine ⟨.tuple #[], .tup [], hp.set id (.cells ((d'.toList.map fun p => p.1.2).map av)), g, rfl, hK (d'.toList.map fun p => p.1.2) ?_ ?_, ?_, ?_, ?_⟩
  · have e1 : d'.extract 0 rows.length = d' := by rw [← hs']; exact Array.extract_size
    have e2 : dd.extract 0 rows.length = dd := by rw [← dsz]; exact Array.extract_size
    rw [e1, e2] at hp2
    have := hp2.map (fun p => p.1.2)
    rw [erows] at this
    exact this
  · rw [List.pairwise_iff_getElem]
    intro i j hi hj hij
    have hi' : i < d'.size := by simpa using hi
    have hj' : j < d'.size := by simpa using hj
    have := hsort i j (Nat.zero_le _) hij (by omega)
    rw [getElem!_pos d' i hi', getElem!_pos d' j hj', ltd, decide_eq_false_iff_not] at this
    simpa using this
  · exact .tup _ [] [] rfl (fun i hi => by simp at hi)
  · rw [hpf_set' hlt, List.map_map]; exact k1
  · rw [hpf_set' hlt, List.map_map]; exact k2
end Go.AM

namespace Go.AM
open Go.Shelf Go.Proofs
def sortLL_ren : Go.Shelf.Ren := ⟨fun | 6 => 52 | 15 => 66 | 14 => 65 | 28 => 78 | 29 => 79 | 20 => 70 | 21 => 71 | 22 => 72 | 23 => 73 | 24 => 74 | 25 => 75 | 26 => 76 | 27 => 77 | 46 => 90 | 47 => 91 | 48 => 92 | 49 => 93 | 50 => 94 | 57 => 98 | n => n, fun | 22 => 22 | 24 => 26 | 25 => 93 | 3 => 3 | 39 => 104 | 0 => 0 | 53 => 117 | 55 => 119 | 4 => 4 | 46 => 111 | 45 => 110 | 50 => 85 | 5 => 5 | 9 => 9 | 66 => 126 | 70 => 130 | 76 => 134 | 77 => 135 | n => n, fun | n => n⟩
theorem sortLL : Go.Proofs.SlLaysF.n6 Try.prog sortLL_ren := {
  mixed := by kernel_rfl,
  f6 := ⟨Try.f52.name, by decide, Try.func52.trans (congrArg some (by kernel_rfl))⟩,
  f14 := ⟨Try.f65.name, by decide, Try.func65.trans (congrArg some (by kernel_rfl))⟩,
  f15 := Try.func66.trans (congrArg some (by kernel_rfl)),
  f20 := ⟨Try.f70.name, by decide, Try.func70.trans (congrArg some (by kernel_rfl))⟩,
  f21 := ⟨Try.f71.name, by decide, Try.func71.trans (congrArg some (by kernel_rfl))⟩,
  f22 := ⟨Try.f72.name, by decide, Try.func72.trans (congrArg some (by kernel_rfl))⟩,
  f23 := ⟨Try.f73.name, by decide, Try.func73.trans (congrArg some (by kernel_rfl))⟩,
  f24 := ⟨Try.f74.name, by decide, Try.func74.trans (congrArg some (by kernel_rfl))⟩,
  f25 := ⟨Try.f75.name, by decide, Try.func75.trans (congrArg some (by kernel_rfl))⟩,
  f26 := ⟨Try.f76.name, by decide, Try.func76.trans (congrArg some (by kernel_rfl))⟩,
  f27 := ⟨Try.f77.name, by decide, Try.func77.trans (congrArg some (by kernel_rfl))⟩,
  f28 := Try.func78.trans (congrArg some (by kernel_rfl)),
  f29 := Try.func79.trans (congrArg some (by kernel_rfl)),
  f46 := ⟨Try.f90.name, by decide, Try.func90.trans (congrArg some (by kernel_rfl))⟩,
  f47 := Try.func91.trans (congrArg some (by kernel_rfl)),
  f48 := Try.func92.trans (congrArg some (by kernel_rfl)),
  f49 := ⟨Try.f93.name, by decide, Try.func93.trans (congrArg some (by kernel_rfl))⟩,
  f50 := ⟨Try.f94.name, by decide, Try.func94.trans (congrArg some (by kernel_rfl))⟩,
  f57 := ⟨Try.f98.name, by decide, Try.func98.trans (congrArg some (by kernel_rfl))⟩,
  t0 := Try.underlying0,
  a0 := Try.isAgg0,
  z0 := Try.sizeOf0,
  v0 := Try.zeroValue0,
  t3 := Try.underlying3,
  a3 := Try.isAgg3,
  z3 := Try.sizeOf3,
  v3 := Try.zeroValue3,
  t4 := Try.underlying4,
  a4 := Try.isAgg4,
  z4 := Try.sizeOf4,
  v4 := Try.zeroValue4,
  t5 := Try.underlying5,
  a5 := Try.isAgg5,
  z5 := Try.sizeOf5,
  v5 := Try.zeroValue5,
  t9 := Try.underlying9,
  a9 := Try.isAgg9,
  z9 := Try.sizeOf9,
  v9 := Try.zeroValue9,
  t22 := Try.underlying22,
  a22 := Try.isAgg22,
  z22 := Try.sizeOf22,
  v22 := Try.zeroValue22,
  a24 := Try.isAgg26,
  z24 := Try.sizeOf26,
  t25 := Try.underlying93,
  a25 := Try.isAgg93,
  z25 := Try.sizeOf93,
  v25 := Try.zeroValue93,
  t39 := Try.underlying104,
  a39 := Try.isAgg104,
  z39 := Try.sizeOf104,
  v39 := Try.zeroValue104,
  t45 := Try.underlying110,
  a45 := Try.isAgg110,
  z45 := Try.sizeOf110,
  v45 := Try.zeroValue110,
  t46 := Try.underlying111,
  a46 := Try.isAgg111,
  z46 := Try.sizeOf111,
  v46 := Try.zeroValue111,
  t50 := Try.underlying85,
  a50 := Try.isAgg85,
  z50 := Try.sizeOf85,
  v50 := Try.zeroValue85,
  t53 := Try.underlying117,
  a53 := Try.isAgg117,
  z53 := Try.sizeOf117,
  v53 := Try.zeroValue117,
  t55 := Try.underlying119,
  a55 := Try.isAgg119,
  z55 := Try.sizeOf119,
  v55 := Try.zeroValue119,
  t66 := Try.underlying126,
  a66 := Try.isAgg126,
  z66 := Try.sizeOf126,
  v66 := Try.zeroValue126,
  t70 := Try.underlying130,
  a70 := Try.isAgg130,
  z70 := Try.sizeOf130,
  v70 := Try.zeroValue130,
  t76 := Try.underlying134,
  a76 := Try.isAgg134,
  z76 := Try.sizeOf134,
  v76 := Try.zeroValue134,
  t77 := Try.underlying135,
  a77 := Try.isAgg135,
  z77 := Try.sizeOf135,
  v77 := Try.zeroValue135 }
end Go.AM

set_option linter.unusedSimpArgs false
set_option linter.unusedVariables false
namespace Go.AM
open Go.RowKit Go.Proofs
theorem cmpL_irr (l : List Int) : ¬ cmpL l l < 0 := by rw [cmpL_eq.2 rfl]; decide
theorem cmpL_swap : ∀ {l m : List Int}, cmpL l m = - cmpL m l
  | [], [] => rfl
  | [], _ :: _ => rfl
  | _ :: _, [] => rfl
  | a :: l, b :: m => by
    simp only [cmpL]
    by_cases h1 : a < b
    · rw [if_pos h1, if_neg (by omega), if_pos h1]
    · by_cases h2 : b < a
      · rw [if_neg h1, if_pos h2, if_pos h2]; rfl
      · rw [if_neg h1, if_neg h2, if_neg h2, if_neg h1, cmpL_swap]
theorem cmpL_trans : ∀ {l m k : List Int}, cmpL l m < 0 → cmpL m k < 0 → cmpL l k < 0
  | [], [], _, h, _ => by simp [cmpL] at h
  | [], _ :: _, [], _, h => by simp [cmpL] at h
  | [], _ :: _, _ :: _, _, _ => by simp [cmpL]
  | _ :: _, [], _, h, _ => by simp [cmpL] at h
  | _ :: _, _ :: _, [], _, h => by simp [cmpL] at h
  | a :: l, b :: m, c :: k, h1, h2 => by
    simp only [cmpL] at h1 h2 ⊢
    by_cases e1 : a < b
    · by_cases e2 : b < c
      · rw [if_pos (by omega)]; decide
      · rw [if_neg e2] at h2
        by_cases e3 : c < b
        · rw [if_pos e3] at h2; omega
        · rw [if_pos (by omega)]; decide
    · rw [if_neg e1] at h1
      by_cases e4 : b < a
      · rw [if_pos e4] at h1; omega
      · rw [if_neg e4] at h1
        by_cases e2 : b < c
        · rw [if_pos (by omega)]; decide
        · rw [if_neg e2] at h2
          by_cases e3 : c < b
          · rw [if_pos e3] at h2; omega
          · rw [if_neg e3] at h2
            rw [if_neg (by omega), if_neg (by omega)]
            exact cmpL_trans h1 h2
theorem cmpL_ntrans {l m k : List Int} (h1 : ¬ cmpL l m < 0) (h2 : ¬ cmpL m k < 0) : ¬ cmpL l k < 0 := fun h => by
  by_cases e1 : cmpL m l < 0
  · exact h2 (cmpL_trans e1 h)
  · have e : cmpL l m = 0 := by have := cmpL_swap (l := l) (m := m); omega
    rw [cmpL_eq] at e
    subst e
    exact h2 h
theorem srt_of_cmp {n : Nat} {Q : List (List Int)} (hl : ∀ x ∈ Q, x.length = n) (nd : Q.Nodup) (hs : Q.Pairwise fun a b => ¬ cmpL b a < 0) : SrtL Q := by
  have : Q.Pairwise fun a b => a ∈ Q ∧ b ∈ Q ∧ a ≠ b ∧ ¬ cmpL b a < 0 := by
    refine List.Pairwise.and_mem.1 ?_ |>.imp fun h => ⟨h.1, h.2.1, h.2.2⟩
    exact List.Pairwise.and nd hs
  refine this.imp fun {a b} h => ?_
  obtain ⟨ha, hb, hne, hc⟩ := h
  rw [cmpL_frst (by rw [hl a ha, hl b hb])]
  have := cmpL_swap (l := a) (m := b)
  have h0 : cmpL a b ≠ 0 := fun e => hne (cmpL_eq.1 e)
  omega
theorem fLs_lls {L : List (List Int)} : llsC (fLs L) = L.map (Ls false) := by simp [llsC, fLs, List.map_map, Function.comp_def]
set_option maxHeartbeats 4000000 in
theorem o_Closed_ok (g f h : Bool) (b : OB) (hz : Sz12 b) (r x : List Int) (hr : r.length ≤ 1000000) (hx : x.length ≤ 1000000) {M : List (List Int)} {e : Int} (ha : AnsD b r x M e) : PureOK Try.prog n_o_Closed [On g b, Ls f r, Ls h x] (.tup [LLs false (fLs M), I e]) := by
  refine pure_of_w weak3 weak3_rep (walk func_o_Closed form_o_Closed res_o_Closed (by show 3 ≤ _; decide) ?_)
  simp -implicitDefEqProofs (disch := omega) [G_o_Closed, wrap_id]
  refine bsl_of (ys := [Ls f r, Ls h x]) rfl rfl ?_
  simp -implicitDefEqProofs (disch := omega) [wrap_id, zrep]
  refine callW_pure (ys := [On g b, LLs true [(f, r), (h, x)]]) (ids := []) rfl (o_open_ok g true b hz [(f, r), (h, x)] (by simp) (by simp; exact ⟨hr, hx⟩)) ?_
  have eo := opnE_two (b := b) (f := f) (g := h) (r := r) (x := x)
  rcases ha with ⟨h0, rfl, rfl⟩ | ⟨h0, ha⟩
  · have h0' : (rwsE b r x != 0) = true := by simpa using h0
    rw [eo]
    simp -implicitDefEqProofs (disch := omega) [wrap_id, h0']
    exact ⟨.tup [LLs true [], I (rwsE b r x)], rfl, out_of (is := []) rfl⟩
  obtain ⟨n, hb, lr, lx, o1, o2⟩ := rws_ok h0
  have h6 := hb.hi
  have hS := hb.pmS
  have hc1 := rowO_col o1
  have eV : opnV g b [(f, r), (h, x)] = DK g b := by unfold opnV; rw [if_pos (by rw [eo]; exact h0)]
  have pr : (pad r).length = 6 := pad_len (by omega)
  have px : (pad x).length = 6 := pad_len (by omega)
  rw [eo, eV, h0]
  simp -implicitDefEqProofs (disch := omega) [wrap_id]
  refine callW_pure rfl (o_rowOf_ok f (by omega)) ?_
  simp -implicitDefEqProofs (disch := omega) [wrap_id]
  refine d_far_w hb (step_drawn g hb) lr hc1 fun H id L ck mL fL oL lid keep => ?_
  simp -implicitDefEqProofs (disch := omega) [wrap_id]
  refine callW_pure rfl (o_rowOf_ok h (by omega)) ?_
  simp -implicitDefEqProofs (disch := omega) [wrap_id]
  have key : ∀ z : List Int, z.length = n → (getR L (pad z) ≠ none ↔ ¬ NoW b.S r z) := fun z hz => by
    rw [not_noW]
    constructor
    · intro hg
      cases e : getR L (pad z) with
      | none => exact absurd e hg
      | some v =>
        obtain ⟨d, _, ⟨w, hw, _⟩, _⟩ := (fL.out z hz v).1 e
        exact ⟨w, hw⟩
    · rintro ⟨w, hw⟩
      obtain ⟨d, hd, _⟩ := Dist.of hw
      rw [(fL.out z hz d).2 ⟨d, rfl, hd⟩]
      exact fun h => by cases h
  refine lkuR (n := 6) (x := id) (D := pad x) rfl row_valC oL px mL.wid ?_
  cases hg : getR L (pad x) with
  | some u =>
    have := (key x lx).1 (by rw [hg]; exact fun h => by cases h)
    rcases ha with ⟨_, rfl, rfl⟩ | ⟨nw, _⟩
    · simp -implicitDefEqProofs (disch := omega) [wrap_id]
      exact ⟨.tup [LLs true [], I 11], rfl, out_of (is := []) rfl⟩
    · exact absurd nw this
  | none =>
    have nw : NoW b.S r x := Classical.byContradiction fun hn => (key x lx).2 hn hg
    rcases ha with ⟨h1, _⟩ | ⟨_, hsrt, hmem, rfl⟩
    · exact absurd nw h1
    simp -implicitDefEqProofs (disch := omega) [wrap_id, xx_rng]
    refine rngR_of oL ?_
    obtain ⟨b1, b2, b3⟩ := app_new (H := H) (o := .it id ck [] ck)
    simp -implicitDefEqProofs (disch := omega) [wrap_id]
    have lL := nthH_lt oL
    have oL1 := (b1 id lL).trans oL
    generalize H ++ [HObj.it id ck [] ck] = H1 at b1 b2 b3 oL1 ⊢
    refine loop_eq (fun q : List Nat × AV × List HObj => ⟨[(8, DK g b), (13, q.2.1), (41, .ref H.length 0)], q.2.2⟩)
      (fun q => H.length < q.2.2.length ∧ nthH q.2.2 id = some (mpR L ck) ∧ nthH q.2.2 H.length = some (.it id ck q.1 ck) ∧ ∃ N, Col n L q.1 N ∧ AccG q.2.2 q.2.1 1 N.length (N.map (Ls false)) ∧ ∀ i, rid q.2.1 = some i → H.length < i) (fun q => unsR q.1 L)
      ([], .sl true 0 [], H1) ⟨by simp only; omega, oL1, b2, [], ⟨by simp, by simp, by simp, by simp⟩, AccG.nil, fun i h => by cases h⟩ rfl ?_
    clear b1 b2 b3 oL1
    rintro ⟨S, y, H2⟩ ⟨d0, d1, d2, N, d3, d4, d5⟩
    simp only at d0 d1 d2 d3 d4 d5 ⊢
    refine hideK' fun K1 hK1 => ?_
    have nle : N.length ≤ 46656 := by
      have sub : N ⊆ allRows (plcL 6) n := fun z hz => by
        obtain ⟨q, hq, _, e⟩ := d3.sub z hz
        have hg : getR L (pad z) ≠ none := by rw [← e, getR_of mL.keys hq]; exact fun h => by cases h
        obtain ⟨w, w1, w2⟩ := not_noW.1 ((key z (d3.len z hz)).1 hg)
        rw [← w2]
        exact mem_allRows (allS_len hS w1 lr) (allS_col hS w1 lr fun x hx => plc_mem.2 (by have := hc1 x hx; omega))
      have l1 := d3.nd.length_le_of_subset sub
      rw [allRows_len, plcL_len] at l1
      have : 6 ^ n ≤ 6 ^ 6 := Nat.pow_le_pow_right (by decide) h6
      omega
    simp -implicitDefEqProofs (disch := omega) [wrap_id, xx_nxt]
    refine nxtR_of d2 d1 mL (fun hall => ?_) (fun q hq hns => ?_)
    · subst hK1
      have memN : ∀ z, z ∈ N ↔ ¬ NoW b.S r z := fun z => by
        constructor
        · intro hz
          obtain ⟨q, hq, _, e⟩ := d3.sub z hz
          exact (key z (d3.len z hz)).1 (by rw [← e, getR_of mL.keys hq]; exact fun h => by cases h)
        · intro hz
          obtain ⟨w, w1, w2⟩ := not_noW.1 hz
          have lz : z.length = n := by rw [← w2]; exact allS_len hS w1 lr
          cases hgz : getR L (pad z) with
          | none => exact absurd hgz ((key z lz).2 hz)
          | some v =>
            obtain ⟨q, hq, e, _⟩ := getR_mem hgz
            obtain ⟨z', hz', ez⟩ := d3.all q hq (hall q hq)
            have : z' = z := pad_inj (by rw [d3.len z' hz', lz]) (ez.symm.trans e)
            rw [← this]; exact hz'
      have rN : r ∈ N := (memN r).2 (not_noW.2 ⟨[], fun s hs => by simp at hs, rfl⟩)
      have n0 : N ≠ [] := fun e => by rw [e] at rN; cases rN
      simp -implicitDefEqProofs (disch := omega) [wrap_id]
      rcases d4 with ⟨_, e, _⟩ | ⟨i, rfl, _, g1, g2, g3⟩
      · exact absurd (List.length_eq_zero_iff.1 e) n0
      refine sort_w (P := Try.prog) sortLL (E := List Int) (av := Ls false) (ok := fun l => l.length = n) (cmp := cmpL) (cf := n_s_CompareL) (fun _ _ => rfl) (fun x _ => cmpL_irr x) (fun x y z _ _ _ => cmpL_trans) (fun x y z _ _ _ => cmpL_ntrans)
        (enters_of func_s_CompareL (by kernel_rfl) rfl) (fun x y h1 h2 => s_Compare_ok false false x y (by omega) (by omega)) (hp := H2) (id := i) (rows := N) g1 d3.len n0 (by omega) fun Q hQ hs => ?_
      have eQ : Q = M := srt_uniq (srt_of_cmp (fun z hz => d3.len z (hQ.mem_iff.1 hz)) (hQ.nodup_iff.2 d3.nd) hs) hsrt (fun z hz => d3.len z (hQ.mem_iff.1 hz)) (fun z hz => d3.len z ((memN z).2 ((hmem z).1 hz))) fun z => hQ.mem_iff.trans ((memN z).trans (hmem z).symm)
      subst eQ
      have li := nthH_lt g1
      simp -implicitDefEqProofs (disch := omega) [wrap_id]
      have g1' : nthH (H2.set i (.cells (Q.map (Ls false)))) i = some (.cells (llsC (fLs Q))) := by rw [fLs_lls]; exact nthH_set_same li
      have eN : N.length = (fLs Q).length := by rw [fLs, List.length_map, hQ.length_eq]
      refine ⟨.tup [LLs false (fLs Q), I 0], ?_, out_of (is := [i]) ?_⟩
      · exact weak3_lls (by simp [fLs, List.map_map, Function.comp_def])
      · have := lls_pur g1' eN
        simp only [purify] at this
        simp only [purify, purifyL, this]; rfl
    · obtain ⟨z, lz, ez⟩ := fL.ko q hq
      have pz : (pad z).length = 6 := pad_len (by omega)
      have tz := take_row pz
      have lit := nthH_lt d2
      have cs := d3.step mL fL.ko hq hns lz ez
      have ul := unsR_lt hq hns
      have i3 : nthH (H2.set H.length (.it id ck (S ++ [q.2.1]) ck)) H.length = some (.it id ck (S ++ [q.2.1]) ck) := nthH_set_same lit
      have n3 : ∀ j, j ≠ H.length → nthH (H2.set H.length (.it id ck (S ++ [q.2.1]) ck)) j = nthH H2 j := fun j hj => nthH_set_ne (Ne.symm hj)
      have l3 : (H2.set H.length (.it id ck (S ++ [q.2.1]) ck)).length = H2.length := by simp
      have a3 : AccG (H2.set H.length (.it id ck (S ++ [q.2.1]) ck)) y 1 N.length (N.map (Ls false)) := d4.mono fun j hj => n3 j (by have := d5 j hj; omega)
      have w3 := (n3 id (by omega)).trans d1
      simp -implicitDefEqProofs (disch := omega) [wrap_id, lit]
      generalize H2.set H.length (.it id ck (S ++ [q.2.1]) ck) = H3 at i3 n3 l3 a3 w3 ⊢
      simp -implicitDefEqProofs (disch := omega) [wrap_id, xx_ent]
      refine entR_of (L := L) (clk := ck) (S := S) i3 w3 mL hq ?_
      rw [ez]
      simp -implicitDefEqProofs (disch := omega) [wrap_id, pz]
      obtain ⟨f1, f2, f3⟩ := app_new (H := H3) (o := .cells (rowC (pad z)))
      have a4 : AccG (H3 ++ [.cells (rowC (pad z))]) y 1 N.length (N.map (Ls false)) := a3.mono fun j hj => f1 j (a3.lt hj)
      have i4 := (f1 H.length (by omega)).trans i3
      have w4 := (f1 id (by omega)).trans w3
      generalize H3 ++ [HObj.cells (rowC (pad z))] = H4 at f1 f2 f3 a4 i4 w4 ⊢
      simp -implicitDefEqProofs (disch := omega) [wrap_id, f2, pz, tz]
      refine callW_pure dk_pur2 (d_list_ok g hb lz) ?_
      simp -implicitDefEqProofs (disch := omega) [wrap_id]
      refine bsl_of (ys := [Ls false z]) rfl rfl ?_
      simp -implicitDefEqProofs (disch := omega) [wrap_id, zrep]
      refine app_accG (ys := [Ls false z]) a4 (by omega) (by decide) rfl rfl fun ws q1 q2 q3 => ?_
      simp -implicitDefEqProofs (disch := omega) [wrap_id]
      have nr : ∀ j, j ≤ H.length → rid y ≠ some j := fun j hj e => by have := d5 j e; omega
      rw [hK1]
      refine next_eq (S ++ [q.2.1], .ms H4.length 0 (N.length + 1) 1, writeL H4 ws) ⟨by simp only; omega, (q1 id (by omega) (nr _ (by omega))).trans w4, (q1 _ (by omega) (nr _ (Nat.le_refl _))).trans i4, N ++ [z], cs, ?_, ?_⟩ ul rfl
      · simp only
        rw [List.map_append, List.map_singleton, List.length_append, List.length_singleton]
        exact q3
      · simp only [rid]; intro j hj; injection hj with hj; omega
end Go.AM

set_option linter.unusedSimpArgs false
set_option linter.unusedVariables false
namespace Go.AM
open Go.RowKit Go.Proofs
theorem x_scope {P : Program} {E : HE} {x : AC} {st : St} {Q : Exit → St → Prop} : AWP P E (.scope x) st Q = AWP P E x st (Exit.ng Q) := rfl
theorem slc_acc {hp : List HObj} {x : AV} {sz n : Nat} {cs : List AV} {K : AV → List (Nat × HObj) → Prop} (h : AccG hp x sz n cs) (k : K x []) : SlcW sz x none (some (I n)) (some (I n)) K := by
  rcases h with ⟨rfl, rfl, rfl⟩ | ⟨id, rfl, h0, h2, h3, h4⟩
  · exact ⟨.sl true 0 [], [], ⟨0, 0, rfl, rfl, Nat.le_refl _, Nat.le_refl _, by simp, ⟨rfl, rfl, by simp [view]⟩, rfl⟩, k⟩
  · refine ⟨_, _, ⟨0, n, rfl, rfl, Nat.zero_le _, Nat.le_refl _, rfl, ⟨n, rfl, Nat.le_refl _, Nat.le_refl _, rfl⟩, rfl, rfl⟩, ?_⟩
    simpa using k
def AnsS (S : List (List Int)) (r x : List Int) (w : List Nat) (ok : Bool) : Prop := (NoW S r x ∧ w = [] ∧ ok = false) ∨ ∃ D, Dist S r x D ∧ IsBest S D r x w ∧ ok = true
structure ShH (H : List HObj) (id z9 z10 z12 z13 : Nat) (L : List R3) (ck : Nat) (x a : List Int) (m : Int) (y : AV) (pre : List Nat) : Prop where
  c5 : nthH H 1 = some (.cells (rowC (pad x)))
  c9 : nthH H z9 = some (.cells [.mp id])
  l : nthH H id = some (mpR L ck)
  c10 : nthH H z10 = some (.cells [I m])
  c12 : nthH H z12 = some (.cells [y])
  c13 : nthH H z13 = some (.cells (rowC (pad a)))
  acc : AccG H y 1 pre.length (rowC (wI pre))
  own : ∀ i, rid y = some i → z13 < i
theorem ShH.mono {H H' : List HObj} {id z9 z10 z12 z13 : Nat} {L : List R3} {ck : Nat} {x a : List Int} {m : Int} {y : AV} {pre : List Nat} (h : ShH H id z9 z10 z12 z13 L ck x a m y pre) (hk : ∀ j, j = 1 ∨ j = z9 ∨ j = id ∨ j = z10 ∨ j = z12 ∨ j = z13 ∨ rid y = some j → nthH H' j = nthH H j) : ShH H' id z9 z10 z12 z13 L ck x a m y pre :=
  ⟨(hk _ (by simp)).trans h.c5, (hk _ (by simp)).trans h.c9, (hk _ (by simp)).trans h.l, (hk _ (by simp)).trans h.c10, (hk _ (by simp)).trans h.c12, (hk _ (by simp)).trans h.c13, h.acc.mono fun i hi => hk i (by simp [hi]), h.own⟩
theorem ShH.front {H H' : List HObj} {id z9 z10 z12 z13 : Nat} {L : List R3} {ck : Nat} {x a : List Int} {m : Int} {y : AV} {pre : List Nat} (h : ShH H id z9 z10 z12 z13 L ck x a m y pre) (hk : ∀ j, j < H.length → nthH H' j = nthH H j) : ShH H' id z9 z10 z12 z13 L ck x a m y pre :=
  h.mono fun j hj => hk j (by
    rcases hj with rfl | rfl | rfl | rfl | rfl | rfl | hj
    · exact nthH_lt h.c5
    · exact nthH_lt h.c9
    · exact nthH_lt h.l
    · exact nthH_lt h.c10
    · exact nthH_lt h.c12
    · exact nthH_lt h.c13
    · exact h.acc.lt hj)
structure ShJ (g : Bool) (b : OB) (W q id z9 : Nat) (L : List R3) (ck : Nat) (x a : List Int) (m : Nat) (y : AV) (pre : List Nat) (s : Nat) (H : List HObj) : Prop where
  box : BoxB g b n_d_drawn a q H
  lp : nthH H W = some (.lp .ready (W + 1))
  len : W < H.length
  sh : ShH H id z9 (z9 + 1) (z9 + 1 + 1) (z9 + 1 + 1 + 1) L ck x a m y pre
  no : ∀ t, t < s → ¬ Dist b.S (aft (b.S.getD t []) a) x m
def ShD (b : OB) (W id z9 : Nat) (L : List R3) (ck : Nat) (x a : List Int) (m : Nat) (pre : List Nat) (H : List HObj) : Prop :=
  nthH H W = some (.lp (.done (some 1)) (W + 1)) ∧ ∃ s y', s < b.S.length ∧ Dist b.S (aft (b.S.getD s []) a) x m ∧ (∀ t, t < s → ¬ Dist b.S (aft (b.S.getD t []) a) x m) ∧ ShH H id z9 (z9 + 1) (z9 + 1 + 1) (z9 + 1 + 1 + 1) L ck x (aft (b.S.getD s []) a) m y' (pre ++ [s]) ∧ ∀ i, rid y' = some i → W < i
set_option maxHeartbeats 8000000 in
theorem d_shortest_ok (g : Bool) {b : OB} {n : Nat} (hb : Okb b n) {r x : List Int} (hr : r.length = n) (hx : x.length = n) (hc : ∀ y ∈ x, 0 ≤ y ∧ y ≤ 5) {w : List Nat} {ok : Bool} (ha : AnsS b.S r x w ok) :
    PureOK Try.prog n_d_shortest [DK g b, .agg (rowC (pad r)), .agg (rowC (pad x))] (.tup [Ls false (wI w), B ok]) := by
  have h6 := hb.hi
  have hmany := hb.many
  have hS := hb.pmS
  have pr : (pad r).length = 6 := pad_len (by omega)
  have px : (pad x).length = 6 := pad_len (by omega)
  have tr := take_row pr
  have tx := take_row px
  refine pure_of_w weak weak_rep (walk func_d_shortest form_d_shortest res_d_shortest (by show 3 ≤ _; decide) ?_)
  simp -implicitDefEqProofs (disch := omega) [G_d_shortest, wrap_id, pr, px, tr, tx, x_scope]
  refine d_far_w hb (step_undone g hb) hx hc fun H id L ck mL fL oL lid keep => ?_
  have k0 : nthH H 0 = some (.cells (rowC (pad r))) := keep 0 (by simp)
  have k1 : nthH H 1 = some (.cells (rowC (pad x))) := keep 1 (by simp)
  have l0 := nthH_lt k1
  have lL := nthH_lt oL
  have key : ∀ z : List Int, z.length = n → ∀ v, getR L (pad z) = some v ↔ ∃ d : Nat, v = d ∧ Dist b.S z x d := fun z hz v => by
    rw [fL.out z hz]
    exact exists_congr fun d => and_congr_right fun _ => Dist.rev_iff hS hz hx
  simp -implicitDefEqProofs (disch := omega) [wrap_id]
  obtain ⟨f1, f2, f3⟩ := app_new (H := H) (o := .cells [.mp id])
  have k0 := (f1 0 (by omega)).trans k0
  have k1 := (f1 1 (by omega)).trans k1
  have oL := (f1 id lL).trans oL
  generalize hz9 : H.length = z9 at *
  generalize H ++ [HObj.cells [AV.mp id]] = H1 at *
  simp -implicitDefEqProofs (disch := omega) [wrap_id, f2, k0, pr, tr]
  refine lkuR (n := 6) (x := id) (D := pad r) rfl row_valC oL pr mL.wid ?_
  cases hg : getR L (pad r) with
  | none =>
    have nw : NoW b.S r x := fun w hw => by
      obtain ⟨d, hd, _⟩ := Dist.of hw
      have := (key r hr d).2 ⟨d, rfl, hd⟩
      rw [hg] at this; cases this
    rcases ha with ⟨_, rfl, rfl⟩ | ⟨D, hd, _⟩
    · simp -implicitDefEqProofs (disch := omega) [wrap_id]
      exact ⟨.tup [.sl true 0 [], B false], rfl, out_of (is := []) rfl⟩
    · obtain ⟨⟨w, hw, _⟩, _⟩ := hd
      exact absurd hw (nw w)
  | some u =>
    obtain ⟨D, rfl, hd⟩ := (key r hr u).1 hg
    have ev : IsBest b.S D r x w ∧ ok = true := by
      rcases ha with ⟨nw, _⟩ | ⟨D', hd', h1, h2⟩
      · obtain ⟨⟨w, hw, _⟩, _⟩ := hd
        exact absurd hw (nw w)
      · have := hd'.uniq hd
        subst this; exact ⟨h1, h2⟩
    obtain ⟨hbest, rfl⟩ := ev
    have Dlt : D < 46656 := by
      refine far_lt hb.pmS.inv hx h6 hc (x := r) (m := D) ((Dist.rev_iff hS hr hx).2 hd)
    simp -implicitDefEqProofs (disch := omega) [wrap_id]
    have e12 : H1 ++ [HObj.cells [I (D : Int)], HObj.cells [AV.sl true 0 []]] = (H1 ++ [HObj.cells [I (D : Int)]]) ++ [HObj.cells [AV.sl true 0 []]] := by simp
    rw [e12]
    clear e12
    obtain ⟨e1, e2, e3⟩ := app_new (H := H1) (o := .cells [I (D : Int)])
    have k0 := (e1 0 (by omega)).trans k0
    have k1 := (e1 1 (by omega)).trans k1
    have oL := (e1 id (by omega)).trans oL
    have k9 := (e1 z9 (by omega)).trans f2
    rw [f3] at e2 e3 e1
    generalize H1 ++ [HObj.cells [I (D : Int)]] = H2 at *
    obtain ⟨g1, g2, g3⟩ := app_new (H := H2) (o := .cells [.sl true 0 []])
    have k0 := (g1 0 (by omega)).trans k0
    have k1 := (g1 1 (by omega)).trans k1
    have oL := (g1 id (by omega)).trans oL
    have k9 := (g1 z9 (by omega)).trans k9
    have k10 := (g1 (z9 + 1) (by omega)).trans e2
    rw [e3] at g1 g2 g3
    generalize H2 ++ [HObj.cells [AV.sl true 0 []]] = H3 at *
    simp -implicitDefEqProofs (disch := omega) [wrap_id, k0, pr, tr]
    obtain ⟨q1, q2, q3⟩ := app_new (H := H3) (o := .cells (rowC (pad r)))
    rw [g3] at q1 q2 q3 ⊢
    have cH : ShH (H3 ++ [.cells (rowC (pad r))]) id z9 (z9 + 1) (z9 + 1 + 1) (z9 + 1 + 1 + 1) L ck x r D (.sl true 0 []) [] :=
      ⟨(q1 _ (by omega)).trans k1, (q1 _ (by omega)).trans k9, (q1 _ (by omega)).trans oL, (q1 _ (by omega)).trans k10, (q1 _ (by omega)).trans g2, q2, AccG.nil, fun i h => by cases h⟩
    generalize H3 ++ [HObj.cells (rowC (pad r))] = H4 at *
    rw [f3]
    refine loop_eq (fun q : Nat × List Int × AV × List Nat × List HObj => ⟨[(0, DK g b), (5, .ref 1 0), (6, .sl true 0 []), (7, B false), (9, .ref z9 0), (10, .ref (z9 + 1) 0), (12, .ref (z9 + 1 + 1) 0), (13, .ref (z9 + 1 + 1 + 1) 0)], q.2.2.2.2⟩)
      (fun q => q.2.1.length = n ∧ Dist b.S q.2.1 x q.1 ∧ q.2.2.2.1.length + q.1 = D ∧ ShH q.2.2.2.2 id z9 (z9 + 1) (z9 + 1 + 1) (z9 + 1 + 1 + 1) L ck x q.2.1 q.1 q.2.2.1 q.2.2.2.1 ∧ ∀ w', IsBest b.S q.1 q.2.1 x w' → IsBest b.S D r x (q.2.2.2.1 ++ w')) (fun q => q.1)
      (D, r, .sl true 0 [], [], H4) ⟨hr, hd, by simp, cH, fun w' h => h⟩ rfl ?_
    clear cH q1 q2 q3 g1 g2 g3 e1 e2 e3 f1 f2 f3 k0 k1 k9 k10 oL keep
    rintro ⟨m, a, y, pre, H⟩ ⟨la, hda, hpm, sh, hin⟩
    simp only at la hda hpm sh hin ⊢
    have pa : (pad a).length = 6 := pad_len (by omega)
    have ta := take_row pa
    refine hideK' fun K0 hK0 => ?_
    simp -implicitDefEqProofs (disch := omega) [wrap_id, sh.c5, sh.c13, pa, px, ta, tx]
    have ek : eqK (true, [Leaf.int, Leaf.int, Leaf.int, Leaf.int, Leaf.int, Leaf.int]) (rowV (pad a)) (rowV (pad x)) = some (decide (pad a = pad x)) := eqK_row pa px
    rw [eqk_of (a := rowV (pad a)) (b := rowV (pad x)) row_valC row_valC ek]
    by_cases hax : a = x
    · subst hax
      have hm0 : m = 0 := hda.uniq Dist.zero
      subst hm0
      have := (hin [] IsBest.nil).uniq hbest
      rw [List.append_nil] at this
      subst this
      subst hK0
      simp -implicitDefEqProofs (disch := omega) [wrap_id, sh.c12]
      rcases sh.acc with ⟨rfl, h1, h2⟩ | ⟨i, rfl, h0, h2, h3, h4⟩
      · have : pre = [] := List.length_eq_zero_iff.1 h1
        subst this
        exact ⟨.tup [.sl true 0 [], B true], rfl, out_of (is := []) rfl⟩
      · exact ⟨.tup [Ls false (wI pre), B true], rfl, out_msB h2 (by rw [wI_len])⟩
    · have hpp : ¬ pad a = pad x := fun h => hax (pad_inj (by omega) h)
      match m, hda, hpm, sh, hin with
      | 0, hda, _, _, _ => exact absurd (Dist.zero_iff.1 hda) hax
      | m + 1, hda, hpm, sh, hin =>
        have ed : (((m + 1 : Nat) : Int) - 1) = (m : Int) := by omega
        have l10 := nthH_lt sh.c10
        have l13 := nthH_lt sh.c13
        obtain ⟨mi, hmi⟩ : ∃ mi : Int, ((m + 1 : Nat) : Int) = mi := ⟨_, rfl⟩
        have ed : mi - 1 = (m : Int) := by omega
        have mib : 0 < mi ∧ mi < 50000 := by omega
        rw [hmi] at sh
        simp -implicitDefEqProofs (disch := omega) [wrap_id, hpp, sh.c10, l10, ed]
        have n10 : ∀ j, j ≠ z9 + 1 → nthH (H.set (z9 + 1) (.cells [I (m : Int)])) j = nthH H j := fun j hj => nthH_set_ne (Ne.symm hj)
        have own := sh.own
        have sh : ShH (H.set (z9 + 1) (.cells [I (m : Int)])) id z9 (z9 + 1) (z9 + 1 + 1) (z9 + 1 + 1 + 1) L ck x a m y pre :=
          ⟨(n10 _ (by omega)).trans sh.c5, (n10 _ (by omega)).trans sh.c9, (n10 _ (by omega)).trans sh.l, nthH_set_same l10, (n10 _ (by omega)).trans sh.c12, (n10 _ (by omega)).trans sh.c13, sh.acc.mono fun i hi => n10 i (by have := own i hi; omega), own⟩
        generalize H.set (z9 + 1) (.cells [I (m : Int)]) = H7 at *
        simp -implicitDefEqProofs (disch := omega) [wrap_id, sh.c13, pa, ta]
        refine d_behind_w (fs := n_d_drawn) la h6 ?_
        have bk : ∀ (j : Nat) (l : List HObj), j < H7.length → nthH (H7 ++ l) j = nthH H7 j := fun j l hj => nthH_front hj
        have hrl : ∀ i, rid y = some i → i < H7.length := fun i hi => sh.acc.lt hi
        have lidH := nthH_lt sh.l
        have l13 := nthH_lt sh.c13
        have l3 : (H7 ++ [HObj.cells [DK g b], HObj.cells (rowC (pad a)), HObj.cells [stepV g b n_d_drawn]]).length = H7.length + 3 := by simp
        simp -implicitDefEqProofs (disch := omega) [wrap_id]
        refine rf_of (K0 := fun H' => ShJ g b (H7.length + 3) H7.length id z9 L ck x a m y pre b.s.length H' ∨ ShD b (H7.length + 3) id z9 L ck x a m pre H')
          (d_behind_R (step_drawn g hb) (by omega) h6 la (J := ShJ g b (H7.length + 3) H7.length id z9 L ck x a m y pre) (D := ShD b (H7.length + 3) id z9 L ck x a m pre) (a := H7.length) ?_ ?_ (fun s H' h => h.box) ?_) ?_
        · exact ⟨by rw [nthH_eq, List.getElem?_append_right (Nat.le_refl _)]; simp, by rw [nthH_eq, List.getElem?_append_right (by omega)]; simp, by rw [nthH_eq, List.getElem?_append_right (by omega)]; simp⟩
        · rw [l3, List.append_assoc]
          have ew : ∀ i, nthH (H7 ++ ([HObj.cells [DK g b], HObj.cells (rowC (pad a)), HObj.cells [stepV g b n_d_drawn]] ++ [HObj.lp .ready (H7.length + 3 + 1), HObj.gone])) (H7.length + i) = nthH [HObj.cells [DK g b], HObj.cells (rowC (pad a)), HObj.cells [stepV g b n_d_drawn], HObj.lp .ready (H7.length + 3 + 1), HObj.gone] i := fun i => by
            rw [nthH_eq, List.getElem?_append_right (by omega), nthH_eq]
            simp
          exact ⟨⟨ew 0, ew 1, ew 2⟩, ew 3, by simp, sh.front fun j hj => bk _ _ hj, fun t ht => by omega⟩
        · intro s H' hs' hJ
          rw [l3]
          obtain ⟨b1, b2, b3, sh, hno⟩ := hJ
          refine ⟨by rw [hpf_nthH]; exact b2, rfl, ?_⟩
          have sT : s < b.S.length := by rw [S_len]; exact hs'
          have lz : (aft (b.S.getD s []) a).length = n := by rw [aft_len]; exact (hS.at sT).len
          obtain ⟨z, hz⟩ : ∃ z, aft (b.S.getD s []) a = z := ⟨_, rfl⟩
          rw [hz] at lz ⊢
          have pz : (pad z).length = 6 := pad_len (by omega)
          have tz := take_row pz
          have lW : H7.length + 3 < H'.length + 1 := by omega
          obtain ⟨f1, f2, f3⟩ := app_new (H := H'.set (H7.length + 3) (.lp .busy (H7.length + 3 + 1))) (o := .cells (rowC (pad z)))
          rw [List.length_set] at f1 f2 f3
          have e4 : ∀ i, i ≠ H7.length + 3 → i < H'.length → nthH (H'.set (H7.length + 3) (.lp .busy (H7.length + 3 + 1)) ++ [.cells (rowC (pad z))]) i = nthH H' i := fun i hi h2 => (f1 i h2).trans (nthH_set_ne (Ne.symm hi))
          have e5 : nthH (H'.set (H7.length + 3) (.lp .busy (H7.length + 3 + 1)) ++ [.cells (rowC (pad z))]) (H7.length + 3) = some (.lp .busy (H7.length + 3 + 1)) := (f1 _ b3).trans (nthH_set_same b3)
          have lp0 := (nthH_front (k := [HObj.cells (rowC (pad z))]) b3).trans b2
          simp -implicitDefEqProofs (disch := omega) [wrap_id, putPs, hpf_nthH, b2, pz, lW, lp0]
          generalize H'.set (H7.length + 3) (.lp .busy (H7.length + 3 + 1)) ++ [HObj.cells (rowC (pad z))] = Hb at f1 f2 f3 e4 e5 ⊢
          have rlt : ∀ i, rid y = some i → i < H7.length := hrl
          have cb := sh.mono (H' := Hb) fun i hi => e4 i (by
            rcases hi with h | h | h | h | h | h | h <;> first | omega | (have := rlt i h; omega)) (by
            rcases hi with h | h | h | h | h | h | h <;> first | omega | (have := rlt i h; omega))
          have bx' : BoxB g b n_d_drawn a H7.length Hb := ⟨(e4 _ (by omega) (by omega)).trans b1.1, (e4 _ (by omega) (by omega)).trans b1.2.1, (e4 _ (by omega) (by omega)).trans b1.2.2⟩
          have fin : ∀ (fr : List (Nat × AV)), ¬ Dist b.S z x m →
              RoundQ (H7.length + 3) (fun rr hp'' => rr = AM.B true ∧ ShJ g b (H7.length + 3) H7.length id z9 L ck x a m y pre (s + 1) hp'' ∨ rr = AM.B false ∧ ShD b (H7.length + 3) id z9 L ck x a m pre hp'') .normal ⟨fr, Hb⟩ := fun fr nd => by
            have lw2 := nthH_lt e5
            refine ⟨by rw [hpf_nthH]; exact e5, .inl ⟨rfl, ?_⟩⟩
            simp only [setL, lw2, if_true]
            have e6 : ∀ i, i ≠ H7.length + 3 → nthH (Hb.set (H7.length + 3) (.lp .ready (H7.length + 3 + 1))) i = nthH Hb i := fun i hi => nthH_set_ne (Ne.symm hi)
            refine ⟨⟨(e6 _ (by omega)).trans bx'.1, (e6 _ (by omega)).trans bx'.2.1, (e6 _ (by omega)).trans bx'.2.2⟩, nthH_set_same lw2, by rw [List.length_set]; exact lw2, cb.mono fun i hi => e6 i (by
              rcases hi with h | h | h | h | h | h | h <;> first | omega | (have := rlt i h; omega)), fun t ht => ?_⟩
            by_cases e : t = s
            · subst e; rw [hz]; exact nd
            · exact hno t (by omega)
          simp -implicitDefEqProofs (disch := omega) [wrap_id, cb.c9, f2, pz, tz]
          refine lkuR (n := 6) (x := id) (D := pad z) rfl row_valC cb.l pz mL.wid ?_
          cases hgz : getR L (pad z) with
          | none =>
            have nd : ¬ Dist b.S z x m := fun hd => by
              have := (key z lz _).2 ⟨_, rfl, hd⟩
              rw [hgz] at this; cases this
            simp -implicitDefEqProofs (disch := omega) [wrap_id]
            exact fin _ nd
          | some u =>
            obtain ⟨d, rfl, hdz⟩ := (key z lz u).1 hgz
            by_cases hdd : d = m
            · subst hdd
              simp -implicitDefEqProofs (disch := omega) [wrap_id, cb.c10, cb.c12, cb.acc.lenW]
              refine slc_acc cb.acc ?_
              simp -implicitDefEqProofs (disch := omega) [wrap_id]
              refine bsl_of (ys := [I (s : Int)]) rfl rfl ?_
              simp -implicitDefEqProofs (disch := omega) [wrap_id, zrep]
              have rl0 : ∀ i, rid y = some i → z9 + 1 + 1 + 1 < i := cb.own
              refine app_accG (ys := [I (s : Int)]) cb.acc (by omega) (by decide) rfl rfl fun ws w1 w2 w3 => ?_
              simp -implicitDefEqProofs (disch := omega) [wrap_id]
              have nr : ∀ j, (j ≤ z9 + 1 + 1 + 1 ∨ H7.length ≤ j) → rid y ≠ some j := fun j hj e => by
                have h1 := rl0 j e
                have h2 := rlt j e
                omega
              have a12 := (w1 (z9 + 1 + 1) (by omega) (nr _ (by omega))).trans cb.c12
              have a13 := (w1 (z9 + 1 + 1 + 1) (by omega) (nr _ (by omega))).trans cb.c13
              have a15 := (w1 H'.length (by omega) (nr _ (by omega))).trans f2
              have k1 := (w1 1 (by omega) (nr _ (by omega))).trans cb.c5
              have k9 := (w1 z9 (by omega) (nr _ (by omega))).trans cb.c9
              have kl := (w1 id (by omega) (nr _ (by omega))).trans cb.l
              have k10 := (w1 (z9 + 1) (by omega) (nr _ (by omega))).trans cb.c10
              have kW := (w1 (H7.length + 3) (by omega) (nr _ (by omega))).trans e5
              generalize writeL Hb ws = H8 at *
              have l12 := nthH_lt a12
              have l13' := nthH_lt a13
              have n12 : ∀ i, i ≠ z9 + 1 + 1 → nthH (H8.set (z9 + 1 + 1) (.cells [.ms Hb.length 0 (pre.length + 1) 1])) i = nthH H8 i := fun i hi => nthH_set_ne (Ne.symm hi)
              have s12 : nthH (H8.set (z9 + 1 + 1) (.cells [.ms Hb.length 0 (pre.length + 1) 1])) (z9 + 1 + 1) = some (.cells [.ms Hb.length 0 (pre.length + 1) 1]) := nthH_set_same l12
              have s15 := (n12 H'.length (by omega)).trans a15
              have s13 := (n12 (z9 + 1 + 1 + 1) (by omega)).trans a13
              have ll : (H8.set (z9 + 1 + 1) (.cells [.ms Hb.length 0 (pre.length + 1) 1])).length = H8.length := by simp
              simp -implicitDefEqProofs (disch := omega) [wrap_id, a12, l12]
              generalize H8.set (z9 + 1 + 1) (HObj.cells [AV.ms Hb.length 0 (pre.length + 1) 1]) = H9 at *
              have l139 := nthH_lt s13
              simp -implicitDefEqProofs (disch := omega) [wrap_id, s15, s13, pz, tz, l139, pa]
              have dr : List.drop 6 (rowC (pad a)) = [] := List.drop_of_length_le (by rw [List.length_map, pa]; exact Nat.le_refl 6)
              rw [dr, List.append_nil]
              have n13 : ∀ i, i ≠ z9 + 1 + 1 + 1 → nthH (H9.set (z9 + 1 + 1 + 1) (.cells (rowC (pad z)))) i = nthH H9 i := fun i hi => nthH_set_ne (Ne.symm hi)
              have s13' : nthH (H9.set (z9 + 1 + 1 + 1) (.cells (rowC (pad z)))) (z9 + 1 + 1 + 1) = some (.cells (rowC (pad z))) := nthH_set_same l139
              generalize H9.set (z9 + 1 + 1 + 1) (HObj.cells (rowC (pad z))) = HA at *
              have nA : ∀ i, i ≠ z9 + 1 + 1 → i ≠ z9 + 1 + 1 + 1 → nthH HA i = nthH H8 i := fun i h1 h2 => (n13 i h2).trans (n12 i h1)
              have tW := (nA (H7.length + 3) (by omega) (by omega)).trans kW
              have ltW := nthH_lt tW
              refine ⟨by rw [hpf_nthH]; exact tW, .inr ⟨rfl, ?_⟩⟩
              simp only [setL, ltW, if_true]
              have eW : ∀ i, i ≠ H7.length + 3 → nthH (HA.set (H7.length + 3) (.lp (.done (some 1)) (H7.length + 3 + 1))) i = nthH HA i := fun i hi => nthH_set_ne (Ne.symm hi)
              have eA : ∀ i, i ≠ H7.length + 3 → i ≠ z9 + 1 + 1 → i ≠ z9 + 1 + 1 + 1 → nthH (HA.set (H7.length + 3) (.lp (.done (some 1)) (H7.length + 3 + 1))) i = nthH H8 i := fun i h0 h1 h2 => (eW i h0).trans (nA i h1 h2)
              refine ⟨nthH_set_same ltW, s, .ms Hb.length 0 (pre.length + 1) 1, sT, by rw [hz]; exact hdz, hno, ⟨(eA _ (by omega) (by omega) (by omega)).trans k1, (eA _ (by omega) (by omega) (by omega)).trans k9, (eA _ (by omega) (by omega) (by omega)).trans kl, (eA _ (by omega) (by omega) (by omega)).trans k10,
                (eW _ (by omega)).trans ((n13 _ (by omega)).trans s12), by rw [hz]; exact (eW _ (by omega)).trans s13', ?_, ?_⟩, ?_⟩
              · have er : rowC (wI pre ++ [(s : Int)]) = rowC (wI pre) ++ [I (s : Int)] := by simp
                rw [wI_snoc, List.length_append, List.length_singleton, er]
                exact w3.mono fun i hi => eA i (by injection hi with hi; omega) (by injection hi with hi; omega) (by injection hi with hi; omega)
              · intro i hi; injection hi with hi; omega
              · intro i hi; injection hi with hi; omega
            · have nd : ¬ Dist b.S z x m := fun hd => hdd (hdz.uniq hd)
              have ne : ((d : Int) == (m : Int)) = false := by rw [beq_eq_false_iff_ne]; omega
              simp -implicitDefEqProofs (disch := omega) [wrap_id, cb.c10, ne]
              exact fin _ nd
        · rintro H' (hJ | ⟨b2, s, y', hs, hds, hno, sh, hne⟩)
          · obtain ⟨s, hs, hds⟩ := hda.pred
            exact absurd hds (hJ.no s (by rw [S_len] at hs; exact hs))
          · rw [l3]
            simp only [RfEnd, hpf_nthH, b2]
            have lW := nthH_lt b2
            have e4 : ∀ i, i ≠ H7.length + 3 → nthH (H'.set (H7.length + 3) .gone) i = nthH H' i := fun i hi => nthH_set_ne (Ne.symm hi)
            simp -implicitDefEqProofs (disch := omega) [wrap_id, lW]
            rw [hK0]
            refine ⟨(m, aft (b.S.getD s []) a, y', pre ++ [s], H'.set (H7.length + 3) .gone), ⟨by simp only; rw [aft_len]; exact (hS.at hs).len, hds, by simp only [List.length_append, List.length_singleton]; omega, sh.mono fun i hi => e4 i (by
              rcases hi with h | h | h | h | h | h | h <;> first | omega | (have := hne i h; omega)), fun w' hw' => ?_⟩, by simp only; omega, le_drop fun t => by simp only [get_cons, get_nil]; (repeat' split) <;> first | (exfalso; omega) | exact .inl rfl | exact .inr rfl⟩
            have := hin _ (hw'.cons hda hs hno)
            simpa using this
end Go.AM

set_option linter.unusedSimpArgs false
set_option linter.unusedVariables false
namespace Go.AM
open Go.RowKit Go.Proofs
theorem dk_purR2 {hp : Hp} {g : Bool} {b : OB} {r x : List Int} : purifyAll hp [DK g b, .agg (rowC r), .agg (rowC x)] = some ([DK g b, .agg (rowC r), .agg (rowC x)], []) := by
  simp only [purifyAll, row_pur]; rfl
set_option maxHeartbeats 2000000 in
theorem o_Count_ok (g f h : Bool) (b : OB) (hz : Sz12 b) (r x : List Int) (hr : r.length ≤ 1000000) (hx : x.length ≤ 1000000) {v e : Int} (ha : AnsC b r x v e) : PureOK Try.prog n_o_Count [On g b, Ls f r, Ls h x] (.tup [I v, I e]) := by
  refine pure_of (walk func_o_Count form_o_Count res_o_Count (by show 3 ≤ _; decide) ?_)
  simp -implicitDefEqProofs (disch := omega) [G_o_Count, wrap_id]
  refine bsl_of (ys := [Ls f r, Ls h x]) rfl rfl ?_
  simp -implicitDefEqProofs (disch := omega) [wrap_id, zrep]
  refine callW_pure (ys := [On g b, LLs true [(f, r), (h, x)]]) (ids := []) rfl (o_open_ok g true b hz [(f, r), (h, x)] (by simp) (by simp; exact ⟨hr, hx⟩)) ?_
  have eo := opnE_two (b := b) (f := f) (g := h) (r := r) (x := x)
  rcases ha with ⟨h0, rfl, rfl⟩ | ⟨h0, ha⟩
  · have h0' : (rwsE b r x != 0) = true := by simpa using h0
    rw [eo]
    simp -implicitDefEqProofs (disch := omega) [wrap_id, h0']
    exact tup_ii
  obtain ⟨n, hb, lr, lx, o1, o2⟩ := rws_ok h0
  have h6 := hb.hi
  have eV : opnV g b [(f, r), (h, x)] = DK g b := by unfold opnV; rw [if_pos (by rw [eo]; exact h0)]
  have pr : (pad r).length = 6 := pad_len (by omega)
  have px : (pad x).length = 6 := pad_len (by omega)
  rw [eo, eV, h0]
  simp -implicitDefEqProofs (disch := omega) [wrap_id]
  refine callW_pure rfl (o_rowOf_ok f (by omega)) ?_
  simp -implicitDefEqProofs (disch := omega) [wrap_id]
  refine callW_pure rfl (o_rowOf_ok h (by omega)) ?_
  simp -implicitDefEqProofs (disch := omega) [wrap_id]
  rcases ha with ⟨nw, rfl, rfl⟩ | ⟨d, hd, ha⟩
  · refine callW_pure dk_purR2 (d_count_ok g hb lr lx (rowO_col o2) (v := 0) (ok := false) (.inl ⟨nw, rfl, rfl⟩)) ?_
    simp -implicitDefEqProofs (disch := omega) [wrap_id]
    exact tup_ii
  · refine callW_pure dk_purR2 (d_count_ok g hb lr lx (rowO_col o2) (.inr ⟨d, hd, rfl, rfl⟩)) ?_
    rcases ha with ⟨h1, rfl, rfl⟩ | ⟨h1, rfl, rfl⟩
    · have e1 : min mostN (cntW b.S d r x) = 1099511627777 := Nat.min_eq_left h1
      rw [e1]
      simp -implicitDefEqProofs (disch := omega) [wrap_id]
      exact tup_ii
    · obtain ⟨u, hu⟩ : ∃ u, cntW b.S d r x = u := ⟨_, rfl⟩
      rw [hu] at h1 ⊢
      have h1' : u < 1099511627777 := h1
      have e1 : min mostN u = u := Nat.min_eq_right (Nat.le_of_lt h1)
      rw [e1]
      have e2 : decide ((1099511627776 : Int) < (u : Int)) = false := decide_eq_false (by omega)
      simp -implicitDefEqProofs (disch := omega) [wrap_id, e2]
      exact tup_ii
theorem row_pcT {l : List Int} {k : Nat} : ((List.take k (rowC l)).all AV.isPC) = true := by
  rw [List.all_eq_true]
  intro x hx
  obtain ⟨n, _, rfl⟩ := List.mem_map.1 (List.mem_of_mem_take hx)
  rfl
theorem out_msI {hp : List HObj} {id n : Nat} {l : List Int} {e : Int} (h : nthH hp id = some (.cells (l.map fun n => I n))) (hn : n = l.length) : Out (.tup [Ls false l, I e]) (.tup [.ms id 0 n 1, I e]) hp := by
  subst hn
  rw [nthH_eq] at h
  refine out_of (is := [id]) ?_
  simp only [purify, purifyL, purify1, purify0, hpf, h]
  rw [if_pos ⟨by simp, ls_isPure _⟩]
  simp [view]
  rw [List.take_of_length_le (by simp)]
set_option maxHeartbeats 2000000 in
theorem o_Best_ok (g f h : Bool) (b : OB) (hz : Sz12 b) (r x : List Int) (hr : r.length ≤ 1000000) (hx : x.length ≤ 1000000) {l : List Int} {e : Int} (ha : AnsB b r x l e) : PureOK Try.prog n_o_Best [On g b, Ls f r, Ls h x] (.tup [Ls false l, I e]) := by
  refine pure_of_w weak weak_rep (walk func_o_Best form_o_Best res_o_Best (by show 3 ≤ _; decide) ?_)
  simp -implicitDefEqProofs (disch := omega) [G_o_Best, wrap_id]
  refine bsl_of (ys := [Ls f r, Ls h x]) rfl rfl ?_
  simp -implicitDefEqProofs (disch := omega) [wrap_id, zrep]
  refine callW_pure (ys := [On g b, LLs true [(f, r), (h, x)]]) (ids := []) rfl (o_open_ok g true b hz [(f, r), (h, x)] (by simp) (by simp; exact ⟨hr, hx⟩)) ?_
  have eo := opnE_two (b := b) (f := f) (g := h) (r := r) (x := x)
  rcases ha with ⟨h0, rfl, rfl⟩ | ⟨h0, ha⟩
  · have h0' : (rwsE b r x != 0) = true := by simpa using h0
    rw [eo]
    simp -implicitDefEqProofs (disch := omega) [wrap_id, h0']
    exact ⟨.tup [Ls true [], I (rwsE b r x)], rfl, out_of (is := []) rfl⟩
  obtain ⟨n, hb, lr, lx, o1, o2⟩ := rws_ok h0
  have h6 := hb.hi
  have eV : opnV g b [(f, r), (h, x)] = DK g b := by unfold opnV; rw [if_pos (by rw [eo]; exact h0)]
  have pr : (pad r).length = 6 := pad_len (by omega)
  have px : (pad x).length = 6 := pad_len (by omega)
  rw [eo, eV, h0]
  simp -implicitDefEqProofs (disch := omega) [wrap_id]
  refine callW_pure rfl (o_rowOf_ok f (by omega)) ?_
  simp -implicitDefEqProofs (disch := omega) [wrap_id]
  refine callW_pure rfl (o_rowOf_ok h (by omega)) ?_
  simp -implicitDefEqProofs (disch := omega) [wrap_id]
  rcases ha with ⟨nw, rfl, rfl⟩ | ⟨d, w, hd, hw, rfl, rfl⟩
  · refine callW_pure dk_purR2 (d_shortest_ok g hb lr lx (rowO_col o2) (w := []) (ok := false) (.inl ⟨nw, rfl, rfl⟩)) ?_
    simp -implicitDefEqProofs (disch := omega) [wrap_id]
    exact ⟨.tup [Ls true [], I 13], rfl, out_of (is := []) rfl⟩
  · refine callW_pure dk_purR2 (d_shortest_ok g hb lr lx (rowO_col o2) (.inr ⟨d, hd, hw, rfl⟩)) ?_
    simp -implicitDefEqProofs (disch := omega) [wrap_id]
    have wl : w.length = d := hw.2.1
    have dl := far_lt hb.pmS lr h6 (rowO_col o1) hd
    refine ⟨w.length, by rw [wI_len], by rw [wI_len], by omega, by omega, rfl, ?_⟩
    simp -implicitDefEqProofs (disch := omega) [wrap_id]
    refine cpy_of (id := 1) (off := 0) (n := w.length) (m := w.length) (cs := zrep w.length [I 0]) (ys := rowC (wI w)) rfl ?_ row_pcT rfl ?_ ?_
    · show elems _ 1 (Ls false (wI w)) = _
      rw [Ls, wI_len]
      exact elems_slv (by rw [List.length_map, wI_len]; omega)
    · rw [zrep_one, List.length_replicate]; omega
    · have e1 : List.take (Nat.min w.length w.length * 1) (rowC (wI w)) = rowC (wI w) := List.take_of_length_le (by rw [List.length_map, wI_len, Nat.mul_one]; exact Nat.le_of_eq (Nat.min_self _).symm)
      have e2 : splice (zrep w.length [I 0]) 0 (rowC (wI w)) = rowC (wI w) := by
        simp only [splice, List.take_zero, List.nil_append, Nat.zero_add]
        rw [List.drop_of_length_le (by rw [zrep_one, List.length_replicate, List.length_map, wI_len]; exact Nat.le_refl _), List.append_nil]
      rw [e1, e2]
      simp -implicitDefEqProofs (disch := omega) [wrap_id]
      exact ⟨.tup [Ls false (wI w), I 0], rfl, out_msI rfl (by rw [wI_len])⟩
end Go.AM

set_option linter.unusedSimpArgs false
set_option linter.unusedVariables false
namespace Go.AM
open Go.RowKit Go.Proofs
def FarP (n : Nat) (T : List (List Int)) (x0 : List Int) (es : List (Value × Nat × AV)) (clk : Nat) : Prop := ∃ L, es = L.map rowE ∧ MapR 6 L clk ∧ FarL n T x0 L
theorem farP_pc {n : Nat} {T : List (List Int)} {x0 : List Int} : ∀ es clk, FarP n T x0 es clk → (es.all fun e => e.2.2.isPC) = true := by
  rintro es clk ⟨L, rfl, _, _⟩
  rw [List.all_eq_true]
  intro e he
  obtain ⟨q, _, rfl⟩ := List.mem_map.1 he
  rfl
theorem d_far_map {g : Bool} {b : OB} {n fs : Nat} {T : List (List Int)} (hb : Okb b n) (hs : StepOK g b n fs T) {x0 : List Int} (h0 : x0.length = n) (hc : ∀ y ∈ x0, 0 ≤ y ∧ y ≤ 5) : MapOK Try.prog n_d_far [DK g b, .agg (rowC (pad x0)), stepV g b fs] (FarP n T x0) :=
  map_of farP_pc (d_far_w hb hs h0 hc fun H id L ck mL fL oL _ _ => ⟨id, L.map rowE, ck, rfl, by rw [hpf_nthH]; exact oL, L, rfl, mL, fL⟩)
def AnsW (T : List (List Int)) (x0 z : List Int) (v : Int) (ok : Bool) : Prop := (NoW T x0 z ∧ v = 0 ∧ ok = false) ∨ ∃ d : Nat, Dist T x0 z d ∧ v = d ∧ ok = true
theorem ansW_ex {T : List (List Int)} {x0 z : List Int} : ∃ v ok, AnsW T x0 z v ok := by
  by_cases h : NoW T x0 z
  · exact ⟨0, false, .inl ⟨h, rfl, rfl⟩⟩
  · have : ∃ w, Wd T x0 z w := Classical.byContradiction fun hn => h fun w hw => hn ⟨w, hw⟩
    obtain ⟨w, hw⟩ := this
    obtain ⟨d, hd, _⟩ := Dist.of hw
    exact ⟨d, true, .inr ⟨d, hd, rfl, rfl⟩⟩
theorem lkuP {P : Program} {F : Nat → AV} {hp : List HObj} {K : AV → List (Nat × HObj) → Prop} {n d i : Nat} {T : List (List Int)} {x0 z : List Int} {m ky : Opd} {v : Int} {ok : Bool} (hm : evF F m = .mp i) (hk : (evF F ky).val = some (rowV (pad z))) (ho : nthH hp i = some (.mpp (FarP n T x0))) (hz : z.length = n) (h6 : n ≤ 6)
    (ha : AnsW T x0 z v ok) (k : K (.tup [I v, B ok]) []) : (AOp.lku d (ksR 6) (I 0) true m ky).wp P F hp K := by
  have pz : (pad z).length = 6 := pad_len (by omega)
  refine ⟨_, [], ?_, k⟩
  simp only [AOp.sem, hm, hpf_of' ho]
  refine ⟨trivial, rowV (pad z), hk, row_self pz, trivial, ?_⟩
  rintro es clk ⟨L, rfl, mL, fL⟩
  rcases rcases_find (pad z) L with h | ⟨A, q, B', rfl, h2, h3⟩
  · refine .inr ⟨rfind_none pz mL.wid h, ?_⟩
    rcases ha with ⟨_, rfl, rfl⟩ | ⟨d, hd, _, _⟩
    · rfl
    · have := (fL.out z hz d).2 ⟨d, rfl, hd⟩
      rw [getR_none h] at this; cases this
  · refine .inl ⟨A.length, rowE q, ?_, rent_get, ?_⟩
    · have := rfind_some pz h2 (B := B') (i := 0) (fun r hr => mL.wid r (by simp [hr])) h3
      rw [Nat.zero_add] at this; exact this
    · have hg : getR (A ++ q :: B') (pad z) = some q.2.2 := getR_at h2 h3
      obtain ⟨d, e1, hd⟩ := (fL.out z hz _).1 hg
      rcases ha with ⟨nw, _⟩ | ⟨d', hd', rfl, rfl⟩
      · obtain ⟨⟨w, hw, _⟩, _⟩ := hd
        exact absurd hw (nw w)
      · have := hd.uniq hd'
        subst this
        show _ = AV.tup [I q.2.2, B true]
        rw [e1]
def AnsY (b : OB) (r x : List Int) (s : Nat) (a k : Int) (ok : Bool) : Prop := (NoW b.S r x ∧ a = 0 ∧ k = 0 ∧ ok = false) ∨
  ∃ d, Dist b.S r x d ∧ a = 2 ∧ ok = true ∧ ((¬ Dist (wtO b s).S r x d ∧ k = 2) ∨ (Dist (wtO b s).S r x d ∧ Over b.S r x d s ∧ k = 1) ∨ (Dist (wtO b s).S r x d ∧ ¬ Over b.S r x d s ∧ k = 0))
theorem rngP {P : Program} {hp : List HObj} {i : Nat} {Φ : List (Value × Nat × AV) → Nat → Prop} {K : AV → List (Nat × HObj) → Prop} (ho : nthH hp i = some (.mpp Φ)) (k : ∀ es clk, Φ es clk → K (.ref hp.length 0) [(i, .mp es clk), (hp.length, .it i clk [] clk)]) : RngX hp (.mp i) K := by
  simp only [RngX, ho]; exact k
theorem wt_word {b : OB} {s : Nat} : ∀ {w : List Nat} {r x : List Int}, Wd (wtO b s).S r x w → ∃ w', Wd b.S r x w' ∧ w'.length = w.length
  | [], r, x, h => ⟨[], ⟨by simp, h.2⟩, rfl⟩
  | t :: w, r, x, h => by
    obtain ⟨ht, h2⟩ := Wd.cons.1 h
    obtain ⟨w', h3, h4⟩ := wt_word h2
    have hm : (wtO b s).S.getD t [] ∈ b.S := by
      have : (wtO b s).S.getD t [] ∈ (wtO b s).S := getD_mem ht
      obtain ⟨q, hq, e⟩ := List.mem_map.1 this
      rw [← e]
      exact List.mem_map_of_mem (List.mem_of_mem_eraseIdx hq)
    obtain ⟨i, hi, e⟩ := mem_getD (d := []) hm
    exact ⟨i :: w', Wd.cons.2 ⟨hi, by rw [e]; exact h3⟩, by simp [h4]⟩
theorem wt_dist {b : OB} {s : Nat} {r x : List Int} {d d2 : Nat} (h1 : Dist b.S r x d) (h2 : Dist (wtO b s).S r x d2) : d ≤ d2 := by
  obtain ⟨⟨w, hw, rfl⟩, _⟩ := h2
  obtain ⟨w', a1, a2⟩ := wt_word hw
  rw [← a2]; exact h1.2 _ a1
theorem take_erase {l : List (Bool × List Int)} {i : Nat} (hi : i < l.length) (s : Nat) : (l.take (i + 1)).eraseIdx s = if i = s then (l.take i).eraseIdx s else (l.take i).eraseIdx s ++ [l[i]] := by
  have li : (l.take i).length = i := by rw [List.length_take]; omega
  rw [List.take_succ_eq_append_getElem hi, List.eraseIdx_append, li]
  have k1 : i ≤ s → (l.take i).eraseIdx s = l.take i := fun h => List.eraseIdx_of_length_le (by rw [li]; exact h)
  by_cases e : i = s
  · subst e
    rw [if_pos rfl, if_neg (Nat.lt_irrefl _), k1 (Nat.le_refl _), Nat.sub_self]
    simp
  · rw [if_neg e]
    by_cases h : s < i
    · rw [if_pos h]
    · have k2 : [l[i]].eraseIdx (s - i) = [l[i]] := List.eraseIdx_of_length_le (by simp; omega)
      rw [if_neg h, k1 (by omega), k2]
structure WayI (b : OB) (r x : List Int) (s d : Nat) (L : List R3) (Ss : List Nat) (k : Int) : Prop where
  zo : k = 0 ∨ k = 1
  one : k = 1 → Over b.S r x d s
  non : k = 0 → ∀ q ∈ L, q.2.1 ∈ Ss → ∀ y : List Int, y.length = r.length → q.1 = pad y → ∀ m m' : Nat, q.2.2 = m → Dist b.S (aft (b.S.getD s []) y) x m' → m + 1 + m' ≠ d
set_option maxHeartbeats 8000000 in
theorem d_ways_ok (g : Bool) {b : OB} {n : Nat} (hb : Okb b n) {r x : List Int} (hr : r.length = n) (hx : x.length = n) (hcr : ∀ y ∈ r, 0 ≤ y ∧ y ≤ 5) (hcx : ∀ y ∈ x, 0 ≤ y ∧ y ≤ 5) {s : Nat} (hs : s < b.s.length) {a k : Int} {ok : Bool} (ha : AnsY b r x s a k ok) :
    PureOK Try.prog n_d_ways [DK g b, .agg (rowC (pad r)), .agg (rowC (pad x)), I (s : Int)] (.tup [I a, I k, B ok]) := by
  have h6 := hb.hi
  have hmany := hb.many
  have hS := hb.pmS
  have pr : (pad r).length = 6 := pad_len (by omega)
  have px : (pad x).length = 6 := pad_len (by omega)
  have tr := take_row pr
  have tx := take_row px
  refine pure_of (walk func_d_ways form_d_ways res_d_ways (by show 4 ≤ _; decide) ?_)
  simp -implicitDefEqProofs (disch := omega) [G_d_ways, wrap_id, pr, px, tr, tx]
  refine pureW_map (ys := [DK g b, .agg (rowC (pad x)), stepV g b n_d_undone]) (ids := []) ?_ (d_far_map hb (step_undone g hb) hx hcx) ?_
  · simp only [purifyAll, row_pur]; rfl
  simp -implicitDefEqProofs (disch := omega) [wrap_id, pr, px, tr, tx]
  refine pureW_map (ys := [DK g b, .agg (rowC (pad r)), stepV g b n_d_drawn]) (ids := []) ?_ (d_far_map hb (step_drawn g hb) hr hcr) ?_
  · simp only [purifyAll, row_pur]; rfl
  simp -implicitDefEqProofs (disch := omega) [wrap_id, pr, px, tr, tx, cmp2, nthT]
  obtain ⟨v0, ok0, hv0⟩ := ansW_ex (T := b.S.map inv) (x0 := x) (z := r)
  refine lkuP (n := n) (i := 2) rfl row_valC rfl hr h6 hv0 ?_
  rcases ha with ⟨nw, rfl, rfl, rfl⟩ | ⟨d, hd, rfl, rfl, hk⟩
  · have : v0 = 0 ∧ ok0 = false := by
      rcases hv0 with ⟨_, h1, h2⟩ | ⟨d, hd, _⟩
      · exact ⟨h1, h2⟩
      · obtain ⟨⟨w, hw, _⟩, _⟩ := (Dist.rev_iff hS hr hx).1 hd
        exact absurd hw (nw w)
    obtain ⟨rfl, rfl⟩ := this
    simp -implicitDefEqProofs (disch := omega) [wrap_id]
    exact out_of (is := []) rfl
  · have : v0 = d ∧ ok0 = true := by
      rcases hv0 with ⟨nw, _⟩ | ⟨d', hd', h1, h2⟩
      · obtain ⟨⟨w, hw, _⟩, _⟩ := (Dist.rev_iff hS hr hx).2 hd
        exact absurd hw (nw w)
      · have := ((Dist.rev_iff hS hr hx).1 hd').uniq hd
        subst this; exact ⟨h1, h2⟩
    obtain ⟨rfl, rfl⟩ := this
    have dlt := far_lt hS hr h6 hcr hd
    simp -implicitDefEqProofs (disch := omega) [wrap_id, xx_rng]
    refine rngP (P := Try.prog) rfl fun es clk hL => ?_
    obtain ⟨L, rfl, mL, fL⟩ := hL
    simp -implicitDefEqProofs (disch := omega) [wrap_id]
    refine loop_eq (fun q : List Nat × Int × List HObj => ⟨[(0, DK g b), (3, I (s : Int)), (5, .ref 0 0), (6, .ref 1 0), (11, .mp 2), (13, I (d : Int)), (15, I q.2.1), (45, .ref 4 0)], q.2.2⟩)
      (fun q => nthH q.2.2 0 = some (.cells (rowC (pad r))) ∧ nthH q.2.2 1 = some (.cells (rowC (pad x))) ∧ nthH q.2.2 2 = some (.mpp (FarP n (b.S.map inv) x)) ∧ nthH q.2.2 3 = some (mpR L clk) ∧ nthH q.2.2 4 = some (.it 3 clk q.1 clk) ∧ WayI b r x s d L q.1 q.2.1) (fun q => unsR q.1 L)
      ([], 0, [.cells (rowC (pad r)), .cells (rowC (pad x)), .mpp (FarP n (b.S.map inv) x), .mp (L.map rowE) clk, .it 3 clk [] clk]) ⟨rfl, rfl, rfl, rfl, rfl, .inl rfl, fun h => (by simp only at h; omega), fun _ q _ h => by cases h⟩ rfl ?_
    rintro ⟨Ss, kd, H⟩ ⟨c0, c1, c2, c3, c4, wi⟩
    simp only at c0 c1 c2 c3 c4 wi ⊢
    refine hideK' fun K0 hK0 => ?_
    simp -implicitDefEqProofs (disch := omega) [wrap_id, xx_nxt]
    refine nxtR_of c4 c3 mL (fun hall => ?_) (fun e he hns => ?_)
    · have hov : kd = 1 ↔ Over b.S r x d s := by
        refine ⟨wi.one, fun ⟨y, m, m', h1, h2, h3⟩ => ?_⟩
        rcases wi.zo with h0 | h0
        · exfalso
          have ly := h1.lenT hS hr
          have hg := (fL.out y ly m).2 ⟨m, rfl, h1⟩
          obtain ⟨q, hq, e1, e2⟩ := getR_mem hg
          exact wi.non h0 q hq (hall q hq) y (by omega) e1 m m' e2 h2 h3
        · exact h0
      have kdz := wi.zo
      subst hK0
      simp -implicitDefEqProofs (disch := omega) [wrap_id]
      obtain ⟨f1, f2, f3⟩ := app_new (H := H) (o := .cells [I b.P, .sl true 0 []])
      have l4 := nthH_lt c4
      have c0 := (f1 0 (by omega)).trans c0
      have c1 := (f1 1 (by omega)).trans c1
      generalize hzz : H.length = zz at *
      generalize H ++ [HObj.cells [I b.P, AV.sl true 0 []]] = H1 at *
      refine loop_eq (fun q : Nat × AV × List HObj => ⟨[(3, I (s : Int)), (5, .ref 0 0), (6, .ref 1 0), (13, I (d : Int)), (15, I kd), (20, .ref zz 0), (79, LLs g b.s), (80, I (b.s.length : Int)), (81, I (q.1 : Int))], q.2.2⟩)
        (fun q => q.1 ≤ b.s.length ∧ nthH q.2.2 0 = some (.cells (rowC (pad r))) ∧ nthH q.2.2 1 = some (.cells (rowC (pad x))) ∧ nthH q.2.2 zz = some (.cells [I b.P, q.2.1]) ∧ AccG q.2.2 q.2.1 1 ((b.s.take q.1).eraseIdx s).length (llsC ((b.s.take q.1).eraseIdx s)) ∧ ∀ j, rid q.2.1 = some j → zz < j) (fun q => b.s.length - q.1)
        (0, .sl true 0 [], H1) ⟨Nat.zero_le _, c0, c1, f2, by simpa using AccG.nil, fun j h => by cases h⟩ rfl ?_
      clear f1 f2 f3 c0 c1 c2 c3 c4
      rintro ⟨i, y, H2⟩ ⟨e0, c0, c1, c2, e1, e2⟩
      simp only at e0 c0 c1 c2 e1 e2 ⊢
      refine hideK' fun K1 hK1 => ?_
      simp -implicitDefEqProofs (disch := omega) [wrap_id]
      refine c_split (fun hc => ?_) (fun hc => ?_)
      · have hi : i < b.s.length := by simpa using hc
        have ix : ((i : Int) + 1) = ((i + 1 : Nat) : Int) := by omega
        have te := take_erase hi s
        have lzz := nthH_lt c2
        simp -implicitDefEqProofs (disch := omega) [wrap_id, hi, cells_lls]
        by_cases his : i = s
        · have eb : ((i : Int) != (s : Int)) = false := by rw [bne_eq_false_iff_eq]; omega
          rw [if_pos his] at te
          simp -implicitDefEqProofs (disch := omega) [wrap_id, eb]
          rw [hK1]
          exact next_eq (i + 1, y, H2) ⟨by simp only; omega, c0, c1, c2, by simp only [te]; exact e1, e2⟩ (by simp only; omega) (by simp only [ix])
        · have eb : ((i : Int) != (s : Int)) = true := by rw [bne_iff_ne]; omega
          rw [if_neg his] at te
          simp -implicitDefEqProofs (disch := omega) [wrap_id, eb, c2]
          refine bsl_of (ys := [Ls b.s[i].1 b.s[i].2]) rfl rfl ?_
          simp -implicitDefEqProofs (disch := omega) [wrap_id, zrep]
          have kl : ((b.s.take i).eraseIdx s).length ≤ 6 := by
            have h1 := List.length_eraseIdx_le (b.s.take i) s
            have h2 := List.length_take_le i b.s
            omega
          refine app_accG (ys := [Ls b.s[i].1 b.s[i].2]) e1 (by omega) (by decide) rfl rfl fun ws w1 w2 w3 => ?_
          simp -implicitDefEqProofs (disch := omega) [wrap_id]
          have nr : ∀ j, j ≤ zz → rid y ≠ some j := fun j hj e => by have := e2 j e; omega
          have c0 := (w1 0 (by omega) (nr _ (by omega))).trans c0
          have c1 := (w1 1 (by omega) (nr _ (by omega))).trans c1
          have c2 := (w1 zz (by omega) (nr _ (by omega))).trans c2
          generalize writeL H2 ws = H3 at *
          have lz3 := nthH_lt c2
          simp -implicitDefEqProofs (disch := omega) [wrap_id, c2, lz3]
          rw [hK1]
          have n3 : ∀ j, j ≠ zz → nthH (H3.set zz (.cells [I b.P, .ms H2.length 0 (((b.s.take i).eraseIdx s).length + 1) 1])) j = nthH H3 j := fun j hj => nthH_set_ne (Ne.symm hj)
          refine next_eq (i + 1, .ms H2.length 0 (((b.s.take i).eraseIdx s).length + 1) 1, H3.set zz (.cells [I b.P, .ms H2.length 0 (((b.s.take i).eraseIdx s).length + 1) 1])) ⟨by simp only; omega, (n3 0 (by omega)).trans c0, (n3 1 (by omega)).trans c1, nthH_set_same lz3, ?_, fun j hj => by injection hj with hj; omega⟩ (by simp only; omega) (by simp only [ix])
          simp only
          rw [te, List.length_append, List.length_singleton]
          have el : llsC ((b.s.take i).eraseIdx s ++ [b.s[i]]) = llsC ((b.s.take i).eraseIdx s) ++ [Ls b.s[i].1 b.s[i].2] := by simp
          rw [el]
          exact w3.mono fun j hj => n3 j (by injection hj with hj; omega)
      · have hi : i = b.s.length := by simp at hc; omega
        subst hi
        rw [List.take_length] at e1
        subst hK1
        simp -implicitDefEqProofs (disch := omega) [wrap_id, c2]
        have hb2 := wtO_ok hb s
        obtain ⟨ids, hpu, hids⟩ := e1.pur
        obtain ⟨g2, hg2⟩ : ∃ g2, decide ((b.s.eraseIdx s).length = 0) = g2 := ⟨_, rfl⟩
        rw [hg2] at hpu
        have hp1 : purify1 (hpf H2) y = some (.sl g2 (b.s.eraseIdx s).length (llsC (b.s.eraseIdx s)), ids) := by
          rcases e1 with ⟨rfl, _⟩ | ⟨id, rfl, _⟩
          · exact hpu
          · exact hpu
        have hpa : purifyAll (hpf H2) [.agg [I b.P, y]] = some ([On g2 (wtO b s)], ids) := by
          simp only [purifyAll, purify, purifyL, hp1]
          simp [purify1, purify0, wtO]
        have lid : ∀ j ∈ ids, zz < j ∧ j < H2.length := fun j hj => ⟨e2 j (hids j hj).1, (hids j hj).2⟩
        refine callW_pure hpa (o_newDesk_ok g2 hb2) ?_
        have esc : (bif (DK g2 (wtO b s)).scalar then [] else gones ids) = gones ids := rfl
        rw [esc]
        have c0 : nthH (writeL H2 (gones ids)) 0 = some (.cells (rowC (pad r))) := (nthH_gone (fun j hj => (lid j hj).2) (fun hj => by have := (lid 0 hj).1; omega)).trans c0
        have c1 : nthH (writeL H2 (gones ids)) 1 = some (.cells (rowC (pad x))) := (nthH_gone (fun j hj => (lid j hj).2) (fun hj => by have := (lid 1 hj).1; omega)).trans c1
        generalize writeL H2 (gones ids) = H3 at *
        have l1 := nthH_lt c1
        obtain ⟨v2, ok2, hv2⟩ := ansW_ex (T := (wtO b s).S) (x0 := r) (z := x)
        obtain ⟨f1, f2, f3⟩ := app_new (H := H3) (o := .mpp (FarP n (wtO b s).S r))
        have k1 := (f1 1 (by omega)).trans c1
        simp -implicitDefEqProofs (disch := omega) [wrap_id, c0, c1, pr, px, tr, tx]
        refine pureW_map (ys := [DK g2 (wtO b s), .agg (rowC (pad r)), stepV g2 (wtO b s) n_d_drawn]) (ids := []) ?_ (d_far_map hb2 (step_drawn g2 hb2) hr hcr) ?_
        · simp only [purifyAll, row_pur]; rfl
        simp -implicitDefEqProofs (disch := omega) [wrap_id, k1, px, tx]
        refine lkuP (n := n) (i := H3.length) rfl row_valC f2 hx h6 hv2 ?_
        simp -implicitDefEqProofs (disch := omega) [wrap_id, cmp2, nthT]
        refine ⟨by omega, ?_⟩
        have kout : ∀ {hp : List HObj} {kk : Int}, kk = k → Out (.tup [I 2, I k, B true]) (.tup [I 2, I kk, B true]) hp := fun {hp kk} e => by
          subst e; exact out_of (is := []) rfl
        rcases hv2 with ⟨nw, rfl, rfl⟩ | ⟨d2, hd2, rfl, rfl⟩
        · have nd : ¬ Dist (wtO b s).S r x d := fun h => by
            obtain ⟨⟨w, hw, _⟩, _⟩ := h
            exact nw w hw
          have ek : k = 2 := by
            rcases hk with ⟨_, h⟩ | ⟨h, _⟩ | ⟨h, _⟩
            · exact h
            · exact absurd h nd
            · exact absurd h nd
          simp -implicitDefEqProofs (disch := omega) [wrap_id]
          exact kout ek.symm
        · have d2lt := far_lt hb2.pmS hr h6 hcr hd2
          have hle := wt_dist hd hd2
          by_cases hdd : d2 = d
          · subst hdd
            have eb : decide ((d2 : Int) < (d2 : Int)) = false := decide_eq_false (by omega)
            have ek : kd = k := by
              rcases hk with ⟨h, _⟩ | ⟨_, ho, h⟩ | ⟨_, ho, h⟩
              · exact absurd hd2 h
              · rw [h]; exact hov.2 ho
              · rw [h]
                rcases kdz with h0 | h0
                · exact h0
                · exact absurd (hov.1 h0) ho
            simp -implicitDefEqProofs (disch := omega) [wrap_id]
            exact kout ek
          · have eb : decide ((d : Int) < (d2 : Int)) = true := decide_eq_true (by omega)
            have nd : ¬ Dist (wtO b s).S r x d := fun h => hdd (hd2.uniq h)
            have ek : k = 2 := by
              rcases hk with ⟨_, h⟩ | ⟨h, _⟩ | ⟨h, _⟩
              · exact h
              · exact absurd h nd
              · exact absurd h nd
            have lt2 : d < d2 := by omega
            simp -implicitDefEqProofs (disch := omega) [wrap_id, lt2]
            exact kout ek.symm
    · obtain ⟨y, ly, ey⟩ := fL.ko e he
      have py : (pad y).length = 6 := pad_len (by omega)
      have ty := take_row py
      have lit := nthH_lt c4
      have ul := unsR_lt he hns
      have hge : getR L (pad y) = some e.2.2 := by rw [← ey]; exact getR_of mL.keys he
      obtain ⟨m, em, hm⟩ := (fL.out y ly _).1 hge
      have mlt := far_lt hS hr h6 hcr hm
      have i3 : nthH (H.set 4 (.it 3 clk (Ss ++ [e.2.1]) clk)) 4 = some (.it 3 clk (Ss ++ [e.2.1]) clk) := nthH_set_same lit
      have n3 : ∀ j, j ≠ 4 → nthH (H.set 4 (.it 3 clk (Ss ++ [e.2.1]) clk)) j = nthH H j := fun j hj => nthH_set_ne (Ne.symm hj)
      have c0 := (n3 0 (by omega)).trans c0
      have c1 := (n3 1 (by omega)).trans c1
      have c2 := (n3 2 (by omega)).trans c2
      have c3 := (n3 3 (by omega)).trans c3
      have lit5 : 4 < (H.set 4 (.it 3 clk (Ss ++ [e.2.1]) clk)).length := by rw [List.length_set]; exact lit
      simp -implicitDefEqProofs (disch := omega) [wrap_id, lit]
      generalize H.set 4 (.it 3 clk (Ss ++ [e.2.1]) clk) = H1 at *
      simp -implicitDefEqProofs (disch := omega) [wrap_id, xx_ent]
      refine entR_of (L := L) (clk := clk) (S := Ss) i3 c3 mL he ?_
      rw [ey, em]
      simp -implicitDefEqProofs (disch := omega) [wrap_id, py]
      obtain ⟨f1, f2, f3⟩ := app_new (H := H1) (o := .cells (rowC (pad y)))
      have c0 := (f1 0 (by omega)).trans c0
      have c1 := (f1 1 (by omega)).trans c1
      have c2 := (f1 2 (by omega)).trans c2
      have c3 := (f1 3 (by omega)).trans c3
      have i3 := (f1 4 (by omega)).trans i3
      generalize H1 ++ [HObj.cells (rowC (pad y))] = H2 at *
      simp -implicitDefEqProofs (disch := omega) [wrap_id, f2, py, ty]
      refine callW_pure dk_pur3 (d_drawn_ok g hb ly hs) ?_
      obtain ⟨z, hz⟩ : ∃ z, aft b.s[s].2 y = z := ⟨_, rfl⟩
      have hzS : aft (b.S.getD s []) y = z := by rw [S_getD hs]; exact hz
      have lz : z.length = n := by rw [← hz, aft_len]; exact (hb.at hs).len
      rw [hz]
      obtain ⟨v1, ok1, hv1⟩ := ansW_ex (T := b.S.map inv) (x0 := x) (z := z)
      simp -implicitDefEqProofs (disch := omega) [wrap_id]
      refine lkuP (n := n) (i := 2) rfl row_valC c2 lz h6 hv1 ?_
      have nxt : ∀ kd', WayI b r x s d L (Ss ++ [e.2.1]) kd' → K0 .normal ⟨[(0, DK g b), (3, I (s : Int)), (5, .ref 0 0), (6, .ref 1 0), (11, .mp 2), (13, I (d : Int)), (15, I kd'), (45, .ref 4 0)], H2⟩ := fun kd' hw => by
        rw [hK0]
        exact next_eq (Ss ++ [e.2.1], kd', H2) ⟨c0, c1, c2, c3, i3, hw⟩ ul rfl
      have nxtX : ∀ kd', WayI b r x s d L (Ss ++ [e.2.1]) kd' → K0 .normal ⟨[(0, DK g b), (3, I (s : Int)), (5, .ref 0 0), (6, .ref 1 0), (11, .mp 2), (13, I (d : Int)), (15, I kd'), (45, .ref 4 0), (68, B false)], H2⟩ := fun kd' hw => by
        rw [hK0]
        exact ⟨(Ss ++ [e.2.1], kd', H2), ⟨c0, c1, c2, c3, i3, hw⟩, ul, le_drop fun t => by simp only [get_cons, get_nil]; (repeat' split) <;> first | (exfalso; omega) | exact .inl rfl | exact .inr rfl⟩
      have same : (∀ m' : Nat, Dist b.S z x m' → m + 1 + m' ≠ d) → WayI b r x s d L (Ss ++ [e.2.1]) kd := fun hno => by
        refine ⟨wi.zo, wi.one, fun hk0 q hq hqs y' ly' ey' m1 m' em' hd' => ?_⟩
        rcases List.mem_append.1 hqs with hqs | hqs
        · exact wi.non hk0 q hq hqs y' ly' ey' m1 m' em' hd'
        · rw [List.mem_singleton] at hqs
          have : q = e := pw_inj (f := fun q : R3 => q.2.1) mL.brs hq he hqs
          subst this
          have e1 : y' = y := pad_inj (by omega) (ey'.symm.trans ey)
          have e2 : m1 = m := by omega
          subst e1; subst e2
          rw [hzS] at hd'
          exact hno m' hd'
      rcases hv1 with ⟨nw, rfl, rfl⟩ | ⟨d1, hd1, rfl, rfl⟩
      · simp -implicitDefEqProofs (disch := omega) [wrap_id]
        exact nxtX _ (same fun m' hm' => by
          obtain ⟨⟨w, hw, _⟩, _⟩ := (Dist.rev_iff hS lz hx).2 hm'
          exact absurd hw (nw w))
      · have d1lt := far_lt hS.inv hx h6 hcx hd1
        have hd1' := (Dist.rev_iff hS lz hx).1 hd1
        by_cases hh : m + 1 + d1 = d
        · have eb : (((m : Int) + 1 + d1) == (d : Int)) = true := by rw [beq_iff_eq]; omega
          simp -implicitDefEqProofs (disch := omega) [wrap_id, eb]
          refine nxt 1 ⟨.inr rfl, fun _ => ⟨y, m, d1, hm, by rw [hzS]; exact hd1', hh⟩, fun h => by omega⟩
        · have eb : (((m : Int) + 1 + d1) == (d : Int)) = false := by rw [beq_eq_false_iff_ne]; omega
          simp -implicitDefEqProofs (disch := omega) [wrap_id, eb]
          exact nxtX _ (same fun m' hm' => by have := hm'.uniq hd1'; omega)
end Go.AM

set_option linter.unusedSimpArgs false
set_option linter.unusedVariables false
namespace Go.AM
open Go.RowKit Go.Proofs
theorem dk_purR2k {hp : Hp} {g : Bool} {b : OB} {r x : List Int} {k : Int} : purifyAll hp [DK g b, .agg (rowC r), .agg (rowC x), I k] = some ([DK g b, .agg (rowC r), .agg (rowC x), I k], []) := by
  simp only [purifyAll, row_pur]; rfl
set_option maxHeartbeats 2000000 in
theorem o_Kind_ok (g f h : Bool) (b : OB) (hz : Sz12 b) (r x : List Int) (hr : r.length ≤ 1000000) (hx : x.length ≤ 1000000) (s : Int) {kd e : Int} (ha : AnsK b r x s kd e) : PureOK Try.prog n_o_Kind [On g b, Ls f r, Ls h x, I s] (.tup [I kd, I e]) := by
  have hm := hz.many
  refine pure_of (walk func_o_Kind form_o_Kind res_o_Kind (by show 4 ≤ _; decide) ?_)
  simp -implicitDefEqProofs (disch := omega) [G_o_Kind, wrap_id]
  refine bsl_of (ys := [Ls f r, Ls h x]) rfl rfl ?_
  simp -implicitDefEqProofs (disch := omega) [wrap_id, zrep]
  refine callW_pure (ys := [On g b, LLs true [(f, r), (h, x)]]) (ids := []) rfl (o_open_ok g true b hz [(f, r), (h, x)] (by simp) (by simp; exact ⟨hr, hx⟩)) ?_
  have eo := opnE_two (b := b) (f := f) (g := h) (r := r) (x := x)
  rcases ha with ⟨h0, rfl, rfl⟩ | ⟨h0, ha⟩
  · have h0' : (rwsE b r x != 0) = true := by simpa using h0
    rw [eo]
    simp -implicitDefEqProofs (disch := omega) [wrap_id, h0']
    exact tup_ii
  obtain ⟨n, hb, lr, lx, o1, o2⟩ := rws_ok h0
  have h6 := hb.hi
  have hmany := hb.many
  have eV : opnV g b [(f, r), (h, x)] = DK g b := by unfold opnV; rw [if_pos (by rw [eo]; exact h0)]
  have pr : (pad r).length = 6 := pad_len (by omega)
  have px : (pad x).length = 6 := pad_len (by omega)
  rw [eo, eV, h0]
  simp -implicitDefEqProofs (disch := omega) [wrap_id]
  refine bsl_of (ys := [I s]) rfl rfl ?_
  simp -implicitDefEqProofs (disch := omega) [wrap_id, zrep]
  refine callW_pure (ys := [I 0, I ((b.s.length : Int) - 1), Ls true [s]]) (ids := []) rfl (o_within_ok 0 ((b.s.length : Int) - 1) true [s] (by simp)) ?_
  have ew : allIn 0 ((b.s.length : Int) - 1) [s] = decide (0 ≤ s ∧ s < b.s.length) := by
    unfold allIn
    simp only [List.all_cons, List.all_nil, Bool.and_true]
    rw [Bool.eq_iff_iff, Bool.and_eq_true, decide_eq_true_iff, decide_eq_true_iff, decide_eq_true_iff]
    omega
  rw [ew]
  rcases ha with ⟨h1, rfl, rfl⟩ | ⟨h1, ha⟩
  · have e1 : decide (0 ≤ s ∧ s < b.s.length) = false := decide_eq_false h1
    rw [e1]
    simp -implicitDefEqProofs (disch := omega) [wrap_id]
    exact tup_ii
  have e1 : decide (0 ≤ s ∧ s < b.s.length) = true := decide_eq_true h1
  rw [e1]
  obtain ⟨t, rfl⟩ : ∃ t : Nat, s = t := ⟨s.toNat, by omega⟩
  have ht : t < b.s.length := by omega
  rw [Int.toNat_natCast] at ha
  simp -implicitDefEqProofs (disch := omega) [wrap_id]
  refine callW_pure rfl (o_rowOf_ok f (by omega)) ?_
  simp -implicitDefEqProofs (disch := omega) [wrap_id]
  refine callW_pure rfl (o_rowOf_ok h (by omega)) ?_
  simp -implicitDefEqProofs (disch := omega) [wrap_id]
  rcases ha with ⟨nw, rfl, rfl⟩ | ⟨d, hd, rfl, ha⟩
  · refine callW_pure dk_purR2k (d_ways_ok g hb lr lx (rowO_col o1) (rowO_col o2) ht (.inl ⟨nw, rfl, rfl, rfl⟩)) ?_
    simp -implicitDefEqProofs (disch := omega) [wrap_id]
    exact tup_ii
  · refine callW_pure dk_purR2k (d_ways_ok g hb lr lx (rowO_col o1) (rowO_col o2) ht (.inr ⟨d, hd, rfl, rfl, ha⟩)) ?_
    have hk : kd = 2 ∨ kd = 1 ∨ kd = 0 := by
      rcases ha with ⟨_, h⟩ | ⟨_, _, h⟩ | ⟨_, _, h⟩ <;> omega
    rcases hk with rfl | rfl | rfl
    · simp -implicitDefEqProofs (disch := omega) [wrap_id]
      exact tup_ii
    · simp -implicitDefEqProofs (disch := omega) [wrap_id]
      exact tup_ii
    · simp -implicitDefEqProofs (disch := omega) [wrap_id]
      exact tup_ii
end Go.AM

set_option linter.unusedSimpArgs false
set_option linter.unusedVariables false
namespace Go.AM
open Go.RowKit Go.Proofs
abbrev fl2 (Q : List (Nat × Nat)) : List AV := flat2 (Q.map inI)
def QuI (hp : List HObj) (x : AV) (Q : List (Nat × Nat)) : Prop := x = .sl true Q.length (fl2 Q) ∨ ∃ id off cs, x = .ms id off Q.length 2 ∧ nthH hp id = some (.cells cs) ∧ off + Q.length * 2 ≤ cs.length ∧ view cs off (Q.length * 2) = fl2 Q
theorem fl2_len {Q : List (Nat × Nat)} : (fl2 Q).length = Q.length * 2 := by rw [fl2, flat2_len, List.length_map]
theorem QuI.mono {hp H : List HObj} {x : AV} {Q : List (Nat × Nat)} (h : QuI hp x Q) (hk : ∀ i, rid x = some i → nthH H i = nthH hp i) : QuI H x Q := by
  rcases h with h | ⟨id, off, cs, rfl, h1, h2⟩
  · exact .inl h
  · exact .inr ⟨id, off, cs, rfl, (hk id rfl).trans h1, h2⟩
theorem QuI.lt {hp : List HObj} {x : AV} {Q : List (Nat × Nat)} (h : QuI hp x Q) {i : Nat} (hi : rid x = some i) : i < hp.length := by
  rcases h with rfl | ⟨id, off, cs, rfl, h1, h2⟩
  · cases hi
  · injection hi with hi; subst hi; exact nthH_lt h1
theorem QuI.lenW {hp : List HObj} {x : AV} {Q : List (Nat × Nat)} {K : AV → List (Nat × HObj) → Prop} (h : QuI hp x Q) : LenW x K = K (I Q.length) [] := by
  rcases h with rfl | ⟨id, off, cs, rfl, _⟩ <;> rfl
theorem QuI.slc {hp : List HObj} {x : AV} {p : Nat × Nat} {Q : List (Nat × Nat)} {K : AV → List (Nat × HObj) → Prop} (h : QuI hp x (p :: Q)) (k : ∀ x', QuI hp x' Q → (∀ i, rid x' = some i → rid x = some i) → K x' []) : SlcW 2 x (some (I 1)) none none K := by
  rcases h with rfl | ⟨id, off, cs, rfl, h1, h2, h3⟩
  · have e : view (fl2 (p :: Q)) (1 * 2) (((p :: Q).length - 1) * 2) = fl2 Q := by
      simp only [view, List.length_cons, Nat.add_sub_cancel]
      show List.take _ (List.drop 2 (I _ :: I _ :: fl2 Q)) = _
      rw [List.drop_succ_cons, List.drop_succ_cons, List.drop_zero]
      exact List.take_of_length_le (by rw [fl2_len]; exact Nat.le_refl _)
    refine ⟨.sl true Q.length (fl2 Q), [], ⟨1, (p :: Q).length, rfl, rfl, by simp, Nat.le_refl _, by rw [fl2_len], ?_, rfl⟩, k _ (.inl rfl) fun i h => by cases h⟩
    simp only
    rw [e]
    simp
  · refine ⟨.ms id (off + 1 * 2) Q.length 2, [], ⟨1, (p :: Q).length, rfl, rfl, by simp, Nat.le_refl _, rfl, trivial, by simp, rfl⟩, k _ (.inr ⟨id, off + 1 * 2, cs, rfl, h1, ?_, ?_⟩) fun i h => h⟩
    · simp only [List.length_cons] at h2; omega
    · have e : view cs (off + 1 * 2) (Q.length * 2) = List.drop 2 (view cs off ((p :: Q).length * 2)) := by
        simp only [view, List.length_cons]
        rw [List.drop_take, List.drop_drop]
        congr 1
        omega
      rw [e, h3]
      rfl
theorem QuI.app {hp : List HObj} {x : AV} {Q : List (Nat × Nat)} {z : Nat × Nat} {bytes : Nat} {g : Bool} {K : AV → List (Nat × HObj) → Prop} (h : QuI hp x Q) (hn : Q.length ≤ 100000) (hb : bytes ≤ 1000)
    (k : ∀ ws, (∀ i, i < hp.length → rid x ≠ some i → nthH (writeL hp ws) i = nthH hp i) → hp.length < (writeL hp ws).length → QuI (writeL hp ws) (.ms hp.length 0 (Q.length + 1) 2) (Q ++ [z]) → K (.ms hp.length 0 (Q.length + 1) 2) ws) :
    AppW hp 2 bytes x (.sl g 1 [I z.1, I z.2]) K := by
  have bd : (Q.length + 1) * bytes ≤ 140737488355328 := Nat.le_trans (Nat.mul_le_mul (show Q.length + 1 ≤ 100001 by omega) hb) (by decide)
  have ef : fl2 (Q ++ [z]) = fl2 Q ++ [I z.1, I z.2] := by simp [fl2, flat2, inI]
  have pc : ∀ Q : List (Nat × Nat), ((fl2 Q).all AV.isPC) = true := fun Q => by
    rw [List.all_eq_true]
    intro x hx
    obtain ⟨p, _, h⟩ := List.mem_flatMap.1 hx
    simp only [List.mem_cons, List.not_mem_nil, or_false] at h
    rcases h with rfl | rfl <;> rfl
  have fin : ∀ ws, nthH (writeL hp ws) hp.length = some (.cells (fl2 (Q ++ [z]))) → QuI (writeL hp ws) (.ms hp.length 0 (Q.length + 1) 2) (Q ++ [z]) := fun ws h => by
    refine .inr ⟨hp.length, 0, _, by simp, h, by rw [fl2_len]; omega, ?_⟩
    simp only [view, List.drop_zero]
    exact List.take_of_length_le (by rw [fl2_len]; exact Nat.le_refl _)
  rcases h with rfl | ⟨id, off, cs, rfl, h1, h2, h3⟩
  · rw [app_sl]
    have hn' : nthH (writeL hp [(hp.length, HObj.cells (fl2 Q ++ [I z.1, I z.2]))]) hp.length = some (.cells (fl2 (Q ++ [z]))) := by
      rw [nthH_writeL (by simp), ef]; simp [Hp.write, Hp.set_same]
    refine ⟨⟨rfl, rfl, rfl, by rw [fl2_len], bd, by omega, .inr (by omega)⟩, k _ (fun i hi _ => ?_) (nthH_lt hn') (fin _ hn')⟩
    rw [nthH_writeL (by simp), nthH_eq]; simp only [Hp.write]; rw [Hp.set_other _ _ (by omega)]; rfl
  · have hlt := nthH_lt h1
    rw [app_ms, h1, appr_some]
    have hn' : nthH (writeL hp [(id, HObj.gone), (hp.length, HObj.cells (fl2 Q ++ [I z.1, I z.2]))]) hp.length = some (.cells (fl2 (Q ++ [z]))) := by
      rw [nthH_writeL (by simp; omega), ef]
      simp only [Hp.write, Hp.set_same]
    rw [h3]
    refine ⟨⟨rfl, rfl, rfl, by omega, bd, by omega⟩, k _ (fun i hi hr => ?_) (nthH_lt hn') (fin _ hn')⟩
    rw [nthH_writeL (by simp; omega), nthH_eq]; simp only [Hp.write]
    rw [Hp.set_other _ _ (by omega), Hp.set_other _ _ (fun e => hr (by rw [e]; rfl))]; rfl
theorem QuI.first {P : Program} {E : HE} {os : List AOp} {d1 d2 : Nat} {fr : List (Nat × AV)} {KS : St → Prop} {hp : List HObj} {x : AV} {p : Nat × Nat} {Q : List (Nat × Nat)} (h : QuI hp x (p :: Q)) (k : ∀ r, aops P E os ⟨(d2, .agg [I (p.1 : Int), I (p.2 : Int)]) :: (d1, r) :: fr, hp⟩ KS) : IaW 2 x (I 0) (contA P E (.ld d2 true 2 (.t d1) :: os) (some d1) fr hp KS) := by
  rcases h with rfl | ⟨id, off, cs, rfl, h1, h2, h3⟩
  · have e : List.take 2 (fl2 (p :: Q)) = [I (p.1 : Int), I (p.2 : Int)] := rfl
    have l := fl2_len (Q := p :: Q)
    rw [List.length_cons] at l
    simp -implicitDefEqProofs (disch := omega) [wrap_id, e, l]
    have := k (.ptr (fl2 (p :: Q)) 0)
    exact ⟨by omega, this⟩
  · have e : List.take 2 (List.drop off cs) = [I (p.1 : Int), I (p.2 : Int)] := by
      have h4 := congrArg (List.take 2) h3
      simp only [view, List.take_take, List.length_cons] at h4
      rw [Nat.min_eq_left (by omega)] at h4
      rw [h4]; rfl
    rw [List.length_cons] at h2
    have := k (.ref id off)
    simp -implicitDefEqProofs (disch := omega) [wrap_id, h1, e]
    exact ⟨by omega, this⟩
theorem filt_map {α : Type} {f : Nat → α} {p : α → Bool} {n : Nat} : ∀ {m : Nat}, n ≤ m → (∀ k, n ≤ k → k < m → p (f k) = false) → ((List.range m).map f).filter p = ((List.range n).map f).filter p
  | 0, h, _ => by
    have : n = 0 := by omega
    subst this; rfl
  | m + 1, h, hp => by
    by_cases e : n = m + 1
    · subst e; rfl
    · rw [List.range_succ, List.map_append, List.filter_append, filt_map (m := m) (by omega) fun k h1 h2 => hp k h1 (by omega)]
      simp [hp m (by omega) (by omega)]
theorem filt_flat {α : Type} {f : Nat → List α} {p : α → Bool} {n : Nat} : ∀ {m : Nat}, n ≤ m → (∀ k, n ≤ k → k < m → (f k).filter p = []) → ((List.range m).flatMap f).filter p = ((List.range n).flatMap f).filter p
  | 0, h, _ => by
    have : n = 0 := by omega
    subst this; rfl
  | m + 1, h, hp => by
    by_cases e : n = m + 1
    · subst e; rfl
    · rw [List.range_succ, List.flatMap_append, List.filter_append, filt_flat (m := m) (by omega) fun k h1 h2 => hp k h1 (by omega)]
      simp only [List.flatMap_cons, List.flatMap_nil, List.append_nil]
      rw [hp m (by omega) (by omega), List.append_nil]
theorem prsL_six {n : Nat} (h6 : n ≤ 6) {p pm : Nat × Nat → Bool} (h1 : ∀ i k, i < 6 → k < 6 → pm (i, k) = true → i < n ∧ k < n) (h2 : ∀ i k, i < n → k < n → pm (i, k) = p (i, k)) : prsL (prsN 6) pm = prsL (prsN n) p := by
  unfold prsL
  congr 1
  have e1 : (prsN 6).filter pm = (prsN n).filter pm := by
    unfold prsN
    rw [filt_flat (n := n) h6 fun a ha ha6 => ?_]
    · have e : ∀ l : List Nat, (∀ a ∈ l, a < 6) → (l.flatMap fun i => (List.range 6).map fun k => (i, k)).filter pm = (l.flatMap fun i => (List.range n).map fun k => (i, k)).filter pm := fun l hl => by
        induction l with
        | nil => rfl
        | cons a l ih =>
          simp only [List.flatMap_cons, List.filter_append]
          rw [ih fun b hb => hl b (by simp [hb]), filt_map (n := n) h6 fun k hk hk6 => ?_]
          cases hpm : pm (a, k) with
          | false => rfl
          | true => have := (h1 a k (hl a (by simp)) hk6 hpm).2; omega
      exact e _ fun a ha => by have := List.mem_range.1 ha; omega
    · rw [List.filter_eq_nil_iff]
      intro x hx hpm
      obtain ⟨k, hk, rfl⟩ := List.mem_map.1 hx
      have := (h1 a k ha6 (List.mem_range.1 hk) hpm).1
      omega
  rw [e1]
  refine List.filter_congr fun x hx => ?_
  have := mem_prsN.1 hx
  exact h2 x.1 x.2 this.1 this.2
set_option maxHeartbeats 8000000 in
theorem d_pairs_ok (g : Bool) {b : OB} {n : Nat} (hb : Okb b n) {one two : Nat} (h1 : one < n) (h2 : two < n) {p : Nat × Nat → Bool} (hp : ∀ q : Nat × Nat, q.1 < n → q.2 < n → (p q = true ↔ Rch n b.S (one, two) q)) :
    PureOK Try.prog n_d_pairs [DK g b, I (one : Int), I (two : Int)] (Ps (prsL (prsN n) p).isEmpty (prsL (prsN n) p)) := by
  have h6 := hb.hi
  have hm := hb.many
  have hS := hb.pmS
  refine pure_of (walk func_d_pairs form_d_pairs res_d_pairs (by show 3 ≤ _; decide) ?_)
  unfold G_d_pairs
  rw [show ([I 0, I 0, I 0, I 0, I 0, I 0, I 0, I 0, I 0, I 0, I 0, I 0, I 0, I 0, I 0, I 0, I 0, I 0, I 0, I 0, I 0, I 0, I 0, I 0, I 0, I 0, I 0, I 0, I 0, I 0, I 0, I 0, I 0, I 0, I 0, I 0] : List AV) = rowC (List.replicate 36 0) from rfl]
  have in0 := PQO.init (S := b.S) (q := (one, two)) h6 ⟨h1, h2⟩
  have l36 : (List.replicate 36 (0 : Int)).length = 36 := by simp
  generalize List.replicate 36 (0 : Int) = M0 at l36 in0 ⊢
  have tM : List.take 36 (rowC M0) = rowC M0 := List.take_of_length_le (by simp [l36])
  have ec : one * 6 + two = 6 * one + two := by omega
  have l0 : 6 * one + two < M0.length := by omega
  simp -implicitDefEqProofs (disch := omega) [wrap_id, l36, ec, l0]
  rw [put_ls l0]
  refine ⟨by omega, by omega, by omega, ?_⟩
  refine bsl_of (ys := [.agg [I (one : Int), I (two : Int)]]) rfl rfl ?_
  simp -implicitDefEqProofs (disch := omega) [wrap_id, zrep]
  have c0 : 1 ≤ (M0.set (6 * one + two) 1).count 1 := by
    rw [Nat.one_le_iff_ne_zero, ← Nat.pos_iff_ne_zero, List.count_pos_iff]
    exact List.mem_iff_getElem.2 ⟨6 * one + two, by rw [List.length_set]; exact l0, by simp⟩
  refine loop_eq (fun q : List Int × List (Nat × Nat) × AV × List HObj => ⟨[(0, DK g b), (7, .ref 0 0), (8, q.2.2.1)], q.2.2.2⟩)
    (fun q => nthH q.2.2.2 0 = some (.cells (rowC q.1)) ∧ QuI q.2.2.2 q.2.2.1 q.2.1 ∧ (∀ i, rid q.2.2.1 = some i → 0 < i) ∧ PQO n b.S (one, two) q.1 q.2.1 ∧ q.2.1.length ≤ q.1.count 1) (fun q => 2 * (36 - q.1.count 1) + q.2.1.length)
    (M0.set (6 * one + two) 1, [(one, two)], .sl true 1 [I (one : Int), I (two : Int)], [.cells (rowC (M0.set (6 * one + two) 1))]) ⟨rfl, .inl rfl, fun i h => (by cases h), in0, c0⟩ (by simp) ?_
  clear in0 c0 tM l0 ec
  rintro ⟨M, Q, y, H⟩ ⟨c0, c1, c2, c3, c4⟩
  simp only at c0 c1 c2 c3 c4 ⊢
  refine hideK' fun K0 hK0 => ?_
  simp -implicitDefEqProofs (disch := omega) [wrap_id, c1.lenW]
  refine c_split (fun hc => ?_) (fun hc => ?_)
  · match Q, c1, c3, c4, hc, hK0 with
    | [], _, _, _, hc, _ => simp at hc
    | p0 :: Q, c1, c3, c4, _, hK0 =>
      simp -implicitDefEqProofs (disch := omega) [wrap_id]
      refine c1.first fun r => ?_
      simp -implicitDefEqProofs (disch := omega) [wrap_id]
      obtain ⟨f1, f2, f3⟩ := app_new (H := H) (o := .cells [I (p0.1 : Int), I (p0.2 : Int)])
      have l0 := nthH_lt c0
      have d0 := (f1 0 l0).trans c0
      have d1 : QuI (H ++ [.cells [I (p0.1 : Int), I (p0.2 : Int)]]) y (p0 :: Q) := c1.mono fun i hi => f1 i (c1.lt hi)
      have ylt : ∀ i, rid y = some i → i < H.length := fun i hi => c1.lt hi
      generalize hz : H.length = z at *
      generalize H ++ [HObj.cells [I (p0.1 : Int), I (p0.2 : Int)]] = H1 at *
      refine d1.slc fun y1 d2 d3 => ?_
      simp -implicitDefEqProofs (disch := omega) [wrap_id]
      have in1 := c3.pop
      rw [List.length_cons] at c4
      refine loop_eq (fun q : Nat × List Int × List (Nat × Nat) × AV × List HObj => ⟨[(0, DK g b), (7, .ref 0 0), (8, q.2.2.2.1), (9, .ref z 0), (38, I (b.s.length : Int)), (39, I (q.1 : Int))], q.2.2.2.2⟩)
        (fun q => q.1 ≤ b.s.length ∧ nthH q.2.2.2.2 0 = some (.cells (rowC q.2.1)) ∧ nthH q.2.2.2.2 z = some (.cells [I (p0.1 : Int), I (p0.2 : Int)]) ∧ QuI q.2.2.2.2 q.2.2.2.1 q.2.2.1 ∧ (∀ i, rid q.2.2.2.1 = some i → 0 < i ∧ i ≠ z) ∧ PQI n b.S (one, two) q.2.1 q.2.2.1 p0 q.1 ∧ q.2.2.1.length + 1 ≤ q.2.1.count 1 ∧
          2 * (36 - q.2.1.count 1) + q.2.2.1.length + 1 ≤ 2 * (36 - M.count 1) + (Q.length + 1)) (fun q => b.s.length - q.1)
        (0, M, Q, y1, H1) ⟨Nat.zero_le _, d0, f2, d2, fun i hi => ⟨c2 i (d3 i hi), by have := ylt i (d3 i hi); omega⟩, in1, c4, by simp only; omega⟩ rfl ?_
      rintro ⟨t, M1, Q1, y2, H2⟩ ⟨e0, e1, e2, e3, e4, e5, e6, e7⟩
      simp only at e0 e1 e2 e3 e4 e5 e6 e7 ⊢
      refine hideK' fun K1 hK1 => ?_
      simp -implicitDefEqProofs (disch := omega) [wrap_id]
      refine c_split (fun hc => ?_) (fun hc => ?_)
      · have ht : t < b.s.length := by simpa using hc
        have tx : ((t : Int) + 1) = ((t + 1 : Nat) : Int) := by omega
        have ps := hb.at ht
        have i1 : p0.1 < n := e5.pin.1
        have i2 : p0.2 < n := e5.pin.2.1
        have all6 : ∀ p ∈ b.s, (pad (inv p.2)).length = 6 := fun p hp => pad_len (by rw [inv_len, (hb.pm p hp).len]; exact h6)
        have g1 := bkF_at ht all6 (show p0.1 < 6 by omega)
        have g2 := bkF_at ht all6 (show p0.2 < 6 by omega)
        have li : (inv b.s[t].2).length = n := by rw [inv_len, ps.len]
        have v1 : (pad (inv b.s[t].2)).getD p0.1 0 = ((sg (inv b.s[t].2) p0.1 : Nat) : Int) := by
          rw [pad_getD (by omega), getD_I (by omega)]
          have := (inv_pm ps).rng _ (List.getElem_mem (show p0.1 < (inv b.s[t].2).length by omega))
          rw [sg_at (by omega)]; omega
        have v2 : (pad (inv b.s[t].2)).getD p0.2 0 = ((sg (inv b.s[t].2) p0.2 : Nat) : Int) := by
          rw [pad_getD (by omega), getD_I (by omega)]
          have := (inv_pm ps).rng _ (List.getElem_mem (show p0.2 < (inv b.s[t].2).length by omega))
          rw [sg_at (by omega)]; omega
        rw [v1] at g1
        rw [v2] at g2
        have z1 : sg (inv b.s[t].2) p0.1 < n := (inv_pm ps).sg_lt i1
        have z2 : sg (inv b.s[t].2) p0.2 < n := (inv_pm ps).sg_lt i2
        have tS : t < b.S.length := by rw [S_len]; exact ht
        have new := fun z hz => e5.new hS h6 tS (z := z) hz
        have same := e5.same
        rw [S_getD ht] at new same
        obtain ⟨za, hza⟩ : ∃ za, sg (inv b.s[t].2) p0.1 = za := ⟨_, rfl⟩
        obtain ⟨zb, hzb⟩ : ∃ zb, sg (inv b.s[t].2) p0.2 = zb := ⟨_, rfl⟩
        rw [hza] at g1 z1 new same
        rw [hzb] at g2 z2 new same
        have lM := e5.g.len
        simp -implicitDefEqProofs (disch := omega) [wrap_id, ht, e2, g1, g2]
        refine ⟨bkF_len all6, by omega, bkF_len all6, by omega, by have := nthH_lt e2; omega, by omega, by omega, ?_⟩
        obtain ⟨q1, q2, q3⟩ := app_new (H := H2) (o := .cells [I (za : Int), I (zb : Int)])
        have lz2 := nthH_lt e2
        have a0 := (q1 0 (by omega)).trans e1
        have a1 := (q1 z (by omega)).trans e2
        have a3 : QuI (H2 ++ [.cells [I (za : Int), I (zb : Int)]]) y2 Q1 := e3.mono fun i hi => q1 i (e3.lt hi)
        have y2lt : ∀ i, rid y2 = some i → i < H2.length := fun i hi => e3.lt hi
        generalize H2 ++ [HObj.cells [I (za : Int), I (zb : Int)]] = H3 at *
        have ec : za * 6 + zb = 6 * za + zb := by omega
        have lzz : 6 * za + zb < M1.length := by omega
        have gz := getD_I lzz
        rw [ec]
        have new := new (za, zb) rfl
        simp only at new
        have cle := count_le lM
        by_cases hmk : M1[6 * za + zb] = 1
        · have hb1 : (M1[6 * za + zb] == 0) = false := by rw [hmk]; rfl
          simp -implicitDefEqProofs (disch := omega) [wrap_id, a0, cells_ls, lzz, hb1, cmp2, nthT]
          rw [hK1]
          exact next_eq (t + 1, M1, Q1, y2, H3) ⟨by simp only; omega, a0, a1, a3, e4, same (by unfold Go.AM.mk; rw [gz]; exact hmk), e6, e7⟩ (by simp only; omega) (by simp only [tx])
        · have hz0 : M1[6 * za + zb] = 0 := by
            rcases e5.g.val _ (List.getElem_mem lzz) with h | h
            · exact h
            · exact absurd h hmk
          have cn := count_new lzz (by rw [gz]; exact hmk)
          have nw := new (by unfold Go.AM.mk; rw [gz]; exact hmk)
          simp -implicitDefEqProofs (disch := omega) [wrap_id, a0, cells_ls, lzz, hz0, cmp2, nthT, q2]
          refine ⟨by omega, by omega, by omega, ?_⟩
          rw [ec, put_ls lzz]
          have l30 := nthH_lt a0
          have s0 : nthH (H3.set 0 (.cells (rowC (M1.set (6 * za + zb) 1)))) 0 = some (.cells (rowC (M1.set (6 * za + zb) 1))) := nthH_set_same l30
          have n0 : ∀ i, i ≠ 0 → nthH (H3.set 0 (.cells (rowC (M1.set (6 * za + zb) 1)))) i = nthH H3 i := fun i hi => nthH_set_ne (Ne.symm hi)
          have sz := (n0 z (by omega)).trans a1
          have s2 := (n0 H2.length (by omega)).trans q2
          have s3 : QuI (H3.set 0 (.cells (rowC (M1.set (6 * za + zb) 1)))) y2 Q1 := a3.mono fun i hi => n0 i (by have := (e4 i hi).1; omega)
          have ls : (H3.set 0 (.cells (rowC (M1.set (6 * za + zb) 1)))).length = H3.length := by simp
          simp only [l30, if_true]
          generalize H3.set 0 (HObj.cells (rowC (M1.set (6 * za + zb) 1))) = H4 at *
          simp -implicitDefEqProofs (disch := omega) [wrap_id, s2]
          refine bsl_of (ys := [.agg [I (za : Int), I (zb : Int)]]) rfl rfl ?_
          simp -implicitDefEqProofs (disch := omega) [wrap_id, zrep]
          refine s3.app (z := (za, zb)) (by omega) (by decide) fun ws w1 w2 w3 => ?_
          simp -implicitDefEqProofs (disch := omega) [wrap_id]
          rw [hK1]
          have nr : ∀ j, j = 0 ∨ j = z → rid y2 ≠ some j := fun j hj e => by have := e4 j e; omega
          refine next_eq (t + 1, M1.set (6 * za + zb) 1, Q1 ++ [(za, zb)], .ms H4.length 0 (Q1.length + 1) 2, writeL H4 ws) ⟨by simp only; omega, (w1 0 (by omega) (nr 0 (.inl rfl))).trans s0, (w1 z (by omega) (nr z (.inr rfl))).trans sz, w3, fun i hi => by injection hi with hi; omega, nw, ?_, ?_⟩ (by simp only; omega) (by simp only [tx])
          · simp only [List.length_append, List.length_singleton]; omega
          · have cle2 := count_le (M := M1.set (6 * za + zb) 1) (by rw [List.length_set]; exact lM)
            simp only [List.length_append, List.length_singleton]; omega
      · have ht : t = b.s.length := by simp at hc; omega
        subst ht
        subst hK1
        simp -implicitDefEqProofs (disch := omega) [wrap_id]
        rw [hK0]
        rw [← S_len] at e5
        exact ⟨(M1, Q1, y2, H2), ⟨e1, e3, fun i hi => (e4 i hi).1, e5.fin, by simp only; omega⟩, by simp only [List.length_cons]; omega, le_drop fun t => by simp only [get_cons, get_nil]; (repeat' split) <;> first | (exfalso; omega) | exact .inl rfl | exact .inr rfl⟩
  · have hQ : Q = [] := by
      cases Q with
      | nil => rfl
      | cons p Q => simp at hc
    subst hQ
    have fin := fun i k hi hk => c3.fin hS h6 ⟨h1, h2⟩ (i := i) (k := k) hi hk
    have lM := c3.g.len
    obtain ⟨pm, hpm⟩ : ∃ pm : Nat × Nat → Bool, ∀ i k, pm (i, k) = decide (M.getD (6 * i + k) 0 = 1) := ⟨fun x => decide (M.getD (6 * x.1 + x.2) 0 = 1), fun i k => rfl⟩
    have e6 : prsL (prsN 6) pm = prsL (prsN n) p := by
      refine prsL_six h6 (fun i k hi hk h => ?_) fun i k hi hk => ?_
      · rw [hpm, decide_eq_true_iff] at h
        exact (c3.g.snd i k hi hk h).lt ⟨h1, h2⟩
      · rw [hpm, Bool.eq_iff_iff, decide_eq_true_iff, hp (i, k) hi hk]
        exact fin i k hi hk
    rw [← e6] at hK0
    subst hK0
    have tM : List.take 36 (rowC M) = rowC M := List.take_of_length_le (by simp [lM])
    simp -implicitDefEqProofs (disch := omega) [wrap_id, c0, lM, tM]
    refine loop_eq (fun q : Nat × AV × List HObj => ⟨[(12, q.2.1), (82, .agg (rowC M)), (83, I (q.1 : Int))], q.2.2⟩)
      (fun q => q.1 ≤ 6 ∧ AccP q.2.2 q.2.1 (prsL (prsTo 6 q.1 0) pm)) (fun q => 6 - q.1) (0, .sl true 0 [], H) ⟨by omega, AccG.nil⟩ rfl ?_
    rintro ⟨i, y3, H3⟩ ⟨d1, d2⟩
    simp only at d1 d2 ⊢
    refine hideK' fun K1 hK1 => ?_
    simp -implicitDefEqProofs (disch := omega) [wrap_id]
    refine c_split (fun hc => ?_) (fun hc => ?_)
    · have hi : i < 6 := by simp at hc; omega
      have ix : ((i : Int) + 1) = ((i + 1 : Nat) : Int) := by omega
      obtain ⟨R, hR⟩ : ∃ R, List.take 6 (List.drop (i * 6) M) = R := ⟨_, rfl⟩
      have vw : List.take 6 (List.drop (i * 6) (rowC M)) = rowC R := by
        rw [← hR]
        show List.take 6 (List.drop (i * 6) (M.map _)) = (List.take 6 (List.drop (i * 6) M)).map _
        rw [List.map_take, List.map_drop]
      have lR : R.length = 6 := by rw [← hR, List.length_take, List.length_drop, lM]; omega
      have gR : ∀ k, k < 6 → R.getD k 0 = M.getD (6 * i + k) 0 := fun k hk => by
        rw [← hR, List.getD_eq_getElem?_getD, List.getD_eq_getElem?_getD, List.getElem?_take, if_pos hk, List.getElem?_drop]
        congr 2; omega
      have tR := take_row lR
      have li : i * 6 + 6 ≤ (rowC M).length := by rw [List.length_map, lM]; omega
      obtain ⟨f1, f2, f3⟩ := app_new (H := H3) (o := .cells (rowC R))
      have d3 : AccP (H3 ++ [.cells (rowC R)]) y3 (prsL (prsTo 6 i 0) pm) := d2.mono fun j hj => f1 j (d2.lt hj)
      simp -implicitDefEqProofs (disch := omega) [wrap_id, vw, lR, lM]
      generalize H3 ++ [HObj.cells (rowC R)] = H4 at *
      refine ⟨by omega, by omega, ?_⟩
      rw [tR]
      have ek : eqK (true, [Leaf.int, Leaf.int, Leaf.int, Leaf.int, Leaf.int, Leaf.int]) (rowV R) (rowV (List.replicate 6 0)) = some (decide (R = List.replicate 6 0)) := eqK_row lR (by simp)
      rw [eqk_of (a := rowV R) (b := rowV (List.replicate 6 0)) row_valC rfl ek]
      by_cases hz : R = List.replicate 6 0
      · have er : prsL (prsTo 6 (i + 1) 0) pm = prsL (prsTo 6 i 0) pm := by
          rw [← prsTo_i]
          have : ∀ k, k ≤ 6 → prsL (prsTo 6 i k) pm = prsL (prsTo 6 i 0) pm := fun k => by
            induction k with
            | zero => intro _; rfl
            | succ k ih =>
              intro hk
              have hf : pm (i, k) = false := by
                rw [hpm, ← gR k (by omega), hz]
                have : (List.replicate 6 (0 : Int)).getD k 0 = 0 := by
                  rw [List.getD_eq_getElem?_getD, List.getElem?_replicate_of_lt (by omega)]; rfl
                rw [this]; rfl
              rw [prsTo_k, prsL_snoc, hf, ih (by omega)]
              simp
          exact this 6 (Nat.le_refl _)
        rw [decide_eq_true hz]
        simp -implicitDefEqProofs (disch := omega) [wrap_id]
        rw [hK1]
        exact next_eq (i + 1, y3, H4) ⟨by simp only; omega, by simp only [er]; exact d3⟩ (by simp only; omega) (by simp only [ix])
      · rw [decide_eq_false hz]
        simp -implicitDefEqProofs (disch := omega) [wrap_id, f2, lR, tR]
        refine loop_eq (fun q : Nat × AV × List HObj => ⟨[(12, q.2.1), (13, I (i : Int)), (82, .agg (rowC M)), (83, I (i : Int)), (90, .agg (rowC R)), (91, I (q.1 : Int))], q.2.2⟩)
          (fun q => q.1 ≤ 6 ∧ AccP q.2.2 q.2.1 (prsL (prsTo 6 i q.1) pm)) (fun q => 6 - q.1) (0, y3, H4) ⟨by omega, d3⟩ rfl ?_
        rintro ⟨k, y4, H5⟩ ⟨g1, g2⟩
        simp only at g1 g2 ⊢
        refine hideK' fun K2 hK2 => ?_
        simp -implicitDefEqProofs (disch := omega) [wrap_id]
        refine c_split (fun hc => ?_) (fun hc => ?_)
        · have hk : k < 6 := by simp at hc; omega
          have kx : ((k : Int) + 1) = ((k + 1 : Nat) : Int) := by omega
          have lk : k < R.length := by omega
          have gk := gR k hk
          rw [getD_I lk] at gk
          have en : prsL (prsTo 6 i (k + 1)) pm = prsL (prsTo 6 i k) pm ++ if pm (i, k) = true then [inI (i, k)] else [] := by rw [prsTo_k, prsL_snoc]
          simp -implicitDefEqProofs (disch := omega) [wrap_id, cells_ls, lk]
          refine ⟨by omega, ?_⟩
          rw [hpm, ← gk] at en
          by_cases h1k : R[k] = 1
          · have hb1 : (R[k] == 1) = true := by rw [h1k]; rfl
            rw [if_pos (decide_eq_true h1k)] at en
            rw [hb1]
            simp -implicitDefEqProofs (disch := omega) [wrap_id]
            refine bsl_of (ys := [.agg [I (i : Int), I (k : Int)]]) rfl rfl ?_
            simp -implicitDefEqProofs (disch := omega) [wrap_id, zrep]
            have pl := prsTo_le (n := 6) (i := i) (k := k) (Nat.le_refl 6) (by omega) (by omega) pm
            refine app_accG (ys := [I (i : Int), I (k : Int)]) g2 (by omega) (by decide) rfl rfl fun ws w1 w2 w3 => ?_
            simp -implicitDefEqProofs (disch := omega) [wrap_id]
            rw [hK2]
            refine next_eq (k + 1, .ms H5.length 0 ((prsL (prsTo 6 i k) pm).length + 1) 2, writeL H5 ws) ⟨by simp only; omega, ?_⟩ (by simp only; omega) (by simp only [kx])
            simp only [en]
            show AccG _ _ 2 (prsL (prsTo 6 i k) pm ++ [inI (i, k)]).length (flat2 (prsL (prsTo 6 i k) pm ++ [inI (i, k)]))
            rw [List.length_append, flat2_app]
            exact w3
          · have hb1 : (R[k] == 1) = false := by rw [beq_eq_false_iff_ne]; exact h1k
            rw [if_neg (by rw [decide_eq_true_iff]; exact h1k), List.append_nil] at en
            rw [hb1]
            simp -implicitDefEqProofs (disch := omega) [wrap_id]
            rw [hK2]
            exact next_eq (k + 1, y4, H5) ⟨by simp only; omega, by simp only [en]; exact g2⟩ (by simp only; omega) (by simp only [kx])
        · have hk : k = 6 := by simp at hc; omega
          subst hk
          rw [prsTo_i] at g2
          subst hK2
          simp -implicitDefEqProofs (disch := omega) [wrap_id]
          rw [hK1]
          exact next_eq (i + 1, y4, H5) ⟨by simp only; omega, g2⟩ (by simp only; omega) (by simp only [ix])
    · have hi : i = 6 := by simp at hc; omega
      subst hi
      subst hK1
      rw [prsTo_n] at d2
      simp -implicitDefEqProofs (disch := omega) [wrap_id]
      exact d2.out
end Go.AM

set_option linter.unusedSimpArgs false
set_option linter.unusedVariables false
namespace Go.AM
open Go.RowKit Go.Proofs
theorem opnE_nil {b : OB} : opnE b [] = chkO b := by
  unfold opnE
  by_cases h : chkO b ≠ 0
  · rw [if_pos h]
  · rw [if_neg h]
    simp only [List.all_nil, if_true]
    omega
theorem allIn_two {b : OB} {one two : Int} : (decide (one = two) || !(allIn 0 (b.P - 1) [one, two])) = !aplO b one two := by
  unfold aplO allIn
  simp only [List.all_cons, List.all_nil, Bool.and_true]
  rw [Bool.eq_iff_iff]
  simp only [Bool.or_eq_true, Bool.not_eq_true', Bool.and_eq_false_iff, decide_eq_true_eq, decide_eq_false_iff_not]
  omega
theorem d_pairs_ok' (g : Bool) {b : OB} {n : Nat} (hb : Okb b n) {one two : Int} (ha : aplO b one two = true) {pp : Nat × Nat → Nat × Nat → Bool} (hp : PPok b pp) : PureOK Try.prog n_d_pairs [DK g b, I one, I two] (Ps (prsV b one two pp).isEmpty (prsV b one two pp)) := by
  unfold aplO at ha
  have ha := of_decide_eq_true ha
  have hP := hb.P
  obtain ⟨x, rfl⟩ : ∃ x : Nat, one = x := ⟨one.toNat, by omega⟩
  obtain ⟨y, rfl⟩ : ∃ y : Nat, two = y := ⟨two.toNat, by omega⟩
  have eP : b.P.toNat = n := by omega
  unfold prsV
  rw [eP]
  exact d_pairs_ok g hb (by omega) (by omega) fun q h1 h2 => hp n hb (x, y) q (by simp only; omega) (by simp only; omega) h1 h2
set_option maxHeartbeats 2000000 in
theorem o_Pairs_ok (g : Bool) (b : OB) (hz : Sz12 b) (one two : Int) {pp : Nat × Nat → Nat × Nat → Bool} (hp : PPok b pp) : PureOK Try.prog n_o_Pairs [On g b, I one, I two] (.tup [Ps (prsA b one two pp).isEmpty (prsA b one two pp), I (prsE b one two)]) := by
  refine pure_of (walk func_o_Pairs form_o_Pairs res_o_Pairs (by show 3 ≤ _; decide) ?_)
  simp -implicitDefEqProofs (disch := omega) [G_o_Pairs, wrap_id]
  refine callW_pure (ys := [On g b, LLs true []]) (ids := []) rfl (o_open_ok g true b hz [] (by simp) (by simp)) ?_
  rw [opnE_nil]
  by_cases h0 : chkO b = 0
  · obtain ⟨n, hb⟩ := okb_of h0
    have hP := hb.P
    have h6 := hb.hi
    have h2 := hb.lo
    have eV : opnV g b [] = DK g b := by unfold opnV; rw [if_pos (by rw [opnE_nil]; exact h0)]
    rw [eV, h0]
    have ea := allIn_two (b := b) (one := one) (two := two)
    by_cases h12 : one = two
    · have ap : aplO b one two = false := by
        rw [decide_eq_true h12, Bool.true_or] at ea
        simpa using ea.symm
      have e1 : prsE b one two = 3 := by unfold prsE; rw [if_neg (by omega), ap]; rfl
      have e2 : prsA b one two pp = [] := by unfold prsA; rw [if_neg (by rw [e1]; decide)]
      have hb1 : (one == two) = true := by rw [beq_iff_eq]; exact h12
      rw [e1, e2]
      simp -implicitDefEqProofs (disch := omega) [wrap_id, hb1]
      exact out_of (is := []) rfl
    · have hb1 : (one == two) = false := by rw [beq_eq_false_iff_ne]; exact h12
      rw [decide_eq_false h12, Bool.false_or] at ea
      simp -implicitDefEqProofs (disch := omega) [wrap_id, hb1]
      refine bsl_of (ys := [I one, I two]) rfl rfl ?_
      simp -implicitDefEqProofs (disch := omega) [wrap_id, zrep]
      refine callW_pure (ys := [I 0, I (b.P - 1), Ls true [one, two]]) (ids := []) rfl (o_within_ok 0 (b.P - 1) true [one, two] (by simp)) ?_
      have ea' : allIn 0 (b.P - 1) [one, two] = aplO b one two := by
        have := congrArg (fun x => !x) ea
        simpa using this
      rw [ea']
      cases ap : aplO b one two with
      | true =>
        have e1 : prsE b one two = 0 := by unfold prsE; rw [if_neg (by omega), if_pos ap]
        have e2 : prsA b one two pp = prsV b one two pp := by unfold prsA; rw [if_pos e1]
        rw [e1, e2]
        simp -implicitDefEqProofs (disch := omega) [wrap_id]
        refine callW_pure rfl (d_pairs_ok' g hb ap hp) ?_
        simp -implicitDefEqProofs (disch := omega) [wrap_id]
        exact out_of (is := []) rfl
      | false =>
        have e1 : prsE b one two = 3 := by unfold prsE; rw [if_neg (by omega), ap]; rfl
        have e2 : prsA b one two pp = [] := by unfold prsA; rw [if_neg (by rw [e1]; decide)]
        rw [e1, e2]
        simp -implicitDefEqProofs (disch := omega) [wrap_id]
        exact out_of (is := []) rfl
  · have e1 : prsE b one two = chkO b := by unfold prsE; rw [if_pos h0]
    have e2 : prsA b one two pp = [] := by unfold prsA; rw [if_neg (by rw [e1]; exact h0)]
    have h0' : (chkO b != 0) = true := by simpa using h0
    rw [e1, e2]
    simp -implicitDefEqProofs (disch := omega) [wrap_id, h0']
    exact out_of (is := []) rfl
end Go.AM

set_option linter.unusedSimpArgs false
set_option linter.unusedVariables false
namespace Go.AM
open Go.RowKit Go.Proofs
set_option maxHeartbeats 2000000 in
theorem o_times_ok (f g : Bool) (c : List (Int × Int)) (r : List Int) (a d : Int) (hc : c.length ≤ 1000000) (hr : ∀ p ∈ c, 0 ≤ p.1 ∧ p.1 < r.length ∧ 0 ≤ p.2 ∧ p.2 < r.length) : PureOK Try.prog n_o_times [Ps f c, Ls g r, .agg [I a, I d]] (I (timS c r a d : Nat)) := by
  refine pure_of (walk func_o_times form_o_times res_o_times (by show 3 ≤ _; decide) ?_)
  simp -implicitDefEqProofs (disch := omega) [G_o_times, wrap_id]
  refine loop_eq (fun q : Nat × List HObj => ⟨[(1, Ls g r), (5, .ref 0 0), (7, I (((c.take q.1).countP (timP r a d) : Nat) : Int)), (10, Ps f c), (11, I (c.length : Int)), (12, I (q.1 : Int))], q.2⟩) (fun q => q.1 ≤ c.length ∧ nthH q.2 0 = some (.cells [I a, I d])) (fun q => c.length - q.1) (0, [.cells [I a, I d]]) ⟨Nat.zero_le _, rfl⟩ rfl ?_
  rintro ⟨i, H⟩ ⟨hi, h0⟩
  simp only at hi h0 ⊢
  refine hideK' fun K0 hK0 => ?_
  simp -implicitDefEqProofs (disch := omega) [wrap_id]
  refine c_split (fun h => ?_) (fun h => ?_)
  · have hi : i < c.length := by simp at h; omega
    have ix : ((i : Int) + 1) = ((i + 1 : Nat) : Int) := by omega
    have ct := countP_take (p := timP r a d) hi
    have cl : (c.take i).countP (timP r a d) ≤ i := Nat.le_trans List.countP_le_length (by rw [List.length_take]; omega)
    obtain ⟨b1, b2, b3, b4⟩ := hr c[i] (List.getElem_mem hi)
    obtain ⟨x, hx⟩ : ∃ x : Nat, c[i].1 = x := ⟨c[i].1.toNat, by omega⟩
    obtain ⟨y, hy⟩ : ∃ y : Nat, c[i].2 = y := ⟨c[i].2.toNat, by omega⟩
    have e0 : c[i] = ((x : Int), (y : Int)) := Prod.ext hx hy
    have x1 : x < r.length := by omega
    have y1 : y < r.length := by omega
    rw [e0] at ct
    simp only [timP, Int.toNat_natCast, getD_I x1, getD_I y1] at ct
    generalize hq : (c.take i).countP (timP r a d) = m at *
    have mx : ((m : Int) + 1) = ((m + 1 : Nat) : Int) := by omega
    have fl := flat2_len c
    have vw := flat2_view hi
    rw [e0] at vw
    simp only at vw
    have l0 := nthH_lt h0
    obtain ⟨f1, f2, f3⟩ := app_new (H := H) (o := .cells [I (x : Int), I (y : Int)])
    have k0 := (f1 0 l0).trans h0
    have ek : eqK (true, [Leaf.int, Leaf.int]) (rowV [r[x], r[y]]) (rowV [a, d]) = some (decide ([r[x], r[y]] = [a, d])) := eqK_row (n := 2) rfl rfl
    simp -implicitDefEqProofs (disch := omega) [wrap_id, hi, fl, vw, x1, y1, cells_ls, k0]
    refine ⟨by omega, ?_⟩
    rw [eqk_of (a := rowV [r[x], r[y]]) (b := rowV [a, d]) rfl rfl ek]
    generalize H ++ [HObj.cells [I (x : Int), I (y : Int)]] = H1 at *
    by_cases q1 : r[x] = a ∧ r[y] = d
    · have e1 : decide ([r[x], r[y]] = [a, d]) = true := decide_eq_true (by rw [q1.1, q1.2])
      rw [q1.1, q1.2] at ct
      simp only [decide_true, Bool.and_self, if_true] at ct
      rw [e1]
      simp -implicitDefEqProofs (disch := omega) [wrap_id, cmp2, nthT]
      rw [hK0]
      exact next_eq (i + 1, H1) ⟨by simp only; omega, k0⟩ (by simp only; omega) (by simp only [ix, mx, ct])
    · have e1 : decide ([r[x], r[y]] = [a, d]) = false := decide_eq_false (fun h => q1 (by simpa using h))
      have e2 : (decide (r[x] = a) && decide (r[y] = d)) = false := by
        rw [← Bool.decide_and]; exact decide_eq_false q1
      simp only [e2, Bool.false_eq_true, if_false, Nat.add_zero] at ct
      rw [e1]
      simp -implicitDefEqProofs (disch := omega) [wrap_id, cmp2, nthT]
      rw [hK0]
      exact next_eq (i + 1, H1) ⟨by simp only; omega, k0⟩ (by simp only; omega) (by simp only [ix, ct])
  · have hi : i = c.length := by simp at h; omega
    subst hi
    subst hK0
    simp -implicitDefEqProofs (disch := omega) [wrap_id, timS]
end Go.AM

set_option linter.unusedSimpArgs false
set_option linter.unusedVariables false
namespace Go.AM
open Go.RowKit Go.Proofs
set_option maxHeartbeats 4000000 in
theorem o_CheckPair_ok (g f h : Bool) (b : OB) (hz : Sz12 b) (r x : List Int) (hr : r.length ≤ 1000000) (hx : x.length ≤ 1000000) (one two c d : Int) {pp : Nat × Nat → Nat × Nat → Bool} (hp : PPok b pp) :
    PureOK Try.prog n_o_CheckPair [On g b, Ls f r, Ls h x, Pt one two c d] (I (ckpE b r x one two c d pp)) := by
  refine pure_of (walk func_o_CheckPair form_o_CheckPair res_o_CheckPair (by show 4 ≤ _; decide) ?_)
  simp -implicitDefEqProofs (disch := omega) [G_o_CheckPair, wrap_id]
  refine bsl_of (ys := [Ls f r, Ls h x]) rfl rfl ?_
  simp -implicitDefEqProofs (disch := omega) [wrap_id, zrep]
  refine callW_pure (ys := [On g b, LLs true [(f, r), (h, x)]]) (ids := []) rfl (o_open_ok g true b hz [(f, r), (h, x)] (by simp) (by simp; exact ⟨hr, hx⟩)) ?_
  have eo := opnE_two (b := b) (f := f) (g := h) (r := r) (x := x)
  by_cases h0 : rwsE b r x = 0
  · obtain ⟨n, hb, lr, lx, o1, o2⟩ := rws_ok h0
    have h6 := hb.hi
    have hP := hb.P
    have eV : opnV g b [(f, r), (h, x)] = DK g b := by unfold opnV; rw [if_pos (by rw [eo]; exact h0)]
    rw [eo, eV, h0]
    have ea := allIn_two (b := b) (one := one) (two := two)
    have bad : aplO b one two = false → ckpE b r x one two c d pp = 3 := fun hc => by unfold ckpE; rw [if_neg (by omega), if_pos (.inl hc)]
    by_cases h12 : one = two
    · have ap : aplO b one two = false := by
        rw [decide_eq_true h12, Bool.true_or] at ea
        simpa using ea.symm
      have hb1 : (one == two) = true := by rw [beq_iff_eq]; exact h12
      rw [bad ap]
      simp -implicitDefEqProofs (disch := omega) [wrap_id, hb1, cmp2, nthT]
    · have hb1 : (one == two) = false := by rw [beq_eq_false_iff_ne]; exact h12
      rw [decide_eq_false h12, Bool.false_or] at ea
      have ea' : allIn 0 (b.P - 1) [one, two] = aplO b one two := by
        have := congrArg (fun x => !x) ea
        simpa using this
      simp -implicitDefEqProofs (disch := omega) [wrap_id, hb1, cmp2, nthT]
      refine bsl_of (ys := [I one, I two]) rfl rfl ?_
      simp -implicitDefEqProofs (disch := omega) [wrap_id, zrep]
      refine callW_pure (ys := [I 0, I (b.P - 1), Ls true [one, two]]) (ids := []) rfl (o_within_ok 0 (b.P - 1) true [one, two] (by simp)) ?_
      rw [ea']
      cases ap : aplO b one two with
      | false =>
        rw [bad ap]
        simp -implicitDefEqProofs (disch := omega) [wrap_id]
      | true =>
        simp -implicitDefEqProofs (disch := omega) [wrap_id]
        refine slp_of (id := 1) (off := 2) (cs := [I one, I two, I c, I d]) rfl rfl (by simp) ?_
        simp -implicitDefEqProofs (disch := omega) [wrap_id]
        refine callW_pure (ys := [I 0, I 5, Ls false [c, d]]) (ids := [1]) ?_ (o_within_ok 0 5 false [c, d] (by simp)) ?_
        · simp only [purifyAll, purify, purify1, purify0, hpf_nthH]
          rfl
        have ec : allIn 0 5 [c, d] = colO c d := by
          unfold allIn colO
          simp only [List.all_cons, List.all_nil, Bool.and_true]
          rw [Bool.eq_iff_iff]
          simp only [Bool.and_eq_true, decide_eq_true_eq]
          omega
        rw [ec]
        cases hc : colO c d with
        | false =>
          have e : ckpE b r x one two c d pp = 3 := by unfold ckpE; rw [if_neg (by omega), if_pos (.inr hc)]
          rw [e]
          simp -implicitDefEqProofs (disch := omega) [wrap_id]
        | true =>
          have pl := prsV_len hb (one := one) (two := two) (pp := pp)
          have pr := prsV_rng hb (one := one) (two := two) (pp := pp)
          simp -implicitDefEqProofs (disch := omega) [wrap_id]
          refine callW_pure rfl (d_pairs_ok' g hb ap hp) ?_
          simp -implicitDefEqProofs (disch := omega) [wrap_id]
          refine pureW_of rfl (o_times_ok _ f (prsV b one two pp) r c d (by omega) (by rw [lr]; exact pr)) ?_
          simp -implicitDefEqProofs (disch := omega) [wrap_id]
          refine pureW_of rfl (o_times_ok _ h (prsV b one two pp) x c d (by omega) (by rw [lx]; exact pr)) ?_
          have e : ckpE b r x one two c d pp = if timS (prsV b one two pp) r c d = timS (prsV b one two pp) x c d then 14 else 0 := by unfold ckpE; rw [if_neg (by omega), if_neg (by simp [ap, hc])]
          rw [e]
          by_cases ht : timS (prsV b one two pp) r c d = timS (prsV b one two pp) x c d
          · simp -implicitDefEqProofs (disch := omega) [wrap_id, cmp2, nthT, ht]
          · have ht' : (((timS (prsV b one two pp) r c d : Nat) : Int) == ((timS (prsV b one two pp) x c d : Nat) : Int)) = false := by simp only [beq_eq_false_iff_ne, ne_eq]; omega
            simp -implicitDefEqProofs (disch := omega) [wrap_id, cmp2, nthT, ht, ht']
  · have e1 : ckpE b r x one two c d pp = rwsE b r x := by unfold ckpE; rw [if_pos h0]
    have h0' : (rwsE b r x != 0) = true := by simpa using h0
    rw [eo, e1]
    simp -implicitDefEqProofs (disch := omega) [wrap_id, h0', cmp2, nthT]
end Go.AM

set_option linter.unusedSimpArgs false
set_option linter.unusedVariables false
namespace Go.AM
open Go.RowKit Go.Proofs
def fst4 (Fr : Int → List Int) : List Int → List Int
  | [] => [0, 0, 0, 0]
  | v :: l => if Fr v = [0, 0, 0, 0] then fst4 Fr l else Fr v
theorem fst4_drop {Fr : Int → List Int} {l : List Int} {i : Nat} (h : i < l.length) : fst4 Fr (l.drop i) = if Fr l[i] = [0, 0, 0, 0] then fst4 Fr (l.drop (i + 1)) else Fr l[i] := by
  rw [List.drop_eq_getElem_cons h]; rfl
set_option maxHeartbeats 2000000 in
theorem o_first_w {f : Bool} {l : List Int} {fid : Nat} {caps : List AV} (Fr : Int → List Int) (hFr : ∀ v ∈ l, (Fr v).length = 4) (hfn : funOK Try.prog fid = true) (hl : l.length ≤ 1000) {hp : List HObj} {K : AV → List HObj → Prop}
    (hcall : ∀ v ∈ l, ∀ H, hp.length ≤ H.length → (∀ j, j < hp.length → nthH H j = nthH hp j) → ∀ KK : AV → List HObj → Prop, (∀ H', H.length ≤ H'.length → (∀ j, j < H.length → nthH H' j = nthH H j) → KK (.agg (rowC (Fr v))) H') → CallW Try.prog fid (I v :: caps) H KK)
    (hK : ∀ H', hp.length ≤ H'.length → (∀ j, j < hp.length → nthH H' j = nthH hp j) → K (.agg (rowC (fst4 Fr l))) H') :
    CallW Try.prog n_o_first [Ls f l, .fn (.func fid) [] caps] hp K := by
  refine callW_of func_o_first form_o_first resc_o_first (by show 2 ≤ _; decide) ?_
  simp -implicitDefEqProofs (disch := omega) [G_o_first, wrap_id]
  obtain ⟨z, hz⟩ : ∃ z, hp.length = z := ⟨_, rfl⟩
  have zz : ([I 0, I 0, I 0, I 0] : List AV) = rowC [0, 0, 0, 0] := rfl
  have g0 : ∀ j, j < hp.length → nthH (hp ++ [HObj.cells [I 0, I 0, I 0, I 0], HObj.cells [I 0, I 0, I 0, I 0]]) j = nthH hp j := fun j hj => nthH_front hj
  have g1 : nthH (hp ++ [HObj.cells [I 0, I 0, I 0, I 0], HObj.cells [I 0, I 0, I 0, I 0]]) hp.length = some (.cells [I 0, I 0, I 0, I 0]) := by
    rw [nthH_eq, List.getElem?_append_right (Nat.le_refl _)]; simp
  have g2 : nthH (hp ++ [HObj.cells [I 0, I 0, I 0, I 0], HObj.cells [I 0, I 0, I 0, I 0]]) (hp.length + 1) = some (.cells [I 0, I 0, I 0, I 0]) := by
    rw [nthH_eq, List.getElem?_append_right (by omega)]; simp
  have g3 : hp.length + 2 ≤ (hp ++ [HObj.cells [I 0, I 0, I 0, I 0], HObj.cells [I 0, I 0, I 0, I 0]]).length := by simp
  refine loop_eq (fun q : Nat × List HObj => ⟨[(1, .fn (.func fid) [] caps), (4, .ref hp.length 0), (5, .ref (hp.length + 1) 0), (9, Ls f l), (10, I (l.length : Int)), (11, I (q.1 : Int))], q.2⟩)
    (fun q => q.1 ≤ l.length ∧ hp.length + 2 ≤ q.2.length ∧ (∀ j, j < hp.length → nthH q.2 j = nthH hp j) ∧ nthH q.2 hp.length = some (.cells [I 0, I 0, I 0, I 0]) ∧ nthH q.2 (hp.length + 1) = some (.cells [I 0, I 0, I 0, I 0]) ∧ fst4 Fr l = fst4 Fr (l.drop q.1)) (fun q => l.length - q.1)
    (0, _) ⟨Nat.zero_le _, g3, g0, g1, g2, rfl⟩ rfl ?_
  clear g0 g1 g2 g3
  rintro ⟨i, H⟩ ⟨c0, c1, c2, c3, c4, c5⟩
  simp only at c0 c1 c2 c3 c4 c5 ⊢
  refine hideK' fun K0 hK0 => ?_
  simp -implicitDefEqProofs (disch := omega) [wrap_id]
  refine c_split (fun hc => ?_) (fun hc => ?_)
  · have hi : i < l.length := by simpa using hc
    have ix : ((i : Int) + 1) = ((i + 1 : Nat) : Int) := by omega
    have hm := List.getElem_mem hi
    have l4 := hFr _ hm
    have st := fst4_drop (Fr := Fr) hi
    simp -implicitDefEqProofs (disch := omega) [wrap_id, hi, cells_ls]
    refine ⟨hfn, hcall _ hm H (by omega) c2 _ fun H' q1 q2 => ?_⟩
    have c3 := (q2 hp.length (by omega)).trans c3
    have c4 := (q2 (hp.length + 1) (by omega)).trans c4
    have c2 : ∀ j, j < hp.length → nthH H' j = nthH hp j := fun j hj => (q2 j (by omega)).trans (c2 j hj)
    obtain ⟨f1, f2, f3⟩ := app_new (H := H') (o := .cells (rowC (Fr l[i])))
    have c3 := (f1 hp.length (by omega)).trans c3
    have c4 := (f1 (hp.length + 1) (by omega)).trans c4
    have c2 : ∀ j, j < hp.length → nthH (H' ++ [.cells (rowC (Fr l[i]))]) j = nthH hp j := fun j hj => (f1 j (by omega)).trans (c2 j hj)
    have t4 : List.take 4 (rowC (Fr l[i])) = rowC (Fr l[i]) := List.take_of_length_le (by simp [l4])
    have ek : eqK (true, [Leaf.int, Leaf.int, Leaf.int, Leaf.int]) (rowV (Fr l[i])) (rowV [0, 0, 0, 0]) = some (decide (Fr l[i] = [0, 0, 0, 0])) := eqK_row (n := 4) l4 rfl
    simp -implicitDefEqProofs (disch := omega) [wrap_id, l4]
    generalize H' ++ [HObj.cells (rowC (Fr l[i]))] = H2 at *
    simp -implicitDefEqProofs (disch := omega) [wrap_id, f2, c4, l4, t4]
    rw [eqk_of (neg := true) (a := rowV (Fr l[i])) (b := rowV [0, 0, 0, 0]) row_valC rfl ek]
    by_cases h0 : Fr l[i] = [0, 0, 0, 0]
    · rw [if_pos h0] at st
      rw [decide_eq_true h0]
      simp -implicitDefEqProofs (disch := omega) [wrap_id]
      rw [hK0]
      exact next_eq (i + 1, H2) ⟨by simp only; omega, by simp only; omega, c2, c3, c4, c5.trans st⟩ (by simp only; omega) (by simp only [ix])
    · rw [if_neg h0] at st
      rw [decide_eq_false h0]
      have lz := nthH_lt c3
      have d4 : List.drop 4 ([I 0, I 0, I 0, I 0] : List AV) = [] := rfl
      subst hK0
      simp -implicitDefEqProofs (disch := omega) [wrap_id, f2, c3, l4, t4, lz, d4]
      refine retC_agg (id := hp.length) (off := 0) (cs := rowC (Fr l[i])) rfl (nthH_set_same lz) (by simp [l4]) ?_
      have vw : view (rowC (Fr l[i])) 0 4 = rowC (Fr l[i]) := by
        simp only [view, List.drop_zero]; exact t4
      rw [vw, ← st, ← c5]
      exact hK _ (by rw [List.length_set]; omega) fun j hj => (nthH_set_ne (by omega)).trans (c2 j hj)
  · have hi : i = l.length := by simp at hc; omega
    subst hi
    subst hK0
    rw [List.drop_length] at c5
    have lz := nthH_lt c3
    simp -implicitDefEqProofs (disch := omega) [wrap_id, c4, c3, lz]
    refine retC_agg (id := hp.length) (off := 0) (cs := [I 0, I 0, I 0, I 0]) rfl (nthH_set_same lz) (by simp) ?_
    have e : fst4 Fr [] = [0, 0, 0, 0] := rfl
    have := hK (H.set hp.length (.cells [I 0, I 0, I 0, I 0])) (by rw [List.length_set]; omega) fun j hj => (nthH_set_ne (by omega)).trans (c2 j hj)
    rw [c5, e] at this
    exact this
end Go.AM

set_option linter.unusedSimpArgs false
set_option linter.unusedVariables false
namespace Go.AM
open Go.RowKit Go.Proofs
def Fr2 (b : OB) (r x : List Int) (pp : Nat × Nat → Nat × Nat → Bool) (i : Nat) (v : Int) : List Int := match (List.range 36).find? (fun c => tstO b r x pp (i, v.toNat, c)) with
  | some c => [(i : Int), v, ((c / 6 : Nat) : Int), ((c % 6 : Nat) : Int)]
  | none => [0, 0, 0, 0]
theorem Fr2_len {b : OB} {r x : List Int} {pp : Nat × Nat → Nat × Nat → Bool} {i : Nat} {v : Int} : (Fr2 b r x pp i v).length = 4 := by
  unfold Fr2; split <;> rfl
structure BoxP (g f h : Bool) (b : OB) (r x : List Int) (a2 a3 a4 a5 : Nat) (hp : List HObj) : Prop where
  z : nthH hp a2 = some (.cells [I 0, I 0, I 0, I 0])
  d : nthH hp a3 = some (.cells [DK g b])
  r : nthH hp a4 = some (.cells [Ls f r])
  x : nthH hp a5 = some (.cells [Ls h x])
theorem BoxP.mono {g f h : Bool} {b : OB} {r x : List Int} {a2 a3 a4 a5 : Nat} {hp H : List HObj} (hb : BoxP g f h b r x a2 a3 a4 a5 hp) (hk : ∀ j, j < hp.length → nthH H j = nthH hp j) : BoxP g f h b r x a2 a3 a4 a5 H :=
  ⟨(hk _ (nthH_lt hb.z)).trans hb.z, (hk _ (nthH_lt hb.d)).trans hb.d, (hk _ (nthH_lt hb.r)).trans hb.r, (hk _ (nthH_lt hb.x)).trans hb.x⟩
set_option maxHeartbeats 4000000 in
theorem o_Pair_1_1_w {g f h : Bool} {b : OB} {n : Nat} (hb : Okb b n) {r x : List Int} (lr : r.length = n) (lx : x.length = n) {pp : Nat × Nat → Nat × Nat → Bool} (hp : PPok b pp) {i k : Nat} (hi : i < n) (hk : k < n) {a1 a2 a3 a4 a5 : Nat} {H0 : List HObj} (b1 : nthH H0 a1 = some (.cells [I (i : Int)])) (bx : BoxP g f h b r x a2 a3 a4 a5 H0) {K : AV → List HObj → Prop}
    (hK : ∀ H', H0.length ≤ H'.length → (∀ j, j < H0.length → nthH H' j = nthH H0 j) → K (.agg (rowC (Fr2 b r x pp i (k : Int)))) H') :
    CallW Try.prog n_o_Pair_1_1 [I (k : Int), .ref a1 0, .ref a2 0, .ref a3 0, .ref a4 0, .ref a5 0] H0 K := by
  have hP := hb.P
  have h6 := hb.hi
  refine callW_of func_o_Pair_1_1 form_o_Pair_1_1 resc_o_Pair_1_1 (by show 6 ≤ _; decide) ?_
  simp -implicitDefEqProofs (disch := omega) [G_o_Pair_1_1, wrap_id]
  obtain ⟨f1, f2, f3⟩ := app_new (H := H0) (o := .cells [I 0, I 0, I 0, I 0])
  have c1 := (f1 a1 (nthH_lt b1)).trans b1
  have cb := bx.mono f1
  generalize H0 ++ [HObj.cells [I 0, I 0, I 0, I 0]] = H1 at *
  simp -implicitDefEqProofs (disch := omega) [wrap_id, c1]
  by_cases hik : i = k
  · subst hik
    have e : Fr2 b r x pp i (i : Int) = [0, 0, 0, 0] := by
      unfold Fr2
      have : (List.range 36).find? (fun c => tstO b r x pp (i, (i : Int).toNat, c)) = none := by
        rw [List.find?_eq_none]
        intro c _
        simp [tstO]
      rw [this]
    rw [e] at hK
    have lz := nthH_lt f2
    simp -implicitDefEqProofs (disch := omega) [wrap_id, cb.z, f2, lz]
    refine retC_agg (id := H0.length) (off := 0) (cs := [I 0, I 0, I 0, I 0]) rfl (nthH_set_same lz) (by simp) ?_
    exact hK (H1.set H0.length (.cells [I 0, I 0, I 0, I 0])) (by rw [List.length_set]; omega) fun j hj => (nthH_set_ne (by omega)).trans (f1 j hj)
  · have hne : ((i : Int) == (k : Int)) = false := by rw [beq_eq_false_iff_ne]; omega
    have ap : aplO b i k = true := decide_eq_true (by omega)
    simp -implicitDefEqProofs (disch := omega) [wrap_id, hne, cb.d, c1]
    refine callW_pure rfl (d_pairs_ok' g hb ap hp) ?_
    simp -implicitDefEqProofs (disch := omega) [wrap_id]
    have pl := prsV_len hb (one := (i : Int)) (two := (k : Int)) (pp := pp)
    have pr := prsV_rng hb (one := (i : Int)) (two := (k : Int)) (pp := pp)
    have tst : ∀ c, tstO b r x pp (i, k, c) = decide (timS (prsV b i k pp) r (c / 6 : Nat) (c % 6 : Nat) ≠ timS (prsV b i k pp) x (c / 6 : Nat) (c % 6 : Nat)) := fun c => by
      unfold tstO
      simp only [decide_eq_true hik, Bool.true_and, ne_eq]
    refine loop_eq (fun q : Nat × List HObj => ⟨[(0, I (k : Int)), (1, .ref a1 0), (2, .ref a2 0), (4, .ref a4 0), (5, .ref a5 0), (7, .ref H0.length 0), (8, Ps (prsV b i k pp).isEmpty (prsV b i k pp)), (19, I (q.1 : Int))], q.2⟩)
      (fun q => q.1 ≤ 36 ∧ H0.length < q.2.length ∧ (∀ j, j < H0.length → nthH q.2 j = nthH H0 j) ∧ nthH q.2 H0.length = some (.cells [I 0, I 0, I 0, I 0]) ∧ (List.range q.1).find? (fun c => tstO b r x pp (i, k, c)) = none) (fun q => 36 - q.1) (0, H1) ⟨by omega, nthH_lt f2, f1, f2, rfl⟩ rfl ?_
    rintro ⟨c, H⟩ ⟨d0, d1, d2, d3, d4⟩
    simp only at d0 d1 d2 d3 d4 ⊢
    have cb := bx.mono d2
    have c1 := (d2 a1 (nthH_lt b1)).trans b1
    refine hideK' fun K0 hK0 => ?_
    simp -implicitDefEqProofs (disch := omega) [wrap_id]
    refine c_split (fun hc => ?_) (fun hc => ?_)
    · have hc : c < 36 := by simp at hc; omega
      have cx : ((c : Int) + 1) = ((c + 1 : Nat) : Int) := by omega
      have tc := tst c
      obtain ⟨u, hu⟩ : ∃ u : Nat, c / 6 = u := ⟨_, rfl⟩
      obtain ⟨v, hv⟩ : ∃ v : Nat, c % 6 = v := ⟨_, rfl⟩
      have q1 : (c : Int).tdiv 6 = (u : Int) := by rw [← hu, Int.tdiv_eq_ediv_of_nonneg (by omega)]; rfl
      have q2 : (c : Int).tmod 6 = (v : Int) := by rw [← hv, Int.tmod_eq_emod_of_nonneg (by omega)]; rfl
      rw [hu, hv] at tc
      obtain ⟨g1, g2, g3⟩ := app_new (H := H) (o := .cells [I (u : Int), I (v : Int)])
      have cb := cb.mono g1
      have c1 := (g1 a1 (by have := nthH_lt b1; omega)).trans c1
      have d3 := (g1 H0.length d1).trans d3
      have d2 : ∀ j, j < H0.length → nthH (H ++ [.cells [I (u : Int), I (v : Int)]]) j = nthH H0 j := fun j hj => (g1 j (by omega)).trans (d2 j hj)
      simp -implicitDefEqProofs (disch := omega) [wrap_id, q1, q2]
      generalize H ++ [HObj.cells [I (u : Int), I (v : Int)]] = H2 at *
      simp -implicitDefEqProofs (disch := omega) [wrap_id, cb.r, cb.x, g2]
      refine pureW_of rfl (o_times_ok _ f (prsV b i k pp) r u v (by omega) (by rw [lr]; exact pr)) ?_
      simp -implicitDefEqProofs (disch := omega) [wrap_id, cb.r, cb.x, g2]
      refine pureW_of rfl (o_times_ok _ h (prsV b i k pp) x u v (by omega) (by rw [lx]; exact pr)) ?_
      have ef : (List.range (c + 1)).find? (fun c => tstO b r x pp (i, k, c)) = if tstO b r x pp (i, k, c) = true then some c else none := by
        rw [List.range_succ, List.find?_append, d4]
        simp only [Option.none_or, List.find?_cons, List.find?_nil]
        cases tstO b r x pp (i, k, c) <;> rfl
      by_cases ht : timS (prsV b i k pp) r u v = timS (prsV b i k pp) x u v
      · rw [decide_eq_false (fun h => h ht)] at tc
        rw [tc, if_neg (by decide)] at ef
        have hb1 : (((timS (prsV b i k pp) r u v : Nat) : Int) != ((timS (prsV b i k pp) x u v : Nat) : Int)) = false := by rw [bne_eq_false_iff_eq]; omega
        simp -implicitDefEqProofs (disch := omega) [wrap_id, hb1, cmp2, nthT]
        rw [hK0]
        exact next_eq (c + 1, H2) ⟨by simp only; omega, by simp only; omega, d2, d3, ef⟩ (by simp only; omega) (by simp only [cx])
      · rw [decide_eq_true ht] at tc
        have hb1 : (((timS (prsV b i k pp) r u v : Nat) : Int) != ((timS (prsV b i k pp) x u v : Nat) : Int)) = true := by rw [bne_iff_ne]; omega
        have ff : (List.range 36).find? (fun c => tstO b r x pp (i, k, c)) = some c := by
          rw [List.find?_range_eq_some]
          refine ⟨tc, by simpa using hc, fun j hj => ?_⟩
          rw [List.find?_eq_none] at d4
          have := d4 j (by simpa using hj)
          simpa using this
        have e : Fr2 b r x pp i (k : Int) = [(i : Int), (k : Int), (u : Int), (v : Int)] := by
          unfold Fr2
          rw [Int.toNat_natCast, ff]
          simp only [hu, hv]
        rw [e] at hK
        have lz : H0.length < H2.length := by omega
        subst hK0
        simp -implicitDefEqProofs (disch := omega) [wrap_id, hb1, cmp2, nthT, c1, g2, d3, lz]
        refine retC_agg (id := H0.length) (off := 0) (cs := [I (i : Int), I (k : Int), I (u : Int), I (v : Int)]) rfl (nthH_set_same lz) (by simp) ?_
        exact hK (H2.set H0.length (.cells [I (i : Int), I (k : Int), I (u : Int), I (v : Int)])) (by rw [List.length_set]; omega) fun j hj => (nthH_set_ne (by omega)).trans (d2 j hj)
    · have hc : c = 36 := by simp at hc; omega
      subst hc
      have e : Fr2 b r x pp i (k : Int) = [0, 0, 0, 0] := by
        unfold Fr2
        rw [Int.toNat_natCast, d4]
      rw [e] at hK
      subst hK0
      simp -implicitDefEqProofs (disch := omega) [wrap_id, cb.z, d3, d1]
      refine retC_agg (id := H0.length) (off := 0) (cs := [I 0, I 0, I 0, I 0]) rfl (nthH_set_same d1) (by simp) ?_
      exact hK (H.set H0.length (.cells [I 0, I 0, I 0, I 0])) (by rw [List.length_set]; omega) fun j hj => (nthH_set_ne (by omega)).trans (d2 j hj)
end Go.AM

set_option linter.unusedSimpArgs false
set_option linter.unusedVariables false
namespace Go.AM
open Go.RowKit Go.Proofs
def Fr1 (b : OB) (n : Nat) (r x : List Int) (pp : Nat × Nat → Nat × Nat → Bool) (v : Int) : List Int := fst4 (Fr2 b r x pp v.toNat) (plcL n)
theorem fst4_len {Fr : Int → List Int} : ∀ {l : List Int}, (∀ v ∈ l, (Fr v).length = 4) → (fst4 Fr l).length = 4
  | [], _ => rfl
  | v :: l, h => by
    simp only [fst4]
    split
    · exact fst4_len fun w hw => h w (by simp [hw])
    · exact h v (by simp)
set_option maxHeartbeats 4000000 in
theorem o_Pair_1_w {g f h : Bool} {b : OB} {n : Nat} (hb : Okb b n) {r x : List Int} (lr : r.length = n) (lx : x.length = n) {pp : Nat × Nat → Nat × Nat → Bool} (hp : PPok b pp) {i : Nat} (hi : i < n) {a2 a3 a4 a5 : Nat} {H0 : List HObj} (bx : BoxP g f h b r x a2 a3 a4 a5 H0) {K : AV → List HObj → Prop}
    (hK : ∀ H', H0.length ≤ H'.length → (∀ j, j < H0.length → nthH H' j = nthH H0 j) → K (.agg (rowC (Fr1 b n r x pp (i : Int)))) H') :
    CallW Try.prog n_o_Pair_1 [I (i : Int), .ref a3 0, .ref a2 0, .ref a4 0, .ref a5 0] H0 K := by
  have h6 := hb.hi
  refine callW_of func_o_Pair_1 form_o_Pair_1 resc_o_Pair_1 (by show 5 ≤ _; decide) ?_
  simp -implicitDefEqProofs (disch := omega) [G_o_Pair_1, wrap_id]
  have e12 : H0 ++ [HObj.cells [I (i : Int)], HObj.cells [I 0, I 0, I 0, I 0]] = (H0 ++ [HObj.cells [I (i : Int)]]) ++ [HObj.cells [I 0, I 0, I 0, I 0]] := by simp
  rw [e12]
  obtain ⟨f1, f2, f3⟩ := app_new (H := H0) (o := .cells [I (i : Int)])
  obtain ⟨g1, g2, g3⟩ := app_new (H := H0 ++ [.cells [I (i : Int)]]) (o := .cells [I 0, I 0, I 0, I 0])
  have b1 := (g1 H0.length (by omega)).trans f2
  have kp : ∀ j, j < H0.length → nthH ((H0 ++ [HObj.cells [I (i : Int)]]) ++ [HObj.cells [I 0, I 0, I 0, I 0]]) j = nthH H0 j := fun j hj => (g1 j (by omega)).trans (f1 j hj)
  have cb := bx.mono kp
  rw [f3] at g2 g3
  generalize (H0 ++ [HObj.cells [I (i : Int)]]) ++ [HObj.cells [I 0, I 0, I 0, I 0]] = H1 at *
  simp -implicitDefEqProofs (disch := omega) [wrap_id, cb.d]
  refine callW_pure rfl (d_places_ok g hb) ?_
  simp -implicitDefEqProofs (disch := omega) [wrap_id]
  refine o_first_w (Fr := Fr2 b r x pp i) (fun v _ => Fr2_len) (by kernel_rfl) (by rw [plcL_len]; omega) (fun v hv H q1 q2 KK hKK => ?_) fun H' q1 q2 => ?_
  · have hv2 := plc_mem.1 hv
    obtain ⟨k, rfl⟩ : ∃ k : Nat, v = k := ⟨v.toNat, by omega⟩
    exact o_Pair_1_1_w hb lr lx hp hi (by omega) ((q2 _ (nthH_lt b1)).trans b1) (cb.mono q2) hKK
  · have l4 : (fst4 (Fr2 b r x pp i) (plcL n)).length = 4 := fst4_len fun v _ => Fr2_len
    have c2 := (q2 _ (nthH_lt g2)).trans g2
    have lz := nthH_lt c2
    have t4 : List.take 4 (rowC (fst4 (Fr2 b r x pp i) (plcL n))) = rowC (fst4 (Fr2 b r x pp i) (plcL n)) := List.take_of_length_le (by simp [l4])
    simp -implicitDefEqProofs (disch := omega) [wrap_id, c2, l4, lz]
    have e : Fr1 b n r x pp (i : Int) = fst4 (Fr2 b r x pp i) (plcL n) := by unfold Fr1; rw [Int.toNat_natCast]
    rw [e] at hK
    refine retC_agg (id := H0.length + 1) (off := 0) (cs := rowC (fst4 (Fr2 b r x pp i) (plcL n))) rfl (nthH_set_same lz) (by simp [l4]) ?_
    have vw : view (rowC (fst4 (Fr2 b r x pp i) (plcL n))) 0 4 = rowC (fst4 (Fr2 b r x pp i) (plcL n)) := by
      simp only [view, List.drop_zero]; exact t4
    rw [vw]
    exact hK _ (by rw [List.length_set]; omega) fun j hj => (nthH_set_ne (by omega)).trans ((q2 j (by omega)).trans (kp j hj))
end Go.AM

set_option linter.unusedSimpArgs false
set_option linter.unusedVariables false
namespace Go.AM
open Go.RowKit Go.Proofs
def enc4 {α : Type} (enc : α → List Int) : Option α → List Int
  | some t => enc t
  | none => [0, 0, 0, 0]
theorem fst4_find {α : Type} {L : Nat → List α} {p : α → Bool} {enc : α → List Int} (henc : ∀ t, p t = true → enc t ≠ [0, 0, 0, 0]) {Fr : Int → List Int} : ∀ {l : List Nat}, (∀ a ∈ l, Fr (a : Int) = enc4 enc ((L a).find? p)) → fst4 Fr (l.map fun a : Nat => (a : Int)) = enc4 enc ((l.flatMap L).find? p)
  | [], _ => rfl
  | a :: l, h => by
    have ih := fst4_find (L := L) henc (Fr := Fr) (l := l) fun b hb => h b (by simp [hb])
    have ha := h a (by simp)
    simp only [List.map_cons, fst4, List.flatMap_cons, List.find?_append]
    rw [ih, ha]
    cases hf : (L a).find? p with
    | none =>
      have e : enc4 enc (none : Option α) = [0, 0, 0, 0] := rfl
      rw [if_pos e, Option.none_or]
    | some t =>
      have hne : enc4 enc (some t) ≠ [0, 0, 0, 0] := henc t (List.find?_some hf)
      rw [if_neg hne, Option.some_or]
theorem Fr2_enc {b : OB} {r x : List Int} {pp : Nat × Nat → Nat × Nat → Bool} {i k : Nat} : Fr2 b r x pp i (k : Int) = enc4 (fun t : Nat × Nat × Nat => [(t.1 : Int), (t.2.1 : Int), ((t.2.2 / 6 : Nat) : Int), ((t.2.2 % 6 : Nat) : Int)]) (((List.range 36).map fun e => (i, k, e)).find? (tstO b r x pp)) := by
  unfold Fr2
  rw [Int.toNat_natCast, List.find?_map]
  have e : (fun c => tstO b r x pp (i, k, c)) = (tstO b r x pp ∘ fun e => (i, k, e)) := rfl
  rw [e]
  cases (List.range 36).find? (tstO b r x pp ∘ fun e => (i, k, e)) <;> rfl
theorem Fr1_fst {b : OB} {n : Nat} (hb : Okb b n) {r x : List Int} {pp : Nat × Nat → Nat × Nat → Bool} : fst4 (Fr1 b n r x pp) (plcL n) = enc4 (fun t : Nat × Nat × Nat => [(t.1 : Int), (t.2.1 : Int), ((t.2.2 / 6 : Nat) : Int), ((t.2.2 % 6 : Nat) : Int)]) (fstT b r x pp) := by
  have hP := hb.P
  have eP : b.P.toNat = n := by omega
  have henc : ∀ t : Nat × Nat × Nat, tstO b r x pp t = true → ([(t.1 : Int), (t.2.1 : Int), ((t.2.2 / 6 : Nat) : Int), ((t.2.2 % 6 : Nat) : Int)] : List Int) ≠ [0, 0, 0, 0] := fun t ht e => by
    unfold tstO at ht
    rw [Bool.and_eq_true, decide_eq_true_iff] at ht
    simp only [List.cons.injEq] at e
    exact ht.1 (by omega)
  unfold fstT trip
  rw [eP]
  unfold plcL
  refine fst4_find henc fun i _ => ?_
  unfold Fr1 plcL
  rw [Int.toNat_natCast]
  exact fst4_find henc fun k _ => Fr2_enc
end Go.AM

set_option linter.unusedSimpArgs false
set_option linter.unusedVariables false
namespace Go.AM
open Go.RowKit Go.Proofs
set_option maxHeartbeats 4000000 in
theorem o_Pair_ok (g f h : Bool) (b : OB) (hz : Sz12 b) (r x : List Int) (hr : r.length ≤ 1000000) (hx : x.length ≤ 1000000) {pp : Nat × Nat → Nat × Nat → Bool} (hp : PPok b pp) :
    PureOK Try.prog n_o_Pair [On g b, Ls f r, Ls h x] (.tup [prT b r x pp, I (prE b r x pp)]) := by
  refine pure_of (callW_of func_o_Pair form_o_Pair resc_o_Pair (by show 3 ≤ _; decide) ?_)
  simp -implicitDefEqProofs (disch := omega) [G_o_Pair, wrap_id]
  refine bsl_of (ys := [Ls f r, Ls h x]) rfl rfl ?_
  simp -implicitDefEqProofs (disch := omega) [wrap_id, zrep]
  refine callW_pure (ys := [On g b, LLs true [(f, r), (h, x)]]) (ids := []) rfl (o_open_ok g true b hz [(f, r), (h, x)] (by simp) (by simp; exact ⟨hr, hx⟩)) ?_
  have eo := opnE_two (b := b) (f := f) (g := h) (r := r) (x := x)
  by_cases h0 : rwsE b r x = 0
  · obtain ⟨n, hb, lr, lx, o1, o2⟩ := rws_ok h0
    have h6 := hb.hi
    have eV : opnV g b [(f, r), (h, x)] = DK g b := by unfold opnV; rw [if_pos (by rw [eo]; exact h0)]
    rw [eo, eV, h0]
    simp -implicitDefEqProofs (disch := omega) [wrap_id]
    refine callW_pure rfl (d_places_ok g hb) ?_
    simp -implicitDefEqProofs (disch := omega) [wrap_id]
    refine o_first_w (Fr := Fr1 b n r x pp) (fun v _ => fst4_len fun w _ => Fr2_len) (by kernel_rfl) (by rw [plcL_len]; omega) (fun v hv H q1 q2 KK hKK => ?_) fun H' q1 q2 => ?_
    · have hv2 := plc_mem.1 hv
      obtain ⟨i, rfl⟩ : ∃ i : Nat, v = i := ⟨v.toNat, by omega⟩
      have bx : BoxP g f h b r x 5 4 1 2 H := ⟨(q2 5 (by simp)).trans rfl, (q2 4 (by simp)).trans rfl, (q2 1 (by simp)).trans rfl, (q2 2 (by simp)).trans rfl⟩
      exact o_Pair_1_w hb lr lx hp (by omega) bx hKK
    · have c3 : nthH H' 3 = some (.cells [I 0, I 0, I 0, I 0]) := q2 3 (by simp)
      have c5 : nthH H' 5 = some (.cells [I 0, I 0, I 0, I 0]) := q2 5 (by simp)
      have ej := Fr1_fst hb (r := r) (x := x) (pp := pp)
      have l4 : (fst4 (Fr1 b n r x pp) (plcL n)).length = 4 := fst4_len fun v _ => fst4_len fun w _ => Fr2_len
      generalize fst4 (Fr1 b n r x pp) (plcL n) = R at *
      obtain ⟨f1, f2, f3⟩ := app_new (H := H') (o := .cells (rowC R))
      have k3 := (f1 3 (nthH_lt c3)).trans c3
      have k5 := (f1 5 (nthH_lt c5)).trans c5
      have t4 : List.take 4 (rowC R) = rowC R := List.take_of_length_le (by simp [l4])
      have ek : eqK (true, [Leaf.int, Leaf.int, Leaf.int, Leaf.int]) (rowV R) (rowV [0, 0, 0, 0]) = some (decide (R = [0, 0, 0, 0])) := eqK_row (n := 4) l4 rfl
      simp -implicitDefEqProofs (disch := omega) [wrap_id, l4]
      generalize H' ++ [HObj.cells (rowC R)] = H2 at *
      have l3 := nthH_lt k3
      simp -implicitDefEqProofs (disch := omega) [wrap_id, f2, k5, l4, t4]
      rw [eqk_of (neg := false) (a := rowV R) (b := rowV [0, 0, 0, 0]) row_valC rfl ek]
      cases ft : fstT b r x pp with
      | none =>
        have e1 : prE b r x pp = 5 := by unfold prE; rw [if_neg (by omega), if_pos ft]
        have e2 : prT b r x pp = Pt 0 0 0 0 := by unfold prT; rw [if_neg (by omega), ft]
        rw [ft] at ej
        have eR : R = [0, 0, 0, 0] := ej
        rw [decide_eq_true eR, e1, e2]
        simp -implicitDefEqProofs (disch := omega) [wrap_id, k5, k3, l3]
        exact retC_agg_v (id := 3) (off := 0) (cs := [I 0, I 0, I 0, I 0]) rfl (nthH_set_same l3) (by simp) out_pt
      | some t =>
        have ht : tstO b r x pp t = true := by unfold fstT at ft; exact List.find?_some ft
        have e1 : prE b r x pp = 0 := by unfold prE; rw [if_neg (by omega), if_neg (by rw [ft]; exact fun h => by cases h)]
        have e2 : prT b r x pp = Pt t.1 t.2.1 (t.2.2 / 6 : Nat) (t.2.2 % 6 : Nat) := by unfold prT; rw [if_neg (by omega), ft]
        rw [ft] at ej
        have eR : R = [(t.1 : Int), (t.2.1 : Int), ((t.2.2 / 6 : Nat) : Int), ((t.2.2 % 6 : Nat) : Int)] := ej
        have nR : R ≠ [0, 0, 0, 0] := fun e => by
          unfold tstO at ht
          rw [Bool.and_eq_true, decide_eq_true_iff] at ht
          rw [eR] at e
          simp only [List.cons.injEq] at e
          exact ht.1 (by omega)
        rw [decide_eq_false nR, e1, e2]
        generalize (t.2.2 / 6 : Nat) = u at *
        generalize (t.2.2 % 6 : Nat) = v at *
        subst eR
        simp -implicitDefEqProofs (disch := omega) [wrap_id, f2, k3, l3]
        exact retC_agg_v (id := 3) (off := 0) (cs := [I (t.1 : Int), I (t.2.1 : Int), I (u : Int), I (v : Int)]) rfl (nthH_set_same l3) (by simp) out_pt
  · have e1 : prE b r x pp = rwsE b r x := by unfold prE; rw [if_pos h0]
    have e2 : prT b r x pp = Pt 0 0 0 0 := by unfold prT; rw [if_pos h0]
    have h0' : (rwsE b r x != 0) = true := by simpa using h0
    rw [eo, e1, e2]
    have eV : opnV g b [(f, r), (h, x)] = .v (.pointer none) := by unfold opnV; rw [if_neg (by rw [eo]; exact h0)]
    rw [eV]
    simp -implicitDefEqProofs (disch := omega) [wrap_id, h0']
    exact retC_agg_v (id := 3) (off := 0) (cs := [I 0, I 0, I 0, I 0]) rfl rfl (by simp) out_pt
end Go.AM

set_option maxRecDepth 100000
namespace Go.AM
open Go.RowKit Go.Proofs
abbrev n_l_turning : Nat := 4
def G_l_turning : AC := (.seq (.rgn [⟨none, [(.al 0 [(I 0), (.sl true 0 [])])]⟩] [0]) (.seq (.rgn [⟨none, [(.bsl 1 4 1 [(I 0)] [(0, (.k (I 1))), (1, (.k (I 0))), (2, (.k (I 2))), (3, (.k (I 3)))]), (.bsl 2 4 1 [(I 0)] [(0, (.k (I 1))), (1, (.k (I 2))), (2, (.k (I 3))), (3, (.k (I 0)))]), (.bsl 3 2 1 [(.sl true 0 [])] [(0, (.t 1)), (1, (.t 2))]), (.call 4 18 [(.t 3)]), (.st 2 (.t 0) (.t 4))]⟩] [0]) .ret))
theorem func_l_turning : Try.prog.funcs[n_l_turning]? = some Try.f4 := Try.func4
theorem form_l_turning : formOf Try.prog Try.f4 [0] = some G_l_turning := by kernel_rfl
theorem resc_l_turning : resCs Try.prog Try.f4.results.toList = some [(0, some (true, 2))] := by kernel_rfl
abbrev n_l_parted : Nat := 5
def G_l_parted : AC := (.seq (.rgn [⟨none, [(.al 0 [(I 0), (.sl true 0 [])])]⟩] [0]) (.seq (.rgn [⟨none, [(.bsl 1 4 1 [(I 0)] [(0, (.k (I 1))), (1, (.k (I 0))), (2, (.k (I 2))), (3, (.k (I 3)))]), (.bsl 2 4 1 [(I 0)] [(0, (.k (I 0))), (1, (.k (I 1))), (2, (.k (I 3))), (3, (.k (I 2)))]), (.bsl 3 2 1 [(.sl true 0 [])] [(0, (.t 1)), (1, (.t 2))]), (.call 4 18 [(.t 3)]), (.st 2 (.t 0) (.t 4))]⟩] [0]) .ret))
theorem func_l_parted : Try.prog.funcs[n_l_parted]? = some Try.f5 := Try.func5
theorem form_l_parted : formOf Try.prog Try.f5 [0] = some G_l_parted := by kernel_rfl
theorem resc_l_parted : resCs Try.prog Try.f5.results.toList = some [(0, some (true, 2))] := by kernel_rfl
abbrev n_l_row : Nat := 6
def G_l_row : AC := (.seq (.rgn [⟨none, [(.mv 0 (.k (.sl true 0 [])))]⟩] []) (.seq (.rgn [⟨none, [(.bsl 1 4 1 [(I 0)] [(0, (.k (I 0))), (1, (.k (I 0))), (2, (.k (I 1))), (3, (.k (I 2)))]), (.mv 0 (.t 1))]⟩] [0]) .ret))
theorem func_l_row : Try.prog.funcs[n_l_row]? = some Try.f6 := Try.func6
theorem form_l_row : formOf Try.prog Try.f6 [0] = some G_l_row := by kernel_rfl
theorem res_l_row : resTmps Try.f6.results.toList = some [0] := by kernel_rfl
abbrev n_l_pair : Nat := 13
def G_l_pair : AC := (.seq (.rgn [⟨none, [(.al 8 [(I 0), (I 0), (I 0), (I 0)])]⟩] [0, 1, 2, 3, 8]) (.seq (.rgn [⟨none, [(.mv 9 (.t 0)), (.mv 10 (.t 1)), (.bld 11 [(I 0), (I 0)] [(0, 1, (.t 9)), (1, 1, (.t 10))]), (.mv 12 (.t 2)), (.mv 13 (.t 3)), (.bld 14 [(I 0), (I 0)] [(0, 1, (.t 12)), (1, 1, (.t 13))]), (.bld 15 [(I 0), (I 0), (I 0), (I 0)] [(0, 2, (.t 11)), (2, 2, (.t 14))]), (.st 4 (.t 8) (.t 15))]⟩] [8]) .ret))
theorem func_l_pair : Try.prog.funcs[n_l_pair]? = some Try.f13 := Try.func13
theorem form_l_pair : formOf Try.prog Try.f13 [8] = some G_l_pair := by kernel_rfl
theorem resc_l_pair : resCs Try.prog Try.f13.results.toList = some [(8, some (true, 4))] := by kernel_rfl
abbrev n_l_ints : Nat := 15
def G_l_ints : AC := (.seq (.rgn [⟨none, [(.mv 4 (.k (B false)))]⟩] [0, 1]) (.seq (.seq (.rgn [⟨none, [(.mv 6 (.t 0)), (.len 7 (.t 6)), (.mv 8 (.t 1)), (.len 9 (.t 8)), (.bin 10 .neq (.t 7) (.t 9))]⟩] [0, 1, 10]) (.cond (.t 10) (.seq (.rgn [⟨none, [(.mv 4 (.k (B false)))]⟩] [4]) .ret) .skip)) (.seq (.seq (.rgn [⟨none, [(.mv 5 (.k (I 0)))]⟩] [0, 1, 5]) (.block 0 (.loop (.seq (.seq (.rgn [⟨none, [(.mv 11 (.t 5)), (.mv 12 (.t 0)), (.len 13 (.t 12)), (.bin 14 .lss (.t 11) (.t 13))]⟩] [0, 1, 5, 14]) (.cond (.t 14) .skip (.exit 0))) (.seq (.block 1 (.seq (.drw [⟨none, [(.mv 17 (.t 0)), (.mv 18 (.t 5)), (.ia 19 1 (.t 17) (.t 18)), (.ld 20 false 1 (.t 19)), (.mv 21 (.t 1)), (.mv 22 (.t 5)), (.ia 23 1 (.t 21) (.t 22)), (.ld 24 false 1 (.t 23)), (.bin 25 .neq (.t 20) (.t 24))]⟩] [(3, 7)] [0, 1, 5, 25]) (.cond (.t 25) (.seq (.rgn [⟨none, [(.mv 4 (.k (B false)))]⟩] [4]) .ret) .skip))) (.rgn [⟨none, [(.mv 15 (.t 5)), (.bin 16 .add (.t 15) (.k (I 1))), (.mv 5 (.t 16))]⟩] [0, 1, 5])))))) (.seq (.rgn [⟨none, [(.mv 4 (.k (B true)))]⟩] [4]) .ret))))
theorem func_l_ints : Try.prog.funcs[n_l_ints]? = some Try.f15 := Try.func15
theorem form_l_ints : formOf Try.prog Try.f15 [4] = some G_l_ints := by kernel_rfl
theorem res_l_ints : resTmps Try.f15.results.toList = some [4] := by kernel_rfl
abbrev n_l_twos : Nat := 16
def G_l_twos : AC := (.seq (.rgn [⟨none, [(.mv 4 (.k (B false)))]⟩] [0, 1]) (.seq (.seq (.rgn [⟨none, [(.mv 6 (.t 0)), (.len 7 (.t 6)), (.mv 8 (.t 1)), (.len 9 (.t 8)), (.bin 10 .neq (.t 7) (.t 9))]⟩] [0, 1, 10]) (.cond (.t 10) (.seq (.rgn [⟨none, [(.mv 4 (.k (B false)))]⟩] [4]) .ret) .skip)) (.seq (.seq (.rgn [⟨none, [(.mv 5 (.k (I 0)))]⟩] [0, 1, 5]) (.block 0 (.loop (.seq (.seq (.rgn [⟨none, [(.mv 11 (.t 5)), (.mv 12 (.t 0)), (.len 13 (.t 12)), (.bin 14 .lss (.t 11) (.t 13))]⟩] [0, 1, 5, 14]) (.cond (.t 14) .skip (.exit 0))) (.seq (.block 1 (.seq (.drw [⟨none, [(.mv 17 (.t 0)), (.mv 18 (.t 5)), (.ia 19 2 (.t 17) (.t 18)), (.ld 20 true 2 (.t 19)), (.mv 21 (.t 1)), (.mv 22 (.t 5)), (.ia 23 2 (.t 21) (.t 22)), (.ld 24 true 2 (.t 23)), (.eqk 25 true (true, [.int, .int]) (.t 20) (.t 24))]⟩] [(3, 7)] [0, 1, 5, 25]) (.cond (.t 25) (.seq (.rgn [⟨none, [(.mv 4 (.k (B false)))]⟩] [4]) .ret) .skip))) (.rgn [⟨none, [(.mv 15 (.t 5)), (.bin 16 .add (.t 15) (.k (I 1))), (.mv 5 (.t 16))]⟩] [0, 1, 5])))))) (.seq (.rgn [⟨none, [(.mv 4 (.k (B true)))]⟩] [4]) .ret))))
theorem func_l_twos : Try.prog.funcs[n_l_twos]? = some Try.f16 := Try.func16
theorem form_l_twos : formOf Try.prog Try.f16 [4] = some G_l_twos := by kernel_rfl
theorem res_l_twos : resTmps Try.f16.results.toList = some [4] := by kernel_rfl
abbrev n_l_Works : Nat := 17
def G_l_Works : AC := (.seq (.rgn [⟨none, [(.mv 0 (.k (B false)))]⟩] []) (.seq (.rgn [⟨none, [(.call 29 4 []), (.call 30 5 []), (.call 31 6 []), (.al 1 [(I 0), (.sl true 0 [])]), (.al 2 [(I 0), (.sl true 0 [])]), (.st 2 (.t 1) (.t 29)), (.st 2 (.t 2) (.t 30)), (.mv 3 (.t 31))]⟩] [1, 2, 3]) (.seq (.rgn [⟨none, [(.bsl 32 4 1 [(I 0)] [(0, (.k (I 0))), (1, (.k (I 1))), (2, (.k (I 0))), (3, (.k (I 2)))]), (.mv 4 (.t 32))]⟩] [1, 2, 3, 4]) (.seq (.rgn [⟨none, [(.ld 34 true 2 (.t 1)), (.mv 35 (.t 3)), (.bsl 36 2 1 [(I 0)] [(0, (.k (I 1))), (1, (.k (I 0)))]), (.call 37 7 [(.t 34), (.t 35), (.t 36)]), (.mv 33 (.t 37)), (.ext 38 (.t 33) 0), (.ext 39 (.t 33) 1), (.mv 5 (.t 38)), (.mv 6 (.t 39))]⟩] [1, 2, 3, 4, 5, 6]) (.seq (.rgn [⟨none, [(.ld 41 true 2 (.t 1)), (.bsl 42 2 1 [(I 0)] [(0, (.k (I 0))), (1, (.k (I 1)))]), (.call 43 8 [(.t 41), (.t 42)]), (.mv 40 (.t 43)), (.ext 44 (.t 40) 0), (.ext 45 (.t 40) 1), (.mv 7 (.t 44)), (.mv 8 (.t 45))]⟩] [1, 2, 3, 4, 5, 6, 7, 8]) (.seq (.rgn [⟨none, [(.ld 46 true 2 (.t 1)), (.bsl 47 2 1 [(I 0)] [(0, (.k (I 0))), (1, (.k (I 1)))]), (.bsl 48 2 1 [(I 0)] [(0, (.k (I 1))), (1, (.k (I 0)))]), (.call 49 32 [(.t 46), (.t 47), (.t 48)]), (.mv 9 (.t 49))]⟩] [1, 2, 3, 4, 5, 6, 7, 8, 9]) (.seq (.rgn [⟨none, [(.ld 50 true 2 (.t 2)), (.bsl 51 2 1 [(I 0)] [(0, (.k (I 0))), (1, (.k (I 1)))]), (.bsl 52 2 1 [(I 0)] [(0, (.k (I 1))), (1, (.k (I 0)))]), (.call 53 32 [(.t 50), (.t 51), (.t 52)]), (.mv 10 (.t 53))]⟩] [1, 2, 3, 4, 5, 6, 7, 8, 9, 10]) (.seq (.rgn [⟨none, [(.ld 55 true 2 (.t 1)), (.bsl 56 2 1 [(I 0)] [(0, (.k (I 0))), (1, (.k (I 1)))]), (.call 57 9 [(.t 55), (.t 56)]), (.mv 54 (.t 57)), (.ext 58 (.t 54) 0), (.ext 59 (.t 54) 1), (.mv 11 (.t 58)), (.mv 12 (.t 59))]⟩] [1, 2, 3, 4, 5, 6, 7, 8, 9, 10, 11, 12]) (.seq (.rgn [⟨none, [(.ld 61 true 2 (.t 1)), (.mv 62 (.t 3)), (.bsl 63 4 1 [(I 0)] [(0, (.k (I 2))), (1, (.k (I 0))), (2, (.k (I 0))), (3, (.k (I 1)))]), (.call 64 10 [(.t 61), (.t 62), (.t 63)]), (.mv 60 (.t 64)), (.ext 65 (.t 60) 0), (.ext 66 (.t 60) 1), (.mv 13 (.t 65)), (.mv 14 (.t 66))]⟩] [1, 2, 3, 4, 5, 6, 7, 8, 9, 10, 11, 12, 13, 14]) (.seq (.rgn [⟨none, [(.ld 68 true 2 (.t 2)), (.mv 69 (.t 3)), (.mv 70 (.t 4)), (.call 71 10 [(.t 68), (.t 69), (.t 70)]), (.mv 67 (.t 71)), (.ext 72 (.t 67) 0), (.ext 73 (.t 67) 1), (.mv 15 (.t 72)), (.mv 16 (.t 73))]⟩] [1, 2, 3, 4, 5, 6, 7, 8, 9, 10, 11, 12, 13, 14, 16]) (.seq (.rgn [⟨none, [(.ld 75 true 2 (.t 2)), (.mv 76 (.t 3)), (.mv 77 (.t 4)), (.call 78 33 [(.t 75), (.t 76), (.t 77)]), (.mv 74 (.t 78)), (.ext 79 (.t 74) 0), (.ext 80 (.t 74) 1), (.mv 17 (.t 79)), (.mv 18 (.t 80))]⟩] [1, 2, 3, 4, 5, 6, 7, 8, 9, 10, 11, 12, 13, 14, 16, 17, 18]) (.seq (.rgn [⟨none, [(.ld 82 true 2 (.t 2)), (.call 83 11 [(.t 82), (.k (I 0)), (.k (I 2))]), (.mv 81 (.t 83)), (.ext 84 (.t 81) 0), (.ext 85 (.t 81) 1), (.mv 19 (.t 84)), (.mv 20 (.t 85))]⟩] [1, 2, 3, 4, 5, 6, 7, 8, 9, 10, 11, 12, 13, 14, 16, 17, 18, 19, 20]) (.seq (.rgn [⟨none, [(.ld 87 true 2 (.t 2)), (.mv 88 (.t 3)), (.mv 89 (.t 4)), (.call 90 34 [(.t 87), (.t 88), (.t 89)]), (.mv 86 (.t 90)), (.ext 91 (.t 86) 0), (.ext 92 (.t 86) 1), (.al 21 [(I 0), (I 0), (I 0), (I 0)]), (.st 4 (.t 21) (.t 91)), (.mv 22 (.t 92))]⟩] [1, 2, 3, 4, 5, 6, 7, 8, 9, 10, 11, 12, 13, 14, 16, 17, 18, 19, 20, 21, 22]) (.seq (.drw [⟨none, [(.ld 93 true 2 (.t 2)), (.mv 94 (.t 3)), (.mv 95 (.t 4)), (.call 96 13 [(.k (I 0)), (.k (I 1)), (.k (I 2)), (.k (I 2))]), (.call 97 12 [(.t 93), (.t 94), (.t 95), (.t 96)]), (.mv 23 (.t 97))]⟩] [(0, 3)] [1, 2, 3, 4, 5, 6, 7, 8, 9, 10, 11, 12, 13, 14, 16, 17, 18, 19, 20, 21, 22, 23]) (.seq (.rgn [⟨none, [(.ld 99 true 2 (.t 1)), (.mv 100 (.t 3)), (.bsl 101 4 1 [(I 0)] [(0, (.k (I 1))), (1, (.k (I 2))), (2, (.k (I 0))), (3, (.k (I 0)))]), (.call 102 14 [(.t 99), (.t 100), (.t 101), (.k (I 1))]), (.mv 98 (.t 102)), (.ext 103 (.t 98) 0), (.ext 104 (.t 98) 1), (.mv 24 (.t 103)), (.mv 25 (.t 104))]⟩] [1, 2, 3, 4, 5, 6, 7, 8, 9, 10, 11, 12, 13, 14, 16, 17, 18, 19, 20, 21, 22, 23, 24, 25]) (.seq (.rgn [⟨none, [(.ld 106 true 2 (.t 1)), (.mv 107 (.t 3)), (.bsl 108 4 1 [(I 0)] [(0, (.k (I 1))), (1, (.k (I 2))), (2, (.k (I 0))), (3, (.k (I 0)))]), (.call 109 35 [(.t 106), (.t 107), (.t 108)]), (.mv 105 (.t 109)), (.ext 110 (.t 105) 0), (.ext 111 (.t 105) 1), (.mv 26 (.t 110)), (.mv 27 (.t 111))]⟩] [2, 3, 4, 5, 6, 7, 8, 9, 10, 11, 12, 13, 14, 16, 17, 18, 19, 20, 21, 22, 23, 24, 25, 26, 27]) (.seq (.rgn [⟨none, [(.ld 112 true 2 (.t 2)), (.mv 113 (.t 3)), (.mv 114 (.t 4)), (.mv 115 (.t 3)), (.bsl 116 1 1 [(.sl true 0 [])] [(0, (.t 115))]), (.call 117 36 [(.t 112), (.t 113), (.t 114), (.t 116)]), (.mv 28 (.t 117))]⟩] [5, 6, 7, 8, 9, 10, 11, 12, 13, 14, 16, 17, 18, 19, 20, 21, 22, 23, 24, 25, 26, 27, 28]) (.seq (.seq (.rgn [⟨none, [(.mv 118 (.t 6)), (.bin 119 .neq (.t 118) (.k (I 0))), (.mv 120 (.t 119))]⟩, ⟨(some (120, false)), [(.mv 121 (.t 8)), (.bin 122 .neq (.t 121) (.k (I 0)))]⟩, ⟨none, [(.pick 123 (.t 120) (.k (B true)) (.t 122)), (.mv 124 (.t 123))]⟩, ⟨(some (124, false)), [(.mv 125 (.t 9)), (.bin 126 .neq (.t 125) (.k (I 18)))]⟩, ⟨none, [(.pick 127 (.t 124) (.k (B true)) (.t 126)), (.mv 128 (.t 127))]⟩, ⟨(some (128, false)), [(.mv 129 (.t 10)), (.bin 130 .neq (.t 129) (.k (I 0)))]⟩, ⟨none, [(.pick 131 (.t 128) (.k (B true)) (.t 130)), (.mv 132 (.t 131))]⟩, ⟨(some (132, false)), [(.mv 133 (.t 12)), (.bin 134 .neq (.t 133) (.k (I 0)))]⟩, ⟨none, [(.pick 135 (.t 132) (.k (B true)) (.t 134)), (.mv 136 (.t 135))]⟩, ⟨(some (136, false)), [(.mv 137 (.t 14)), (.bin 138 .neq (.t 137) (.k (I 0)))]⟩, ⟨none, [(.pick 139 (.t 136) (.k (B true)) (.t 138)), (.mv 140 (.t 139))]⟩, ⟨(some (140, false)), [(.mv 141 (.t 16)), (.bin 142 .neq (.t 141) (.k (I 13)))]⟩, ⟨none, [(.pick 143 (.t 140) (.k (B true)) (.t 142)), (.mv 144 (.t 143))]⟩, ⟨(some (144, false)), [(.mv 145 (.t 18)), (.bin 146 .neq (.t 145) (.k (I 0)))]⟩, ⟨none, [(.pick 147 (.t 144) (.k (B true)) (.t 146)), (.mv 148 (.t 147))]⟩, ⟨(some (148, false)), [(.mv 149 (.t 20)), (.bin 150 .neq (.t 149) (.k (I 0)))]⟩, ⟨none, [(.pick 151 (.t 148) (.k (B true)) (.t 150)), (.mv 152 (.t 151))]⟩, ⟨(some (152, false)), [(.mv 153 (.t 22)), (.bin 154 .neq (.t 153) (.k (I 0)))]⟩, ⟨none, [(.pick 155 (.t 152) (.k (B true)) (.t 154)), (.mv 156 (.t 155))]⟩, ⟨(some (156, false)), [(.mv 157 (.t 23)), (.bin 158 .neq (.t 157) (.k (I 14)))]⟩, ⟨none, [(.pick 159 (.t 156) (.k (B true)) (.t 158)), (.mv 160 (.t 159))]⟩, ⟨(some (160, false)), [(.mv 161 (.t 25)), (.bin 162 .neq (.t 161) (.k (I 0)))]⟩, ⟨none, [(.pick 163 (.t 160) (.k (B true)) (.t 162)), (.mv 164 (.t 163))]⟩, ⟨(some (164, false)), [(.mv 165 (.t 27)), (.bin 166 .neq (.t 165) (.k (I 0)))]⟩, ⟨none, [(.pick 167 (.t 164) (.k (B true)) (.t 166)), (.mv 168 (.t 167))]⟩, ⟨(some (168, false)), [(.mv 169 (.t 28)), (.bin 170 .neq (.t 169) (.k (I 14)))]⟩, ⟨none, [(.pick 171 (.t 168) (.k (B true)) (.t 170))]⟩] [5, 7, 11, 13, 17, 19, 21, 24, 26, 171]) (.cond (.t 171) (.seq (.rgn [⟨none, [(.mv 0 (.k (B false)))]⟩] [0]) .ret) .skip)) (.seq (.drw [⟨none, [(.mv 172 (.t 5)), (.bsl 173 4 1 [(I 0)] [(0, (.k (I 1))), (1, (.k (I 0))), (2, (.k (I 2))), (3, (.k (I 0)))]), (.call 174 15 [(.t 172), (.t 173)]), (.mv 175 (.t 174))]⟩, ⟨(some (175, true)), [(.mv 176 (.t 7)), (.bsl 177 4 1 [(I 0)] [(0, (.k (I 0))), (1, (.k (I 2))), (2, (.k (I 3))), (3, (.k (I 1)))]), (.call 178 15 [(.t 176), (.t 177)])]⟩, ⟨none, [(.pick 179 (.t 175) (.t 178) (.k (B false))), (.mv 180 (.t 179))]⟩, ⟨(some (180, true)), [(.mv 181 (.t 11)), (.bin 182 .eql (.t 181) (.k (I 3)))]⟩, ⟨none, [(.pick 183 (.t 180) (.t 182) (.k (B false))), (.mv 184 (.t 183))]⟩, ⟨(some (184, true)), [(.mv 185 (.t 13)), (.bsl 186 3 1 [(I 0)] [(0, (.k (I 1))), (1, (.k (I 1))), (2, (.k (I 1)))]), (.call 187 15 [(.t 185), (.t 186)])]⟩, ⟨none, [(.pick 188 (.t 184) (.t 187) (.k (B false))), (.mv 189 (.t 188))]⟩, ⟨(some (189, true)), [(.mv 190 (.t 17)), (.bsl 191 4 1 [(I 0)] [(0, (.k (I 0))), (1, (.k (I 0))), (2, (.k (I 1))), (3, (.k (I 2)))]), (.bsl 192 4 1 [(I 0)] [(0, (.k (I 0))), (1, (.k (I 0))), (2, (.k (I 2))), (3, (.k (I 1)))]), (.bsl 193 2 1 [(.sl true 0 [])] [(0, (.t 191)), (1, (.t 192))]), (.call 194 37 [(.t 190), (.t 193)])]⟩, ⟨none, [(.pick 195 (.t 189) (.t 194) (.k (B false))), (.mv 196 (.t 195))]⟩, ⟨(some (196, true)), [(.mv 197 (.t 19)), (.bld 198 [(I 0), (I 0)] [(0, 1, (.k (I 0))), (1, 1, (.k (I 2)))]), (.bld 199 [(I 0), (I 0)] [(0, 1, (.k (I 0))), (1, 1, (.k (I 3)))]), (.bld 200 [(I 0), (I 0)] [(0, 1, (.k (I 1))), (1, 1, (.k (I 2)))]), (.bld 201 [(I 0), (I 0)] [(0, 1, (.k (I 1))), (1, 1, (.k (I 3)))]), (.bsl 202 4 2 [(I 0), (I 0)] [(0, (.t 198)), (1, (.t 199)), (2, (.t 200)), (3, (.t 201))]), (.call 203 16 [(.t 197), (.t 202)])]⟩, ⟨none, [(.pick 204 (.t 196) (.t 203) (.k (B false))), (.mv 205 (.t 204))]⟩, ⟨(some (205, true)), [(.ld 206 true 4 (.t 21)), (.call 207 13 [(.k (I 0)), (.k (I 1)), (.k (I 0)), (.k (I 0))]), (.eqk 208 false (true, [.int, .int, .int, .int]) (.t 206) (.t 207))]⟩, ⟨none, [(.pick 209 (.t 205) (.t 208) (.k (B false))), (.mv 210 (.t 209))]⟩, ⟨(some (210, true)), [(.mv 211 (.t 24)), (.bin 212 .eql (.t 211) (.k (I 2)))]⟩, ⟨none, [(.pick 213 (.t 210) (.t 212) (.k (B false))), (.mv 214 (.t 213))]⟩, ⟨(some (214, true)), [(.mv 215 (.t 26)), (.bin 216 .eql (.t 215) (.k (I 1)))]⟩, ⟨none, [(.pick 217 (.t 214) (.t 216) (.k (B false))), (.mv 0 (.t 217))]⟩] [(19, 20), (34, 35)] [0]) .ret)))))))))))))))))))
theorem func_l_Works : Try.prog.funcs[n_l_Works]? = some Try.f17 := Try.func17
theorem form_l_Works : formOf Try.prog Try.f17 [0] = some G_l_Works := by kernel_rfl
theorem res_l_Works : resTmps Try.f17.results.toList = some [0] := by kernel_rfl
abbrev n_l_Bench : Nat := 18
def G_l_Bench : AC := (.seq (.rgn [⟨none, [(.al 2 [(I 0), (.sl true 0 [])])]⟩] [0, 2]) (.seq (.rgn [⟨none, [(.mv 4 (.t 0)), (.bld 5 [(I 0), (.sl true 0 [])] [(0, 1, (.k (I 4))), (1, 1, (.t 4))]), (.al 3 [(I 0), (.sl true 0 [])]), (.st 2 (.t 3) (.t 5))]⟩] [0, 2, 3]) (.seq (.seq (.rgn [⟨none, [(.mv 6 (.t 0)), (.len 7 (.t 6)), (.bin 8 .gtr (.t 7) (.k (I 0)))]⟩] [0, 2, 3, 8]) (.cond (.t 8) (.rgn [⟨none, [(.mv 9 (.t 0)), (.ia 10 1 (.t 9) (.k (I 0))), (.ld 11 false 1 (.t 10)), (.len 12 (.t 11)), (.fa 13 (.t 3) 0), (.st 1 (.t 13) (.t 12))]⟩] [2, 3]) .skip)) (.seq (.rgn [⟨none, [(.ld 14 true 2 (.t 3)), (.st 2 (.t 2) (.t 14))]⟩] [2]) .ret))))
theorem func_l_Bench : Try.prog.funcs[n_l_Bench]? = some Try.f18 := Try.func18
theorem form_l_Bench : formOf Try.prog Try.f18 [2] = some G_l_Bench := by kernel_rfl
theorem resc_l_Bench : resCs Try.prog Try.f18.results.toList = some [(2, some (true, 2))] := by kernel_rfl
abbrev n_l_lists : Nat := 37
def G_l_lists : AC := (.seq (.rgn [⟨none, [(.mv 4 (.k (B false)))]⟩] [0, 1]) (.seq (.seq (.rgn [⟨none, [(.mv 6 (.t 0)), (.len 7 (.t 6)), (.mv 8 (.t 1)), (.len 9 (.t 8)), (.bin 10 .neq (.t 7) (.t 9))]⟩] [0, 1, 10]) (.cond (.t 10) (.seq (.rgn [⟨none, [(.mv 4 (.k (B false)))]⟩] [4]) .ret) .skip)) (.seq (.seq (.rgn [⟨none, [(.mv 5 (.k (I 0)))]⟩] [0, 1, 5]) (.block 0 (.loop (.seq (.seq (.rgn [⟨none, [(.mv 11 (.t 5)), (.mv 12 (.t 0)), (.len 13 (.t 12)), (.bin 14 .lss (.t 11) (.t 13))]⟩] [0, 1, 5, 14]) (.cond (.t 14) .skip (.exit 0))) (.seq (.block 1 (.seq (.drw [⟨none, [(.mv 17 (.t 0)), (.mv 18 (.t 5)), (.ia 19 1 (.t 17) (.t 18)), (.ld 20 false 1 (.t 19)), (.mv 21 (.t 1)), (.mv 22 (.t 5)), (.ia 23 1 (.t 21) (.t 22)), (.ld 24 false 1 (.t 23)), (.call 25 15 [(.t 20), (.t 24)]), (.un 26 .not (.t 25))]⟩] [(3, 7)] [0, 1, 5, 26]) (.cond (.t 26) (.seq (.rgn [⟨none, [(.mv 4 (.k (B false)))]⟩] [4]) .ret) .skip))) (.rgn [⟨none, [(.mv 15 (.t 5)), (.bin 16 .add (.t 15) (.k (I 1))), (.mv 5 (.t 16))]⟩] [0, 1, 5])))))) (.seq (.rgn [⟨none, [(.mv 4 (.k (B true)))]⟩] [4]) .ret))))
theorem func_l_lists : Try.prog.funcs[n_l_lists]? = some Try.f37 := Try.func37
theorem form_l_lists : formOf Try.prog Try.f37 [4] = some G_l_lists := by kernel_rfl
theorem res_l_lists : resTmps Try.f37.results.toList = some [4] := by kernel_rfl
end Go.AM

set_option linter.unusedSimpArgs false
set_option linter.unusedVariables false
namespace Go.AM
open Go.RowKit Go.Proofs
theorem l_ints_ok (f g : Bool) (l m : List Int) (hl : l.length ≤ 1000000) (hm : m.length ≤ 1000000) : PureOK Try.prog n_l_ints [Ls f l, Ls g m] (B (decide (l = m))) := by
  refine pure_of (walk func_l_ints form_l_ints res_l_ints (by show 2 ≤ _; decide) ?_)
  simp -implicitDefEqProofs (disch := omega) [G_l_ints, wrap_id]
  by_cases h : l.length = m.length
  · simp -implicitDefEqProofs (disch := omega) [wrap_id, h]
    refine loop_eq (fun i : Nat => ⟨[(0, Ls f l), (1, Ls g m), (5, I (i : Int))], []⟩) (fun i => i ≤ l.length ∧ l.take i = m.take i) (fun i => l.length - i) 0 ⟨by omega, rfl⟩ (by simp [h]) ?_
    rintro i ⟨hi, he⟩
    refine hideK' fun K0 hK0 => ?_
    simp -implicitDefEqProofs (disch := omega) [wrap_id]
    refine c_split (fun hc => ?_) (fun hc => ?_)
    · have h1 : i < l.length := by simp at hc; omega
      have h2 : i < m.length := by omega
      have ix : ((i : Int) + 1) = ((i + 1 : Nat) : Int) := by omega
      by_cases e : l[i] = m[i]
      · have e' : (l[i] != m[i]) = false := by simpa using e
        simp -implicitDefEqProofs (disch := omega) [wrap_id, cells_ls, h1, h2, e', cmp2, nthT]
        rw [hK0]
        refine next_eq (i + 1) ⟨by omega, ?_⟩ (by omega) (by simp only [ix])
        rw [List.take_add_one, List.take_add_one, he]; simp [h1, h2, e]
      · have e' : (l[i] != m[i]) = true := by simpa using e
        have ne : l ≠ m := fun h => by subst h; exact e rfl
        subst hK0
        simp -implicitDefEqProofs (disch := omega) [wrap_id, cells_ls, h1, h2, e', cmp2, nthT, ne]
    · have h1 : l.length ≤ i := by simp at hc; omega
      have e1 : l.take i = l := List.take_of_length_le h1
      have e2 : m.take i = m := List.take_of_length_le (by omega)
      have e : l = m := by rw [← e1, he, e2]
      subst hK0
      simp -implicitDefEqProofs (disch := omega) [wrap_id, e]
  · have ne : l ≠ m := fun e => h (by rw [e])
    have h' : ((l.length : Int) != (m.length : Int)) = true := by simp; omega
    simp -implicitDefEqProofs (disch := omega) [wrap_id, h', ne]
theorem l_twos_ok (f g : Bool) (l m : List (Int × Int)) (hl : l.length ≤ 1000000) (hm : m.length ≤ 1000000) : PureOK Try.prog n_l_twos [Ps f l, Ps g m] (B (decide (l = m))) := by
  refine pure_of (walk func_l_twos form_l_twos res_l_twos (by show 2 ≤ _; decide) ?_)
  have f1 := flat2_len l
  have f2 := flat2_len m
  simp -implicitDefEqProofs (disch := omega) [G_l_twos, wrap_id]
  by_cases h : l.length = m.length
  · simp -implicitDefEqProofs (disch := omega) [wrap_id, h]
    refine loop_eq (fun i : Nat => ⟨[(0, Ps f l), (1, Ps g m), (5, I (i : Int))], []⟩) (fun i => i ≤ l.length ∧ l.take i = m.take i) (fun i => l.length - i) 0 ⟨by omega, rfl⟩ (by simp [h]) ?_
    rintro i ⟨hi, he⟩
    refine hideK' fun K0 hK0 => ?_
    simp -implicitDefEqProofs (disch := omega) [wrap_id]
    refine c_split (fun hc => ?_) (fun hc => ?_)
    · have h1 : i < l.length := by simp at hc; omega
      have h2 : i < m.length := by omega
      have ix : ((i : Int) + 1) = ((i + 1 : Nat) : Int) := by omega
      have v1 := flat2_view h1
      have v2 := flat2_view h2
      simp -implicitDefEqProofs (disch := omega) [wrap_id, f1, f2, h1, h2, v1, v2, cmp2, nthT]
      refine ⟨by omega, by omega, ?_⟩
      have ek : eqK (true, [Leaf.int, Leaf.int]) (rowV [l[i].1, l[i].2]) (rowV [m[i].1, m[i].2]) = some (decide ([l[i].1, l[i].2] = [m[i].1, m[i].2])) := eqK_row (n := 2) rfl rfl
      rw [eqk_of (neg := true) (a := rowV [l[i].1, l[i].2]) (b := rowV [m[i].1, m[i].2]) rfl rfl ek]
      by_cases e : l[i] = m[i]
      · have e' : [l[i].1, l[i].2] = [m[i].1, m[i].2] := by rw [e]
        rw [decide_eq_true e']
        simp -implicitDefEqProofs (disch := omega) [wrap_id, cmp2, nthT]
        rw [hK0]
        refine next_eq (i + 1) ⟨by omega, ?_⟩ (by omega) (by simp only [ix])
        rw [List.take_add_one, List.take_add_one, he]; simp [h1, h2, e]
      · have e' : ¬ [l[i].1, l[i].2] = [m[i].1, m[i].2] := fun h => e (by injection h with h1 h; injection h with h2; exact Prod.ext h1 h2)
        have ne : l ≠ m := fun h => by subst h; exact e rfl
        rw [decide_eq_false e']
        subst hK0
        simp -implicitDefEqProofs (disch := omega) [wrap_id, cmp2, nthT, ne]
    · have h1 : l.length ≤ i := by simp at hc; omega
      have e1 : l.take i = l := List.take_of_length_le h1
      have e2 : m.take i = m := List.take_of_length_le (by omega)
      have e : l = m := by rw [← e1, he, e2]
      subst hK0
      simp -implicitDefEqProofs (disch := omega) [wrap_id, e]
  · have ne : l ≠ m := fun e => h (by rw [e])
    have h' : ((l.length : Int) != (m.length : Int)) = true := by simp; omega
    simp -implicitDefEqProofs (disch := omega) [wrap_id, h', ne]
theorem l_lists_ok (f g : Bool) (l m : List (Bool × List Int)) (hl : l.length ≤ 1000000) (hm : m.length ≤ 1000000) (zl : ∀ p ∈ l, p.2.length ≤ 1000000) (zm : ∀ p ∈ m, p.2.length ≤ 1000000) : PureOK Try.prog n_l_lists [LLs f l, LLs g m] (B (decide (l.map (·.2) = m.map (·.2)))) := by
  refine pure_of (walk func_l_lists form_l_lists res_l_lists (by show 2 ≤ _; decide) ?_)
  simp -implicitDefEqProofs (disch := omega) [G_l_lists, wrap_id]
  have L1 : (l.map (·.2)).length = l.length := List.length_map _
  have L2 : (m.map (·.2)).length = m.length := List.length_map _
  by_cases h : l.length = m.length
  · simp -implicitDefEqProofs (disch := omega) [wrap_id, h]
    refine loop_eq (fun i : Nat => ⟨[(0, LLs f l), (1, LLs g m), (5, I (i : Int))], []⟩) (fun i => i ≤ l.length ∧ (l.map (·.2)).take i = (m.map (·.2)).take i) (fun i => l.length - i) 0 ⟨by omega, rfl⟩ (by simp [h]) ?_
    rintro i ⟨hi, he⟩
    refine hideK' fun K0 hK0 => ?_
    simp -implicitDefEqProofs (disch := omega) [wrap_id]
    refine c_split (fun hc => ?_) (fun hc => ?_)
    · have h1 : i < l.length := by simp at hc; omega
      have h2 : i < m.length := by omega
      have ix : ((i : Int) + 1) = ((i + 1 : Nat) : Int) := by omega
      simp -implicitDefEqProofs (disch := omega) [wrap_id, cells_lls, h1, h2, cmp2, nthT]
      refine pureW_of rfl (l_ints_ok l[i].1 m[i].1 l[i].2 m[i].2 (zl _ (List.getElem_mem h1)) (zm _ (List.getElem_mem h2))) ?_
      by_cases e : l[i].2 = m[i].2
      · rw [decide_eq_true e]
        simp -implicitDefEqProofs (disch := omega) [wrap_id, cmp2, nthT]
        rw [hK0]
        refine next_eq (i + 1) ⟨by omega, ?_⟩ (by omega) (by simp only [ix])
        rw [List.take_add_one, List.take_add_one, he]; simp [h1, h2, e]
      · rw [decide_eq_false e]
        have ne : l.map (·.2) ≠ m.map (·.2) := fun hh => e (by
          have := congrArg (fun L => L[i]?) hh
          simpa [h1, h2] using this)
        subst hK0
        rw [decide_eq_false ne]
        simp -implicitDefEqProofs (disch := omega) [wrap_id, cmp2, nthT]
    · have h1 : l.length ≤ i := by simp at hc; omega
      have e1 : (l.map (·.2)).take i = l.map (·.2) := List.take_of_length_le (by omega)
      have e2 : (m.map (·.2)).take i = m.map (·.2) := List.take_of_length_le (by omega)
      have e : l.map (·.2) = m.map (·.2) := by rw [← e1, he, e2]
      subst hK0
      rw [decide_eq_true e]
      simp -implicitDefEqProofs (disch := omega) [wrap_id]
  · have ne : l.map (·.2) ≠ m.map (·.2) := fun e => h (by rw [← L1, e, L2])
    have h' : ((l.length : Int) != (m.length : Int)) = true := by simp; omega
    rw [decide_eq_false ne]
    simp -implicitDefEqProofs (disch := omega) [wrap_id, h']
end Go.AM

set_option linter.unusedSimpArgs false
set_option linter.unusedVariables false
namespace Go.AM
open Go.RowKit Go.Proofs
theorem closed_mem {S C : List (List Int)} (hc : (C.all fun y => S.all fun s => C.contains (aft s y)) = true) : ∀ {w : List Nat} {r x : List Int}, r ∈ C → Wd S r x w → x ∈ C
  | [], r, x, hr, h => by obtain ⟨_, rfl⟩ := h; exact hr
  | s :: w, r, x, hr, h => by
    obtain ⟨h1, h2⟩ := h
    have hs : s < S.length := h1 s (by simp)
    have e : aft (S.getD s []) r ∈ C := by
      have := List.all_eq_true.1 (List.all_eq_true.1 hc r hr) (S.getD s []) (getD_mem hs)
      simpa using this
    exact closed_mem hc e ⟨fun t ht => h1 t (by simp [ht]), h2⟩
theorem dist_words {S : List (List Int)} {r x : List Int} {d : Nat} (h1 : wordsL S d r x ≠ []) (h2 : ∀ k, k < d → wordsL S k r x = []) : Dist S r x d := by
  obtain ⟨w, hw⟩ := List.exists_mem_of_ne_nil _ h1
  obtain ⟨a1, a2⟩ := mem_wordsL.1 hw
  refine ⟨⟨w, a1, a2⟩, fun l hl => ?_⟩
  refine Classical.byContradiction fun hn => ?_
  have := h2 l.length (by omega)
  have hm : l ∈ wordsL S l.length r x := mem_wordsL.2 ⟨hl, rfl⟩
  rw [this] at hm; cases hm
theorem best_words {S : List (List Int)} {r x : List Int} {d : Nat} {w : List Nat} (h1 : w ∈ wordsL S d r x) (h2 : ∀ m ∈ wordsL S d r x, frst (wI m) (wI w) = false) : IsBest S d r x w := by
  obtain ⟨a1, a2⟩ := mem_wordsL.1 h1
  exact ⟨a1, a2, fun m hm hl => h2 m (mem_wordsL.2 ⟨hm, hl⟩)⟩
abbrev bTur : OB := ⟨4, [(true, [1, 0, 2, 3]), (true, [1, 2, 3, 0])]⟩
abbrev bPar : OB := ⟨4, [(true, [1, 0, 2, 3]), (true, [0, 1, 3, 2])]⟩
abbrev rR : List Int := [0, 0, 1, 2]
abbrev rO : List Int := [0, 1, 0, 2]
theorem sz_tur : Sz12 bTur := ⟨by decide, by decide⟩
theorem sz_par : Sz12 bPar := ⟨by decide, by decide⟩
theorem k_drw : drwL bTur rR [1, 0] = [1, 0, 2, 0] ∧ drwE bTur rR [1, 0] = 0 := by decide +kernel
theorem k_jnt : jntL bTur [0, 1] = [0, 2, 3, 1] ∧ jntE bTur [0, 1] = 0 := by decide +kernel
theorem k_sm1 : smeE bTur [0, 1] [1, 0] = 18 := by decide +kernel
theorem k_sm2 : smeE bPar [0, 1] [1, 0] = 0 := by decide +kernel
theorem k_rnd : rndV bTur [0, 1] = 3 := by decide +kernel
theorem k_bst : AnsB bTur rR [2, 0, 0, 1] [1, 1, 1] 0 :=
  .inr ⟨by decide +kernel, .inr ⟨3, [1, 1, 1], dist_words (by decide +kernel) (by decide +kernel), best_words (by decide +kernel) (by decide +kernel), rfl, rfl⟩⟩
abbrev cPar : List (List Int) := [[0, 0, 1, 2], [0, 0, 2, 1]]
theorem k_now : NoW bPar.S rR rO := fun w hw => by
  have := closed_mem (C := cPar) (by decide +kernel) (by decide) hw
  exact absurd this (by decide)
theorem k_bs2 : AnsB bPar rR rO [] 13 := .inr ⟨by decide +kernel, .inl ⟨k_now, rfl, rfl⟩⟩
theorem k_cls : AnsD bPar rR rO cPar 0 := .inr ⟨by decide +kernel, .inr ⟨k_now, by
  show List.Pairwise _ _
  decide +kernel, fun y => by
  rw [not_noW]
  constructor
  · intro hy
    simp only [List.mem_cons, List.not_mem_nil, or_false] at hy
    rcases hy with rfl | rfl
    · exact ⟨[], fun s hs => (by cases hs), rfl⟩
    · exact ⟨[1], fun s hs => (by simp at hs; subst hs; decide), by decide +kernel⟩
  · rintro ⟨w, hw⟩
    exact closed_mem (C := cPar) (by decide +kernel) (by decide) hw, rfl⟩⟩
def ppPar (a q : Nat × Nat) : Bool := decide (a.1 / 2 = q.1 / 2) && decide (a.2 / 2 = q.2 / 2) && (decide (a.1 / 2 ≠ a.2 / 2) || (decide (a.1 = a.2) == decide (q.1 = q.2)))
theorem rch_word {n : Nat} {S : List (List Int)} {q : Nat × Nat} : ∀ (w : List Nat) {x : Nat × Nat}, (∀ s ∈ w, s < S.length) → (w.foldl (fun (a : Nat × Nat × Bool) s => (sg (S.getD s []) a.1, sg (S.getD s []) a.2.1, a.2.2 && decide (a.1 < n) && decide (a.2.1 < n))) (x.1, x.2, true) = (q.1, q.2, true)) → Rch n S q x := by
  intro w
  induction w with
  | nil => intro x _ h; simp at h; rw [show x = q from Prod.ext h.1 h.2]; exact .base
  | cons s w ih =>
    intro x hs h
    rw [List.foldl_cons] at h
    have hb : x.1 < n ∧ x.2 < n := by
      refine Classical.byContradiction fun hn => ?_
      have : (true && decide (x.1 < n) && decide (x.2 < n)) = false := by
        rw [Bool.eq_false_iff]
        intro h; simp at h; exact hn h
      simp only [this] at h
      have key : ∀ (l : List Nat) (a b : Nat), (l.foldl (fun (a : Nat × Nat × Bool) s => (sg (S.getD s []) a.1, sg (S.getD s []) a.2.1, a.2.2 && decide (a.1 < n) && decide (a.2.1 < n))) (a, b, false)).2.2 = false := by
        intro l
        induction l with
        | nil => intro a b; rfl
        | cons t l ih => intro a b; rw [List.foldl_cons]; exact ih _ _
      have := key w (sg (S.getD s []) x.1) (sg (S.getD s []) x.2)
      rw [h] at this
      cases this
    have e : (true && decide (x.1 < n) && decide (x.2 < n)) = true := by simp [hb]
    simp only [e] at h
    have := ih (x := (sg (S.getD s []) x.1, sg (S.getD s []) x.2)) (fun t ht => hs t (by simp [ht])) h
    exact .step (getD_mem (hs s (by simp))) hb.1 hb.2 this
def tryW (n : Nat) (S : List (List Int)) (ws : List (List Nat)) (x q : Nat × Nat) : Bool := ws.any fun w => w.all (fun s => decide (s < S.length)) && decide (w.foldl (fun (a : Nat × Nat × Bool) s => (sg (S.getD s []) a.1, sg (S.getD s []) a.2.1, a.2.2 && decide (a.1 < n) && decide (a.2.1 < n))) (x.1, x.2, true) = (q.1, q.2, true))
theorem tryW_rch {n : Nat} {S : List (List Int)} {ws : List (List Nat)} {x q : Nat × Nat} (h : tryW n S ws x q = true) : Rch n S q x := by
  obtain ⟨w, _, hw⟩ := List.any_eq_true.1 h
  rw [Bool.and_eq_true, decide_eq_true_iff] at hw
  exact rch_word w (fun s hs => by simpa using List.all_eq_true.1 hw.1 s hs) hw.2
theorem okb_n {b : OB} {n m : Nat} (h : Okb b n) (k : Okb b m) : n = m := by have h1 := h.P; have h2 := k.P; omega
theorem ppok_try {b : OB} {n : Nat} (hb : Okb b n) {pp : Nat × Nat → Nat × Nat → Bool} (ws : List (List Nat))
    (h1 : ((prsN n).all fun a => (prsN n).all fun q => !pp a q || tryW n b.S ws q a) = true) (h2 : ((prsN n).all fun a => pp a a) = true)
    (h3 : ((prsN n).all fun a => (prsN n).all fun q => b.S.all fun s => !pp a (sg s q.1, sg s q.2) || pp a q) = true) : PPok b pp := by
  intro m hm a q a1 a2 q1 q2
  have := okb_n hm hb
  subst this
  have ha : a ∈ prsN m := mem_prsN.2 ⟨a1, a2⟩
  constructor
  · intro hp
    have := List.all_eq_true.1 (List.all_eq_true.1 h1 a ha) q (mem_prsN.2 ⟨q1, q2⟩)
    rw [hp] at this
    exact tryW_rch (by simpa using this)
  · intro hr
    clear q1 q2
    induction hr with
    | base => exact List.all_eq_true.1 h2 a ha
    | @step i k s hs hi hk hr ih =>
      have := List.all_eq_true.1 (List.all_eq_true.1 (List.all_eq_true.1 h3 a ha) (i, k) (mem_prsN.2 ⟨hi, hk⟩)) s hs
      rw [ih] at this
      simpa using this
theorem pp_par : PPok bPar ppPar := by
  obtain ⟨n, hb⟩ := okb_of (b := bPar) (by decide +kernel)
  have : n = 4 := by have := hb.P; simp at this; omega
  subst this
  exact ppok_try hb [[], [0], [1], [0, 1]] (by decide +kernel) (by decide +kernel) (by decide +kernel)
theorem k_prs : prsA bPar 0 2 ppPar = [(0, 2), (0, 3), (1, 2), (1, 3)] ∧ prsE bPar 0 2 = 0 := by decide +kernel
theorem k_fst : fstT bPar rR rO ppPar = some (0, 1, 0) := by decide +kernel
theorem k_rws : rwsE bPar rR rO = 0 := by decide +kernel
theorem k_prE : prE bPar rR rO ppPar = 0 := by unfold prE; rw [if_neg (by rw [k_rws]; decide), if_neg (by rw [k_fst]; exact fun h => by cases h)]
theorem k_prT : prT bPar rR rO ppPar = Pt 0 1 0 0 := by unfold prT; rw [if_neg (by rw [k_rws]; decide), k_fst]; rfl
theorem k_ckp : ckpE bPar rR rO 0 1 2 2 ppPar = 14 := by decide +kernel
abbrev rT : List Int := [1, 2, 0, 0]
theorem k_dst : Dist bTur.S rR rT 2 := dist_words (by decide +kernel) (by decide +kernel)
theorem not_dist {S : List (List Int)} {r x : List Int} {d : Nat} (h : wordsL S d r x = []) : ¬ Dist S r x d := by
  rintro ⟨⟨w, hw, hl⟩, _⟩
  have := mem_wordsL.2 ⟨hw, hl⟩
  rw [h] at this; cases this
theorem k_knd : AnsK bTur rR rT 1 2 0 := .inr ⟨by decide +kernel, .inr ⟨by decide, .inr ⟨2, k_dst, rfl, .inl ⟨not_dist (by decide +kernel), rfl⟩⟩⟩⟩
theorem k_cnt : AnsC bTur rR rT 1 0 := .inr ⟨by decide +kernel, .inr ⟨2, k_dst, .inr ⟨by decide +kernel, by decide +kernel, rfl⟩⟩⟩
theorem k_ccl : cclE bPar rR rO [rR] = 14 := by decide +kernel
end Go.AM

set_option linter.unusedSimpArgs false
set_option linter.unusedVariables false
namespace Go.AM
open Go.RowKit Go.Proofs
theorem l_Bench_ok (b : List Int) (s : List (Bool × List Int)) (f : Bool) (g : Bool) (hb : b.length ≤ 1000000) (hs : s.length ≤ 1000000) : PureOK Try.prog n_l_Bench [LLs f ((g, b) :: s)] (On f ⟨b.length, (g, b) :: s⟩) := by
  refine pure_of (callW_of func_l_Bench form_l_Bench resc_l_Bench (by show 1 ≤ _; decide) ?_)
  have h1 : ((0 : Int) < (s.length : Int) + 1) = True := by simp only [eq_iff_iff, iff_true]; omega
  have h2 : ((0 : Int) < (((g, b) :: s).length : Nat)) = True := by simp only [eq_iff_iff, iff_true, List.length_cons]; omega
  simp -implicitDefEqProofs (disch := omega) [G_l_Bench, wrap_id, h1, h2]
  exact retC_agg (id := 0) (off := 0) (cs := [I b.length, LLs f ((g, b) :: s)]) rfl rfl (by simp) (out_of (is := []) rfl)
theorem l_pair_ok (a b c d : Int) : PureOK Try.prog n_l_pair [I a, I b, I c, I d] (Pt a b c d) := by
  refine pure_of (callW_of func_l_pair form_l_pair resc_l_pair (by show 4 ≤ _; decide) ?_)
  simp -implicitDefEqProofs (disch := omega) [G_l_pair, wrap_id]
  exact retC_agg (id := 0) (off := 0) (cs := [I a, I b, I c, I d]) rfl rfl (by simp) (out_of (is := []) rfl)
theorem l_turning_ok : PureOK Try.prog n_l_turning [] (On true bTur) := by
  refine pure_of (callW_of func_l_turning form_l_turning resc_l_turning (by show 0 ≤ _; decide) ?_)
  simp -implicitDefEqProofs (disch := omega) [G_l_turning, wrap_id]
  refine bsl_of (ys := [I 1, I 0, I 2, I 3]) rfl rfl ?_
  simp -implicitDefEqProofs (disch := omega) [wrap_id, zrep]
  refine bsl_of (ys := [I 1, I 2, I 3, I 0]) rfl rfl ?_
  simp -implicitDefEqProofs (disch := omega) [wrap_id, zrep]
  refine bsl_of (ys := [Ls true [1, 0, 2, 3], Ls true [1, 2, 3, 0]]) rfl rfl ?_
  simp -implicitDefEqProofs (disch := omega) [wrap_id, zrep]
  refine callW_pure (ys := [LLs true [(true, [1, 0, 2, 3]), (true, [1, 2, 3, 0])]]) (ids := []) rfl (l_Bench_ok [1, 0, 2, 3] [(true, [1, 2, 3, 0])] true true (by decide) (by decide)) ?_
  simp -implicitDefEqProofs (disch := omega) [wrap_id]
  exact retC_agg (id := 0) (off := 0) (cs := [I 4, LLs true [(true, [1, 0, 2, 3]), (true, [1, 2, 3, 0])]]) rfl rfl (by decide) (out_of (is := []) rfl)
theorem l_parted_ok : PureOK Try.prog n_l_parted [] (On true bPar) := by
  refine pure_of (callW_of func_l_parted form_l_parted resc_l_parted (by show 0 ≤ _; decide) ?_)
  simp -implicitDefEqProofs (disch := omega) [G_l_parted, wrap_id]
  refine bsl_of (ys := [I 1, I 0, I 2, I 3]) rfl rfl ?_
  simp -implicitDefEqProofs (disch := omega) [wrap_id, zrep]
  refine bsl_of (ys := [I 0, I 1, I 3, I 2]) rfl rfl ?_
  simp -implicitDefEqProofs (disch := omega) [wrap_id, zrep]
  refine bsl_of (ys := [Ls true [1, 0, 2, 3], Ls true [0, 1, 3, 2]]) rfl rfl ?_
  simp -implicitDefEqProofs (disch := omega) [wrap_id, zrep]
  refine callW_pure (ys := [LLs true [(true, [1, 0, 2, 3]), (true, [0, 1, 3, 2])]]) (ids := []) rfl (l_Bench_ok [1, 0, 2, 3] [(true, [0, 1, 3, 2])] true true (by decide) (by decide)) ?_
  simp -implicitDefEqProofs (disch := omega) [wrap_id]
  exact retC_agg (id := 0) (off := 0) (cs := [I 4, LLs true [(true, [1, 0, 2, 3]), (true, [0, 1, 3, 2])]]) rfl rfl (by decide) (out_of (is := []) rfl)
theorem l_row_ok : PureOK Try.prog n_l_row [] (Ls true rR) := by
  refine pure_of (walk func_l_row form_l_row res_l_row (by show 0 ≤ _; decide) ?_)
  simp -implicitDefEqProofs (disch := omega) [G_l_row, wrap_id]
  refine bsl_of (ys := [I 0, I 0, I 1, I 2]) rfl rfl ?_
  simp -implicitDefEqProofs (disch := omega) [wrap_id, zrep]
  exact out_of (is := []) rfl
set_option maxHeartbeats 4000000 in
theorem works_ok : PureOK Try.prog n_l_Works [] (B true) := by
  refine pure_of (walk func_l_Works form_l_Works res_l_Works (by show 0 ≤ _; decide) ?_)
  simp -implicitDefEqProofs (disch := omega) [G_l_Works, wrap_id]
  refine callW_pure rfl l_turning_ok ?_
  simp -implicitDefEqProofs (disch := omega) [wrap_id]
  refine callW_pure rfl l_parted_ok ?_
  simp -implicitDefEqProofs (disch := omega) [wrap_id]
  refine callW_pure rfl l_row_ok ?_
  simp -implicitDefEqProofs (disch := omega) [wrap_id]
  refine bsl_of (ys := [I 0, I 1, I 0, I 2]) rfl rfl ?_
  simp -implicitDefEqProofs (disch := omega) [wrap_id, zrep]
  refine bsl_of (ys := [I 1, I 0]) rfl rfl ?_
  simp -implicitDefEqProofs (disch := omega) [wrap_id, zrep]
  refine callW_pure (ys := [On true bTur, Ls true rR, Ls true [1, 0]]) (ids := []) rfl (o_Draw_ok true true true bTur sz_tur rR [1, 0] (by decide) (by decide)) ?_
  rw [k_drw.1, k_drw.2]
  simp -implicitDefEqProofs (disch := omega) [wrap_id]
  refine bsl_of (ys := [I 0, I 1]) rfl rfl ?_
  simp -implicitDefEqProofs (disch := omega) [wrap_id, zrep]
  refine callW_pure (ys := [On true bTur, Ls true [0, 1]]) (ids := []) rfl (o_Joint_ok true true bTur sz_tur [0, 1] (by decide)) ?_
  rw [k_jnt.1, k_jnt.2]
  simp -implicitDefEqProofs (disch := omega) [wrap_id]
  refine bsl_of (ys := [I 0, I 1]) rfl rfl ?_
  simp -implicitDefEqProofs (disch := omega) [wrap_id, zrep]
  refine bsl_of (ys := [I 1, I 0]) rfl rfl ?_
  simp -implicitDefEqProofs (disch := omega) [wrap_id, zrep]
  refine callW_pure (ys := [On true bTur, Ls true [0, 1], Ls true [1, 0]]) (ids := []) rfl (o_Same_ok true true true bTur sz_tur [0, 1] [1, 0] (by decide) (by decide)) ?_
  rw [k_sm1]
  simp -implicitDefEqProofs (disch := omega) [wrap_id]
  refine bsl_of (ys := [I 0, I 1]) rfl rfl ?_
  simp -implicitDefEqProofs (disch := omega) [wrap_id, zrep]
  refine bsl_of (ys := [I 1, I 0]) rfl rfl ?_
  simp -implicitDefEqProofs (disch := omega) [wrap_id, zrep]
  refine callW_pure (ys := [On true bPar, Ls true [0, 1], Ls true [1, 0]]) (ids := []) rfl (o_Same_ok true true true bPar sz_par [0, 1] [1, 0] (by decide) (by decide)) ?_
  rw [k_sm2]
  simp -implicitDefEqProofs (disch := omega) [wrap_id]
  refine bsl_of (ys := [I 0, I 1]) rfl rfl ?_
  simp -implicitDefEqProofs (disch := omega) [wrap_id, zrep]
  refine callW_pure (ys := [On true bTur, Ls true [0, 1]]) (ids := []) rfl (o_Round_ok true true bTur sz_tur [0, 1] (by decide)) ?_
  rw [k_rnd, k_jnt.2]
  simp -implicitDefEqProofs (disch := omega) [wrap_id]
  refine bsl_of (ys := [I 2, I 0, I 0, I 1]) rfl rfl ?_
  simp -implicitDefEqProofs (disch := omega) [wrap_id, zrep]
  refine callW_pure (ys := [On true bTur, Ls true rR, Ls true [2, 0, 0, 1]]) (ids := []) rfl (o_Best_ok true true true bTur sz_tur rR [2, 0, 0, 1] (by decide) (by decide) k_bst) ?_
  simp -implicitDefEqProofs (disch := omega) [wrap_id]
  refine callW_pure (ys := [On true bPar, Ls true rR, Ls true rO]) (ids := []) rfl (o_Best_ok true true true bPar sz_par rR rO (by decide) (by decide) k_bs2) ?_
  simp -implicitDefEqProofs (disch := omega) [wrap_id]
  refine callW_pure (ys := [On true bPar, Ls true rR, Ls true rO]) (ids := []) rfl (o_Closed_ok true true true bPar sz_par rR rO (by decide) (by decide) k_cls) ?_
  simp -implicitDefEqProofs (disch := omega) [wrap_id]
  refine callW_pure (ys := [On true bPar, I 0, I 2]) (ids := []) rfl (o_Pairs_ok true bPar sz_par 0 2 pp_par) ?_
  rw [k_prs.1, k_prs.2]
  simp -implicitDefEqProofs (disch := omega) [wrap_id]
  refine callW_pure (ys := [On true bPar, Ls true rR, Ls true rO]) (ids := []) rfl (o_Pair_ok true true true bPar sz_par rR rO (by decide) (by decide) pp_par) ?_
  rw [k_prT, k_prE]
  simp -implicitDefEqProofs (disch := omega) [wrap_id]
  refine pureW_of (ys := [I 0, I 1, I 2, I 2]) (ids := []) rfl (l_pair_ok 0 1 2 2) ?_
  simp -implicitDefEqProofs (disch := omega) [wrap_id, cmp2, nthT]
  refine pureW_of (ys := [On true bPar, Ls true rR, Ls true rO, Pt 0 1 2 2]) (ids := []) rfl (o_CheckPair_ok true true true bPar sz_par rR rO (by decide) (by decide) 0 1 2 2 pp_par) ?_
  rw [k_ckp]
  simp -implicitDefEqProofs (disch := omega) [wrap_id, cmp2, nthT]
  refine bsl_of (ys := [I 1, I 2, I 0, I 0]) rfl rfl ?_
  simp -implicitDefEqProofs (disch := omega) [wrap_id, zrep]
  refine callW_pure (ys := [On true bTur, Ls true rR, Ls true rT, I 1]) (ids := []) rfl (o_Kind_ok true true true bTur sz_tur rR rT (by decide) (by decide) 1 k_knd) ?_
  simp -implicitDefEqProofs (disch := omega) [wrap_id]
  refine bsl_of (ys := [I 1, I 2, I 0, I 0]) rfl rfl ?_
  simp -implicitDefEqProofs (disch := omega) [wrap_id, zrep]
  refine callW_pure (ys := [On true bTur, Ls true rR, Ls true rT]) (ids := []) rfl (o_Count_ok true true true bTur sz_tur rR rT (by decide) (by decide) k_cnt) ?_
  simp -implicitDefEqProofs (disch := omega) [wrap_id]
  refine bsl_of (ys := [Ls true rR]) rfl rfl ?_
  simp -implicitDefEqProofs (disch := omega) [wrap_id, zrep]
  refine callW_pure (ys := [On true bPar, Ls true rR, Ls true rO, LLs true [(true, rR)]]) (ids := []) rfl (o_CheckClosed_ok true true true true bPar sz_par rR rO [(true, rR)] (by decide) (by decide) (by decide) (by decide)) ?_
  rw [show [(true, rR)].map (fun p => p.2) = [rR] from rfl, k_ccl]
  simp -implicitDefEqProofs (disch := omega) [wrap_id]
  refine bsl_of (ys := [I 1, I 0, I 2, I 0]) rfl rfl ?_
  simp -implicitDefEqProofs (disch := omega) [wrap_id, zrep, cmp2, nthT]
  refine pureW_of (ys := [Ls false [1, 0, 2, 0], Ls true [1, 0, 2, 0]]) (ids := []) rfl (l_ints_ok false true [1, 0, 2, 0] [1, 0, 2, 0] (by decide) (by decide)) ?_
  simp -implicitDefEqProofs (disch := omega) [wrap_id, cmp2, nthT]
  refine bsl_of (ys := [I 0, I 2, I 3, I 1]) rfl rfl ?_
  simp -implicitDefEqProofs (disch := omega) [wrap_id, zrep, cmp2, nthT]
  refine pureW_of (ys := [Ls false [0, 2, 3, 1], Ls true [0, 2, 3, 1]]) (ids := []) rfl (l_ints_ok false true [0, 2, 3, 1] [0, 2, 3, 1] (by decide) (by decide)) ?_
  simp -implicitDefEqProofs (disch := omega) [wrap_id, cmp2, nthT]
  refine bsl_of (ys := [I 1, I 1, I 1]) rfl rfl ?_
  simp -implicitDefEqProofs (disch := omega) [wrap_id, zrep, cmp2, nthT]
  refine pureW_of (ys := [Ls false [1, 1, 1], Ls true [1, 1, 1]]) (ids := []) rfl (l_ints_ok false true [1, 1, 1] [1, 1, 1] (by decide) (by decide)) ?_
  simp -implicitDefEqProofs (disch := omega) [wrap_id, cmp2, nthT]
  refine bsl_of (ys := [I 0, I 0, I 1, I 2]) rfl rfl ?_
  simp -implicitDefEqProofs (disch := omega) [wrap_id, zrep, cmp2, nthT]
  refine bsl_of (ys := [I 0, I 0, I 2, I 1]) rfl rfl ?_
  simp -implicitDefEqProofs (disch := omega) [wrap_id, zrep, cmp2, nthT]
  refine bsl_of (ys := [Ls true [0, 0, 1, 2], Ls true [0, 0, 2, 1]]) rfl rfl ?_
  simp -implicitDefEqProofs (disch := omega) [wrap_id, zrep, cmp2, nthT]
  refine pureW_of (ys := [LLs false (fLs cPar), LLs true [(true, [0, 0, 1, 2]), (true, [0, 0, 2, 1])]]) (ids := []) rfl (l_lists_ok false true (fLs cPar) [(true, [0, 0, 1, 2]), (true, [0, 0, 2, 1])] (by decide) (by decide) (by decide) (by decide)) ?_
  rw [show decide ((fLs cPar).map (fun p => p.2) = [(true, [(0 : Int), 0, 1, 2]), (true, [0, 0, 2, 1])].map (fun p => p.2)) = true from by decide]
  simp -implicitDefEqProofs (disch := omega) [wrap_id, cmp2, nthT]
  refine bsl_of (sz := 2) (ys := [Pr (0, 2), Pr (0, 3), Pr (1, 2), Pr (1, 3)]) (by rfl) (by rfl) ?_
  simp -implicitDefEqProofs (disch := omega) [wrap_id, zrep, cmp2, nthT]
  refine pureW_of (ys := [Ps false [(0, 2), (0, 3), (1, 2), (1, 3)], Ps true [(0, 2), (0, 3), (1, 2), (1, 3)]]) (ids := []) rfl (l_twos_ok false true [(0, 2), (0, 3), (1, 2), (1, 3)] [(0, 2), (0, 3), (1, 2), (1, 3)] (by decide) (by decide)) ?_
  simp -implicitDefEqProofs (disch := omega) [wrap_id, cmp2, nthT]
  refine pureW_of (ys := [I 0, I 1, I 0, I 0]) (ids := []) rfl (l_pair_ok 0 1 0 0) ?_
  simp -implicitDefEqProofs (disch := omega) [wrap_id, cmp2, nthT]
  have ek : eqK (true, [Leaf.int, Leaf.int, Leaf.int, Leaf.int]) (rowV [0, 1, 0, 0]) (rowV [0, 1, 0, 0]) = some true := by
    have := eqK_row (n := 4) (l := [0, 1, 0, 0]) (m := [0, 1, 0, 0]) rfl rfl
    rw [decide_eq_true rfl] at this
    exact this
  rw [eqk_of (neg := false) (a := rowV [0, 1, 0, 0]) (b := rowV [0, 1, 0, 0]) rfl rfl ek]
  simp -implicitDefEqProofs (disch := omega) [wrap_id, cmp2, nthT]
end Go.AM
