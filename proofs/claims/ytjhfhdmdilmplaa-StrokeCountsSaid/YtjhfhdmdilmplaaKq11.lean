/-
  FREEZING what lies in a private object, before a call. Own work.
  THE THEORY OF MOVES, PART 4: what is seen along two lines. Own work.
  WHAT THE CODE ANSWERS, PART 9: through. Own work.
-/
import Derived.Test.YtjhfhdmdilmplaaKq10

/- FREEZING what lies in a private object, before a call. Own work. -/
set_option linter.unusedSimpArgs false
set_option linter.unusedVariables false
namespace Go.AM
open Go.RowKit Go.Proofs

theorem freezeCell {hp : Hp} {g : G} {w : World} (h : HeapOK hp g w) {id : Nat} {cs cs' : List AV} {is : List Nat} (h1 : hp id = some (.cells cs)) (h2 : purifyL hp cs = some (cs', is)) (hid : id ∉ is)
    (hids : ∀ i ∈ is, ∃ cs, hp i = some (.cells cs)) (hrep : cs'.length = cs.length ∧ ∀ j (hj : j < cs.length) (hj' : j < cs'.length) v, Rep w g false cs[j] v → Rep w (g.pub (given hp g is)) true cs'[j] v) :
    HeapOK (Hp.set (Hp.write hp (gones is)) id (.cells cs')) (g.pub (given hp g is)) w ∧ Upd hp g w (Hp.set (Hp.write hp (gones is)) id (.cells cs')) (g.pub (given hp g is)) w := by
  obtain ⟨hokA, updA⟩ := h.giveAll is hids
  have hA : Hp.write hp (gones is) id = some (.cells cs) := by rw [write_gones, if_neg hid]; exact h1
  obtain ⟨l0, r1, r2⟩ := hokA.rep id _ hA
  have T := updA.tr
  have hl0 : g.ρ id = some l0 := r1
  obtain ⟨l1, s1, s2⟩ := h.rep id _ h1
  rw [hl0] at s1; cases s1
  have new : HRep w (g.pub (given hp g is)) (.cells cs') l0 := by
    cases l0 with
    | virg => 
      have e : cs = [] := s2
      have : cs' = [] := List.eq_nil_of_length_eq_zero (by rw [hrep.1, e]; rfl)
      exact this
    | base L => exact r2.elim
    | blk c d =>
      obtain ⟨arr, ty, fz, a1, a2, a3, a4, a5⟩ := r2
      obtain ⟨arr', ty', fz', b1, b2, b3, b4, b5⟩ := s2
      rw [a1] at b1; cases b1
      refine ⟨arr, ty, fz, a1, by rw [hrep.1]; exact a2, a3, a4, fun i hi => ?_⟩
      have hi' : i < cs.length := by rw [← hrep.1]; exact hi
      obtain ⟨x, x1, x2⟩ := b5 i hi'
      exact ⟨x, x1, (hrep.2 i hi' hi x x2).of⟩
  have tr : Trans w (g.pub (given hp g is)) w (g.pub (given hp g is)) := .refl _ _
  have live : (HObj.cells cs').live = (HObj.cells cs).live := rfl
  refine ⟨hokA.change (fun i => i = id) tr (fun i hi => Hp.set_other _ _ hi) (fun _ _ => rfl) (fun _ _ _ _ _ _ _ _ => rfl) (fun _ _ _ _ _ _ _ _ _ hq => hq) ?_ ?_ hokA.ex, updA.trans ⟨tr, ?_, fun b q hs => .inl hs, fun b hb _ => rfl⟩⟩
  · rintro i rfl
    exact ⟨_, l0, Hp.set_same _ _ _, r1, new⟩
  · intro i i' o o' c d d' hi ho ho' hl hl' hr hr'
    subst hi
    by_cases e : i' = i
    · exact e.symm
    · rw [Hp.set_other _ _ e] at ho'
      exact hokA.inj i i' _ o' c d d' hA ho' rfl hl' hr hr'
  · rintro c ⟨i, o, d, ho, hl, hr⟩
    by_cases e : i = id
    · subst e
      exact .inl ⟨i, _, d, hA, rfl, hr⟩
    · rw [Hp.set_other _ _ e] at ho
      exact .inl ⟨i, o, d, ho, hl, hr⟩

/-- A call with what a private object holds turned into values first. -/
theorem callW_freeze {P : Program} {f : FuncId} {xs ys : List AV} {hp : List HObj} {K : AV → List HObj → Prop} {id : Nat} {cs cs' : List AV} {is : List Nat} (h1 : nthH hp id = some (.cells cs)) (h2 : purifyL (hpf hp) cs = some (cs', is)) (hid : id ∉ is)
    (hlen : ys.length = xs.length) (hargs : ∀ i (h : i < xs.length) (h' : i < ys.length), xs[i] = ys[i] ∨ ∃ js, purify (hpf hp) xs[i] = some (ys[i], js) ∧ ∀ j ∈ js, j ∈ is)
    (hcall : CallW P f ys (writeL hp (gones is ++ [(id, .cells cs')])) K) : CallW P f xs hp K := by
  intro ro n w g vs hok hvs hrep
  have hids := purifyL_ids h2
  obtain ⟨q1, q2⟩ := freezeCell hok (by rw [nthH_eq] at h1; exact h1) h2 hid hids (purifyL_rep hok h2 fun i h => h)
  have lt : ∀ p ∈ gones is ++ [(id, HObj.cells cs')], p.1 ≤ hp.length := fun p hp' => by
    rw [List.mem_append] at hp'
    rcases hp' with hp' | hp'
    · simp only [gones, List.mem_map] at hp'
      obtain ⟨i, hi, rfl⟩ := hp'
      obtain ⟨cs, hcs⟩ := hids i hi
      exact Nat.le_of_lt (hpf_lt hcs)
    · simp at hp'; subst hp'; exact Nat.le_of_lt (nthH_lt h1)
  have e : hpf (writeL hp (gones is ++ [(id, .cells cs')])) = Hp.set (Hp.write (hpf hp) (gones is)) id (.cells cs') := by
    rw [hpf_write lt, write_end]
  refine (hcall ro n w _ vs (by rw [e]; exact q1) (by omega) fun i hi => ?_).mono ?_
  · rcases hargs i (by omega) hi with h | ⟨js, h, hs⟩
    · rw [← h]; exact (hrep i (by omega)).mono q2.tr
    · exact (purify_rep hok h hs (hrep i (by omega))).of
  · rintro e' w' ⟨v, r, hp', g', a1, a2, a3, a4, a5⟩
    exact ⟨v, r, hp', g', a1, a2, a3, a4, q2.trans (by rw [e] at a5; exact a5)⟩

end Go.AM

/- THE THEORY OF MOVES, PART 4: what is seen along two lines. Own work. -/
set_option linter.unusedSimpArgs false
set_option linter.unusedVariables false
namespace Go.AM
open Go.RowKit Go.Proofs

variable {b : Bch}

/-- What is left of a list along two lines. -/
def onB (x y s : Int) : Bool := lineI s == x || lineI s == y
def thr (l : List Int) (x y : Int) : List Int := l.filter (onB x y)

theorem onB_neg {x y s : Int} (h : s ≠ 0) : onB x y (-s) = onB x y s := by unfold onB; rw [lineI_neg h]
theorem thr_append (l m : List Int) (x y : Int) : thr (l ++ m) x y = thr l x y ++ thr m x y := List.filter_append ..
theorem thr_keep {x y s : Int} {l : List Int} (h : onB x y s = true) : thr (s :: l) x y = s :: thr l x y := by simp [thr, h]
theorem thr_drop {x y s : Int} {l : List Int} (h : onB x y s = false) : thr (s :: l) x y = thr l x y := by simp [thr, h]
theorem thr_mem {x y s : Int} {l : List Int} (h : s ∈ thr l x y) : s ∈ l := (List.mem_filter.1 h).1
theorem thr_swap (l : List Int) (x y : Int) : thr l x y = thr l y x := by
  unfold thr; congr 1; funext s; unfold onB; rw [Bool.or_comm]
theorem thr_S8 {l : List Int} {x y : Int} (h : S8 l) : S8 (thr l x y) := fun s hs => h s (thr_mem hs)
theorem thr_nil {x y : Int} : ∀ {l : List Int}, (∀ s ∈ l, onB x y s = false) → thr l x y = []
  | [], _ => rfl
  | s :: l, h => by rw [thr_drop (h s (by simp))]; exact thr_nil fun t ht => h t (by simp [ht])

theorem thr_pat {l m : List Int} {x y : Int} (h : Pat b l m) : Pat b (thr l x y) (thr m x y) := by
  induction h with
  | refl l => exact .refl _
  | symm _ ih => exact ih.symm
  | trans _ _ ih1 ih2 => exact ih1.trans ih2
  | @swap p q s t hc =>
    rw [thr_append, thr_append]
    cases h1 : onB x y s <;> cases h2 : onB x y t
    · rw [thr_drop h1, thr_drop h2, thr_drop h2, thr_drop h1]; exact .refl _
    · rw [thr_drop h1, thr_keep h2, thr_keep h2, thr_drop h1]; exact .refl _
    · rw [thr_keep h1, thr_drop h2, thr_drop h2, thr_keep h1]; exact .refl _
    · rw [thr_keep h1, thr_keep h2, thr_keep h2, thr_keep h1]; exact .swap _ _ hc
  | @back p q s hs =>
    rw [thr_append, thr_append]
    cases h1 : onB x y s
    · rw [thr_drop h1, thr_drop (by rw [onB_neg hs.1]; exact h1)]; exact .refl _
    · rw [thr_keep h1, thr_keep (by rw [onB_neg hs.1]; exact h1)]; exact .back _ _ hs

/-- No stroke back. -/
def Pos (l : List Int) : Prop := ∀ s ∈ l, 0 < s
theorem pos_pile {w : List Int} (hw : S8 w) (hp : Pos w) : Eq8 (pileF b w) (Pj b w) := by
  refine pile_of_red hw fun k hk p x q e => ?_
  have ge : ∀ z ∈ Pj b w k, 0 ≤ z := fun z hz => by
    simp only [Pj, List.mem_filterMap] at hz
    obtain ⟨s, hs, h⟩ := hz
    have := hp s hs
    unfold Pj1 at h
    split at h
    · cases h; omega
    · split at h <;> cases h; omega
  have h1 := ge x (by rw [e]; simp)
  have h2 := ge (-x) (by rw [e]; simp)
  omega
theorem pos_rows {u v : List Int} (hu : S8 u) (pu : Pos u) (pv : Pos v) (h : Pat b u v) {k : Nat} (hk : k < 8) : Pj b u k = Pj b v k := by
  have hv := h.S8.1 hu
  rw [← pos_pile hu pu k hk, ← pos_pile hv pv k hk]
  exact h.pile hu k hk

theorem split_first {s : Int} : ∀ m : List Int, (∀ t ∈ m, canB b t s = true) ∨ ∃ u t v, m = u ++ t :: v ∧ (∀ x ∈ u, canB b x s = true) ∧ canB b t s = false
  | [] => .inl (fun t h => by simp at h)
  | t :: m => by
    cases h : canB b t s with
    | false => exact .inr ⟨[], t, m, rfl, fun x hx => by simp at hx, h⟩
    | true =>
      rcases split_first m with h1 | ⟨u, x, v, rfl, h2, h3⟩
      · exact .inl fun x hx => by
          rcases List.mem_cons.1 hx with rfl | hx
          · exact h
          · exact h1 x hx
      · exact .inr ⟨t :: u, x, v, rfl, fun y hy => by
          rcases List.mem_cons.1 hy with rfl | hy
          · exact h
          · exact h2 y hy, h3⟩

theorem pos_line {s : Int} (h : 0 < s) : lineI s = s - 1 := by unfold lineI; split <;> omega

/-- Lists without strokes back that look alike along each two lines make the same pattern. -/
theorem seen_conv : ∀ (n : Nat) {l m : List Int}, l.length ≤ n → S8 l → S8 m → Pos l → Pos m → (∀ s ∈ l, s ≤ b.L) → (∀ s ∈ m, s ≤ b.L) →
    (∀ x y, 0 ≤ x → x < b.L → 0 ≤ y → y < b.L → Pat b (thr l x y) (thr m x y)) → Pat b l m
  | n, [], m, hn, hl, hm, pl, pm, ll, lm, h => by
    cases m with
    | nil => exact .refl _
    | cons t r =>
      exfalso
      have t0 := pm t (by simp)
      have t8 : St8 t := hm t (by simp)
      have e := pos_line t0
      have := lm t (by simp)
      have hp := h (lineI t) (lineI t) (by omega) (by omega) (by omega) (by omega)
      have := pos_rows (k := (lineI t).toNat) (thr_S8 hl) (fun s hs => pl s (thr_mem hs)) (fun s hs => pm s (thr_mem hs)) hp (toNat_lt t8)
      rw [thr_keep (by simp [onB]), Pj_own (toNat_line t8).symm] at this
      cases this
  | 0, s :: l, m, hn, _, _, _, _, _, _, _ => by simp at hn
  | n + 1, s :: l, m, hn, hl, hm, pl, pm, ll, lm, h => by
    have s0 := pl s (by simp)
    have s8 : St8 s := hl s (by simp)
    have e := pos_line s0
    have sL := ll s (by simp)
    have rows : ∀ y, 0 ≤ y → y < b.L → Pj b (thr m (lineI s) y) (lineI s).toNat = s :: Pj b (thr l (lineI s) y) (lineI s).toNat := fun y h1 h2 => by
      have hp := h (lineI s) y (by omega) (by omega) h1 h2
      have := pos_rows (k := (lineI s).toNat) (thr_S8 hl) (fun s hs => pl s (thr_mem hs)) (fun s hs => pm s (thr_mem hs)) hp (toNat_lt s8)
      rw [thr_keep (by simp [onB]), Pj_own (toNat_line s8).symm] at this
      exact this.symm
    have notk : ∀ t : Int, canB b t s = true → lineI t ≠ lineI s ∧ crC b.c (lineI t) (lineI s) = false := fun t ht => canB_iff.1 ht
    rcases split_first (b := b) (s := s) m with h1 | ⟨u, t, v, rfl, h2, h3⟩
    · exfalso
      have := rows (lineI s) (by omega) (by omega)
      rw [thr_nil (fun t ht => by have := (notk t (h1 t ht)).1; simp [onB, this])] at this
      cases this
    · have t0 := pm t (by simp)
      have t8 : St8 t := hm t (by simp)
      have et := pos_line t0
      have tL := lm t (by simp)
      have hts : t = s := by
        by_cases hline : lineI t = lineI s
        · omega
        exfalso
        have cr : crC b.c (lineI t) (lineI s) = true := by
          cases hc : crC b.c (lineI t) (lineI s) with
          | true => rfl
          | false => rw [canB_iff.2 ⟨hline, hc⟩] at h3; cases h3
        have := rows (lineI t) (by omega) (by omega)
        rw [thr_append, thr_nil (l := u) (fun x hx => by
          obtain ⟨a1, a2⟩ := notk x (h2 x hx)
          have : lineI x ≠ lineI t := fun e => by rw [e, cr] at a2; cases a2
          simp [onB, a1, this]), List.nil_append, thr_keep (by simp [onB])] at this
        have es := toNat_line s8
        rw [Pj_cross (by rw [es]; exact hline) (by rw [es]; exact cr)] at this
        have := (List.cons.inj this).1
        omega
      subst hts
      have p1 := sim_pass (b := b) (s := t) (v := u) [] v h2
      simp only [List.nil_append] at p1
      have hm' : S8 (u ++ v) := fun x hx => hm x (by rcases List.mem_append.1 hx with h | h <;> simp [h])
      have ih := seen_conv n (l := l) (m := u ++ v) (by simp at hn; omega) hl.tail hm' (fun x hx => pl x (by simp [hx])) (fun x hx => pm x (by rcases List.mem_append.1 hx with h | h <;> simp [h]))
        (fun x hx => ll x (by simp [hx])) (fun x hx => lm x (by rcases List.mem_append.1 hx with h | h <;> simp [h])) fun x y x1 x2 y1 y2 => by
          have hp := (h x y x1 x2 y1 y2).trans (thr_pat p1)
          cases hon : onB x y t with
          | true =>
            rw [thr_keep hon, thr_keep hon] at hp
            exact sim_cancel (u := [t]) (S8.one t8) hp
          | false =>
            rw [thr_drop hon, thr_drop hon] at hp
            exact hp
      have := ih.right [t]
      exact this.trans p1.symm

end Go.AM

/- WHAT THE CODE ANSWERS, PART 9: through. Own work. -/
set_option linter.unusedSimpArgs false
set_option linter.unusedVariables false
namespace Go.AM
open Go.RowKit Go.Proofs

theorem out_acc {H : List HObj} {a : AV} {l : List Int} (h : AccR H a l) : Out (Ls l.isEmpty l) a H := by
  rcases h with ⟨rfl, rfl⟩ | ⟨id, rfl, h2, h3⟩
  · exact out_of (is := []) rfl
  · have e : l.isEmpty = false := by cases l <;> simp_all
    rw [e]; exact out_ls h3 rfl

theorem through_ok (f : Bool) (l : List Int) (x y : Int) (hl : l.length ≤ 1000000) (hs : Small l) : PureOK Try.prog 50 [Ls f l, I x, I y] (Ls (thr l x y).isEmpty (thr l x y)) := by
  refine pure_of (walk Try.func50 form50 res50 (by show 3 ≤ _; decide) ?_)
  simp (disch := omega) [G50, wrap_id]
  refine loop_eq (fun s : List HObj × AV × Nat => ⟨[(0, Ls f l), (1, I x), (2, I y), (7, s.2.1), (8, I (s.2.2 : Int))], s.1⟩)
    (fun s => AccR s.1 s.2.1 (thr (l.take s.2.2) x y) ∧ s.2.2 ≤ l.length) (fun s => l.length - s.2.2) ([], .sl true 0 [], 0) ⟨.inl ⟨rfl, rfl⟩, Nat.zero_le _⟩ rfl ?_
  rintro ⟨H, a, i⟩ ⟨c1, c2⟩
  simp only at c1 c2 ⊢
  simp (disch := omega) [wrap_id]
  refine c_split (fun hc => ?_) (fun hc => ?_)
  · have hi : i < l.length := by simpa using hc
    have sm := hs l[i] (List.getElem_mem hi)
    simp (disch := omega) [wrap_id, cells_ls, hi]
    refine callW_pure rfl (refLine_ok l[i] sm) ?_
    have tk : l.take (i + 1) = l.take i ++ [l[i]] := by rw [List.take_succ_eq_append_getElem hi]
    have tl : (thr (l.take i) x y).length ≤ i := by
      have := List.length_filter_le (onB x y) (l.take i)
      simp only [List.length_take] at this
      unfold thr; omega
    rw [show (if l[i] < 0 then -1 - l[i] else l[i] - 1) = lineI l[i] from by unfold lineI; split <;> omega]
    have step : onB x y l[i] = true → ∀ {hp : List HObj} {K : AV → List (Nat × HObj) → Prop}, AccR hp a (thr (l.take i) x y) →
        (∀ ws, AccR (writeL hp ws) (.ms hp.length 0 ((thr (l.take i) x y).length + 1) 1) (thr (l.take (i + 1)) x y) → K (.ms hp.length 0 ((thr (l.take i) x y).length + 1) 1) ws) → AppW hp 1 8 a (.sl true 1 [I l[i]]) K := fun hon hp K hA hK => by
      have e : thr (l.take (i + 1)) x y = thr (l.take i) x y ++ [l[i]] := by rw [tk, thr_append, thr_keep hon]; rfl
      refine app_rowL (g := true) (m := [l[i]]) hA.row (by omega) (by simp) fun ws w1 w2 w3 w4 => hK ws ?_
      rw [e]
      exact .inr ⟨hp.length, by simp, by simp, w3⟩
    have fin : ∀ {H' : List HObj} {a' : AV}, AccR H' a' (thr (l.take (i + 1)) x y) → ((fun s : List HObj × AV × Nat => AccR s.1 s.2.1 (thr (l.take s.2.2) x y) ∧ s.2.2 ≤ l.length) (H', a', i + 1)) := fun h => ⟨h, hi⟩
    cases h1 : lineI l[i] == x with
    | true =>
      have hon : onB x y l[i] = true := by unfold onB; rw [h1]; rfl
      simp (disch := omega) [wrap_id, cells_ls, hi, h1]
      refine bsl_of (ys := [I l[i]]) rfl rfl ?_
      simp (disch := omega) [wrap_id, zrep, place]
      refine step hon c1 fun ws w => ?_
      simp (disch := omega) [wrap_id]
      exact next_eq (writeL H ws, _, i + 1) (fin w) (by simp only; omega) (by simp)
    | false =>
    cases h2 : lineI l[i] == y with
    | true =>
      have hon : onB x y l[i] = true := by unfold onB; rw [h1, h2]; rfl
      simp (disch := omega) [wrap_id, cells_ls, hi, h1, h2]
      refine bsl_of (ys := [I l[i]]) rfl rfl ?_
      simp (disch := omega) [wrap_id, zrep, place]
      refine step hon c1 fun ws w => ?_
      simp (disch := omega) [wrap_id]
      exact next_eq (writeL H ws, _, i + 1) (fin w) (by simp only; omega) (by simp)
    | false =>
      have hon : onB x y l[i] = false := by unfold onB; rw [h1, h2]; rfl
      have e : thr (l.take (i + 1)) x y = thr (l.take i) x y := by rw [tk, thr_append, thr_drop hon]; simp [thr]
      simp (disch := omega) [wrap_id, h1, h2]
      exact next_eq (H, a, i + 1) (fin (by rw [e]; exact c1)) (by simp only; omega) (by simp)
  · have hi : i = l.length := by simp at hc; omega
    subst hi
    simp (disch := omega) [wrap_id]
    rw [List.take_of_length_le (Nat.le_refl _)] at c1
    exact out_acc c1

end Go.AM
