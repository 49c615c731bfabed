/-
  THE PLAIN LAW, PART 4: lists that make the same pattern. Own work.
  WHAT THE CODE ANSWERS, PART 2: strokes back, lists joined. Own work.
-/
import Derived.Test.YtjhfhdmdilmplaaKq7

/- THE PLAIN LAW, PART 4: lists that make the same pattern. Own work. -/
set_option linter.unusedSimpArgs false
set_option linter.unusedVariables false
namespace Go.AM

variable {b : Bch}

/-- Two lists of strokes go over into one another by moves. -/
inductive Pat (b : Bch) : List Int → List Int → Prop
  | refl (l : List Int) : Pat b l l
  | symm {l m : List Int} : Pat b l m → Pat b m l
  | trans {l m n : List Int} : Pat b l m → Pat b m n → Pat b l n
  | swap (u v : List Int) {s t : Int} : canB b s t = true → Pat b (u ++ s :: t :: v) (u ++ t :: s :: v)
  | back (u v : List Int) {s : Int} : St8 s → Pat b (u ++ s :: -s :: v) (u ++ v)

theorem Pat.of_eq {l m : List Int} (h : l = m) : Pat b l m := by subst h; exact .refl _

theorem Pat.ctx {l m : List Int} (h : Pat b l m) (u v : List Int) : Pat b (u ++ (l ++ v)) (u ++ (m ++ v)) := by
  induction h with
  | refl l => exact .refl _
  | symm _ ih => exact ih.symm
  | trans _ _ ih1 ih2 => exact ih1.trans ih2
  | swap p q hc => have := Pat.swap (b := b) (u ++ p) (q ++ v) hc; simpa using this
  | back p q hs => have := Pat.back (b := b) (u ++ p) (q ++ v) hs; simpa using this
theorem Pat.left {l m : List Int} (h : Pat b l m) (v : List Int) : Pat b (l ++ v) (m ++ v) := h.ctx [] v
theorem Pat.right {l m : List Int} (h : Pat b l m) (u : List Int) : Pat b (u ++ l) (u ++ m) := by have := h.ctx u []; simpa using this
theorem Pat.app {l m p q : List Int} (h : Pat b l m) (k : Pat b p q) : Pat b (l ++ p) (m ++ q) := (h.left p).trans (k.right m)

theorem S8.cons {s : Int} {l : List Int} (h : St8 s) (h' : S8 l) : S8 (s :: l) := fun x hx => by
  rcases List.mem_cons.1 hx with rfl | hx
  · exact h
  · exact h' x hx
theorem S8.tail {s : Int} {l : List Int} (h : S8 (s :: l)) : S8 l := fun x hx => h x (by simp [hx])
theorem S8.head {s : Int} {l : List Int} (h : S8 (s :: l)) : St8 s := h s (by simp)
theorem S8.nil : S8 [] := fun x hx => by simp at hx

theorem Pat.S8 {l m : List Int} (h : Pat b l m) : S8 l ↔ S8 m := by
  induction h with
  | refl l => exact Iff.rfl
  | symm _ ih => exact ih.symm
  | trans _ _ ih1 ih2 => exact ih1.trans ih2
  | swap p q hc => constructor <;> (intro h x hx; apply h; simp at hx ⊢; rcases hx with hx | rfl | rfl | hx <;> simp_all)
  | back p q hs =>
    constructor
    · intro h x hx; apply h; simp at hx ⊢; rcases hx with hx | hx <;> simp_all
    · intro h x hx
      simp at hx
      rcases hx with hx | rfl | rfl | hx
      · exact h x (by simp [hx])
      · exact hs
      · exact hs.neg
      · exact h x (by simp [hx])

/-- Piles of lists that make the same pattern are the same. -/
theorem Pat.pile {l m : List Int} (h : Pat b l m) : Go.AM.S8 l → Eq8 (pileF b l) (pileF b m) := by
  induction h with
  | refl l => exact fun _ => .refl _
  | symm h ih => exact fun hs => (ih (h.S8.2 hs)).symm
  | trans h _ ih1 ih2 => exact fun hs => (ih1 hs).trans (ih2 (h.S8.1 hs))
  | swap p q hc =>
    intro hs
    exact pile_swap hs.left (hs.right.head) (hs.right.tail.head) hs.right.tail.tail hc
  | back p q hx => exact fun hs => pile_back hs.left hx hs.right.tail.tail

theorem sim_pass {s : Int} : ∀ {v : List Int} (u z : List Int), (∀ t ∈ v, canB b t s = true) → Pat b (u ++ (v ++ s :: z)) (u ++ s :: (v ++ z))
  | [], u, z, _ => .refl _
  | t :: v, u, z, h => by
    have h1 := sim_pass (v := v) (u ++ [t]) z (fun x hx => h x (by simp [hx]))
    simp only [List.append_assoc, List.cons_append, List.nil_append] at h1 ⊢
    exact h1.trans (.swap u (v ++ z) (h t (by simp)))

theorem sim_pair {s : Int} (hs : St8 s) {v : List Int} (u z : List Int) (h : ∀ t ∈ v, canB b t s = true) : Pat b (u ++ s :: (v ++ -s :: z)) (u ++ (v ++ z)) := by
  have h1 := sim_pass (b := b) (s := -s) (v := v) (u ++ [s]) z (fun t ht => by rw [canB_neg hs.1]; exact h t ht)
  simp only [List.append_assoc, List.cons_append, List.nil_append] at h1
  exact h1.trans (.back u (v ++ z) hs)

theorem redF_sim : ∀ (n : Nat) {l : List Int}, S8 l → Pat b l (redF b n l) ∧ S8 (redF b n l) ∧ (redF b n l).length % 2 = l.length % 2
  | 0, l, hl => ⟨.refl _, hl, rfl⟩
  | n + 1, l, hl => by
    simp only [redF]
    split
    · rename_i i k hu
      obtain ⟨u, s, v, z, rfl, rfl, rfl, h4⟩ := undo_split hu
      rw [erase_split]
      have hu8 : S8 u := hl.left
      have hv8 : S8 v := fun x hx => hl x (by simp [hx])
      have hz8 : S8 z := fun x hx => hl x (by simp [hx])
      obtain ⟨h5, h6, h7⟩ := redF_sim n (l := u ++ (v ++ z)) (hu8.append (hv8.append hz8))
      exact ⟨(sim_pair (hl s (by simp)) u z h4).trans h5, h6, by rw [h7]; simp; omega⟩
    · exact ⟨.refl _, hl, rfl⟩

theorem formF_sim : ∀ (n : Nat) {w : List Int}, S8 w → w.length = n → Pat b w (formF b w.length w) ∧ (formF b w.length w).length = w.length ∧ Eq8 (Pj b (formF b w.length w)) (Pj b w)
  | 0, w, hw, hn => by
    have : w = [] := List.eq_nil_of_length_eq_zero hn
    subst this; exact ⟨.refl _, rfl, .refl _⟩
  | n + 1, w, hw, hn => by
    have hne : w ≠ [] := fun e => by rw [e] at hn; cases hn
    obtain ⟨j, hj, g1, g2, g3, g4, g5⟩ := form_step (b := b) hw hne
    have hlen : (w.eraseIdx j).length = w.length - 1 := by rw [List.length_eraseIdx, if_pos hj]
    obtain ⟨h1, h2, h3⟩ := formF_sim n (w := w.eraseIdx j) (fun x hx => hw x (List.mem_of_mem_eraseIdx hx)) (by omega)
    rw [hlen] at h1 h2 h3
    have e : formF b w.length w = w[j] :: formF b (w.length - 1) (w.eraseIdx j) := by
      rw [formF_step b w (by omega), g1]; simp [hj]
    rw [e]
    obtain ⟨j', q1, q2, q3, _⟩ := firstI_spec (b := b) (w := w) w.length (by omega) (Nat.le_refl _)
    have ej : j' = j := by rw [g1] at q1; omega
    subst ej
    have hf := (freeB_iff hj).1 q3
    have split : w = w.take j' ++ w[j'] :: w.drop (j' + 1) := by rw [← List.drop_eq_getElem_cons hj, List.take_append_drop]
    have es : w.eraseIdx j' = w.take j' ++ w.drop (j' + 1) := List.eraseIdx_eq_take_drop_succ ..
    refine ⟨?_, by simp; omega, ?_⟩
    · have p1 := sim_pass (b := b) (s := w[j']) (v := w.take j') [] (w.drop (j' + 1)) hf
      simp only [List.nil_append] at p1
      rw [← split, ← es] at p1
      refine p1.trans ?_
      have := h1.right [w[j']]
      simpa using this
    · have hs : St8 w[j'] := hw _ (List.getElem_mem hj)
      intro k hk
      have p1 : Pj b (w[j'] :: formF b (w.length - 1) (w.eraseIdx j')) k = Pj b (w[j'] :: w.eraseIdx j') k := by
        have a : ∀ l, Pj b (w[j'] :: l) k = Pj b [w[j']] k ++ Pj b l k := fun l => Pj_append [w[j']] l k
        exact ((a _).trans (congrArg (Pj b [w[j']] k ++ ·) (h3 k hk))).trans (a _).symm
      rw [p1, es]
      have p2 : Pj b (w[j'] :: (w.take j' ++ w.drop (j' + 1))) k = Pj b (w.take j' ++ w[j'] :: w.drop (j' + 1)) k := by
        have a : w[j'] :: (w.take j' ++ w.drop (j' + 1)) = (w[j'] :: w.take j') ++ w.drop (j' + 1) := rfl
        have c : w.take j' ++ w[j'] :: w.drop (j' + 1) = (w.take j' ++ [w[j']]) ++ w.drop (j' + 1) := by simp
        rw [a, c, Pj_append, Pj_append _ (w.drop (j' + 1)), Pj_pass hs hf]
      rw [p2, ← split]

/-- A list makes the same pattern as its short form. -/
theorem form_sim {l : List Int} (hl : S8 l) : Pat b l (form b l) := by
  obtain ⟨h1, h2, _⟩ := redF_sim (b := b) l.length hl
  exact h1.trans (formF_sim _ h2 rfl).1
theorem form_S8 {l : List Int} (hl : S8 l) : S8 (form b l) := (form_sim hl).S8.1 hl
theorem form_len_eq {l : List Int} (hl : S8 l) : (form b l).length = (red b l).length := by
  obtain ⟨_, h2, _⟩ := redF_sim (b := b) l.length hl
  exact (formF_sim _ h2 rfl).2.1
theorem form_par {l : List Int} (hl : S8 l) : (form b l).length % 2 = l.length % 2 := by
  rw [form_len_eq hl]
  exact (redF_sim (b := b) l.length hl).2.2

/-- Rows tell the short form. -/
theorem formF_rows : ∀ (n : Nat) {w w' : List Int}, S8 w → S8 w' → w.length = n → Eq8 (Pj b w) (Pj b w') → formF b w.length w = formF b w'.length w'
  | 0, w, w', hw, hw', hn, he => by
    have : w = [] := List.eq_nil_of_length_eq_zero hn
    subst this
    have : fsR (Pj b w') = fsR (Pj b []) := by
      have : ∀ k, k ≤ 8 → fsTo (Pj b w') k = fsTo (Pj b []) k := fun k => by
        induction k with
        | zero => intro _; rfl
        | succ k ih => intro hk; simp only [fsTo]; rw [ih (by omega), he k (by omega)]
      exact this 8 (by omega)
    have := fs_nil hw' (this.trans rfl)
    subst this; rfl
  | n + 1, w, w', hw, hw', hn, he => by
    have hne : w ≠ [] := fun e => by rw [e] at hn; cases hn
    have hfs : fsR (Pj b w) = fsR (Pj b w') := by
      have : ∀ k, k ≤ 8 → fsTo (Pj b w) k = fsTo (Pj b w') k := fun k => by
        induction k with
        | zero => intro _; rfl
        | succ k ih => intro hk; simp only [fsTo]; rw [ih (by omega), he k (by omega)]
      exact this 8 (by omega)
    obtain ⟨j, hj, g1, g2, g3, g4, g5⟩ := form_step (b := b) hw hne
    have hne' : w' ≠ [] := fun e => by subst e; rw [hfs] at g2; exact g2 rfl
    obtain ⟨j', hj', g1', g2', g3', g4', g5'⟩ := form_step (b := b) hw' hne'
    have es : w[j] = w'[j'] := by rw [← g3, ← g3', hfs]
    have hlen : (w.eraseIdx j).length = w.length - 1 := by rw [List.length_eraseIdx, if_pos hj]
    have hlen' : (w'.eraseIdx j').length = w'.length - 1 := by rw [List.length_eraseIdx, if_pos hj']
    have ih := formF_rows n (w := w.eraseIdx j) (w' := w'.eraseIdx j') (fun x hx => hw x (List.mem_of_mem_eraseIdx hx)) (fun x hx => hw' x (List.mem_of_mem_eraseIdx hx)) (by omega) (fun k hk => by
      rw [← g4, ← g4', es]; unfold takeR; rw [he k hk])
    rw [hlen, hlen'] at ih
    rw [formF_step b w (by omega), formF_step b w' (List.length_pos_iff.2 hne'), g1, g1']
    simp only [Int.toNat_natCast]
    rw [ih]
    simp [hj, hj', es]

theorem form_of_pile {l m : List Int} (hl : S8 l) (hm : S8 m) (h : Eq8 (pileF b l) (pileF b m)) : form b l = form b m := by
  obtain ⟨a1, a2, _⟩ := pile_red_eq (b := b) hl
  obtain ⟨c1, c2, _⟩ := pile_red_eq (b := b) hm
  exact formF_rows _ a2 c2 rfl ((a1.symm.trans h).trans c1)

/-- THE STAGE'S THEOREM, in plain words: short forms are equal just if moves lead from the one to the other. -/
theorem sim_iff {l m : List Int} (hl : S8 l) (hm : S8 m) : Pat b l m ↔ form b l = form b m :=
  ⟨fun h => form_of_pile hl hm (h.pile hl), fun h => ((form_sim hl).trans (.of_eq h)).trans (form_sim hm).symm⟩

theorem form_le {l m : List Int} (hl : S8 l) (h : Pat b l m) : (form b l).length ≤ m.length := by
  rw [(sim_iff hl (h.S8.1 hl)).1 h]; exact form_len b m
theorem form_form {l : List Int} (hl : S8 l) : form b (form b l) = form b l := ((sim_iff hl (form_S8 hl)).1 (form_sim hl)).symm
theorem form_nil : form b [] = [] := rfl

/-! ### Strokes back -/
def backL (l : List Int) : List Int := (l.map fun n => -n).reverse
theorem backL_nil : backL [] = [] := rfl
theorem backL_cons (s : Int) (l : List Int) : backL (s :: l) = backL l ++ [-s] := by simp [backL]
theorem backL_append (l m : List Int) : backL (l ++ m) = backL m ++ backL l := by simp [backL]
theorem backL_back (l : List Int) : backL (backL l) = l := by
  induction l with
  | nil => rfl
  | cons s l ih => rw [backL_cons, backL_append, ih]; simp [backL]
theorem backL_len (l : List Int) : (backL l).length = l.length := by simp [backL]
theorem backL_S8 {l : List Int} (h : S8 l) : S8 (backL l) := fun x hx => by
  simp only [backL, List.mem_reverse, List.mem_map] at hx
  obtain ⟨y, hy, rfl⟩ := hx
  exact (h y hy).neg

theorem sim_back : ∀ {l : List Int}, S8 l → Pat b (l ++ backL l) []
  | [], _ => .refl _
  | s :: l, h => by
    have ih := (sim_back (l := l) h.tail).ctx [s] [-s]
    have e : s :: l ++ backL (s :: l) = [s] ++ ((l ++ backL l) ++ [-s]) := by rw [backL_cons]; simp
    rw [e]
    refine ih.trans ?_
    have := Pat.back (b := b) [] [] h.head
    simpa using this
theorem sim_back' {l : List Int} (h : S8 l) : Pat b (backL l ++ l) [] := by
  have := sim_back (b := b) (backL_S8 h)
  rwa [backL_back] at this

theorem Pat.inv {l m : List Int} (h : Pat b l m) (hl : Go.AM.S8 l) : Pat b (backL l) (backL m) := by
  have hm := h.S8.1 hl
  have h1 : Pat b (backL l) (backL l ++ (m ++ backL m)) := by
    have := (sim_back (b := b) hm).symm.right (backL l)
    simpa using this
  have h2 : Pat b (backL l ++ (m ++ backL m)) (backL l ++ (l ++ backL m)) := (h.symm.left (backL m)).right (backL l)
  have h3 : Pat b (backL l ++ (l ++ backL m)) (backL m) := by
    have := (sim_back' (b := b) hl).left (backL m)
    simpa using this
  exact (h1.trans h2).trans h3

theorem form_back_len {l : List Int} (hl : S8 l) : (form b (backL l)).length = (form b l).length := by
  have key : ∀ {l : List Int}, S8 l → (form b (backL l)).length ≤ (form b l).length := fun {l} hl => by
    have := form_le (backL_S8 hl) ((form_sim (b := b) hl).inv hl)
    rwa [backL_len] at this
  have h1 := key hl
  have h2 := key (backL_S8 hl)
  rw [backL_back] at h2
  omega

theorem sim_cancel {u l m : List Int} (hu : S8 u) (h : Pat b (u ++ l) (u ++ m)) : Pat b l m := by
  have h1 : ∀ x, Pat b x (backL u ++ (u ++ x)) := fun x => by
    have := (sim_back' (b := b) hu).symm.left x
    simpa using this
  exact ((h1 l).trans (h.right (backL u))).trans (h1 m).symm

end Go.AM

/- WHAT THE CODE ANSWERS, PART 2: strokes back, lists joined. Own work. -/
set_option linter.unusedSimpArgs false
set_option linter.unusedVariables false
namespace Go.AM
open Go.RowKit Go.Proofs

theorem app_ms_ms {hp : List HObj} {K : AV → List (Nat × HObj) → Prop} {sz b : Nat} {x : AV} {id off n : Nat} {cs : List AV} (h : nthH hp id = some (.cells cs)) (hl : off + n * sz ≤ cs.length) :
    AppW hp sz b x (.ms id off n sz) K = AppW hp sz b x (.sl false n (view cs off (n * sz))) K := by
  have e1 : elems (hpf hp) sz (.ms id off n sz) = some (n, view cs off (n * sz)) := by
    simp only [elems, hpf_nthH, h]
    rw [if_pos ⟨trivial, hl⟩]
  have e2 : elems (hpf hp) sz (.sl false n (view cs off (n * sz))) = some (n, view cs off (n * sz)) := by
    simp only [elems]
    rw [if_pos (by simp only [view, List.length_take, List.length_drop]; omega)]
  unfold AppW
  rw [e1, e2]

/-- A list behind a list that grows. -/
theorem app_rowL {hp : List HObj} {x : AV} {l m : List Int} {g : Bool} {K : AV → List (Nat × HObj) → Prop} (h : RowIs hp x l) (hl : l.length ≤ 1000000) (hm : m.length ≤ 1000000)
    (hK : ∀ ws, (∀ i, i < hp.length → rid x ≠ some i → nthH (writeL hp ws) i = nthH hp i) → hp.length < (writeL hp ws).length → nthH (writeL hp ws) hp.length = some (.cells ((l ++ m).map fun n => I n)) → (∀ i ∈ ws.map (·.1), i = hp.length ∨ rid x = some i) → K (.ms hp.length 0 (l.length + m.length) 1) ws) :
    AppW hp 1 8 x (Ls g m) K := by
  rcases h with ⟨rfl, rfl⟩ | ⟨id, off, cs, rfl, h2, h3, h4⟩
  · rw [app_sl]
    have hn : nthH (writeL hp [(hp.length, HObj.cells ([] ++ m.map fun n => I n))]) hp.length = some (.cells (m.map fun n => I n)) := by
      rw [nthH_writeL (by simp)]; simp [Hp.write, Hp.set_same]
    refine ⟨⟨rfl, by simp, is_pc_ls m, by simp, by simp; omega, by simp; omega, .inl rfl⟩, hK _ (fun i hi _ => ?_) (nthH_lt hn) hn (fun i hi => by simp at hi; exact .inl hi)⟩
    rw [nthH_writeL (by simp), nthH_eq]; simp only [Hp.write]; rw [Hp.set_other _ _ (by omega)]; rfl
  · have hlt := nthH_lt h2
    rw [app_ms, h2, appr_some]
    have hn : nthH (writeL hp [(id, HObj.gone), (hp.length, HObj.cells (view cs off (l.length * 1) ++ m.map fun n => I n))]) hp.length = some (.cells ((l ++ m).map fun n => I n)) := by
      rw [nthH_writeL (by simp; omega)]
      simp only [Hp.write, Hp.set_same, Nat.mul_one, h4]
      simp
    refine ⟨⟨by simp, is_pc_ls m, rfl, by omega, by omega, by omega⟩, hK _ (fun i hi hr => ?_) (nthH_lt hn) hn (fun i hi => by simp at hi; rcases hi with rfl | rfl; exact .inr rfl; exact .inl rfl)⟩
    rw [nthH_writeL (by simp; omega), nthH_eq]; simp only [Hp.write]
    rw [Hp.set_other _ _ (by omega), Hp.set_other _ _ (fun e => hr (by rw [e]; rfl))]; rfl

/-- A list, as a variable holds it, behind a list that grows. -/
theorem app_rowR {hp : List HObj} {x y : AV} {l m : List Int} {K : AV → List (Nat × HObj) → Prop} (h : RowIs hp x l) (hy : RowIs hp y m) (hl : l.length ≤ 1000000) (hm : m.length ≤ 1000000)
    (hK : ∀ ws, (∀ i, i < hp.length → rid x ≠ some i → nthH (writeL hp ws) i = nthH hp i) → hp.length < (writeL hp ws).length → nthH (writeL hp ws) hp.length = some (.cells ((l ++ m).map fun n => I n)) → (∀ i ∈ ws.map (·.1), i = hp.length ∨ rid x = some i) → K (.ms hp.length 0 (l.length + m.length) 1) ws) :
    AppW hp 1 8 x y K := by
  rcases hy with ⟨rfl, rfl⟩ | ⟨id, off, cs, rfl, h2, h3, h4⟩
  · exact app_rowL (g := true) (m := []) h hl hm hK
  · rw [app_ms_ms h2 (by omega), Nat.mul_one, h4]
    exact app_rowL h hl hm hK

theorem disj_of {a b : List Nat} (h : ∀ i ∈ a, i ∉ b) : disj a b = true := by
  unfold disj
  rw [List.all_eq_true]
  intro i hi
  simpa using h i hi

def fineB (b : Bch) (l : List Int) : Bool := !decide (40 < b.c.length) && decide (l.length ≤ 60) && decide (chkL b l = 0)

theorem fine_ok (f g : Bool) (b : Bch) (l : List Int) (hb : b.c.length ≤ 9223372036854775807) (hl : l.length ≤ 9223372036854775807) : PureOK Try.prog 47 [Bn f b, Ls g l] (B (fineB b l)) := by
  refine pure_of (walk Try.func47 form47 res47 (by show 2 ≤ _; decide) ?_)
  simp (disch := omega) [G47, wrap_id]
  have gr : PureOK Try.prog 18 [Bn f b] (B (decide (40 < b.c.length))) := by
    refine pure_of (walk Try.func18 form18 res18 (by show 1 ≤ _; decide) ?_)
    simp (disch := omega) [G18, wrap_id]
    omega
  refine callW_pure rfl gr ?_
  by_cases h1 : 40 < b.c.length
  · simp (disch := omega) [wrap_id, h1, fineB]
  · by_cases h2 : l.length ≤ 60
    · have h2' : (l.length : Int) ≤ 60 := by omega
      simp (disch := omega) [wrap_id, h1, h2']
      refine callW_pure rfl (refList_ok f g b l (by omega) (by omega)) ?_
      simp (disch := omega) [wrap_id, h1, h2, fineB]
      by_cases h3 : chkL b l = 0 <;> simp [h3]
    · have h2' : ¬ (l.length : Int) ≤ 60 := by omega
      simp (disch := omega) [wrap_id, h1, h2, h2', fineB]

theorem fine_iff {b : Bch} {l : List Int} : fineB b l = true ↔ b.c.length ≤ 40 ∧ l.length ≤ 60 ∧ chkL b l = 0 := by
  simp [fineB, and_assoc]

theorem back_take {l : List Int} {i : Nat} (hi : i < l.length) : backL (l.drop i) = backL (l.drop (i + 1)) ++ [-l[i]] := by
  rw [List.drop_eq_getElem_cons hi, backL_cons]

theorem back_w (g : Bool) (l : List Int) (hl : l.length ≤ 1000000) (hs : Small l) {hp : List HObj} {K : AV → List HObj → Prop}
    (hK : ∀ H x, AccR H x (backL l) → (∀ i, i < hp.length → nthH H i = nthH hp i) → (∀ i, rid x = some i → hp.length ≤ i) → K x H) : CallW Try.prog 49 [Ls g l] hp K := by
  refine walk Try.func49 form49 res49 (by show 1 ≤ _; decide) ?_
  simp (disch := omega) [G49, wrap_id]
  refine loop_eq (fun q : Nat × AV × List HObj => ⟨[(0, Ls g l), (3, q.2.1), (4, I ((q.1 : Int) - 1))], q.2.2⟩)
    (fun q => q.1 ≤ l.length ∧ AccR q.2.2 q.2.1 (backL (l.drop q.1)) ∧ (∀ i, i < hp.length → nthH q.2.2 i = nthH hp i) ∧ (∀ i, rid q.2.1 = some i → hp.length ≤ i) ∧ hp.length ≤ q.2.2.length) (fun q => q.1) (l.length, .sl true 0 [], hp)
    ⟨Nat.le_refl _, .inl ⟨rfl, by simp [backL]⟩, fun _ _ => rfl, fun i h => (by cases h), Nat.le_refl _⟩ rfl ?_
  rintro ⟨n, x, H⟩ ⟨c1, c2, c3, c4, c5⟩
  simp only at c1 c2 c3 c4 c5
  simp (disch := omega) [wrap_id]
  cases n with
  | zero =>
    simp (disch := omega) [wrap_id]
    exact hK H x c2 c3 c4
  | succ n =>
    have hn : n < l.length := by omega
    have hsm := hs.at hn
    have hneg : IntKind.i64.wrap (0 - l[n]) = -l[n] := int_neg_ok _ hsm
    have h1n : (1 : Int) ≤ (n : Int) + 1 := by omega
    simp (disch := omega) [wrap_id, cells_ls, hn, hneg, h1n]
    refine bsl_of rfl rfl ?_
    simp (disch := omega) [wrap_id, zrep]
    have hbl : (backL (l.drop (n + 1))).length = l.length - (n + 1) := by rw [backL_len, List.length_drop]
    refine app_row c2.row (by omega) fun ws w1 w2 w3 => ?_
    simp (disch := omega) [wrap_id]
    refine next_eq (n, .ms H.length 0 ((backL (l.drop (n + 1))).length + 1) 1, writeL H ws) ⟨by simp only; omega, ?_, fun i hi => ?_, fun i hi => ?_, by simp only; omega⟩ (by simp) (by simp)
    · simp only
      rw [back_take hn]
      exact .inr ⟨H.length, by simp, by simp, w3⟩
    · rw [w1 i (by omega) (fun e => by have := c4 i e; omega)]; exact c3 i hi
    · cases hi; exact c5

theorem chkL0 {b : Bch} {l : List Int} : chkL b l = 0 ↔ chkB b = 0 ∧ l.length ≤ 60 ∧ ∀ s ∈ l, strokeB b s = true := by
  constructor
  · intro h
    have hb := chkL_B h
    unfold chkL at h
    rw [if_neg (by simp [hb])] at h
    split at h
    · cases h
    · split at h
      · rename_i hs; exact ⟨hb, by omega, fun s hs' => List.all_eq_true.1 hs s hs'⟩
      · cases h
  · rintro ⟨h1, h2, h3⟩
    unfold chkL
    rw [if_neg (by simp [h1]), if_neg (by omega), if_pos (List.all_eq_true.2 h3)]

theorem strokeB_neg {b : Bch} {s : Int} (h : strokeB b s = true) : strokeB b (-s) = true := by
  simp [strokeB] at h ⊢; omega
theorem strokeB_back {b : Bch} {l : List Int} (h : ∀ s ∈ l, strokeB b s = true) : ∀ s ∈ backL l, strokeB b s = true := fun x hx => by
  simp only [backL, List.mem_reverse, List.mem_map] at hx
  obtain ⟨y, hy, rfl⟩ := hx
  exact strokeB_neg (h y hy)
theorem S8.small {l : List Int} (h : S8 l) : Small l := fun x hx => by have := (h x hx).2; omega

theorem gones_keep {hp : List HObj} {ids : List Nat} {i : Nat} (h : ∀ j ∈ ids, j < hp.length) (h0 : i ∉ ids) : nthH (writeL hp (gones ids)) i = nthH hp i := by
  have h1 : ∀ p ∈ gones ids, p.1 ≤ hp.length := fun p hp' => by
    simp only [gones, List.mem_map] at hp'
    obtain ⟨j, hj, rfl⟩ := hp'
    exact Nat.le_of_lt (h j hj)
  have h2 := congrFun (hpf_write h1) i
  rw [write_gones, if_neg h0] at h2
  rw [nthH_eq, nthH_eq]
  exact h2
theorem writeL_gones_len {hp : List HObj} : ∀ {ids : List Nat}, hp.length ≤ (writeL hp (gones ids)).length
  | ids => writeL_len _ _

/-- A list that a variable holds, as an argument. -/
theorem AccR.pur {hp x l} (h : AccR hp x l) : ∃ f ids, purify (hpf hp) x = some (Ls f l, ids) ∧ ∀ i ∈ ids, rid x = some i ∧ i < hp.length := by
  rcases h with ⟨rfl, rfl⟩ | ⟨id, rfl, _, h2⟩
  · exact ⟨true, [], rfl, fun i hi => by simp at hi⟩
  · refine ⟨false, [id], ?_, fun i hi => by simp at hi; subst hi; exact ⟨rfl, nthH_lt h2⟩⟩
    simp only [purify, purify1, hpf_nthH, h2]
    rw [if_pos ⟨by simp, ls_isPure l⟩]
    simp only [view, List.drop_zero, Nat.mul_one]
    rw [List.take_of_length_le (by simp)]
theorem ms_pur {hp : List HObj} {id n : Nat} {l : List Int} (h : nthH hp id = some (.cells (l.map fun n => I n))) (hn : n = l.length) : purify (hpf hp) (.ms id 0 n 1) = some (Ls false l, [id]) := by
  subst hn
  simp only [purify, purify1, hpf_nthH, h]
  rw [if_pos ⟨by simp, ls_isPure l⟩]
  simp only [view, List.drop_zero, Nat.mul_one]
  rw [List.take_of_length_le (by simp)]
theorem bn_pur {hp : Hp} {f : Bool} {b : Bch} : purify hp (Bn f b) = some (Bn f b, []) := rfl
theorem ls_pur {hp : Hp} {f : Bool} {l : List Int} : purify hp (Ls f l) = some (Ls f l, []) := rfl
theorem purAll3 {hp : Hp} {a x y a' x' y' : AV} {i1 i2 i3 : List Nat} (h1 : purify hp a = some (a', i1)) (h2 : purify hp x = some (x', i2)) (h3 : purify hp y = some (y', i3)) : purifyAll hp [a, x, y] = some ([a', x', y'], i1 ++ (i2 ++ i3)) := by
  simp [purifyAll, h1, h2, h3]

end Go.AM
