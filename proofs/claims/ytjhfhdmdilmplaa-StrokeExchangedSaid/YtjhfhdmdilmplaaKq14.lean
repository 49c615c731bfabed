/-
  STATEMENTS ONE BY ONE: what a part of a function does, by its meaning; so private lists may turn into values between two statements. Own work.
  THE THEORY OF MOVES, PART 11: chains of moves, down to the short form and up again. Own work.
  WHAT THE CODE ANSWERS, PART 21: isMove. Own work.
  CALLS THAT LEAVE THEIR ARGUMENTS: what a function answers is new, and private objects that it has seen stay private. Own work.
  WHAT THE CODE ANSWERS, PART 22: a move carried out on a private list. Own work.
  WHAT THE CODE ANSWERS, PART 23: CheckChain of the specification. Own work.
  WHAT THE CODE ANSWERS, PART 24: CheckChain of the code. Own work.
  WHAT THE CODE ANSWERS, PART 25: undone of the code. Own work.
  WHAT THE CODE ANSWERS, PART 26: the short form of a private list. Own work.
  WHAT THE CODE ANSWERS, PART 27: the closures of down. Own work.
  WHAT THE CODE ANSWERS, PART 28: bring; down. Own work.
  WHAT THE CODE ANSWERS, PART 29: down. Own work.
  WHAT THE CODE ANSWERS, PART 30: a list of moves turned round. Own work.
  WHAT THE CODE ANSWERS, PART 31: up. Own work.
  WHAT THE CODE ANSWERS, PART 32: Chain. Own work.
  THE THEORY OF MOVES, PART 12: the chain that is returned; chains from Moved. Own work.
-/
import Derived.Test.YtjhfhdmdilmplaaKq12

/- STATEMENTS ONE BY ONE: what a part of a function does, by its meaning; so private lists may turn into values between two statements. Own work. -/
set_option linter.unusedSimpArgs false
set_option linter.unusedVariables false
namespace Go.AM
open Go.RowKit Go.Proofs

variable {P : Program}

/-- From a state on, a part does what is asked. -/
def AWS (P : Program) (ac : AC) (st : St) (Q : Exit → St → Prop) : Prop :=
  ∀ (N : Nat) (c : Go.Code) (a : Act) (w : World) (g : G) (R : Exit → Act → World → Prop) (ro : Option Nat) (n : Nat),
    Fits P N c ac → (ro = none ∨ ac.noRf = true) → Sim N st a w g → Lands N st a w g Q R → c.wpIn (W ro) n P R a w

theorem aws_of {ac : AC} {st : St} {Q : Exit → St → Prop} (h : AWP P (E1 P) ac st Q) : AWS P ac st Q := fun N c a w g R ro n hf hr hs hl =>
  fits_sound (E := E1 P) (w1 := w) (g1 := g) ys_E1 rs_E1 hf hr h (.refl _ _) hs hl

theorem aws_le {ac : AC} {st st' : St} {Q : Exit → St → Prop} (hle : St.le st st') (h : AWS P ac st' Q) : AWS P ac st Q := fun N c a w g R ro n hf hr hs hl => by
  obtain ⟨g2, hs2, hu2⟩ := hle N a w g hs
  exact h _ _ _ _ _ _ _ _ hf hr hs2 fun e st2 a2 w2 g3 q2 s2 u2 d2 => hl e st2 a2 w2 g3 q2 s2 (hu2.trans u2) d2

theorem aws_seq {x y : AC} {st : St} {Q : Exit → St → Prop} (h : AWS P x st (Exit.th (fun st => AWS P y st Q) Q)) : AWS P (.seq x y) st Q := fun N c a w g R ro n hf hr hs hl => by
  cases c <;> first | exact hf.elim | skip
  rename_i c1 c2
  have hr1 : ro = none ∨ x.noRf = true := hr.imp (fun h => h) (fun h => by simp [AC.noRf] at h; exact h.1)
  have hr2 : ro = none ∨ y.noRf = true := hr.imp (fun h => h) (fun h => by simp [AC.noRf] at h; exact h.2)
  refine wpIn_seq (h _ _ _ _ _ _ _ _ hf.1 hr1 hs fun e st' a' w' g' hq hs' hu hd => ?_)
  cases e with
  | normal => exact hq _ _ _ _ _ _ _ _ hf.2 hr2 hs' (fun e st2 a2 w2 g2 q2 s2 u2 d2 => hl e st2 a2 w2 g2 q2 s2 (hu.trans u2) (hd.trans hu.tr.size u2 d2))
  | _ => exact hl _ _ _ _ _ hq hs' hu hd

/-- One statement, then the others. -/
theorem aws_step {x y : AC} {st : St} {Q : Exit → St → Prop} (h : AWP P (E1 P) x st (Exit.th (fun st => AWS P y st Q) Q)) : AWS P (.seq x y) st Q := aws_seq (aws_of h)

theorem callW_aws {f : FuncId} {fn : Func} {ac : AC} {ts : List Nat} {xs : List AV} {hp : List HObj} {K : AV → List HObj → Prop} (hf : P.funcs[f]? = some fn) (hc : formOf P fn ts = some ac) (hr : resTmps fn.results.toList = some ts)
    (hl : xs.length ≤ fn.ntmps) (h : AWS P ac { fr := argFr 0 xs, hp := hp } (RetQ ts K)) : CallW P f xs hp K := by
  simp only [formOf, Option.map_eq_some_iff] at hc
  obtain ⟨c, hb, rfl⟩ := hc
  have hfit := ann_fits (P := P) (N := fn.ntmps) (rt := ts) (ex := []) (l := ts) (comp_fits c)
  have hr := resTmps_C (P := P) hr
  rw [← retC_tmps] at h
  intro ro n w g vs hok hvs hrep
  have go : CallsIn (W none) n P f vs w fun e w' => ∃ v r hp' g', e = .returned v ∧ K r hp' ∧ Rep w' g' false r v ∧ HeapOK (hpf hp') g' w' ∧ Upd (hpf hp) g w (hpf hp') g' w' := by
    refine callsIn_of_wp_marks hf hb trivial (h _ _ _ _ g _ _ _ hfit (.inl rfl) ?_ ?_) rfl
    · refine ⟨by simp [hvs]; omega, fun t => ?_, hok⟩
      show Rep w g false (get (argFr 0 xs) t) _
      rw [argFr_get]
      simp only [Nat.zero_le, if_true, Nat.sub_zero]
      by_cases ht : t < xs.length
      · have e1 : xs.getD t .any = xs[t] := by simp [ht]
        rw [e1]
        have := hrep t ht
        simp only [Array.getD_eq_getD_getElem?] at this ⊢
        rw [Array.getElem?_append_left (by omega)]
        exact this
      · have e1 : xs.getD t .any = .any := by simp [Nat.le_of_not_lt ht]
        rw [e1]; exact .any _ _
    · intro e st' a' w' g' hq hs hu hd
      obtain ⟨ms, d1, d2, d3⟩ := hd
      simp only [List.append_nil] at d1
      have fin : (∃ xs, resC (hpf st'.hp) st'.fr (ts.map (·, none)) xs ∧ K (tupOf xs) st'.hp) → LeavesInM (W none) n P fn a'.tmps (fun e w' => ∃ v r hp' g', e = .returned v ∧ K r hp' ∧ Rep w' g' false r v ∧ HeapOK (hpf hp') g' w' ∧ Upd (hpf hp) g w (hpf hp') g' w') a'.defers .returning w' := fun ⟨ys, hy, hK⟩ => by
        rw [d1]
        obtain ⟨k1, k2, k3⟩ := take_marks ms w' d2 d3 hs.2.2 hu
        refine leaves_marks ms w' d2 (fun D hD => (d3 D hD).2.1) ?_
        obtain ⟨v, j1, j2⟩ := run_resultsC (P := P) k1 (fun i => (hs.2.1 i).mono k3) hr hy
        exact ⟨v, j1, v, _, _, g', rfl, hK, j2, k1, k2⟩
      cases e with
      | normal => exact fin hq
      | ret => exact fin hq
      | _ => exact hq.elim
  exact go

end Go.AM

/- THE THEORY OF MOVES, PART 11: chains of moves, down to the short form and up again. Own work. -/
set_option linter.unusedSimpArgs false
set_option linter.unusedVariables false
namespace Go.AM
open Go.RowKit Go.Proofs

variable {b : Bch}

/-- What moves lead to; no list of more than 120. -/
def runO (b : Bch) : List Int → List Mv → Option (List Int)
  | l, [] => some l
  | l, m :: ms => match mvO b l m with
    | some x => if 120 < x.length then none else runO b x ms
    | none => none
/-- What is said of a chain. -/
def chR (b : Bch) (two : List Int) : List Int → List Mv → Int
  | l, [] => if l = two then 0 else 18
  | l, m :: ms => match mvO b l m with
    | some x => if 120 < x.length then 4 else chR b two x ms
    | none => 16
def chainR (b : Bch) (l two : List Int) (ms : List Mv) : Int := if twoR b l two ≠ 0 then twoR b l two else if 8192 < ms.length then 6 else chR b two l ms

theorem chR_run {two : List Int} : ∀ {ms : List Mv} {l : List Int}, chR b two l ms = 0 ↔ runO b l ms = some two
  | [], l => by
    simp only [chR, runO]
    by_cases h : l = two
    · subst h; simp
    · simp [h]
  | m :: ms, l => by
    simp only [chR, runO]
    cases mvO b l m with
    | none => simp
    | some x =>
      simp only
      split
      · simp
      · exact chR_run
theorem runO_app : ∀ {ms ns : List Mv} {l x : List Int}, runO b l ms = some x → runO b l (ms ++ ns) = runO b x ns
  | [], ns, l, x, h => by cases h; rfl
  | m :: ms, ns, l, x, h => by
    simp only [runO, List.cons_append] at h ⊢
    cases hm : mvO b l m with
    | none => rw [hm] at h; cases h
    | some y =>
      rw [hm] at h
      simp only at h ⊢
      split at h
      · cases h
      · rename_i hl
        rw [if_neg hl]; exact runO_app h

/-- What a move is. -/
theorem mvO_cases {l x : List Int} {m : Mv} (h : mvO b l m = some x) : (∃ p t y z, m = (1, (p.length : Int), 0) ∧ l = p ++ t :: y :: z ∧ canB b t y = true ∧ x = p ++ y :: t :: z) ∨
    (∃ p s z, m = (2, (p.length : Int), 0) ∧ l = p ++ s :: -s :: z ∧ x = p ++ z) ∨ (∃ p s z, m = (3, (p.length : Int), s) ∧ l = p ++ z ∧ strokeB b s = true ∧ x = p ++ s :: -s :: z) := by
  obtain ⟨k, a, s⟩ := m
  unfold mvO at h
  simp only at h
  split at h
  · cases h
  rename_i ha
  obtain ⟨n, rfl⟩ : ∃ n : Nat, a = n := ⟨a.toNat, by omega⟩
  have hn : n ≤ l.length := by omega
  simp only [Int.toNat_natCast] at h
  have hp : (l.take n).length = n := by rw [List.length_take]; omega
  split at h
  · rename_i hk
    split at h
    · rename_i hs
      cases h
      exact .inr (.inr ⟨l.take n, s, l.drop n, by rw [hp, hk], (List.take_append_drop n l).symm, hs, rfl⟩)
    · cases h
  split at h
  · cases h
  rename_i hb
  have hn1 : n + 1 < l.length := by omega
  have hs0 : s = 0 := by
    refine Classical.byContradiction fun e => hb (.inr e)
  have e : l = l.take n ++ l[n] :: l[n + 1] :: l.drop (n + 2) := by
    rw [List.getElem_cons_drop, List.getElem_cons_drop, List.take_append_drop]
  have g0 : l.getD n 0 = l[n] := by simp [show n < l.length by omega]
  have g1 : l.getD (n + 1) 0 = l[n + 1] := by simp [hn1]
  rw [g0, g1] at h
  split at h
  · rename_i hc
    cases h
    refine .inl ⟨l.take n, l[n], l[n + 1], l.drop (n + 2), by rw [hp, hc.1, hs0], e, hc.2, ?_⟩
    generalize l[n] = t at *
    generalize l[n + 1] = y at *
    rw [e]
    generalize l.take n = p at hp
    generalize l.drop (n + 2) = z
    subst hp
    simp
  split at h
  · rename_i hc
    cases h
    refine .inr (.inl ⟨l.take n, l[n], l.drop (n + 2), by rw [hp, hc.1, hs0], by rw [← hc.2]; exact e, ?_⟩)
    generalize l[n] = t at *
    generalize l[n + 1] = y at *
    rw [e]
    generalize l.take n = p at hp
    generalize l.drop (n + 2) = z
    subst hp
    simp [List.eraseIdx_append_of_length_le]
  · cases h
theorem mvO_swap {p z : List Int} {t y : Int} (h : canB b t y = true) : mvO b (p ++ t :: y :: z) (1, (p.length : Int), 0) = some (p ++ y :: t :: z) := by
  unfold mvO
  simp only [Int.toNat_natCast]
  rw [if_neg (by simp; omega), if_neg (by omega), if_neg (by simp; omega)]
  have g0 : (p ++ t :: y :: z).getD p.length 0 = t := by simp
  have g1 : (p ++ t :: y :: z).getD (p.length + 1) 0 = y := by simp
  rw [g0, g1, if_pos ⟨trivial, h⟩]
  simp
theorem mvO_take {p z : List Int} {s : Int} : mvO b (p ++ s :: -s :: z) (2, (p.length : Int), 0) = some (p ++ z) := by
  unfold mvO
  simp only [Int.toNat_natCast]
  rw [if_neg (by simp; omega), if_neg (by omega), if_neg (by simp; omega), if_neg (by omega)]
  have g0 : (p ++ s :: -s :: z).getD p.length 0 = s := by simp
  have g1 : (p ++ s :: -s :: z).getD (p.length + 1) 0 = -s := by simp
  rw [g0, g1, if_pos ⟨trivial, rfl⟩]
  simp [List.eraseIdx_append_of_length_le]
theorem mvO_put {p z : List Int} {s : Int} (h : strokeB b s = true) : mvO b (p ++ z) (3, (p.length : Int), s) = some (p ++ s :: -s :: z) := by
  unfold mvO
  simp only [Int.toNat_natCast]
  rw [if_neg (by simp; omega), if_pos trivial, if_pos h]
  simp

/-- A chain leads to the same pattern. -/
theorem runO_pat (hL : 1 ≤ b.L ∧ b.L ≤ 8) : ∀ {ms : List Mv} {l x : List Int}, S8 l → runO b l ms = some x → Pat b l x
  | [], l, x, _, h => by cases h; exact .refl _
  | m :: ms, l, x, hl, h => by
    simp only [runO] at h
    cases hm : mvO b l m with
    | none => rw [hm] at h; cases h
    | some y =>
      rw [hm] at h
      simp only at h
      split at h
      · cases h
      · have p := mvO_pat (by omega) hl hm
        exact p.trans (runO_pat hL (p.S8.1 hl) h)

/-- The swaps that bring a stroke d places to the left, to a place. -/
def brM : Nat → Nat → List Mv
  | 0, _ => []
  | d + 1, to => (1, ((to + d : Nat) : Int), 0) :: brM d to
theorem brM_len : ∀ d to, (brM d to).length = d
  | 0, _ => rfl
  | d + 1, to => by simp [brM, brM_len d to]
theorem br_run {u : List Int} {x : Int} : ∀ (d : Nat) {v : List Int}, v.length = d → (∀ t ∈ v, canB b t x = true) → ∀ {z : List Int}, (u ++ (v ++ x :: z)).length ≤ 120 → runO b (u ++ (v ++ x :: z)) (brM d u.length) = some (u ++ x :: (v ++ z))
  | 0, v, hv, _, z, _ => by
    have : v = [] := List.eq_nil_of_length_eq_zero hv
    subst this; rfl
  | d + 1, v, hv, hc, z, hl => by
    obtain ⟨v', t, rfl⟩ : ∃ v' t, v = v' ++ [t] := ⟨v.dropLast, v.getLast (fun e => by rw [e] at hv; cases hv), (List.dropLast_concat_getLast _).symm⟩
    have hv' : v'.length = d := by simp at hv; exact hv
    simp only [brM, runO]
    have e : u ++ (v' ++ [t] ++ x :: z) = (u ++ v') ++ t :: x :: z := by simp
    have e1 : ((u.length + d : Nat) : Int) = ((u ++ v').length : Int) := by rw [List.length_append, hv']
    rw [e, e1, mvO_swap (hc t (by simp))]
    simp only
    have hl2 : ¬ 120 < ((u ++ v') ++ x :: t :: z).length := by simp at hl ⊢; omega
    rw [if_neg hl2]
    have ih := br_run (u := u) (x := x) d hv' (fun t ht => hc t (by simp [ht])) (z := t :: z) (by simp at hl ⊢; omega)
    simp only [List.append_assoc, List.cons_append, List.nil_append] at ih ⊢
    exact ih

/-- Down, the first part: what can be undone. -/
def dn1F (b : Bch) : Nat → List Int → List Mv
  | 0, _ => []
  | n + 1, l => match undo b l with
    | some (i, k) => brM (k - (i + 1)) (i + 1) ++ (2, (i : Int), 0) :: dn1F b n ((l.eraseIdx k).eraseIdx i)
    | none => []
/-- The second part: the strokes in their order. -/
def dn2F (b : Bch) : Nat → Nat → List Int → List Mv
  | 0, _, _ => []
  | n + 1, to, l => if l = [] then [] else brM (firstI b l l.length).toNat to ++ dn2F b n (to + 1) (l.eraseIdx (firstI b l l.length).toNat)
def dnM (b : Bch) (l : List Int) : List Mv := dn1F b l.length l ++ dn2F b (red b l).length 0 (red b l)

def tri : Nat → Nat
  | 0 => 0
  | n + 1 => tri n + n
theorem tri_mono : ∀ {n m : Nat}, n ≤ m → tri n ≤ tri m
  | n, 0, h => by have : n = 0 := by omega
                  subst this; exact Nat.le_refl _
  | n, m + 1, h => by
    by_cases e : n = m + 1
    · subst e; exact Nat.le_refl _
    · have := tri_mono (n := n) (m := m) (by omega)
      simp only [tri]; omega

theorem dn1_run : ∀ (n : Nat) {l : List Int}, S8 l → l.length ≤ 60 → runO b l (dn1F b n l) = some (redF b n l) ∧ (dn1F b n l).length + tri (redF b n l).length ≤ tri l.length
  | 0, l, _, _ => ⟨rfl, by simp [dn1F, redF]⟩
  | n + 1, l, hs, hl => by
    simp only [dn1F, redF]
    cases hu : undo b l with
    | none => exact ⟨rfl, by simp⟩
    | some q =>
      obtain ⟨i, k⟩ := q
      simp only
      obtain ⟨u, s, v, z, e, h1, h2, h3⟩ := undo_split hu
      have hs1 : St8 s := hs s (by rw [e]; simp)
      have er : (l.eraseIdx k).eraseIdx i = u ++ (v ++ z) := by
        rw [e, h2, ← h1]; exact erase_split
      have ll : l.length = u.length + v.length + z.length + 2 := by rw [e]; simp; omega
      have hs2 : S8 (u ++ (v ++ z)) := fun t ht => hs t (by rw [e]; simp at ht ⊢; rcases ht with h | h | h <;> simp [h])
      obtain ⟨i1, i2⟩ := dn1_run n (l := u ++ (v ++ z)) hs2 (by simp; omega)
      rw [er]
      have b1 := br_run (b := b) (u := u ++ [s]) (x := -s) v.length rfl (fun t ht => by rw [canB_neg hs1.1]; exact h3 t ht) (z := z) (by simp; omega)
      have d1 : k - (i + 1) = v.length := by omega
      have d2 : i + 1 = (u ++ [s]).length := by simp; omega
      refine ⟨?_, ?_⟩
      · rw [d1, d2]
        have e1 : l = u ++ [s] ++ (v ++ -s :: z) := by rw [e]; simp
        conv => lhs; rw [e1]
        rw [runO_app b1]
        simp only [runO]
        have e2 : u ++ [s] ++ -s :: (v ++ z) = u ++ s :: -s :: (v ++ z) := by simp
        rw [e2, ← h1, mvO_take]
        simp only
        rw [if_neg (by simp; omega)]
        exact i1
      · rw [List.length_append, List.length_cons, brM_len, d1]
        have t1 : (u ++ (v ++ z)).length = u.length + v.length + z.length := by simp; omega
        rw [t1] at i2
        rw [ll]
        simp only [tri]
        omega

theorem dn2_run : ∀ (n : Nat) {p w : List Int}, S8 w → w.length = n → p.length + w.length ≤ 60 → runO b (p ++ w) (dn2F b n p.length w) = some (p ++ formF b w.length w) ∧ (dn2F b n p.length w).length ≤ tri w.length
  | 0, p, w, _, hn, _ => by
    have : w = [] := List.eq_nil_of_length_eq_zero hn
    subst this; exact ⟨rfl, Nat.le_refl _⟩
  | n + 1, p, w, hw, hn, hl => by
    have hne : w ≠ [] := fun e => by rw [e] at hn; cases hn
    obtain ⟨j, q1, hj, q2, _⟩ := firstI_spec (b := b) (w := w) w.length (by omega) (Nat.le_refl _)
    have hj : j < w.length := hj
    have hf := (freeB_iff hj).1 q2
    have e : w = w.take j ++ w[j] :: w.drop (j + 1) := by rw [List.getElem_cons_drop, List.take_append_drop]
    have es : w.eraseIdx j = w.take j ++ w.drop (j + 1) := List.eraseIdx_eq_take_drop_succ ..
    have lj : (w.take j).length = j := by rw [List.length_take]; omega
    have le : (w.eraseIdx j).length = n := by rw [List.length_eraseIdx_of_lt hj]; omega
    obtain ⟨i1, i2⟩ := dn2_run n (p := p ++ [w[j]]) (w := w.eraseIdx j) (fun s hs => hw s (List.mem_of_mem_eraseIdx hs)) le (by rw [le]; simp; omega)
    simp only [dn2F]
    rw [if_neg hne, q1]
    simp only [Int.toNat_natCast]
    have b1 := br_run (b := b) (u := p) (x := w[j]) j lj hf (z := w.drop (j + 1)) (by rw [← e]; simp; omega)
    rw [← e, ← es] at b1
    have ef : formF b w.length w = w[j] :: formF b (w.eraseIdx j).length (w.eraseIdx j) := by
      rw [formF_step b w (by omega), q1, le]
      rw [show w.length - 1 = n by omega]
      simp [hj]
    refine ⟨?_, ?_⟩
    · rw [runO_app b1, ef]
      simp only [List.length_append, List.length_singleton, List.append_assoc, List.singleton_append] at i1
      exact i1
    · rw [List.length_append, brM_len, hn]
      rw [le] at i2
      simp only [List.length_append, List.length_singleton] at i2
      simp only [tri]
      omega

theorem dn_run {l : List Int} (hs : S8 l) (hl : l.length ≤ 60) : runO b l (dnM b l) = some (form b l) ∧ (dnM b l).length ≤ 1770 := by
  obtain ⟨h1, h2⟩ := dn1_run (b := b) l.length hs hl
  have hr := (pile_red_eq (b := b) hs).2.1
  have hrl : (red b l).length ≤ l.length := redF_len b l.length l
  obtain ⟨h3, h4⟩ := dn2_run (b := b) _ (p := []) (w := red b l) hr rfl (by simp; omega)
  refine ⟨?_, ?_⟩
  · unfold dnM
    rw [runO_app h1]
    have h3' : runO b (red b l) (dn2F b (red b l).length 0 (red b l)) = some (form b l) := by simpa [form] using h3
    exact h3'
  · unfold dnM
    rw [List.length_append]
    have h5 : (dn1F b l.length l).length + tri (red b l).length ≤ tri l.length := h2
    have h6 : tri l.length ≤ tri 60 := tri_mono hl
    have h7 : tri 60 = 1770 := by decide
    simp only [List.length_nil] at h4
    omega

/-- Up again. -/
def invM (l : List Int) (m : Mv) : Mv := if m.1 = 2 then (3, m.2.1, l.getD m.2.1.toNat 0) else m
def upM (b : Bch) : List Int → List Mv → List Mv
  | _, [] => []
  | l, m :: ms => match mvO b l m with
    | some x => upM b x ms ++ [invM l m]
    | none => []
theorem inv_mv {l x : List Int} {m : Mv} (h : mvO b l m = some x) (hk : m.1 ≠ 3) (hl : ∀ s ∈ l, strokeB b s = true) : mvO b x (invM l m) = some l := by
  rcases mvO_cases h with ⟨p, t, y, z, rfl, rfl, hc, rfl⟩ | ⟨p, s, z, rfl, rfl, rfl⟩ | ⟨p, s, z, rfl, _⟩
  · have : invM (p ++ t :: y :: z) (1, (p.length : Int), 0) = (1, (p.length : Int), 0) := rfl
    rw [this]
    exact mvO_swap (by rw [canB_comm]; exact hc)
  · have : invM (p ++ s :: -s :: z) (2, (p.length : Int), 0) = (3, (p.length : Int), s) := by simp [invM]
    rw [this]
    exact mvO_put (hl s (by simp))
  · exact absurd rfl hk
theorem up_run (hL : 1 ≤ b.L ∧ b.L ≤ 8) : ∀ {ms : List Mv} {l x : List Int}, (∀ m ∈ ms, m.1 ≠ 3) → (∀ s ∈ l, strokeB b s = true) → l.length ≤ 120 → runO b l ms = some x → runO b x (upM b l ms) = some l ∧ (upM b l ms).length = ms.length
  | [], l, x, _, _, _, h => by cases h; exact ⟨rfl, rfl⟩
  | m :: ms, l, x, hk, hs, hl, h => by
    simp only [runO] at h
    simp only [upM]
    cases hm : mvO b l m with
    | none => rw [hm] at h; cases h
    | some y =>
      rw [hm] at h
      simp only at h ⊢
      split at h
      · cases h
      · rename_i hy
        obtain ⟨i1, i2⟩ := up_run hL (ms := ms) (fun m hm => hk m (by simp [hm])) (mvO_strokes hs hm) (by omega) h
        refine ⟨?_, by rw [List.length_append, i2]; rfl⟩
        rw [runO_app i1]
        simp only [runO]
        rw [inv_mv hm (hk m (by simp)) hs]
        simp only
        rw [if_neg (by omega)]

end Go.AM

/- WHAT THE CODE ANSWERS, PART 21: isMove. Own work. -/
set_option linter.unusedSimpArgs false
set_option linter.unusedVariables false
namespace Go.AM
open Go.RowKit Go.Proofs

theorem stroke_in {b : Bch} {s : Int} (hL : 1 ≤ b.L) : strokeB b s = (!(s == 0) && allIn (-b.L) b.L [s]) := by
  unfold strokeB allIn
  simp only [List.all_cons, List.all_nil, Bool.and_true]
  by_cases h0 : s = 0
  · subst h0
    have h1 : ¬ (1 : Int) ≤ 0 := by omega
    simp
  · rw [Bool.eq_iff_iff]
    simp [h0]
    omega
theorem sne_b {s : Int} : (!(s == 0)) = (s != 0) := rfl

set_option maxHeartbeats 1000000 in
theorem isMove_ok (f g : Bool) (b : Bch) (l : List Int) (m : Mv) (hL : 1 ≤ b.L ∧ b.L ≤ 8) (hl : l.length ≤ 1000000) (hs : S8 l) (hm : In64 m.1 ∧ In64 m.2.1 ∧ In64 m.2.2) :
    PureOK Try.prog 67 [.ptr (TB f b) 0, Ls g l, .agg [I m.1, I m.2.1, I m.2.2]] (B (mvO b l m).isSome) := by
  obtain ⟨k, a, s⟩ := m
  obtain ⟨hk, ha, hS⟩ := hm
  simp only at hk ha hS ⊢
  refine pure_of (walk Try.func67 form67 res67 (by show 3 ≤ _; decide) ?_)
  simp -implicitDefEqProofs (disch := omega) [G67, wrap_id]
  have tb : ∀ K : AV → List (Nat × HObj) → Prop, CellsW (TB f b) 0 1 false K = K (I b.L) [] := fun K => by
    apply propext
    constructor
    · rintro ⟨y, h1, h2⟩; cases h1; exact h2
    · intro h; exact ⟨_, rfl, h⟩
  have w1 := within_ok 0 (l.length : Int) true [a] (by simp)
  have in1 : allIn 0 (l.length : Int) [a] = (decide (0 ≤ a) && decide (a ≤ l.length)) := by simp [allIn]
  have in2 : allIn 0 ((l.length : Int) - 2) [a] = (decide (0 ≤ a) && decide (a ≤ (l.length : Int) - 2)) := by simp [allIn]
  by_cases h3 : k = 3
  · subst h3
    simp -implicitDefEqProofs (disch := omega) [wrap_id]
    refine bsl_of (ys := [I a]) rfl rfl ?_
    simp -implicitDefEqProofs (disch := omega) [wrap_id, zrep, place]
    refine pureW_of rfl (within_ok 0 (l.length : Int) true [a] (by simp)) ?_
    rw [in1]
    by_cases h1 : 0 ≤ a ∧ a ≤ l.length
    · have e1 : (decide (0 ≤ a) && decide (a ≤ (l.length : Int))) = true := by simp [h1]
      rw [e1]
      have e2 : mvO b l (3, a, s) = if strokeB b s = true then some (l.take a.toNat ++ s :: -s :: l.drop a.toNat) else none := by
        unfold mvO; simp only; rw [if_neg (by omega), if_pos trivial]
      rw [e2]
      by_cases h0 : s = 0
      · subst h0
        have e3 : strokeB b 0 = false := by rw [stroke_in hL.1]; rfl
        rw [e3]
        simp -implicitDefEqProofs (disch := omega) [wrap_id]
      · have h0' : (s != 0) = true := by simp [h0]
        have e3 : strokeB b s = allIn (-b.L) b.L [s] := by rw [stroke_in hL.1]; simp [h0]
        rw [e3]
        simp -implicitDefEqProofs (disch := omega) [wrap_id, h0', tb]
        refine bsl_of (ys := [I s]) rfl rfl ?_
        simp -implicitDefEqProofs (disch := omega) [wrap_id, zrep, place]
        refine pureW_of rfl (within_ok (-b.L) b.L true [s] (by simp)) ?_
        cases hal : allIn (-b.L) b.L [s] with
        | true => simp -implicitDefEqProofs (disch := omega) [wrap_id, cmp2, nthT]
        | false => simp -implicitDefEqProofs (disch := omega) [wrap_id, cmp2, nthT]
    · have e1 : (decide (0 ≤ a) && decide (a ≤ (l.length : Int))) = false := by
        rw [Bool.and_eq_false_iff]; simp; omega
      rw [e1]
      have e2 : mvO b l (3, a, s) = none := by unfold mvO; simp only; rw [if_pos (by omega)]
      rw [e2]
      simp -implicitDefEqProofs (disch := omega) [wrap_id]
  · have h3' : (k == 3) = false := by simp [h3]
    simp -implicitDefEqProofs (disch := omega) [wrap_id, h3']
    refine bsl_of (ys := [I a]) rfl rfl ?_
    simp -implicitDefEqProofs (disch := omega) [wrap_id, zrep, place]
    refine callW_pure rfl (within_ok 0 ((l.length : Int) - 2) true [a] (by simp)) ?_
    rw [in2]
    by_cases h1 : 0 ≤ a ∧ a ≤ (l.length : Int) - 2
    · have e1 : (decide (0 ≤ a) && decide (a ≤ (l.length : Int) - 2)) = true := by simp [h1]
      rw [e1]
      by_cases h0 : s = 0
      · subst h0
        obtain ⟨n, rfl⟩ : ∃ n : Nat, a = n := ⟨a.toNat, by omega⟩
        have n1 : n < l.length := by omega
        have n2 : n + 1 < l.length := by omega
        have t2 : ((n : Int) + 1).toNat = n + 1 := by omega
        have s1 := hs l[n] (List.getElem_mem n1)
        have s2 := hs l[n + 1] (List.getElem_mem n2)
        have sm2 := hs.small l[n + 1] (List.getElem_mem n2)
        have hneg : IntKind.i64.wrap (0 - l[n + 1]) = -l[n + 1] := int_neg_ok _ sm2
        have e2 : mvO b l (k, (n : Int), 0) = if k = 1 ∧ canB b l[n] l[n + 1] = true then some ((l.set n l[n + 1]).set (n + 1) l[n]) else if k = 2 ∧ l[n + 1] = -l[n] then some ((l.eraseIdx (n + 1)).eraseIdx n) else none := by
          unfold mvO
          simp only [Int.toNat_natCast]
          rw [if_neg (by omega), if_neg h3, if_neg (by omega), show l.getD n 0 = l[n] by simp [n1], show l.getD (n + 1) 0 = l[n + 1] by simp [n2]]
        rw [e2]
        simp -implicitDefEqProofs (disch := omega) [wrap_id, cells_ls, n1, n2, t2]
        refine ⟨by omega, ?_⟩
        generalize l[n] = x at *
        generalize l[n + 1] = y at *
        by_cases k1 : k = 1
        · subst k1
          simp -implicitDefEqProofs (disch := omega) [wrap_id]
          refine callW_pure rfl (can_ok f b x y s1 s2) ?_
          cases hc : canB b x y with
          | true => simp -implicitDefEqProofs (disch := omega) [wrap_id, hc]
          | false => simp -implicitDefEqProofs (disch := omega) [wrap_id, hc]
        · have k1' : (k == 1) = false := by simp [k1]
          by_cases k2 : k = 2
          · subst k2
            have exy : (x == -y) = decide (y = -x) := by
              rw [Bool.eq_iff_iff]; simp; omega
            simp -implicitDefEqProofs (disch := omega) [wrap_id, k1, hneg, exy]
            by_cases hxy : y = -x <;> simp [hxy]
          · have k2' : (k == 2) = false := by simp [k2]
            simp -implicitDefEqProofs (disch := omega) [wrap_id, k1', k2', k1, k2]
      · have h0' : (s != 0) = true := by simp [h0]
        have e2 : mvO b l (k, a, s) = none := by
          unfold mvO; simp only
          rw [if_neg (by omega), if_neg h3, if_pos (.inr h0)]
        rw [e2]
        simp -implicitDefEqProofs (disch := omega) [wrap_id, h0']
    · have e1 : (decide (0 ≤ a) && decide (a ≤ (l.length : Int) - 2)) = false := by
        rw [Bool.and_eq_false_iff]; simp; omega
      rw [e1]
      have e2 : mvO b l (k, a, s) = none := by
        unfold mvO; simp only
        rw [if_neg h3]
        split
        · rfl
        · rw [if_pos (.inl (by omega))]
      rw [e2]
      simp -implicitDefEqProofs (disch := omega) [wrap_id]

end Go.AM

/- CALLS THAT LEAVE THEIR ARGUMENTS: what a function answers is new, and private objects that it has seen stay private. Own work. -/
set_option linter.unusedSimpArgs false
set_option linter.unusedVariables false
namespace Go.AM
open Go.RowKit Go.Proofs

variable {P : Program}

/-- Nothing is answered but a slice of nothing. -/
theorem callW_nil {f : FuncId} {xs ys : List AV} {ids : List Nat} {hp : List HObj} {fl : Bool} {KC : AV → List HObj → Prop} (h1 : purifyAll (hpf hp) xs = some (ys, ids)) (h2 : PureOK P f ys (.sl fl 0 [])) (h3 : KC (.sl fl 0 []) hp) : CallW P f xs hp KC := by
  intro ro n w g vs hok hvs hr
  obtain ⟨hokA, updA⟩ := hok.giveAll ids (purifyAll_ids h1)
  obtain ⟨l1, l2⟩ := purifyAll_rep hok h1 (fun i h => h)
  have hok0 : HeapOK (fun _ => none) { (g.pub (given (hpf hp) g ids)) with ρ := fun _ => none } w := ⟨fun _ _ => rfl, (fun _ _ h => nomatch h), (fun _ _ _ _ _ _ _ h => nomatch h), hokA.ex⟩
  refine (h2 ro n w { (g.pub (given (hpf hp) g ids)) with ρ := fun _ => none } vs hok0 (by omega) (fun i hi => (l2 i (by omega) hi _ (hr i (by omega))).pure rfl _)).mono ?_
  rintro e w' ⟨v, g1, rfl, hr1, hok1, upd1⟩
  have keep : ∀ b, b < w.heap.size → w'.heap[b]? = w.heap[b]? := fun b hb => upd1.keep b hb (fun ⟨_, _, _, h, _⟩ => by cases h)
  have hcell : ∀ b q, g.S b q → w'.cell? ⟨b, q, none⟩ = w.cell? ⟨b, q, none⟩ := fun b q h => upd1.tr.cell b q (.inl h)
  have tr : Trans w g w' { S := fun b q => g1.S b q ∧ (g.S b q ∨ w.heap.size ≤ b), ρ := g.ρ } :=
    ⟨fun b q h => ⟨upd1.tr.S b q (.inl h), .inl h⟩, hcell, fun _ _ h => h, upd1.tr.shp, upd1.tr.os, upd1.tr.tape, upd1.tr.output, upd1.tr.size⟩
  refine ⟨v, .sl fl 0 [], hp, { S := fun b q => g1.S b q ∧ (g.S b q ∨ w.heap.size ≤ b), ρ := g.ρ }, rfl, h3, ?_, ?_, tr, fun c hc => .inl hc, fun b q h => ?_, fun b hb _ => keep b hb⟩
  · cases hr1 with
    | sl _ _ _ _ ad cap vs hn hf hc hr => exact .sl _ _ _ _ ad cap vs hn hf (fun i hi => by cases hi) (fun i hi => by cases hi)
  · refine hok.change (fun _ => False) tr (fun _ _ => rfl) (fun _ _ => rfl) (fun i o c d hi ho hl hr' => keep c (hok.lt ho hl hr')) (fun i o c d hi ho hl hr' q hq => ?_) (fun _ h => h.elim) (fun _ _ _ _ _ _ _ h => h.elim) (fun b q h => hok1.ex b q h.1)
    rcases hq.2 with h | h
    · exact h
    · have := hok.lt ho hl hr'; omega
  · rcases h.2 with h | h
    · exact .inl h
    · exact .inr (.inr h)

/-- A new list of numbers is answered. -/
theorem callW_keep {f : FuncId} {xs ys : List AV} {ids : List Nat} {hp : List HObj} {m : Nat} {l : List Int} {KC : AV → List HObj → Prop} (h1 : purifyAll (hpf hp) xs = some (ys, ids)) (h2 : MadeOK P f ys m 1 (l.map fun n => I n))
    (h3 : KC (.ms hp.length 0 m 1) (hp ++ [.cells (l.map fun n => I n)])) : CallW P f xs hp KC := by
  intro ro n w g vs hok hvs hr
  obtain ⟨hpc, hm⟩ := h2
  obtain ⟨hokA, updA⟩ := hok.giveAll ids (purifyAll_ids h1)
  obtain ⟨l1, l2⟩ := purifyAll_rep hok h1 (fun i h => h)
  have hn : hpf hp hp.length = none := by simp [hpf]
  have e : hpf (hp ++ [.cells (l.map fun n => I n)]) = Hp.set (hpf hp) hp.length (.cells (l.map fun n => I n)) := by
    funext i
    simp only [hpf, Hp.set]
    by_cases e : i = hp.length
    · subst e; simp
    · rw [if_neg e]
      rcases Nat.lt_or_ge i hp.length with h | h
      · rw [List.getElem?_append_left h]
      · rw [List.getElem?_eq_none (by simp; omega), List.getElem?_eq_none h]
  have hok0 : HeapOK (fun _ => none) { (g.pub (given (hpf hp) g ids)) with ρ := fun _ => none } w := ⟨fun _ _ => rfl, (fun _ _ h => nomatch h), (fun _ _ _ _ _ _ _ h => nomatch h), hokA.ex⟩
  refine (hm ro n w { (g.pub (given (hpf hp) g ids)) with ρ := fun _ => none } vs hok0 (by omega) (fun i hi => (l2 i (by omega) hi _ (hr i (by omega))).pure rfl _)).mono ?_
  rintro e' w' ⟨v, g1, rfl, hr1, hok1, upd1⟩
  have keep : ∀ b, b < w.heap.size → w'.heap[b]? = w.heap[b]? := fun b hb => upd1.keep b hb (fun ⟨_, _, _, h, _⟩ => by cases h)
  have hcell : ∀ b q, g.S b q → w'.cell? ⟨b, q, none⟩ = w.cell? ⟨b, q, none⟩ := fun b q h => upd1.tr.cell b q (.inl h)
  obtain ⟨lc, hl, hrep⟩ := hok1.rep 0 (.cells (l.map fun n => I n)) rfl
  have newB : ∀ c d, lc = .blk c d → w.heap.size ≤ c := fun c d e => by
    rcases upd1.live c ⟨0, .cells (l.map fun n => I n), d, rfl, rfl, by rw [hl, e]⟩ with ⟨_, _, _, h, _⟩ | h
    · cases h
    · exact h
  have tr : Trans w g w' (G.home { S := fun b q => g1.S b q ∧ (g.S b q ∨ w.heap.size ≤ b), ρ := g.ρ } hp.length lc) :=
    ⟨fun b q h => ⟨upd1.tr.S b q (.inl h), .inl h⟩, hcell, fun id l' h => by
      have : id ≠ hp.length := fun e => by subst e; have := hok.dom _ hn; rw [this] at h; cases h
      simp only [G.home, if_neg this]; exact h, upd1.tr.shp, upd1.tr.os, upd1.tr.tape, upd1.tr.output, upd1.tr.size⟩
  refine ⟨v, .ms hp.length 0 m 1, hp ++ [.cells (l.map fun n => I n)], G.home { S := fun b q => g1.S b q ∧ (g.S b q ∨ w.heap.size ≤ b), ρ := g.ρ } hp.length lc, rfl, h3, ?_, ?_, ?_⟩
  · cases hr1 with
    | ms _ _ _ _ c d cap arr ty fz h1 h2 h3 h4 => rw [hl] at h1; cases h1; exact .ms _ _ _ _ c d cap arr ty fz (by simp [G.home]) h2 h3 h4
    | msz _ _ _ a l' h1 => rw [hl] at h1; cases h1; exact .msz _ _ _ a lc (by simp [G.home])
  · rw [e]
    refine hok.change (fun i => i = hp.length) tr (fun i hi => Hp.set_other _ _ hi) (fun i hi => by simp [G.home, hi]) (fun i o c d hi ho hl' hr' => keep c (hok.lt ho hl' hr')) (fun i o c d hi ho hl' hr' q hq => ?_) ?_ ?_ (fun b q h => hok1.ex b q h.1)
    · rcases hq.2 with h | h
      · exact h
      · have := hok.lt ho hl' hr'; omega
    · rintro i rfl
      refine ⟨_, lc, Hp.set_same _ _ _, by simp [G.home], ?_⟩
      cases lc with
      | virg => exact hrep
      | base L => exact hrep
      | blk c d =>
        obtain ⟨arr, ty, fz, a1, a2, a3, a4, a5⟩ := hrep
        refine ⟨arr, ty, fz, a1, a2, fun o ho h => a3 o ho h.1, a4, fun j hj => ?_⟩
        obtain ⟨x, b1, b2⟩ := a5 j hj
        refine ⟨x, b1, ?_⟩
        have e1 : (l.map fun n => I n)[j] = I (l[j]'(by simpa using hj)) := by simp
        rw [e1] at b2 ⊢
        cases b2
        exact .v _ _
    · rintro i i' o o' c d d' rfl ho ho' hl1 hl2 hr1 hr2
      simp only [G.home] at hr1 hr2
      simp at hr1
      by_cases e : i' = hp.length
      · exact e.symm
      · rw [Hp.set_other _ _ e] at ho'
        simp [e] at hr2
        have h1 := hok.lt ho' hl2 hr2
        have h2 := newB c d hr1
        omega
  · rw [e]
    refine ⟨tr, ?_, fun b q h => ?_, fun b hb _ => keep b hb⟩
    · rintro c ⟨i, o, d, ho, hl1, hr1⟩
      by_cases e : i = hp.length
      · subst e; simp [G.home] at hr1; exact .inr (newB c d hr1)
      · rw [Hp.set_other _ _ e] at ho
        simp [G.home, e] at hr1
        exact .inl ⟨i, o, d, ho, hl1, hr1⟩
    · rcases h.2 with h | h
      · exact .inl h
      · exact .inr (.inr h)

end Go.AM

/- WHAT THE CODE ANSWERS, PART 22: a move carried out on a private list. Own work. -/
set_option linter.unusedSimpArgs false
set_option linter.unusedVariables false
namespace Go.AM
open Go.RowKit Go.Proofs

/-- A private list, a part of an object. -/
def RowM (hp : List HObj) (x : AV) (l : List Int) : Prop := ∃ id off cs, x = .ms id off l.length 1 ∧ nthH hp id = some (.cells cs) ∧ off + l.length ≤ cs.length ∧ view cs off l.length = (l.map fun n => I n) ∧ (cs.all AV.isPC) = true
theorem RowM.row {hp x l} (h : RowM hp x l) : RowIs hp x l := by
  obtain ⟨id, off, cs, h1, h2, h3, h4, _⟩ := h
  exact .inr ⟨id, off, cs, h1, h2, h3, h4⟩
theorem pcL_pure {l : List AV} (h : (l.all AV.isPC) = true) : (l.all AV.isPure) = true := by
  rw [List.all_eq_true] at h ⊢
  exact fun x hx => pc_pure (h x hx)
theorem RowM.mono {hp H x l} (h : RowM hp x l) (hk : ∀ i, rid x = some i → nthH H i = nthH hp i) : RowM H x l := by
  obtain ⟨id, off, cs, rfl, h1, h2⟩ := h
  exact ⟨id, off, cs, rfl, (hk id rfl).trans h1, h2⟩
theorem RowM.lt {hp x l i} (h : RowM hp x l) (hi : rid x = some i) : i < hp.length := h.row.lt hi
theorem RowM.pur {hp x l} (h : RowM hp x l) : ∃ ids, purify (hpf hp) x = some (Ls false l, ids) := by
  obtain ⟨id, off, cs, rfl, h1, h2, h3, h4⟩ := h
  refine ⟨[id], ?_⟩
  simp only [purify, purify1, hpf_nthH, h1]
  rw [Nat.mul_one, h3, if_pos ⟨h2, pcL_pure h4⟩]

theorem view_set {cs : List AV} {off n j : Nat} {v : AV} (hj : j < n) : view (cs.set (off + j) v) off n = (view cs off n).set j v := by
  unfold view
  rw [List.drop_set, if_neg (by omega), List.take_set, show off + j - off = j by omega]
theorem set_c2 {l : List AV} {n : Nat} {v : AV} (h : n < l.length) : l.take n ++ v :: l.drop (n + 1) = l.set n v := by
  rw [List.set_eq_take_append_cons_drop, if_pos h]
theorem del_view {cs : List AV} {off i j : Nat} {L z : List AV} (h2 : off + L.length ≤ cs.length) (h3 : view cs off L.length = L) (hij : i ≤ j) (hj : j ≤ L.length) : view (delCells z cs off L.length i j) off (L.length - (j - i)) = L.take i ++ L.drop j ∧ off + (L.length - (j - i)) ≤ (delCells z cs off L.length i j).length := by
  obtain ⟨A, B, rfl, rfl⟩ : ∃ A B, cs = A ++ (L ++ B) ∧ off = A.length := by
    refine ⟨cs.take off, cs.drop (off + L.length), ?_, by rw [List.length_take]; omega⟩
    conv => rhs; rhs; lhs; rw [← h3]
    unfold view
    rw [← List.drop_drop, List.take_append_drop, List.take_append_drop]
  have e1 : (A ++ (L ++ B)).take (A.length + i) = A ++ L.take i := by
    rw [List.take_length_add_append, List.take_append_of_le_length (by omega)]
  have e2 : view (A ++ (L ++ B)) (A.length + j) (L.length - j) = L.drop j := by
    unfold view
    rw [List.drop_length_add_append, List.drop_append_of_le_length hj, List.take_left' (by simp)]
  unfold delCells
  rw [e1, e2]
  constructor
  · unfold view
    rw [List.append_assoc, List.drop_left' rfl, ← List.append_assoc, ← List.append_assoc, List.append_assoc (L.take i ++ L.drop j)]
    rw [List.take_left' (by simp; omega)]
  · simp; omega

theorem form95' : formOf Try.prog Try.f95 [6] = some (GDel 8 [I 0]) := by kernel_rfl
theorem form96' : formOf Try.prog Try.f96 [6] = some (GIns 8 [I 0] 105 106) := by kernel_rfl

theorem pc_set {cs : List AV} {n : Nat} {v : Int} (h : (cs.all AV.isPC) = true) : ((cs.set n (I v)).all AV.isPC) = true := by
  rw [List.all_eq_true] at h ⊢
  intro x hx
  rcases List.mem_or_eq_of_mem_set hx with hx | rfl
  · exact h x hx
  · rfl
theorem pc_view {cs : List AV} {off n : Nat} (h : (cs.all AV.isPC) = true) : ((view cs off n).all AV.isPC) = true := by
  rw [List.all_eq_true] at h ⊢
  intro x hx
  unfold view at hx
  exact h x (List.mem_of_mem_drop (List.mem_of_mem_take hx))
theorem pc_zrep {z : List AV} (hz : (z.all AV.isPC) = true) : ∀ k, ((zrep k z).all AV.isPC) = true
  | 0 => rfl
  | k + 1 => by rw [zrep_succ, List.all_append, hz, pc_zrep hz k]; rfl
theorem pc_del {cs : List AV} {off n i j : Nat} (h : (cs.all AV.isPC) = true) : ((delCells [I 0] cs off n i j).all AV.isPC) = true := by
  unfold delCells
  rw [List.all_append, List.all_append, List.all_append, pc_take h, pc_view h, pc_zrep (by rfl), pc_drop h]; rfl
theorem pc_ls (l : List Int) : ((l.map fun n => I n).all AV.isPC) = true := by
  rw [List.all_eq_true]
  intro x hx
  obtain ⟨n, _, rfl⟩ := List.mem_map.1 hx
  rfl

/-- Where a move leaves things. -/
def MoveK (hp : List HObj) (x : AV) (l' : List Int) (K : AV → List HObj → Prop) : Prop := ∀ H y, RowM H y l' → (∀ i, i < hp.length → rid x ≠ some i → nthH H i = nthH hp i) → (∀ i, rid y = some i → rid x = some i ∨ hp.length ≤ i) → hp.length ≤ H.length → K y H

set_option maxHeartbeats 1000000 in
theorem move_w (f : Bool) (b : Bch) (l l' : List Int) (m : Mv) (hm : mvO b l m = some l') (hs : S8 l) (hs8 : -1000000 ≤ b.L ∧ b.L ≤ 1000000) (hl : l.length ≤ 100000) {hp : List HObj} {x : AV} {K : AV → List HObj → Prop} (hx : RowM hp x l) (hK : MoveK hp x l' K) :
    CallW Try.prog 68 [.ptr (TB f b) 0, x, .agg [I m.1, I m.2.1, I m.2.2]] hp K := by
  obtain ⟨id, off, cs, rfl, h1, h2, h3, h4⟩ := hx
  have hid := nthH_lt h1
  refine walk Try.func68 form68 res68 (by show 3 ≤ _; decide) ?_
  have n0 : nthH (hp ++ [HObj.cells [I m.1, I m.2.1, I m.2.2]]) hp.length = some (.cells [I m.1, I m.2.1, I m.2.2]) := nthH_end
  have n1 : nthH (hp ++ [HObj.cells [I m.1, I m.2.1, I m.2.2]]) id = some (.cells cs) := (nthH_front hid).trans h1
  rcases mvO_cases hm with ⟨p, t, y, z, rfl, e, hc, rfl⟩ | ⟨p, s, z, rfl, e, rfl⟩ | ⟨p, s, z, rfl, e, hst, rfl⟩
  · simp only at n0 n1 ⊢
    have ll : l.length = p.length + 2 + z.length := by rw [e]; simp; omega
    have g0 : l[p.length]'(by omega) = t := by simp [e]
    have g1 : l[p.length + 1]'(by omega) = y := by simp [e]
    have v0 := fun {K : AV → List (Nat × HObj) → Prop} => cells_view (K := K) h3 (j := p.length) (by omega)
    have v1 := fun {K : AV → List (Nat × HObj) → Prop} => cells_view (K := K) h3 (j := p.length + 1) (by omega)
    rw [g0] at v0
    rw [g1] at v1
    have px : ((p.length : Int) + 1).toNat = p.length + 1 := by omega
    have hne : id ≠ hp.length := by omega
    have hcs1 : off + p.length < cs.length := by omega
    have hcs2 : off + (p.length + 1) < (cs.set (off + p.length) (I y)).length := by simp; omega
    have lt1 : id < (hp ++ [HObj.cells [I 1, I (p.length : Int), I 0]]).length := by simp; omega
    have s1 := set_c2 (v := I y) hcs1
    have s2 := set_c2 (v := I t) hcs2
    generalize hH : hp ++ [HObj.cells [I 1, I (p.length : Int), I 0]] = H at *
    have n2 : nthH (H.set id (HObj.cells (cs.set (off + p.length) (I y)))) id = some (.cells (cs.set (off + p.length) (I y))) := nthH_set_same lt1
    simp -implicitDefEqProofs (disch := omega) [G68, wrap_id, hid, hH, n0, n1, v0, v1, lt1, s1, s2, n2, hne, cmp2, nthT]
    refine ⟨⟨by omega, by omega⟩, by omega, by omega, ⟨by omega, by omega⟩, by omega, ?_⟩
    have hlen : hp.length ≤ H.length := by rw [← hH]; simp
    have l2 : (p ++ y :: t :: z).length = l.length := by rw [ll]; simp; omega
    refine hK _ _ ⟨id, off, _, by rw [l2], nthH_set_same lt1, by rw [l2]; simpa using h2, ?_, pc_set (pc_set h4)⟩ (fun i hi hr => ?_) (fun i hi => .inl hi) (by simpa using hlen)
    · rw [l2, view_set (by omega), view_set (by omega), h3, e]
      simp
    · rw [nthH_set_ne (fun h => hr (by rw [h]; rfl)), ← hH]
      exact nthH_front hi
  · simp only at n0 n1 ⊢
    have ll : l.length = p.length + 2 + z.length := by rw [e]; simp; omega
    have px : IntKind.i64.wrap ((p.length : Int) + 2) = ((p.length + 2 : Nat) : Int) := by rw [wrap_id ⟨by omega, by omega⟩]; omega
    have lt1 : id < (hp ++ [HObj.cells [I 2, I (p.length : Int), I 0]]).length := by simp; omega
    generalize hH : hp ++ [HObj.cells [I 2, I (p.length : Int), I 0]] = H at *
    have hlen : hp.length ≤ H.length := by rw [← hH]; simp
    simp -implicitDefEqProofs (disch := omega) [G68, wrap_id, hid, hH, n0, n1, lt1]
    rw [show ((p.length : Int) + 2) = ((p.length + 2 : Nat) : Int) by omega]
    have hL : (l.map fun n => I n).length = l.length := by simp
    obtain ⟨d1, d2⟩ := del_view (cs := cs) (off := off) (i := p.length) (j := p.length + 2) (L := l.map fun n => I n) (z := [I 0]) (by rw [hL]; exact h2) (by rw [hL]; exact h3) (by omega) (by rw [hL]; omega)
    rw [hL] at d1 d2
    have l2 : (p ++ z).length = l.length - (p.length + 2 - p.length) := by rw [ll, List.length_append]; omega
    refine delete_ok Try.func95 form95' res95 (by show 3 ≤ _; decide) rfl n1 (by omega) (by omega) (by omega) (pc_view h4) (by omega) (by omega) ?_
    simp -implicitDefEqProofs (disch := omega) [wrap_id, lt1]
    have e2 : l.length - (p.length + 2 - p.length) = l.length - 2 := by omega
    rw [e2] at d1 d2 l2
    refine hK _ _ ⟨id, off, _, by rw [l2], nthH_set_same lt1, by rw [l2]; exact d2, ?_, pc_del h4⟩ (fun i hi hr => ?_) (fun i hi => .inl hi) (by simpa using hlen)
    · rw [l2, d1, ← List.map_take, ← List.map_drop, ← List.map_append, e, List.take_left' rfl, List.drop_length_add_append]; rfl
    · rw [nthH_set_ne (fun h => hr (by rw [h]; rfl)), ← hH]
      exact nthH_front hi
  · simp only at n0 n1 ⊢
    have ll : l.length = p.length + z.length := by rw [e]; simp
    have lt1 : id < (hp ++ [HObj.cells [I 3, I (p.length : Int), I s]]).length := by simp; omega
    generalize hH : hp ++ [HObj.cells [I 3, I (p.length : Int), I s]] = H at *
    have hlen : hp.length ≤ H.length := by rw [← hH]; simp
    have sb : -1000000 ≤ s ∧ s ≤ 1000000 := by unfold strokeB at hst; simp at hst; omega
    simp -implicitDefEqProofs (disch := omega) [G68, wrap_id, hid, hH, n0, n1, lt1]
    refine bsl_of (ys := [I s, I (-s)]) rfl rfl ?_
    simp -implicitDefEqProofs (disch := omega) [wrap_id, zrep, place]
    refine insert_ok (i := p.length) (m := 2) (ys := [I s, I (-s)]) (g := true) Try.func96 form96' res96 (by show 3 ≤ _; decide) rfl rfl (fun h id' off' n' c' bs hb => ext_ovl Try.func105 (by kernel_rfl) (by kernel_rfl) (by kernel_rfl) (tS := 25) (tR := 4) (by kernel_rfl) Try.underlying25 (agg := false) (sz := 1) (by kernel_rfl) (by simp) hb (.inr ⟨_, rfl⟩)) n1 (by omega) h2 (pc_view h4) rfl rfl (by omega) (by omega) ?_
    rw [h3]
    simp -implicitDefEqProofs (disch := omega) [wrap_id, lt1]
    have ei : insCells (l.map fun n => I n) p.length [I s, I (-s)] = (p ++ s :: -s :: z).map fun n => I n := by
      unfold insCells
      rw [e, ← List.map_take, ← List.map_drop, List.take_left' rfl, List.drop_left' rfl]; simp
    rw [ei]
    have hgl : (H.set id HObj.gone).length = H.length := by simp
    refine hK _ _ ⟨H.length, 0, _, by rw [ll]; simp; omega, by rw [← hgl]; exact nthH_end, by simp, ?_, pc_ls _⟩ (fun i hi hr => ?_) (fun i hi => .inr ?_) (by simp; omega)
    · unfold view; rw [List.drop_zero, List.take_of_length_le (by simp)]
    · rw [nthH_front (by simp; omega), nthH_set_ne (fun h => hr (by rw [h]; rfl)), ← hH]
      exact nthH_front hi
    · cases hi; exact hlen

end Go.AM

/- WHAT THE CODE ANSWERS, PART 23: CheckChain of the specification. Own work. -/
set_option linter.unusedSimpArgs false
set_option linter.unusedVariables false
namespace Go.AM
open Go.RowKit Go.Proofs

theorem flat3_view : ∀ {c : List Mv} {i : Nat} (h : i < c.length), view (flat3 c) (i * 3) 3 = [I c[i].1, I c[i].2.1, I c[i].2.2]
  | m :: c, 0, _ => rfl
  | m :: c, i + 1, h => by
    have : flat3 (m :: c) = [I m.1, I m.2.1, I m.2.2] ++ flat3 c := rfl
    have ih := flat3_view (c := c) (i := i) (by simpa using h)
    unfold view at ih ⊢
    rw [this, show (i + 1) * 3 = [I m.1, I m.2.1, I m.2.2].length + i * 3 by simp; omega, List.drop_length_add_append]
    simpa using ih
theorem cells_mv {c : List Mv} {i : Nat} {K : AV → List (Nat × HObj) → Prop} (h : i < c.length) : CellsW (flat3 c) (i * 3) 3 true K = K (.agg [I c[i].1, I c[i].2.1, I c[i].2.2]) [] := by
  have l := flat3_len c
  rw [cells_agg, flat3_view h]
  simp
  intro _
  omega

def MvIn (ms : List Mv) : Prop := ∀ m ∈ ms, In64 m.1 ∧ In64 m.2.1 ∧ In64 m.2.2

theorem chR_cons {b : Bch} {two l : List Int} {m : Mv} {ms : List Mv} : chR b two l (m :: ms) = match mvO b l m with
    | some x => if 120 < x.length then 4 else chR b two x ms
    | none => 16 := rfl

set_option maxHeartbeats 1000000 in
theorem refChain_ok (f g h k : Bool) (b : Bch) (l two : List Int) (ms : List Mv) (hb : b.c.length ≤ 1000000) (hl : l.length ≤ 1000000) (ht : two.length ≤ 1000000) (hm : ms.length ≤ 1000000) (hi : MvIn ms) :
    PureOK Try.prog 31 [Bn f b, Ls g l, Ls h two, Ms k ms] (I (chainR b l two ms)) := by
  refine pure_of (walk Try.func31 form31 res31 (by show 4 ≤ _; decide) ?_)
  simp -implicitDefEqProofs (disch := omega) [G31, wrap_id]
  have tw : PureOK Try.prog 62 [Bn f b, Ls g l, Ls h two] (I (twoR b l two)) := two_ok f g h b l two hb hl ht
  refine callW_pure rfl tw ?_
  by_cases h0 : twoR b l two = 0
  · have e0 : chainR b l two ms = if 8192 < ms.length then 6 else chR b two l ms := by unfold chainR; rw [if_neg (by simp [h0])]
    rw [h0, e0]
    obtain ⟨c1, c2⟩ := two_S8 h0
    obtain ⟨k1, k2, k3⟩ := chkL0.1 c1
    obtain ⟨L1, L2, _⟩ := chkB_zero k1
    have s1 := (chkL_S8 c1).1
    by_cases h8 : 8192 < ms.length
    · have h8' : (8192 : Int) < ms.length := by omega
      rw [if_pos h8]
      simp -implicitDefEqProofs (disch := omega) [wrap_id, h8']
    · have h8' : ¬ (8192 : Int) < ms.length := by omega
      rw [if_neg h8]
      simp -implicitDefEqProofs (disch := omega) [wrap_id, h8']
      refine bsl_of (ys := []) rfl rfl ?_
      simp -implicitDefEqProofs (disch := omega) [wrap_id, zrep, place]
      refine ⟨⟨by omega, by omega⟩, ?_⟩
      have ej : List.map (fun n => I n) l = (l.map fun n => I n) := rfl
      have pl : purify (hpf [HObj.cells [I b.L, Ps f b.c], HObj.cells (l.map fun n => I n)]) (.ms 1 0 l.length 1) = some (Ls false l, [1]) := ms_pur rfl rfl
      refine loop_of (fun q : Nat × List Int => ⟨[(2, Ls h two), (3, Ms k ms), (4, .ref 0 0), (9, Ls false q.2), (10, I (q.1 : Int))], [.cells [I b.L, Ps f b.c], .gone]⟩)
        (fun q => q.1 ≤ ms.length ∧ chR b two l ms = chR b two q.2 (ms.drop q.1) ∧ (∀ s ∈ q.2, strokeB b s = true) ∧ q.2.length ≤ 120) (fun q => ms.length - q.1) (0, l) ⟨Nat.zero_le _, by simp, k3, by simp only; omega⟩ (le_freeze (ids := [1]) (.keep (.keep (.keep (.new pl (by simp) .refl)))) (by intro i hi; simp at hi; subst hi; exact ⟨_, rfl⟩)) ?_
      rintro ⟨i, now⟩ ⟨d1, d2, d3, d4⟩
      simp only at d1 d2 d3 d4 ⊢
      refine hideK' fun K0 hK0 => ?_
      simp -implicitDefEqProofs (disch := omega) [wrap_id]
      refine c_split (fun hc => ?_) (fun hc => ?_)
      · have hi' : i < ms.length := by simp at hc; omega
        have nx : ((i : Int) + 1) = ((i + 1 : Nat) : Int) := by omega
        have sm : Small now := fun s hs => by have := d3 s hs; unfold strokeB at this; simp at this; omega
        rw [List.drop_eq_getElem_cons hi', chR_cons] at d2
        have mi := hi ms[i] (List.getElem_mem hi')
        simp -implicitDefEqProofs (disch := omega) [wrap_id, cells_mv, hi']
        refine ⟨flat3_len ms, ?_⟩
        refine pureW_of rfl (move_ok f false b now ms[i] hb (by omega) (by omega) sm mi) ?_
        cases hmv : mvO b now ms[i] with
        | none =>
          rw [hmv] at d2
          rw [d2] at hK0
          simp -implicitDefEqProofs (disch := omega) [wrap_id, mvAV]
          subst hK0
          simp -implicitDefEqProofs (disch := omega) [wrap_id]
        | some x =>
          rw [hmv] at d2
          simp only at d2
          have d5 := mvO_strokes d3 hmv
          simp -implicitDefEqProofs (disch := omega) [wrap_id, mvAV]
          by_cases hx : 120 < x.length
          · have hx' : (120 : Int) < x.length := by omega
            rw [if_pos hx] at d2
            rw [d2] at hK0
            simp -implicitDefEqProofs (disch := omega) [wrap_id, hx']
            subst hK0
            simp -implicitDefEqProofs (disch := omega) [wrap_id]
          · have hx' : ¬ (120 : Int) < x.length := by omega
            rw [if_neg hx] at d2
            simp -implicitDefEqProofs (disch := omega) [wrap_id, hx']
            rw [hK0]
            exact next_eq (i + 1, x) ⟨by simp only; omega, d2, d5, by simp only; omega⟩ (by simp only; omega) (by simp only [nx])
      · have hi' : i = ms.length := by simp at hc; omega
        subst hi'
        rw [List.drop_length] at d2
        simp only [chR] at d2
        rw [d2] at hK0
        subst hK0
        simp -implicitDefEqProofs (disch := omega) [wrap_id]
        refine callW_pure rfl (equal_ok false h now two (by omega) ht) ?_
        by_cases he : now = two
        · simp -implicitDefEqProofs (disch := omega) [wrap_id, he]
        · simp -implicitDefEqProofs (disch := omega) [wrap_id, he]
  · have h0' : (twoR b l two != 0) = true := by simpa using h0
    have e0 : chainR b l two ms = twoR b l two := by unfold chainR; rw [if_pos h0]
    rw [e0]
    simp -implicitDefEqProofs (disch := omega) [wrap_id, h0']
    refine callW_pure rfl tw ?_
    simp -implicitDefEqProofs (disch := omega) [wrap_id]

end Go.AM

/- WHAT THE CODE ANSWERS, PART 24: CheckChain of the code. Own work. -/
set_option linter.unusedSimpArgs false
set_option linter.unusedVariables false
namespace Go.AM
open Go.RowKit Go.Proofs

/-- A nil slice is an empty private list. -/
theorem le_virgin {fr fr' : List (Nat × AV)} {hp : List HObj} (h : ∀ t, get fr' t = get fr t ∨ (get fr t = .sl true 0 [] ∧ get fr' t = .ms hp.length 0 0 1)) : St.le ⟨fr, hp⟩ ⟨fr', hp ++ [.cells []]⟩ := by
  rintro N a w g ⟨h1, hF, hok⟩
  have hn : hpf hp hp.length = none := by simp [hpf]
  obtain ⟨q1, q2⟩ := hok.virgin hn
  have e : hpf (hp ++ [.cells []]) = Hp.set (hpf hp) hp.length (.cells []) := by
    funext i
    simp only [hpf, Hp.set]
    by_cases e : i = hp.length
    · subst e; simp
    · rw [if_neg e]
      rcases Nat.lt_or_ge i hp.length with h | h
      · rw [List.getElem?_append_left h]
      · rw [List.getElem?_eq_none (by simp; omega), List.getElem?_eq_none h]
  refine ⟨_, ⟨h1, ?_, by rw [e]; exact q1⟩, by rw [e]; exact q2⟩
  intro t
  rcases h t with h | ⟨h2, h3⟩
  · show Rep _ _ _ (get fr' t) _
    rw [h]; exact (hF t).mono q2.tr
  · show Rep _ _ _ (get fr' t) _
    have := hF t
    rw [show get ({ fr := fr, hp := hp } : St).fr t = .sl true 0 [] from h2] at this
    rw [h3]
    generalize a.tmps.getD t undef = v at this ⊢
    cases this with
    | sl _ _ _ _ ad cap vs hn hf hc hr =>
      have : cap = 0 := hf rfl
      subst this
      exact .msz _ _ _ ad .virg (by simp [G.home])

set_option maxHeartbeats 1000000 in
theorem chain_c (f g h k : Bool) (b : Bch) (l two : List Int) (ms : List Mv) (hb : b.c.length ≤ 1000000) (hl : l.length ≤ 1000000) (ht : two.length ≤ 1000000) (hm : ms.length ≤ 1000000) (hi : MvIn ms) :
    PureOK Try.prog 30 [Bn f b, Ls g l, Ls h two, Ms k ms] (I (chainR b l two ms)) := by
  refine pure_of (walk Try.func30 form30 res30 (by show 4 ≤ _; decide) ?_)
  simp -implicitDefEqProofs (disch := omega) [G30, wrap_id]
  refine bsl_of (ys := [Ls g l, Ls h two]) rfl rfl ?_
  simp -implicitDefEqProofs (disch := omega) [wrap_id, zrep]
  refine callW_pure rfl (open2_ok f true g h b l two hb hl ht) ?_
  by_cases h0 : twoR b l two = 0
  · have e0 : chainR b l two ms = if 8192 < ms.length then 6 else chR b two l ms := by unfold chainR; rw [if_neg (by simp [h0])]
    rw [e0]
    obtain ⟨c1, c2⟩ := two_S8 h0
    obtain ⟨k1, k2, k3⟩ := chkL0.1 c1
    obtain ⟨L1, L2, _⟩ := chkB_zero k1
    have s1 := (chkL_S8 c1).1
    by_cases h8 : 8192 < ms.length
    · have h8' : (8192 : Int) < ms.length := by omega
      rw [if_pos h8]
      simp -implicitDefEqProofs (disch := omega) [wrap_id, h8', openAV, h0]
    · have h8' : ¬ (8192 : Int) < ms.length := by omega
      rw [if_neg h8]
      simp -implicitDefEqProofs (disch := omega) [wrap_id, h8', openAV, h0]
      refine clone_w g l (by omega) fun H x x1 x2 x3 => ?_
      simp -implicitDefEqProofs (disch := omega) [wrap_id]
      obtain ⟨y, H', hle, hrow⟩ : ∃ y H', St.le ⟨[(2, Ls h two), (9, .ptr (TB f b) 0), (11, x), (32, Ms k ms), (33, I (ms.length : Int)), (34, I 0)], H⟩ ⟨[(2, Ls h two), (9, .ptr (TB f b) 0), (11, y), (32, Ms k ms), (33, I (ms.length : Int)), (34, I ((0 : Nat) : Int))], H'⟩ ∧ RowM H' y l := by
        rcases x1 with ⟨rfl, rfl⟩ | ⟨id, rfl, x1⟩
        · refine ⟨.ms H.length 0 0 1, H ++ [.cells []], le_virgin fun t => ?_, ⟨H.length, 0, [], rfl, nthH_end, by simp, rfl, rfl⟩⟩
          by_cases e : t = 11
          · subst e; exact .inr ⟨rfl, rfl⟩
          · left
            simp only [get_cons]
            rw [if_neg (Ne.symm e), if_neg (Ne.symm e)]
            rfl
        · exact ⟨_, H, St.le.rfl' _, ⟨id, 0, _, rfl, x1, by simp, by unfold view; rw [List.drop_zero, List.take_of_length_le (by simp)], pc_ls _⟩⟩
      refine loop_of (fun q : Nat × List Int × AV × List HObj => ⟨[(2, Ls h two), (9, .ptr (TB f b) 0), (11, q.2.2.1), (32, Ms k ms), (33, I (ms.length : Int)), (34, I (q.1 : Int))], q.2.2.2⟩)
        (fun q => q.1 ≤ ms.length ∧ chR b two l ms = chR b two q.2.1 (ms.drop q.1) ∧ (∀ s ∈ q.2.1, strokeB b s = true) ∧ q.2.1.length ≤ 120 ∧ RowM q.2.2.2 q.2.2.1 q.2.1) (fun q => ms.length - q.1) (0, l, y, H') ⟨Nat.zero_le _, by simp, k3, by simp only; omega, hrow⟩ hle ?_
      rintro ⟨i, now, x, H⟩ ⟨d1, d2, d3, d4, d5⟩
      simp only at d1 d2 d3 d4 d5 ⊢
      refine hideK' fun K0 hK0 => ?_
      simp -implicitDefEqProofs (disch := omega) [wrap_id]
      refine c_split (fun hc => ?_) (fun hc => ?_)
      · have hi' : i < ms.length := by simp at hc; omega
        have nx : ((i : Int) + 1) = ((i + 1 : Nat) : Int) := by omega
        have s8 : S8 now := fun s hs => st8_of k1 (d3 s hs)
        rw [List.drop_eq_getElem_cons hi', chR_cons] at d2
        have mi := hi ms[i] (List.getElem_mem hi')
        have n0 : nthH (H ++ [HObj.cells [I ms[i].1, I ms[i].2.1, I ms[i].2.2]]) H.length = some (.cells [I ms[i].1, I ms[i].2.1, I ms[i].2.2]) := nthH_end
        have d5 : RowM (H ++ [HObj.cells [I ms[i].1, I ms[i].2.1, I ms[i].2.2]]) x now := d5.mono fun j hj => nthH_front (d5.lt hj)
        obtain ⟨ids, px⟩ := d5.pur
        simp -implicitDefEqProofs (disch := omega) [wrap_id, cells_mv, hi', n0]
        generalize H ++ [HObj.cells [I ms[i].1, I ms[i].2.1, I ms[i].2.2]] = H1 at *
        refine ⟨flat3_len ms, ?_⟩
        refine callW_pure (purAll3 (a := .ptr (TB f b) 0) rfl px rfl) (isMove_ok f false b now ms[i] ⟨L1, L2⟩ (by omega) s8 mi) ?_
        cases hmv : mvO b now ms[i] with
        | none =>
          rw [hmv] at d2
          rw [d2] at hK0
          simp -implicitDefEqProofs (disch := omega) [wrap_id]
          subst hK0
          simp -implicitDefEqProofs (disch := omega) [wrap_id]
        | some x' =>
          rw [hmv] at d2
          simp only at d2
          have d6 := mvO_strokes d3 hmv
          simp -implicitDefEqProofs (disch := omega) [wrap_id, n0]
          refine move_w f b now x' ms[i] hmv s8 ⟨by omega, by omega⟩ (by omega) d5 fun H2 y r1 r2 r3 r4 => ?_
          simp -implicitDefEqProofs (disch := omega) [wrap_id, len_row r1.row]
          by_cases hx : 120 < x'.length
          · have hx' : (120 : Int) < x'.length := by omega
            rw [if_pos hx] at d2
            rw [d2] at hK0
            simp -implicitDefEqProofs (disch := omega) [wrap_id, hx']
            subst hK0
            simp -implicitDefEqProofs (disch := omega) [wrap_id]
          · have hx' : ¬ (120 : Int) < x'.length := by omega
            rw [if_neg hx] at d2
            simp -implicitDefEqProofs (disch := omega) [wrap_id, hx']
            rw [hK0]
            exact next_eq (i + 1, x', y, H2) ⟨by simp only; omega, d2, d6, by simp only; omega, r1⟩ (by simp only; omega) (by simp only [nx])
      · have hi' : i = ms.length := by simp at hc; omega
        subst hi'
        rw [List.drop_length] at d2
        simp only [chR] at d2
        rw [d2] at hK0
        subst hK0
        obtain ⟨ids, px⟩ := d5.pur
        simp -implicitDefEqProofs (disch := omega) [wrap_id]
        refine callW_pure (purifyAll2 px ls_pur) (eqs_ok false h now two (by omega) ht) ?_
        by_cases he : now = two
        · simp -implicitDefEqProofs (disch := omega) [wrap_id, he]
        · simp -implicitDefEqProofs (disch := omega) [wrap_id, he]
  · have h0' : (twoR b l two != 0) = true := by simpa using h0
    have e0 : chainR b l two ms = twoR b l two := by unfold chainR; rw [if_pos h0]
    rw [e0]
    simp -implicitDefEqProofs (disch := omega) [wrap_id, h0', openAV, h0]

end Go.AM

/- WHAT THE CODE ANSWERS, PART 25: undone of the code. Own work. -/
set_option linter.unusedSimpArgs false
set_option linter.unusedVariables false
namespace Go.AM
open Go.RowKit Go.Proofs

theorem x_scope {P : Program} {E : HE} {x : AC} {fr : List (Nat × AV)} {hp : List HObj} {Q : Exit → St → Prop} : AWP P E (.scope x) ⟨fr, hp⟩ Q = AWP P E x ⟨fr, hp⟩ (Exit.ng Q) := rfl
theorem ng_n {Q : Exit → St → Prop} {st : St} : Exit.ng Q .normal st = Q .normal st := rfl
theorem ng_r {Q : Exit → St → Prop} {st : St} : Exit.ng Q .ret st = Q .ret st := rfl
theorem ng_e {Q : Exit → St → Prop} {i : Nat} {st : St} : Exit.ng Q (.exit i) st = Q (.exit i) st := rfl

set_option maxHeartbeats 1000000 in
theorem undone_c (f g : Bool) (b : Bch) (l : List Int) (hl : l.length ≤ 1000000) (hs : S8 l) : PureOK Try.prog 93 [.ptr (TB f b) 0, Ls g l] (undoAV (undo b l)) := by
  refine pure_of (walk Try.func93 form93 res93 (by show 2 ≤ _; decide) ?_)
  have sm := hs.small
  simp -implicitDefEqProofs (disch := omega) [G93, wrap_id, x_scope]
  refine loop_eq (fun i : Nat => ⟨[(1, Ls g l), (6, .fn (.func 75) [.ptr (TB f b) 0] []), (7, I (-1)), (8, I (-1)), (14, Ls g l), (15, I (l.length : Int)), (16, I (i : Int))], []⟩)
    (fun i => i ≤ l.length ∧ undo b l = (undo b (l.drop i)).map fun p => (p.1 + i, p.2 + i)) (fun i => l.length - i) 0 ⟨by omega, by simp⟩ rfl ?_
  rintro i ⟨hi1, hi2⟩
  refine hideK' fun K0 hK0 => ?_
  simp -implicitDefEqProofs (disch := omega) [wrap_id, ng_n, ng_r, ng_e]
  refine c_split (fun h => ?_) (fun h => ?_)
  · have h : i < l.length := by simp at h; omega
    have hsi := sm.at h
    have nx : ((i : Int) + 1) = ((i + 1 : Nat) : Int) := by omega
    simp -implicitDefEqProofs (disch := omega) [wrap_id, ng_n, ng_r, ng_e, cells_ls, h]
    refine loop_eq (fun k : Nat => ⟨[(1, Ls g l), (6, .fn (.func 75) [.ptr (TB f b) 0] []), (7, I (-1)), (8, I (-1)), (9, I (i : Int)), (10, I l[i]), (11, I (k : Int)), (14, Ls g l), (15, I (l.length : Int)), (16, I (i : Int))], []⟩)
      (fun k => i + 1 ≤ k ∧ k ≤ l.length ∧ reach b l[i] (l.drop (i + 1)) = (reach b l[i] (l.drop k)).map (· + (k - (i + 1)))) (fun k => l.length - k) (i + 1) ⟨by omega, by omega, by simp⟩ (by simp only [← nx]) ?_
    rintro k ⟨hk1, hk2, hk3⟩
    refine hideK' fun K1 hK1 => ?_
    simp -implicitDefEqProofs (disch := omega) [wrap_id, ng_n, ng_r, ng_e]
    have fail : reach b l[i] (l.drop k) = none → undo b l = (undo b (l.drop (i + 1))).map fun p => (p.1 + (i + 1), p.2 + (i + 1)) := fun hn => by
      rw [hi2, List.drop_eq_getElem_cons h]
      simp only [undo, hk3, hn, Option.map_none]
      rw [Option.map_map]
      congr 1
      funext p
      simp only [Function.comp]
      congr 1 <;> omega
    refine c_split (fun hk => ?_) (fun hk => ?_)
    · have hk : k < l.length := by simp at hk; omega
      have kx : ((k : Int) + 1) = ((k + 1 : Nat) : Int) := by omega
      have hsk := sm.at hk
      have hneg : IntKind.i64.wrap (0 - l[i]) = -l[i] := int_neg_ok _ hsi
      by_cases hx : l[k] = -l[i]
      · have e : undo b l = some (i, k) := by
          rw [hi2, List.drop_eq_getElem_cons h]
          simp only [undo, hk3]
          rw [List.drop_eq_getElem_cons hk]
          simp only [reach, if_pos hx, Option.map_some]
          have : 0 + (k - (i + 1)) + 1 + i = k := by omega
          rw [this, Nat.zero_add]
        rw [e] at hK0
        simp -implicitDefEqProofs (disch := omega) [wrap_id, ng_n, ng_r, ng_e, cells_ls, h, hk, hneg, hx]
        subst hK1
        simp -implicitDefEqProofs (disch := omega) [wrap_id, ng_n, ng_r, ng_e]
        subst hK0
        simp -implicitDefEqProofs (disch := omega) [wrap_id, ng_n, ng_r, ng_e, uI, uK]
        exact out_of (is := []) rfl
      · have hx' : (l[k] == -l[i]) = false := by simpa using hx
        simp -implicitDefEqProofs (disch := omega) [wrap_id, ng_n, ng_r, ng_e, cells_ls, h, hk, hneg, hx']
        refine ⟨by kernel_rfl, ?_⟩
        refine callW_pure rfl (can_ok f b l[i] l[k] (hs _ (List.getElem_mem h)) (hs _ (List.getElem_mem hk))) ?_
        cases hc : canB b l[i] l[k] with
        | true =>
          simp -implicitDefEqProofs (disch := omega) [wrap_id, ng_n, ng_r, ng_e]
          rw [hK1]
          refine next_eq (k + 1) ⟨by omega, by omega, ?_⟩ (by omega) (by simp only [kx])
          rw [hk3, List.drop_eq_getElem_cons hk]
          simp only [reach]
          rw [if_neg hx, if_pos hc, Option.map_map]
          congr 1
          funext p
          simp only [Function.comp]
          omega
        | false =>
          simp -implicitDefEqProofs (disch := omega) [wrap_id, ng_n, ng_r, ng_e]
          subst hK1
          simp -implicitDefEqProofs (disch := omega) [wrap_id, ng_n, ng_r, ng_e]
          rw [hK0]
          refine next_eq (i + 1) ⟨by omega, fail ?_⟩ (by omega) (by simp only [nx])
          rw [List.drop_eq_getElem_cons hk]
          simp only [reach]
          rw [if_neg hx, if_neg (by simp [hc])]
    · have hk : k = l.length := by simp at hk; omega
      simp -implicitDefEqProofs (disch := omega) [wrap_id, ng_n, ng_r, ng_e]
      subst hK1
      simp -implicitDefEqProofs (disch := omega) [wrap_id, ng_n, ng_r, ng_e]
      rw [hK0]
      refine next_eq (i + 1) ⟨by omega, fail ?_⟩ (by omega) (by simp only [nx])
      rw [List.drop_of_length_le (by omega)]
      rfl
  · have h : i = l.length := by simp at h; omega
    have e : l.drop i = [] := List.drop_of_length_le (by omega)
    rw [hi2, e] at hK0
    subst hK0
    simp -implicitDefEqProofs (disch := omega) [wrap_id, ng_n, ng_r, ng_e, undo, uI, uK]
    exact out_of (is := []) rfl

end Go.AM

/- WHAT THE CODE ANSWERS, PART 26: the short form of a private list. Own work. -/
set_option linter.unusedSimpArgs false
set_option linter.unusedVariables false
namespace Go.AM
open Go.RowKit Go.Proofs

theorem form_w (f g : Bool) (b : Bch) (l : List Int) (hs : S8 l) (hl : l.length ≤ 1000000) {K : AV → List HObj → Prop} (hK : ∀ H x, AccR H x (form b l) → K x H) : CallW Try.prog 60 [.ptr (TB f b) 0, Ls g l] [] K := by
  refine walk Try.func60 form60 res60 (by show 2 ≤ _; decide) ?_
  simp (disch := omega) [G60, wrap_id]
  refine pile_w f g b l hs hl (pileNe hs) fun H rs hP _ _ => ?_
  obtain ⟨r1, r2, r3⟩ := pile_red_eq (b := b) hs
  have hP := hP.congr r1
  simp (disch := omega) [wrap_id]
  refine loop_eq (fun q : List Int × List AV × AV × List HObj × List Int => ⟨[(4, .sl true 0 []), (5, .ref 0 0), (6, q.2.2.1)], q.2.2.2.1⟩)
    (fun q => PLr q.2.2.2.1 0 (TB f b) q.2.1 (Pj b q.1) ∧ S8 q.1 ∧ AccR q.2.2.2.1 q.2.2.1 q.2.2.2.2 ∧ (∀ i, rid q.2.2.1 = some i → ¬ Own 0 q.2.1 i) ∧ q.1.length + q.2.2.2.2.length ≤ 1000000 ∧ form b l = q.2.2.2.2 ++ formF b q.1.length q.1)
    (fun q => q.1.length) (red b l, rs, .sl true 0 [], H, []) ⟨hP, r2, .inl ⟨rfl, rfl⟩, fun i h => (by cases h), by have := redF_len b l.length l; simp [red]; omega, rfl⟩ rfl ?_
  rintro ⟨w, rs, x, H, acc⟩ ⟨c1, c2, c3, c4, c5, c6⟩
  simp only at c1 c2 c3 c4 c5 c6
  simp (disch := omega) [wrap_id]
  refine fronts_w ?_
  simp (disch := omega) [wrap_id]
  have hid : (H ++ [HObj.cells [AV.sl true 0 []], HObj.cells [AV.ref 0 0]]).length = H.length + 2 := by simp
  have hpl : 0 < H.length := nthH_lt c1.obj
  have c5' : w.length ≤ 1000000 := by omega
  have ho : ∀ i, Own 0 rs i → i < H.length := fun i hi => own_lt c1 hi
  have hx : ∀ i, rid x = some i → i < H.length := fun i hi => c3.row.lt hi
  have front : ∀ (i : Nat) (l : List HObj), i < H.length → nthH (H ++ l) i = nthH H i := fun i l hi => nthH_front hi
  refine rf_of (K0 := FsJ b f 0 rs w x acc H.length (H.length + 2) (fsR (Pj b w)).length) (fronts_R (f := f) (b := b) (p := 0) (rs := rs) (R := Pj b w) (J := FsJ b f 0 rs w x acc H.length (H.length + 2)) (c1.mono fun i hi => front i _ (ho i hi)) ?_ ?_ (fun j G h => h.1) ?_) ?_
  · rw [nthH_eq, List.getElem?_append_right (by omega)]; simp
  · rw [hid]
    refine ⟨c1.mono fun i hi => by rw [List.append_assoc]; exact front i _ (ho i hi), c3.mono fun i hi => by rw [List.append_assoc]; exact front i _ (hx i hi), ⟨.sl true 0 [], ?_, .inl ⟨rfl, rfl⟩, fun i hi => (by cases hi)⟩, ?_, by simp⟩
    · rw [List.append_assoc, nthH_eq, List.getElem?_append_right (by omega)]; simp
    · rw [List.append_assoc, nthH_eq, List.getElem?_append_right (by omega)]; simp
  · intro j G hj hJ
    have hJ' := hJ
    obtain ⟨f1, f2, ⟨y, f3, f4, f5⟩, f6, f7⟩ := hJ
    rw [hid]
    refine ⟨by rw [hpf_nthH]; exact f6, rfl, ?_⟩
    have ga : nthH (G.set (H.length + 2) (HObj.lp LpSt.busy (H.length + 2 + 1))) H.length = some (.cells [y]) := by rw [nthH_set_ne (by omega)]; exact f3
    have gl : H.length + 2 < G.length := by omega
    have gy : AccR (G.set (H.length + 2) (HObj.lp LpSt.busy (H.length + 2 + 1))) y ((fsR (Pj b w)).take j) := f4.mono fun i hi => nthH_set_ne (by have := f5 i hi; omega)
    simp (disch := omega) [wrap_id, putPs, hpf_nthH, f6, gl, ga]
    refine bsl_of rfl rfl ?_
    simp (disch := omega) [wrap_id, zrep]
    have hjl : ((fsR (Pj b w)).take j).length = j := by rw [List.length_take]; omega
    have h8 := fsR_len (Pj b w)
    refine app_row gy.row (by rw [hjl]; omega) fun ws w1 w2 w3 => ?_
    generalize hH1 : writeL (G.set (H.length + 2) (HObj.lp LpSt.busy (H.length + 2 + 1))) ws = H1 at w1 w2 w3
    simp only [List.length_set] at w1 w2 w3
    have w1' : ∀ i, i < G.length → i ≠ H.length + 2 → rid y ≠ some i → nthH H1 i = nthH G i := fun i hi hne hr => by rw [w1 i hi hr, nthH_set_ne (Ne.symm hne)]
    have a1 : nthH H1 H.length = some (.cells [y]) := by rw [w1' H.length (by omega) (by omega) (fun e => by have := f5 _ e; omega)]; exact f3
    have a2 : nthH H1 (H.length + 2) = some (.lp .busy (H.length + 2 + 1)) := by rw [w1 (H.length + 2) gl (fun e => by have := f5 _ e; omega)]; exact nthH_set_same gl
    have a3 : H.length < H1.length := by omega
    have a4 : H.length + 2 < H1.length := by omega
    simp (disch := omega) [wrap_id, hH1, a1, a3]
    refine ⟨?_, rfl, ?_⟩
    · rw [hpf_nthH, nthH_set_ne (by omega)]; exact a2
    · have := fs_body (by omega) hJ' hj (p := 0) hpl (by omega) ho hx f3 f4 f5 w1' w2 w3
      have e : setL (H1.set H.length (HObj.cells [AV.ms G.length 0 ((List.take j (fsR (Pj b w))).length + 1) 1])) (H.length + 2) (.lp .ready (H.length + 2 + 1)) = (H1.set H.length (.cells [.ms G.length 0 (j + 1) 1])).set (H.length + 2) (.lp .ready (H.length + 2 + 1)) := by
        rw [hjl]; simp only [setL, List.length_set]; rw [if_pos a4]
      rw [hjl] at e
      simpa [e, a4] using this
  · rintro G ⟨f1, f2, ⟨y, f3, f4, f5⟩, f6, f7⟩
    rw [hid]
    rw [List.take_length] at f4
    refine rfEnd_ready f6 ?_
    have gp : PLr (G.set (H.length + 2) .gone) 0 (TB f b) rs (Pj b w) := f1.mono fun i hi => nthH_set_ne (by have := ho i hi; omega)
    have gx : AccR (G.set (H.length + 2) .gone) x acc := f2.mono fun i hi => nthH_set_ne (by have := hx i hi; omega)
    have gy : AccR (G.set (H.length + 2) .gone) y (fsR (Pj b w)) := f4.mono fun i hi => nthH_set_ne (by have := f5 i hi; omega)
    have ga : nthH (G.set (H.length + 2) .gone) H.length = some (.cells [y]) := by rw [nthH_set_ne (by omega)]; exact f3
    generalize G.set (H.length + 2) HObj.gone = G2 at gp gx gy ga
    simp (disch := omega) [wrap_id, ga, len_row gy.row]
    by_cases hw0 : w = []
    · subst hw0
      have e0 : fsR (Pj b []) = [] := rfl
      simp (disch := omega) [wrap_id, e0]
      have e1 : form b l = acc := by rw [c6]; simp [formF]
      exact hK _ _ (by rw [e1]; exact gx)
    · obtain ⟨j, hj, g1, g2, g3, g4, g5⟩ := form_step (b := b) c2 hw0
      have hsj : St8 w[j] := c2 _ (List.getElem_mem hj)
      have hfs : ∀ s ∈ fsR (Pj b w), St8 s := fun s hs' => by
        obtain ⟨u, v, e, _⟩ := (fs_Pj c2).1 hs'
        exact c2 s (by rw [e]; simp)
      have hl0 : (((fsR (Pj b w)).length : Int) == 0) = false := by
        rw [beq_eq_false_iff_ne]
        have := List.length_pos_iff.2 g2
        omega
      rcases gy with ⟨_, e⟩ | ⟨iy, rfl, _, gy⟩
      · exact absurd e g2
      simp (disch := omega) [wrap_id, hl0, ga]
      have h8 := fsR_len (Pj b w)
      refine least_w (by omega) hfs g2 gy ?_
      rw [g3]
      simp (disch := omega) [wrap_id]
      refine take_w f b w[j] hsj gp (fun k _ => g5 k) fun H3 rs3 q1 q2 q3 q4 => ?_
      have q1 := q1.congr fun k _ => g4 k
      have gx3 : AccR H3 x acc := gx.mono fun i hi => q2.2 i (gx.row.lt hi) (c4 i hi)
      simp (disch := omega) [wrap_id]
      refine bsl_of rfl rfl ?_
      simp (disch := omega) [wrap_id, zrep]
      refine app_row gx3.row (by omega) fun ws w1 w2 w3 => ?_
      simp (disch := omega) [wrap_id]
      have x3 : ∀ i, rid x = some i → ¬ Own 0 rs3 i := fun i hi hown => by
        rcases q3 i hown with h | h
        · exact c4 i hi h
        · have := gx.row.lt hi; omega
      have hlen : (w.eraseIdx j).length = w.length - 1 := by rw [List.length_eraseIdx, if_pos hj]
      refine next_eq (w.eraseIdx j, rs3, .ms H3.length 0 (acc.length + 1) 1, writeL H3 ws, acc ++ [w[j]]) ⟨q1.mono fun i hi => w1 i (own_lt q1 hi) (fun e => x3 i e hi), fun s hs' => c2 s (List.mem_of_mem_eraseIdx hs'),
        .inr ⟨H3.length, by simp, by simp, w3⟩, fun i hi hown => ?_, by simp only [List.length_append, List.length_singleton]; omega, ?_⟩ (by simp only; omega) rfl
      · cases hi
        have := own_lt q1 hown
        omega
      · simp only
        rw [c6, formF_step b w (List.length_pos_iff.2 hw0), g1, hlen]
        simp [hj]

/-- The short form of a private list; the list stays. -/
theorem form_keep (f : Bool) (b : Bch) (l : List Int) (hs : S8 l) (hl : l.length ≤ 1000000) {hp : List HObj} {x : AV} {ids : List Nat} {K : AV → List HObj → Prop} (hx : purify (hpf hp) x = some (Ls false l, ids))
    (hK : ∀ H y, AccR H y (form b l) → (∀ i, i < hp.length → nthH H i = nthH hp i) → (∀ i, rid y = some i → hp.length ≤ i) → K y H) : CallW Try.prog 60 [.ptr (TB f b) 0, x] hp K := by
  have hpa : purifyAll (hpf hp) [.ptr (TB f b) 0, x] = some ([.ptr (TB f b) 0, Ls false l], [] ++ ids) := purifyAll2 (a := .ptr (TB f b) 0) rfl hx
  by_cases h0 : form b l = []
  · refine callW_nil (fl := true) hpa (pure_of (form_w f false b l hs hl fun H y h => ?_)) (hK _ _ (.inl ⟨rfl, h0⟩) (fun i hi => rfl) (fun i hi => by cases hi))
    rcases h with ⟨rfl, _⟩ | ⟨_, _, h, _⟩
    · exact ⟨[], rfl⟩
    · exact absurd h0 h
  · have hm : MadeOK Try.prog 60 [.ptr (TB f b) 0, Ls false l] (form b l).length 1 ((form b l).map fun n => I n) := made_of (pc_ls _) (form_w f false b l hs hl fun H y h => by
      rcases h with ⟨_, h⟩ | ⟨id, rfl, _, h⟩
      · exact absurd h h0
      · exact ⟨id, rfl, by rw [hpf_nthH]; exact h⟩)
    refine callW_keep hpa hm (hK _ _ (.inr ⟨hp.length, rfl, h0, nthH_end⟩) (fun i hi => nthH_front hi) (fun i hi => by cases hi; exact Nat.le_refl _))

end Go.AM

/- WHAT THE CODE ANSWERS, PART 27: the closures of down. Own work. -/
set_option linter.unusedSimpArgs false
set_option linter.unusedVariables false
namespace Go.AM
open Go.RowKit Go.Proofs

/-- A list of moves that grows. -/
def AccV (hp : List HObj) (x : AV) (c : List Mv) : Prop := (x = .sl true 0 [] ∧ c = []) ∨ ∃ id, x = .ms id 0 c.length 3 ∧ c ≠ [] ∧ nthH hp id = some (.cells (flat3 c))
theorem AccV.mono {hp H x l} (h : AccV hp x l) (hk : ∀ i, rid x = some i → nthH H i = nthH hp i) : AccV H x l := by
  rcases h with h | ⟨id, rfl, h1, h2⟩
  · exact .inl h
  · exact .inr ⟨id, rfl, h1, (hk id rfl).trans h2⟩
theorem AccV.lt {hp x l i} (h : AccV hp x l) (hi : rid x = some i) : i < hp.length := by
  rcases h with ⟨rfl, _⟩ | ⟨id, rfl, _, h2⟩
  · cases hi
  · cases hi; exact nthH_lt h2
theorem app_accV {hp : List HObj} {x : AV} {c : List Mv} {m : Mv} {K : AV → List (Nat × HObj) → Prop} (hA : AccV hp x c) (hl : c.length ≤ 1000000)
    (hK : ∀ ws, (∀ i, i < hp.length → rid x ≠ some i → nthH (writeL hp ws) i = nthH hp i) → hp.length < (writeL hp ws).length → nthH (writeL hp ws) hp.length = some (.cells (flat3 (c ++ [m]))) → K (.ms hp.length 0 (c.length + 1) 3) ws) :
    AppW hp 3 24 x (.sl true 1 [I m.1, I m.2.1, I m.2.2]) K := by
  rcases hA with ⟨rfl, rfl⟩ | ⟨id, rfl, hne, hc⟩
  · rw [app_sl]
    have hn : nthH (writeL hp [(hp.length, HObj.cells (flat3 ([] ++ [m])))]) hp.length = some (.cells (flat3 ([] ++ [m]))) := by
      rw [nthH_writeL (by simp)]; simp [Hp.write, Hp.set_same]
    refine ⟨by simp, hK _ (fun i hi _ => ?_) (nthH_lt hn) hn⟩
    rw [nthH_writeL (by simp), nthH_eq]
    simp only [Hp.write]
    rw [Hp.set_other _ _ (by omega)]; rfl
  · have hlt := nthH_lt hc
    have fl := flat3_len c
    have hn : nthH (writeL hp [(id, .gone), (hp.length, HObj.cells (flat3 (c ++ [m])))]) hp.length = some (.cells (flat3 (c ++ [m]))) := by
      rw [nthH_writeL (by simp; omega)]; simp [Hp.write, Hp.set_same]
    have key : K (.ms hp.length 0 (c.length + 1) 3) [(id, .gone), (hp.length, HObj.cells (flat3 (c ++ [m])))] := hK _ (fun i hi hr => by
      rw [nthH_writeL (by simp; omega), nthH_eq]
      simp only [Hp.write]
      rw [Hp.set_other _ _ (by omega), Hp.set_other _ _ (fun e => hr (by rw [e]; rfl))]; rfl) (nthH_lt hn) hn
    rw [app_ms, hc, appr_some]
    refine ⟨by simp; omega, ?_⟩
    have e : List.take (c.length * 3) (flat3 c) ++ [I m.1, I m.2.1, I m.2.2] = flat3 (c ++ [m]) := by
      rw [List.take_of_length_le (by omega), flat3_app]; rfl
    simp
    rw [e]
    exact key

/-- What down has under way: the list, in cell a; the moves, in cell c; the function that carries out a move, in cell d. -/
structure DnS (f : Bool) (b : Bch) (pt : List (Nat × HObj)) (H : List HObj) (a c d : Nat) (l : List Int) (out : List Mv) : Prop where
  ex : ∃ x y, nthH H a = some (.cells [x]) ∧ RowM H x l ∧ nthH H c = some (.cells [y]) ∧ AccV H y out ∧ (∀ i, rid x = some i → i ≠ 0 ∧ i ≠ a ∧ i ≠ c ∧ i ≠ d ∧ rid y ≠ some i) ∧ (∀ i, rid y = some i → i ≠ 0 ∧ i ≠ a ∧ i ≠ c ∧ i ≠ d) ∧ (∀ p ∈ pt, rid x ≠ some p.1 ∧ rid y ≠ some p.1)
  t : nthH H 0 = some (.cells [.ptr (TB f b) 0])
  fn : nthH H d = some (.cells [.fn (.func 91) [] [.ref 0 0, .ref a 0, .ref c 0]])
  pr : ∀ p ∈ pt, nthH H p.1 = some p.2 ∧ p.1 ≠ a ∧ p.1 ≠ c
  ne : a ≠ 0 ∧ c ≠ 0 ∧ d ≠ 0 ∧ a ≠ c ∧ a ≠ d ∧ c ≠ d

set_option maxHeartbeats 1000000 in
theorem do_w (f : Bool) (b : Bch) {pt : List (Nat × HObj)} {H : List HObj} {a c d : Nat} {l l' : List Int} {out : List Mv} {m : Mv} {K : AV → List HObj → Prop} (hb : 1 ≤ b.L ∧ b.L ≤ 8) (h : DnS f b pt H a c d l out) (hm : mvO b l m = some l') (hs : S8 l) (hl : l.length ≤ 1000) (ho : out.length ≤ 100000)
    (hK : ∀ H', DnS f b pt H' a c d l' (out ++ [m]) → K (.tup []) H') : CallW Try.prog 91 [.agg [I m.1, I m.2.1, I m.2.2], .ref 0 0, .ref a 0, .ref c 0] H K := by
  obtain ⟨⟨x, y, e1, e2, e3, e4, e5, e6, e7⟩, ht, hf, hpr, n1, n2, n3, n4, n5, n6⟩ := h
  have lpr : ∀ p ∈ pt, p.1 < H.length := fun p hp => nthH_lt (hpr p hp).1
  have la := nthH_lt e1
  have lc := nthH_lt e3
  have ld := nthH_lt hf
  have l0 := nthH_lt ht
  refine walk Try.func91 form91 res91 (by show 4 ≤ _; decide) ?_
  have q0 : nthH (H ++ [HObj.cells [I m.1, I m.2.1, I m.2.2]]) H.length = some (.cells [I m.1, I m.2.1, I m.2.2]) := nthH_end
  have fr : ∀ i, i < H.length → nthH (H ++ [HObj.cells [I m.1, I m.2.1, I m.2.2]]) i = nthH H i := fun i hi => nthH_front hi
  have q1 := (fr a la).trans e1
  have q2 := (fr c lc).trans e3
  have q3 := (fr d ld).trans hf
  have q4 := (fr 0 l0).trans ht
  have q5 : RowM (H ++ [HObj.cells [I m.1, I m.2.1, I m.2.2]]) x l := e2.mono fun i hi => fr i (e2.lt hi)
  have q6 : AccV (H ++ [HObj.cells [I m.1, I m.2.1, I m.2.2]]) y out := e4.mono fun i hi => fr i (e4.lt hi)
  have q7 : ∀ p ∈ pt, nthH (H ++ [HObj.cells [I m.1, I m.2.1, I m.2.2]]) p.1 = some p.2 := fun p hp => (fr _ (lpr p hp)).trans (hpr p hp).1
  have ql : (H ++ [HObj.cells [I m.1, I m.2.1, I m.2.2]]).length = H.length + 1 := by simp
  simp -implicitDefEqProofs (disch := omega) [G91, wrap_id, q0, q1, q4]
  generalize H ++ [HObj.cells [I m.1, I m.2.1, I m.2.2]] = H1 at *
  refine move_w f b l l' m hm hs ⟨by omega, by omega⟩ (by omega) q5 fun H2 z r1 r2 r3 r4 => ?_
  have s1 : nthH H2 a = some (.cells [x]) := (r2 a (by omega) (fun e => (e5 a e).2.1 rfl)).trans q1
  have sa : a < H2.length := by omega
  have hz : ∃ iz oz, z = .ms iz oz l'.length 1 := by obtain ⟨iz, oz, _, h, _⟩ := r1; exact ⟨iz, oz, h⟩
  obtain ⟨iz, oz, ez⟩ := hz
  have rz : rid z = some iz := by rw [ez]; rfl
  have iz1 : rid x = some iz ∨ H1.length ≤ iz := r3 iz rz
  have iza : iz ≠ 0 ∧ iz ≠ a ∧ iz ≠ c ∧ iz ≠ d ∧ rid y ≠ some iz := by
    rcases iz1 with h | h
    · exact e5 iz h
    · exact ⟨by omega, by omega, by omega, by omega, fun e => by have := q6.lt e; omega⟩
  have izl : iz < H2.length := r1.lt rz
  subst ez
  have v0 : nthH (H2.set a (.cells [.ms iz oz l'.length 1])) 0 = some (.cells [.ptr (TB f b) 0]) := by
    rw [nthH_set_ne (by omega), r2 0 (by omega) (fun e => (e5 0 e).1 rfl)]; exact q4
  have v1 : nthH (H2.set a (.cells [.ms iz oz l'.length 1])) c = some (.cells [y]) := by
    rw [nthH_set_ne (by omega), r2 c (by omega) (fun e => (e5 c e).2.2.1 rfl)]; exact q2
  have v2 : nthH (H2.set a (.cells [.ms iz oz l'.length 1])) d = some (.cells [.fn (.func 91) [] [.ref 0 0, .ref a 0, .ref c 0]]) := by
    rw [nthH_set_ne (by omega), r2 d (by omega) (fun e => (e5 d e).2.2.2.1 rfl)]; exact q3
  have v3 : nthH (H2.set a (.cells [.ms iz oz l'.length 1])) H.length = some (.cells [I m.1, I m.2.1, I m.2.2]) := by
    rw [nthH_set_ne (by omega), r2 H.length (by omega) (fun e => by have := e2.lt e; omega)]; exact q0
  have v4 : nthH (H2.set a (.cells [.ms iz oz l'.length 1])) a = some (.cells [.ms iz oz l'.length 1]) := nthH_set_same sa
  have v5 : RowM (H2.set a (.cells [.ms iz oz l'.length 1])) (.ms iz oz l'.length 1) l' := r1.mono fun i hi => nthH_set_ne (fun e => by subst e; cases hi; exact iza.2.1 rfl)
  have v6 : AccV (H2.set a (.cells [.ms iz oz l'.length 1])) y out := q6.mono fun i hi => by
    rw [nthH_set_ne (Ne.symm (e6 i hi).2.1), r2 i (q6.lt hi) (fun e => (e5 i e).2.2.2.2 hi)]
  have v7 : ∀ p ∈ pt, nthH (H2.set a (.cells [.ms iz oz l'.length 1])) p.1 = some p.2 := fun p hp => by
    rw [nthH_set_ne (Ne.symm (hpr p hp).2.1), r2 p.1 (by have := lpr p hp; omega) (e7 p hp).1]; exact q7 p hp
  have vl : (H2.set a (.cells [.ms iz oz l'.length 1])).length = H2.length := by simp
  simp -implicitDefEqProofs (disch := omega) [wrap_id, s1, sa, v1, v3]
  generalize H2.set a (.cells [.ms iz oz l'.length 1]) = H3 at *
  refine bsl_of (ys := [.agg [I m.1, I m.2.1, I m.2.2]]) rfl rfl ?_
  simp -implicitDefEqProofs (disch := omega) [wrap_id, zrep, place]
  refine app_accV v6 (by omega) fun ws w1 w2 w3 => ?_
  have hc3 : nthH (writeL H3 ws) c = some (.cells [y]) := (w1 c (by omega) (fun e => (e6 c e).2.2.1 rfl)).trans v1
  have lc3 : c < (writeL H3 ws).length := by omega
  simp -implicitDefEqProofs (disch := omega) [wrap_id, hc3, lc3]
  refine hK _ ⟨⟨.ms iz oz l'.length 1, .ms H3.length 0 (out.length + 1) 3, ?_, ?_, ?_, ?_, ?_, ?_, ?_⟩, ?_, ?_, ?_, ⟨n1, n2, n3, n4, n5, n6⟩⟩
  · rw [nthH_set_ne (by omega)]; exact (w1 a (by omega) (fun e => (e6 a e).2.1 rfl)).trans v4
  · exact v5.mono fun i hi => by
      cases hi
      rw [nthH_set_ne (Ne.symm iza.2.2.1)]
      exact w1 iz (by omega) iza.2.2.2.2
  · rw [nthH_set_same lc3]
  · refine .inr ⟨H3.length, by simp, by simp, ?_⟩
    rw [nthH_set_ne (by omega)]; exact w3
  · rintro i hi
    cases hi
    exact ⟨iza.1, iza.2.1, iza.2.2.1, iza.2.2.2.1, fun e => by have := Option.some.inj e; omega⟩
  · rintro i hi
    cases hi
    exact ⟨by omega, by omega, by omega, by omega⟩
  · intro p hp
    have := lpr p hp
    refine ⟨fun e => ?_, fun e => by have := Option.some.inj e; omega⟩
    have e := Option.some.inj e
    rcases iz1 with h | h
    · exact (e7 p hp).1 (by rw [h, e])
    · omega
  · rw [nthH_set_ne (by omega)]; exact (w1 0 (by omega) (fun e => (e6 0 e).1 rfl)).trans v0
  · rw [nthH_set_ne n6]; exact (w1 d (by omega) (fun e => (e6 d e).2.2.2 rfl)).trans v2

  · intro p hp
    have := lpr p hp
    refine ⟨?_, (hpr p hp).2⟩
    rw [nthH_set_ne (Ne.symm (hpr p hp).2.2), w1 p.1 (by omega) (e7 p hp).2]
    exact v7 p hp

end Go.AM

/- WHAT THE CODE ANSWERS, PART 28: bring; down. Own work. -/
set_option linter.unusedSimpArgs false
set_option linter.unusedVariables false
namespace Go.AM
open Go.RowKit Go.Proofs

theorem runO_cons {b : Bch} {l l' : List Int} {m : Mv} {ms : List Mv} (h : runO b l (m :: ms) = some l') : ∃ x, mvO b l m = some x ∧ x.length ≤ 120 ∧ runO b x ms = some l' := by
  simp only [runO] at h
  cases hm : mvO b l m with
  | none => rw [hm] at h; cases h
  | some x =>
    rw [hm] at h
    simp only at h
    split at h
    · cases h
    · exact ⟨x, rfl, by omega, h⟩

set_option maxHeartbeats 1000000 in
theorem bring_w (f : Bool) (b : Bch) {pt : List (Nat × HObj)} {H : List HObj} {a c d : Nat} {l l' : List Int} {out : List Mv} {n to : Nat} {K : AV → List HObj → Prop} (hb : 1 ≤ b.L ∧ b.L ≤ 8) (hr : runO b l (brM n to) = some l') (hst : ∀ s ∈ l, strokeB b s = true) (hl : l.length ≤ 120)
    (h : DnS f b pt H a c d l out) (ho : out.length + n ≤ 100000) (hto : to ≤ 1000) (hK : ∀ H', DnS f b pt H' a c d l' (out ++ brM n to) → K (.tup []) H') : CallW Try.prog 92 [I ((to + n : Nat) : Int), I (to : Int), .ref d 0] H K := by
  refine walk Try.func92 form92 res92 (by show 3 ≤ _; decide) ?_
  simp -implicitDefEqProofs (disch := omega) [G92, wrap_id]
  refine loop_eq (fun q : Nat × List Int × List Mv × List HObj => ⟨[(1, I (to : Int)), (2, .ref d 0), (5, I ((to + q.1 : Nat) : Int))], q.2.2.2⟩)
    (fun q => DnS f b pt q.2.2.2 a c d q.2.1 q.2.2.1 ∧ runO b q.2.1 (brM q.1 to) = some l' ∧ (∀ s ∈ q.2.1, strokeB b s = true) ∧ q.2.1.length ≤ 120 ∧ q.2.2.1 ++ brM q.1 to = out ++ brM n to ∧ q.2.2.1.length + q.1 ≤ 100000) (fun q => q.1) (n, l, out, H) ⟨h, hr, hst, hl, rfl, ho⟩ (by simp) ?_
  rintro ⟨j, l, out1, H⟩ ⟨c1, c2, c3, c4, c5, c6⟩
  simp only at c1 c2 c3 c4 c5 c6 ⊢
  refine hideK' fun K0 hK0 => ?_
  have nj : ((to : Int) + j) = ((to + j : Nat) : Int) := by omega
  simp -implicitDefEqProofs (disch := omega) [wrap_id]
  refine c_split (fun hc => ?_) (fun hc => ?_)
  · have hj : 0 < j := by
      have : (to : Int) < to + j := by simpa using hc
      omega
    obtain ⟨k, rfl⟩ : ∃ k, j = k + 1 := ⟨j - 1, by omega⟩
    obtain ⟨x, r1, r2, r3⟩ := runO_cons c2
    have hd := c1.fn
    simp -implicitDefEqProofs (disch := omega) [wrap_id, hd]
    have en : ((to : Int) + ((k : Int) + 1) - 1) = ((to + k : Nat) : Int) := by omega
    rw [en]
    refine ⟨by kernel_rfl, ?_⟩
    have s8 : S8 l := fun s hs => by have := c3 s hs; unfold strokeB at this; simp at this; exact ⟨by omega, by omega, by omega⟩
    refine do_w f b hb c1 (m := (1, ((to + k : Nat) : Int), 0)) r1 s8 (by omega) (by omega) fun H' hH' => ?_
    simp -implicitDefEqProofs (disch := omega) [wrap_id]
    rw [hK0]
    exact next_eq (k, x, out1 ++ [(1, ((to + k : Nat) : Int), 0)], H') ⟨hH', r3, mvO_strokes c3 r1, r2, by simp only [List.append_assoc]; exact c5, by simp only [List.length_append, List.length_singleton]; omega⟩ (by simp only; omega) (by simp only [en])
  · have hj : j = 0 := by
      have : ¬ (to : Int) < to + j := by simpa using hc
      omega
    subst hj
    cases c2
    simp only [brM, List.append_nil] at c5
    subst hK0
    simp -implicitDefEqProofs (disch := omega) [wrap_id]
    exact hK H (by rw [← c5]; exact c1)

end Go.AM

/- WHAT THE CODE ANSWERS, PART 29: down. Own work. -/
set_option linter.unusedSimpArgs false
set_option linter.unusedVariables false
namespace Go.AM
open Go.RowKit Go.Proofs

theorem idx_app {s : Int} : ∀ {u v : List Int}, s ∉ u → idxI (fun x => s == x) (u ++ s :: v) = (u.length : Int)
  | [], v, _ => by simp [idxI, List.findIdx?_cons]
  | t :: u, v, h => by
    have ht : (s == t) = false := by
      rw [beq_eq_false_iff_ne]; exact fun e => h (by simp [e])
    have ih := idx_app (u := u) (v := v) (s := s) (fun hm => h (by simp [hm]))
    unfold idxI at ih ⊢
    simp only [List.cons_append, List.findIdx?_cons, ht]
    cases hf : (u ++ s :: v).findIdx? (fun x => s == x) with
    | none => rw [hf] at ih; simp only at ih; omega
    | some k => rw [hf] at ih; simp only [Option.map_some] at ih ⊢; simp; omega

theorem RowM.cut {hp : List HObj} {id off : Nat} {l : List Int} {cs : List AV} (h1 : nthH hp id = some (.cells cs)) (h2 : off + l.length ≤ cs.length) (h3 : view cs off l.length = l.map fun n => I n) (h4 : (cs.all AV.isPC) = true) {k : Nat} (hk : k ≤ l.length) : RowM hp (.ms id (off + k) (l.length - k) 1) (l.drop k) := by
  refine ⟨id, off + k, cs, by simp, h1, by simp; omega, ?_, h4⟩
  rw [List.length_drop, List.map_drop, ← h3]
  unfold view
  rw [List.drop_take, List.drop_drop]

theorem nthH_at {H L : List HObj} {k : Nat} : nthH (H ++ L) (H.length + k) = nthH L k := by
  rw [nthH_eq, nthH_eq, List.getElem?_append_right (by omega)]; congr 1; omega
theorem nthH_at0 {H L : List HObj} : nthH (H ++ L) H.length = nthH L 0 := nthH_at (k := 0)
theorem set_at {H L : List HObj} {k : Nat} {o : HObj} : (H ++ L).set (H.length + k) o = H ++ L.set k o := by
  rw [List.set_append_right _ _ (by omega)]; congr 2; omega
theorem dn1_some {b : Bch} {n : Nat} {l : List Int} {i k : Nat} (h : undo b l = some (i, k)) : dn1F b (n + 1) l = brM (k - (i + 1)) (i + 1) ++ (2, (i : Int), 0) :: dn1F b n ((l.eraseIdx k).eraseIdx i) := by
  simp only [dn1F, h]
theorem red_some {b : Bch} {n : Nat} {l : List Int} {i k : Nat} (h : undo b l = some (i, k)) : redF b (n + 1) l = redF b n ((l.eraseIdx k).eraseIdx i) := by
  simp only [redF, h]
theorem dn1_none {b : Bch} {n : Nat} {l : List Int} (h : undo b l = none) : dn1F b n l = [] ∧ redF b n l = l := by
  cases n with
  | zero => exact ⟨rfl, rfl⟩
  | succ n => simp only [dn1F, redF, h]; exact ⟨trivial, trivial⟩

set_option maxHeartbeats 2000000 in
theorem down_w (f g : Bool) (b : Bch) (l : List Int) (hc : chkL b l = 0) {K : AV → List HObj → Prop} (hK : ∀ H y, AccV H y (dnM b l) → K y H) : CallW Try.prog 64 [.ptr (TB f b) 0, Ls g l] [] K := by
  obtain ⟨k1, k2, k3⟩ := chkL0.1 hc
  obtain ⟨L1, L2, _⟩ := chkB_zero k1
  have s1 := (chkL_S8 hc).1
  obtain ⟨dr1, dr2⟩ := dn_run (b := b) s1 k2
  refine walk Try.func64 form64 res64 (by show 2 ≤ _; decide) ?_
  simp -implicitDefEqProofs (disch := omega) [G64, wrap_id]
  refine clone_w g l (by omega) fun H x x1 x2 x3 => ?_
  have x2 : nthH H 0 = some (.cells [.ptr (TB f b) 0]) := (x2 0 (by simp)).trans rfl
  have l0 := nthH_lt x2
  rcases x1 with ⟨rfl, rfl⟩ | ⟨id, rfl, x1⟩
  · simp -implicitDefEqProofs (disch := omega) [wrap_id]
    have un := undone_c f true b [] (by simp) (fun s hs => by cases hs)
    have fo := form_c f true b [] (fun s hs => by cases hs) (by simp)
    have hd0 : dnM b [] = [] := rfl
    rw [hd0] at hK
    simp -implicitDefEqProofs (disch := omega) [wrap_id, nthH_at, set_at]
    refine loop_eq (fun _ : Unit => ⟨[(2, .ref 0 0), (5, .ref H.length 0), (6, .ref (H.length + 1) 0), (7, .ref (H.length + 2) 0), (8, .fn (.func 92) [] [.ref (H.length + 2) 0])], H ++ [HObj.cells [.sl true 0 []], HObj.cells [.sl true 0 []], HObj.cells [.fn (.func 91) [] [.ref 0 0, .ref H.length 0, .ref (H.length + 1) 0]]]⟩) (fun _ => True) (fun _ => 0) () trivial rfl ?_
    intro _ _
    have h0 : nthH (H ++ [HObj.cells [.sl true 0 []], HObj.cells [.sl true 0 []], HObj.cells [.fn (.func 91) [] [.ref 0 0, .ref H.length 0, .ref (H.length + 1) 0]]]) 0 = some (.cells [.ptr (TB f b) 0]) := (nthH_front l0).trans x2
    simp -implicitDefEqProofs (disch := omega) [wrap_id, h0, nthH_at0]
    refine callW_pure rfl un ?_
    simp -implicitDefEqProofs (disch := omega) [wrap_id, uI, uK, undo, h0, nthH_at0]
    refine callW_pure rfl fo ?_
    simp -implicitDefEqProofs (disch := omega) [wrap_id, form_nil]
    refine loop_eq (fun _ : Unit => ⟨[(5, .ref H.length 0), (6, .ref (H.length + 1) 0), (8, .fn (.func 92) [] [.ref (H.length + 2) 0]), (36, .sl true 0 []), (37, I 0), (38, I 0)], H ++ [HObj.cells [.sl true 0 []], HObj.cells [.sl true 0 []], HObj.cells [.fn (.func 91) [] [.ref 0 0, .ref H.length 0, .ref (H.length + 1) 0]]]⟩) (fun _ => True) (fun _ => 0) () trivial rfl ?_
    intro _ _
    simp -implicitDefEqProofs (disch := omega) [wrap_id, nthH_at]
    exact hK _ _ (.inl ⟨rfl, rfl⟩)
  · have hid := nthH_lt x1
    have hid0 : 1 ≤ id := x3 id rfl
    simp -implicitDefEqProofs (disch := omega) [wrap_id, nthH_at, set_at]
    have D0 : DnS f b [] (H ++ [HObj.cells [.ms id 0 l.length 1], HObj.cells [.sl true 0 []], HObj.cells [.fn (.func 91) [] [.ref 0 0, .ref H.length 0, .ref (H.length + 1) 0]]]) H.length (H.length + 1) (H.length + 2) l [] := by
      refine ⟨⟨_, _, nthH_at0, ⟨id, 0, _, rfl, (nthH_front hid).trans x1, by simp, by unfold view; rw [List.drop_zero, List.take_of_length_le (by simp)], pc_ls _⟩, nthH_at, .inl ⟨rfl, rfl⟩, fun i hi => ?_, fun i hi => (by cases hi), fun p hp => (by cases hp)⟩, (nthH_front l0).trans x2, nthH_at, fun p hp => (by cases hp), ⟨by omega, by omega, by omega, by omega, by omega, by omega⟩⟩
      cases hi
      exact ⟨by omega, by omega, by omega, by omega, fun e => by cases e⟩
    generalize H.length + 2 = d at *
    generalize H.length + 1 = c at *
    generalize H.length = a at *
    generalize H ++ [HObj.cells [.ms id 0 l.length 1], HObj.cells [.sl true 0 []], HObj.cells [.fn (.func 91) [] [.ref 0 0, .ref a 0, .ref c 0]]] = H0 at *
    clear x1 hid x2 x3 l0 hid0
    refine loop_eq (fun q : Nat × List Int × List Mv × List HObj => ⟨[(2, .ref 0 0), (5, .ref a 0), (6, .ref c 0), (7, .ref d 0), (8, .fn (.func 92) [] [.ref d 0])], q.2.2.2⟩)
      (fun q => DnS f b [] q.2.2.2 a c d q.2.1 q.2.2.1 ∧ (∀ s ∈ q.2.1, strokeB b s = true) ∧ q.2.1.length ≤ 60 ∧ q.2.1.length ≤ q.1 ∧ q.2.2.1 ++ dn1F b q.1 q.2.1 = dn1F b l.length l ∧ redF b q.1 q.2.1 = red b l) (fun q => q.2.1.length) (l.length, l, [], H0) ⟨D0, k3, k2, Nat.le_refl _, rfl, rfl⟩ rfl ?_
    rintro ⟨n, w, out, H⟩ ⟨c1, c2, c3, c4, c5, c6⟩
    simp only at c1 c2 c3 c4 c5 c6 ⊢
    refine hideK' fun K0 hK0 => ?_
    have s8 : S8 w := fun s hs => st8_of k1 (c2 s hs)
    have c1' := c1
    obtain ⟨⟨x, y, e1, e2, e3, e4, e5, e6, e7⟩, ht, hf, hpr, n1, n2, n3, n4, n5, n6⟩ := c1'
    obtain ⟨ids, px⟩ := e2.pur
    have d1l : out.length + (dn1F b n w).length ≤ 1770 := by
      have := congrArg List.length c5
      rw [List.length_append] at this
      unfold dnM at dr2
      rw [List.length_append] at dr2
      omega
    simp -implicitDefEqProofs (disch := omega) [wrap_id, ht, e1]
    refine callW_pure (purifyAll2 (a := .ptr (TB f b) 0) rfl px) (undone_c f false b w (by omega) s8) ?_
    cases hu : undo b w with
    | none =>
      obtain ⟨f1, f2⟩ := dn1_none (n := n) hu
      rw [f1, List.append_nil] at c5
      rw [f2] at c6
      simp -implicitDefEqProofs (disch := omega) [wrap_id, uI, uK]
      subst hK0
      simp -implicitDefEqProofs (disch := omega) [wrap_id, ht, e1]
      have hrw : red b w = w := (dn1_none (n := w.length) hu).2
      have hF : form b w = formF b w.length w := by unfold form; rw [hrw]
      have hT : out ++ dn2F b w.length 0 w = dnM b l := by unfold dnM; rw [c5, c6]
      have d2l : out.length + (dn2F b w.length 0 w).length ≤ 1770 := by
        have := congrArg List.length hT
        rw [List.length_append] at this
        omega
      refine form_keep f b w s8 (by omega) px fun H2 y2 g1 g2 g3 => ?_
      have hFl : (form b w).length = w.length := by rw [hF]; exact (formF_sim (b := b) w.length s8 rfl).2.1
      generalize form b w = F at *
      obtain ⟨pt, hpt, D2⟩ : ∃ pt : List (Nat × HObj), (∀ H' l' o', DnS f b pt H' a c d l' o' → AccR H' y2 F) ∧ DnS f b pt H2 a c d w out := by
        have lx : ∀ i, rid x = some i → i < H.length := fun i hi => e2.lt hi
        have ly : ∀ i, rid y = some i → i < H.length := fun i hi => e4.lt hi
        have base : ∀ pt : List (Nat × HObj), (∀ p ∈ pt, H.length ≤ p.1 ∧ nthH H2 p.1 = some p.2) → DnS f b pt H2 a c d w out := fun pt hp => by
          have := nthH_lt e1
          have := nthH_lt e3
          refine ⟨⟨x, y, (g2 a (nthH_lt e1)).trans e1, e2.mono fun i hi => g2 i (lx i hi), (g2 c (nthH_lt e3)).trans e3, e4.mono fun i hi => g2 i (ly i hi), e5, e6, fun p hp' => ⟨fun e => ?_, fun e => ?_⟩⟩, (g2 0 (nthH_lt ht)).trans ht, (g2 d (nthH_lt hf)).trans hf, fun p hp' => ⟨(hp p hp').2, ?_, ?_⟩, ⟨n1, n2, n3, n4, n5, n6⟩⟩
          · have := lx _ e; have := (hp p hp').1; omega
          · have := ly _ e; have := (hp p hp').1; omega
          · have := (hp p hp').1; omega
          · have := (hp p hp').1; omega
        rcases g1 with ⟨rfl, hF0⟩ | ⟨iy, rfl, hF0, gy⟩
        · exact ⟨[], fun _ _ _ _ => .inl ⟨rfl, hF0⟩, base [] fun p hp => by cases hp⟩
        · refine ⟨[(iy, .cells (F.map fun n => I n))], fun H' l' o' h => .inr ⟨iy, rfl, hF0, (h.pr (iy, .cells (F.map fun n => I n)) (by simp)).1⟩, base _ fun p hp => ?_⟩
          simp at hp; subst hp
          exact ⟨g3 iy rfl, gy⟩
      clear g1 g2 g3
      simp -implicitDefEqProofs (disch := omega) [wrap_id, len_row (hpt _ _ _ D2).row]
      refine loop_eq (fun q : Nat × List Int × List Mv × List HObj => ⟨[(5, .ref a 0), (6, .ref c 0), (8, .fn (.func 92) [] [.ref d 0]), (36, y2), (37, I (F.length : Int)), (38, I (q.1 : Int))], q.2.2.2⟩)
        (fun q => q.1 + q.2.1.length = F.length ∧ DnS f b pt q.2.2.2 a c d (F.take q.1 ++ q.2.1) q.2.2.1 ∧ (∀ s ∈ F.take q.1 ++ q.2.1, strokeB b s = true) ∧ F = F.take q.1 ++ formF b q.2.1.length q.2.1 ∧ q.2.2.1 ++ dn2F b q.2.1.length q.1 q.2.1 = dnM b l) (fun q => F.length - q.1) (0, w, out, H2) ⟨by simp only; omega, D2, c2, by simpa using hF, hT⟩ rfl ?_
      clear D2
      rintro ⟨at', w', out', H3⟩ ⟨j1, j2, j3, j4, j5⟩
      simp only at j1 j2 j3 j4 j5 ⊢
      refine hideK' fun K1 hK1 => ?_
      simp -implicitDefEqProofs (disch := omega) [wrap_id]
      refine c_split (fun h => ?_) (fun h => ?_)
      · have hat : at' < F.length := by simp at h; omega
        have nx : ((at' : Int) + 1) = ((at' + 1 : Nat) : Int) := by omega
        have hne : w' ≠ [] := fun e => by rw [e] at j1; simp at j1; omega
        have hwl : 0 < w'.length := List.length_pos_iff.2 hne
        have s8' : S8 w' := fun t ht => st8_of k1 (j3 t (by simp [ht]))
        obtain ⟨j, q1, hj, q2, _⟩ := firstI_spec (b := b) (w := w') w'.length hwl (Nat.le_refl _)
        have hfr := (freeB_iff hj).1 q2
        have e' : w' = w'.take j ++ w'[j] :: w'.drop (j + 1) := by rw [List.getElem_cons_drop, List.take_append_drop]
        have es' : w'.eraseIdx j = w'.take j ++ w'.drop (j + 1) := List.eraseIdx_eq_take_drop_succ ..
        have lj : (w'.take j).length = j := by rw [List.length_take]; omega
        have le' : (w'.eraseIdx j).length = w'.length - 1 := by rw [List.length_eraseIdx_of_lt hj]
        have ltk : (F.take at').length = at' := by rw [List.length_take]; omega
        have ef : formF b w'.length w' = w'[j] :: formF b (w'.eraseIdx j).length (w'.eraseIdx j) := by
          rw [formF_step b w' hwl, q1, le']
          simp [hj]
        rw [ef] at j4
        have hFa : F[at'] = w'[j] := by
          have h1 : F[at']? = (F.take at' ++ w'[j] :: formF b (w'.eraseIdx j).length (w'.eraseIdx j))[at']? := by rw [← j4]
          rw [List.getElem?_eq_getElem hat, List.getElem?_append_right (by omega), ltk, Nat.sub_self] at h1
          simpa using h1
        have htk : F.take (at' + 1) = F.take at' ++ [w'[j]] := by rw [List.take_succ_eq_append_getElem hat, hFa]
        have hn1 : w'.length = (w'.length - 1) + 1 := by omega
        have j5' : out' ++ (brM j at' ++ dn2F b (w'.length - 1) (at' + 1) (w'.eraseIdx j)) = dnM b l := by
          rw [← j5, hn1]
          simp only [dn2F]
          rw [if_neg hne, q1]; rfl
        have hol : out'.length + j ≤ 1770 := by
          have := congrArg List.length j5'
          rw [List.length_append, List.length_append, brM_len] at this
          omega
        have j2c := j2
        obtain ⟨⟨x3, y3, v1, v2, _⟩, v5, v6, _⟩ := j2c
        obtain ⟨ix, ox, cx, rfl, r1, r2, r3, r4⟩ := v2
        have hNl : (F.take at' ++ w').length = at' + w'.length := by rw [List.length_append, ltk]
        have rc := RowM.cut r1 r2 r3 r4 (k := at') (by omega)
        rw [List.drop_left' ltk] at rc
        obtain ⟨ids2, px2⟩ := rc.pur
        have hnin : w'[j] ∉ w'.take j := fun h => by have := hfr _ h; rw [canB_self] at this; cases this
        have hidx : idxI (fun x => w'[j] == x) w' = (j : Int) := by
          have := idx_app (s := w'[j]) (u := w'.take j) (v := w'.drop (j + 1)) hnin
          rw [← e', lj] at this; exact this
        have b1 := br_run (b := b) (u := F.take at') (x := w'[j]) j lj hfr (z := w'.drop (j + 1)) (by rw [← e']; omega)
        rw [← e', ← es', ltk] at b1
        have hres : F.take at' ++ w'[j] :: w'.eraseIdx j = F.take (at' + 1) ++ w'.eraseIdx j := by rw [htk]; simp
        rcases hpt _ _ _ j2 with ⟨_, h⟩ | ⟨iy, rfl, _, gy⟩
        · rw [h] at hat; simp at hat
        simp -implicitDefEqProofs (disch := omega) [wrap_id, gy, cells_ls, hat, v1]
        rw [hFa]
        refine slc_ms_of (l := at') (h := at' + w'.length) rfl rfl trivial (by omega) (Nat.le_refl _) ?_
        rw [hNl, Nat.add_sub_cancel_left] at px2
        simp -implicitDefEqProofs (disch := omega) [wrap_id]
        refine callW_pure (purifyAll2 px2 rfl) (index_ok false w' (by omega) w'[j]) ?_
        rw [hidx]
        simp -implicitDefEqProofs (disch := omega) [wrap_id]
        refine ⟨by kernel_rfl, ?_⟩
        rw [show ((at' : Int) + (j : Int)) = ((at' + j : Nat) : Int) by omega]
        refine bring_w f b ⟨L1, L2⟩ b1 j3 (by omega) j2 (by omega) (by omega) fun H' hH' => ?_
        rw [hres] at hH'
        simp -implicitDefEqProofs (disch := omega) [wrap_id]
        rw [hK1]
        have hst : ∀ t ∈ F.take (at' + 1) ++ w'.eraseIdx j, strokeB b t = true := fun t ht' => by
          rw [← hres] at ht'
          simp only [List.mem_append, List.mem_cons] at ht'
          rcases ht' with h | h | h
          · exact j3 t (by simp [h])
          · exact j3 t (by rw [h]; simp)
          · exact j3 t (by simp [List.mem_of_mem_eraseIdx h])
        exact next_eq (at' + 1, w'.eraseIdx j, out' ++ brM j at', H') ⟨by simp only; omega, hH', hst, by simp only; rw [htk, List.append_assoc]; exact j4, by simp only; rw [List.append_assoc, le']; exact j5'⟩ (by simp only; omega) (by simp only [nx])
      · have hat : at' = F.length := by have : ¬ at' < F.length := by simpa using h
                                        omega
        have hw' : w' = [] := List.eq_nil_of_length_eq_zero (by omega)
        subst hw'
        simp only [List.length_nil, dn2F, List.append_nil] at j5
        obtain ⟨⟨x3, y3, _, _, v3, v4, _⟩, _⟩ := j2
        subst hK1
        simp -implicitDefEqProofs (disch := omega) [wrap_id, v3]
        exact hK _ _ (by rw [← j5]; exact v4)
    | some q =>
      obtain ⟨i, k⟩ := q
      obtain ⟨u, s, v, z, e, h1, h2, h3⟩ := undo_split hu
      have hs1 : St8 s := s8 s (by rw [e]; simp)
      have ll : w.length = u.length + v.length + z.length + 2 := by rw [e]; simp; omega
      obtain ⟨n, rfl⟩ : ∃ n', n = n' + 1 := ⟨n - 1, by omega⟩
      rw [dn1_some hu] at c5 d1l
      rw [red_some hu] at c6
      have er : (w.eraseIdx k).eraseIdx i = u ++ (v ++ z) := by
        rw [e, h2, ← h1]; exact erase_split
      rw [er] at c5 c6 d1l
      have dk : k - (i + 1) = v.length := by omega
      rw [dk] at c5 d1l
      rw [List.length_append, brM_len, List.length_cons] at d1l
      have hi0 : ¬ (i : Int) < 0 := by omega
      have b1 := br_run (b := b) (u := u ++ [s]) (x := -s) v.length rfl (fun t ht => by rw [canB_neg hs1.1]; exact h3 t ht) (z := z) (by simp; omega)
      rw [show (u ++ [s]).length = i + 1 by simp; omega] at b1
      have e1w : u ++ [s] ++ (v ++ -s :: z) = w := by rw [e]; simp
      rw [e1w] at b1
      simp -implicitDefEqProofs (disch := omega) [wrap_id, uI, uK, hi0]
      rw [show ((i : Int) + 1) = ((i + 1 : Nat) : Int) by omega, show (k : Int) = ((i + 1 + v.length : Nat) : Int) by omega]
      refine ⟨by kernel_rfl, ?_⟩
      refine bring_w f b ⟨L1, L2⟩ b1 c2 (by omega) c1 (by omega) (by omega) fun H' hH' => ?_
      have e2 : u ++ [s] ++ -s :: (v ++ z) = u ++ s :: -s :: (v ++ z) := by simp
      rw [e2] at hH'
      have hfn := hH'.fn
      simp -implicitDefEqProofs (disch := omega) [wrap_id, hfn]
      refine ⟨by kernel_rfl, ?_⟩
      have ws : ∀ t ∈ u ++ s :: -s :: (v ++ z), strokeB b t = true := fun t ht => c2 t (by rw [e]; simp at ht ⊢; rcases ht with h | h | h | h | h <;> simp [h])
      have wz : ∀ t ∈ u ++ (v ++ z), strokeB b t = true := fun t ht => c2 t (by rw [e]; simp at ht ⊢; rcases ht with h | h | h <;> simp [h])
      refine do_w f b ⟨L1, L2⟩ hH' (m := (2, (i : Int), 0)) (by rw [← h1]; exact mvO_take) (fun t ht => st8_of k1 (ws t ht)) (by simp; omega) (by rw [List.length_append, brM_len]; omega) fun H2 hH2 => ?_
      simp -implicitDefEqProofs (disch := omega) [wrap_id]
      rw [hK0]
      exact next_eq (n, u ++ (v ++ z), out ++ brM v.length (i + 1) ++ [(2, (i : Int), 0)], H2) ⟨hH2, wz, by simp; omega, by simp; omega, by simp only [List.append_assoc, List.cons_append, List.nil_append]; exact c5, c6⟩ (by simp; omega) rfl

end Go.AM

/- WHAT THE CODE ANSWERS, PART 30: a list of moves turned round. Own work. -/
set_option linter.unusedSimpArgs false
set_option linter.unusedVariables false
namespace Go.AM
open Go.RowKit Go.Proofs

abbrev m0 : Mv := (0, 0, 0)
def revM (l : List Mv) (i : Nat) : List Mv := (List.range l.length).map fun k => if k < i ∨ l.length - i ≤ k then l.getD (l.length - 1 - k) m0 else l.getD k m0
theorem revM_len (l : List Mv) (i : Nat) : (revM l i).length = l.length := by simp [revM]
theorem revM_get {l : List Mv} {i k : Nat} (h : k < l.length) : (revM l i)[k]'(by rw [revM_len]; exact h) = if k < i ∨ l.length - i ≤ k then l.getD (l.length - 1 - k) m0 else l.getD k m0 := by
  simp only [revM, List.getElem_map, List.getElem_range]
theorem revM_zero (l : List Mv) : revM l 0 = l := by
  apply List.ext_getElem (revM_len l 0)
  intro k h1 h2
  rw [revM_get h2, if_neg (by omega)]; simp [h2]
theorem revM_end {l : List Mv} {i : Nat} (h : l.length ≤ 2 * i + 1) : revM l i = l.reverse := by
  apply List.ext_getElem (by rw [revM_len, List.length_reverse])
  intro k h1 h2
  have hk : k < l.length := by rw [revM_len] at h1; exact h1
  rw [revM_get hk, List.getElem_reverse]
  split
  · simp [show l.length - 1 - k < l.length by omega]
  · have : l.length - 1 - k = k := by omega
    simp [hk, this]
theorem revM_step {l : List Mv} {i : Nat} (h : 2 * i + 1 < l.length) : ((revM l i).set i (l.getD (l.length - 1 - i) m0)).set (l.length - 1 - i) (l.getD i m0) = revM l (i + 1) := by
  apply List.ext_getElem (by simp [revM_len])
  intro k h1 h2
  have hk : k < l.length := by simpa [revM_len] using h2
  rw [revM_get hk, List.getElem_set, List.getElem_set]
  by_cases e1 : l.length - 1 - i = k
  · rw [if_pos e1, if_pos (by omega)]
    congr 1; omega
  · rw [if_neg e1]
    by_cases e2 : i = k
    · rw [if_pos e2, if_pos (by omega), ← e2]
    · rw [if_neg e2, revM_get hk]
      by_cases e3 : k < i ∨ l.length - i ≤ k
      · rw [if_pos e3, if_pos (by omega)]
      · rw [if_neg e3, if_neg (by omega)]

theorem flat3_set : ∀ {c : List Mv} {i : Nat} {m : Mv}, i < c.length → splice (flat3 c) (i * 3) [I m.1, I m.2.1, I m.2.2] = flat3 (c.set i m)
  | x :: c, 0, m, _ => rfl
  | x :: c, i + 1, m, h => by
    have ih := flat3_set (c := c) (i := i) (m := m) (by simpa using h)
    have e1 : flat3 (x :: c) = [I x.1, I x.2.1, I x.2.2] ++ flat3 c := rfl
    have e2 : flat3 ((x :: c).set (i + 1) m) = [I x.1, I x.2.1, I x.2.2] ++ flat3 (c.set i m) := rfl
    rw [e2, ← ih, e1]
    simp only [splice, List.length_cons, List.length_nil]
    rw [show (i + 1) * 3 = [I x.1, I x.2.1, I x.2.2].length + i * 3 by simp; omega, List.take_length_add_append, show [I x.1, I x.2.1, I x.2.2].length + i * 3 + (0 + 1 + 1 + 1) = [I x.1, I x.2.1, I x.2.2].length + (i * 3 + (0 + 1 + 1 + 1)) by omega, List.drop_length_add_append]
    simp

theorem flat3_put {c : List Mv} {i : Nat} {m : Mv} (h : i < c.length) : List.take (i * 3) (flat3 c) ++ I m.1 :: I m.2.1 :: I m.2.2 :: List.drop (i * 3 + 3) (flat3 c) = flat3 (c.set i m) := by
  have := flat3_set (m := m) h
  simpa [splice] using this

set_option maxHeartbeats 1000000 in
theorem rev3_w {l : List Mv} (hl : l.length ≤ 1000000) {hp : List HObj} {id : Nat} (hid : nthH hp id = some (.cells (flat3 l))) {K : AV → List HObj → Prop} (hK : K (.tup []) (hp.set id (.cells (flat3 l.reverse)))) :
    CallW Try.prog 94 [.ms id 0 l.length 3] hp K := by
  refine walk Try.func94 form94 res94 (by show 1 ≤ _; decide) ?_
  have hlt := nthH_lt hid
  simp -implicitDefEqProofs (disch := omega) [G94, wrap_id]
  refine loop_eq (fun i : Nat => ⟨[(0, .ms id 0 l.length 3), (2, I (i : Int)), (3, I ((l.length : Int) - 1 - i))], hp.set id (.cells (flat3 (revM l i)))⟩) (fun i => i ≤ l.length) (fun i => l.length - i) 0 (by omega) ?_ ?_
  · rw [revM_zero]
    have : hp.set id (.cells (flat3 l)) = hp := by
      apply List.ext_getElem (by simp)
      intro k h1 h2
      rw [List.getElem_set]
      split
      · rename_i e; subst e
        rw [nthH_eq, List.getElem?_eq_getElem h2] at hid
        exact (Option.some.inj hid).symm
      · rfl
    rw [this]; simp
  intro i hi
  refine hideK' fun K0 hK0 => ?_
  have hc : nthH (hp.set id (.cells (flat3 (revM l i)))) id = some (.cells (flat3 (revM l i))) := nthH_set_same hlt
  have hrl := revM_len l i
  have hfl := flat3_len (revM l i)
  simp -implicitDefEqProofs (disch := omega) [wrap_id]
  refine c_split (fun h => ?_) (fun h => ?_)
  · have h2 : 2 * i + 1 < l.length := by simp at h; omega
    have hi1 : i < (revM l i).length := by omega
    have hj1 : l.length - 1 - i < (revM l i).length := by omega
    have ej : ((l.length : Int) - 1 - i).toNat = l.length - 1 - i := by omega
    have g1 : (revM l i)[i]'hi1 = l.getD i m0 := by rw [revM_get (by omega), if_neg (by omega)]
    have g2 : (revM l i)[l.length - 1 - i]'hj1 = l.getD (l.length - 1 - i) m0 := by rw [revM_get (by omega), if_neg (by omega)]
    have c1 := fun {K : AV → List (Nat × HObj) → Prop} => cells_mv (K := K) hi1
    have c2 := fun {K : AV → List (Nat × HObj) → Prop} => cells_mv (K := K) hj1
    rw [g1] at c1
    rw [g2] at c2
    have st := revM_step h2
    generalize l.getD i m0 = x at *
    generalize l.getD (l.length - 1 - i) m0 = y at *
    simp -implicitDefEqProofs (disch := omega) [wrap_id, hc, ej, c1, c2, hlt]
    rw [flat3_put hi1]
    have n1 : nthH (hp.set id (.cells (flat3 ((revM l i).set i y)))) id = some (.cells (flat3 ((revM l i).set i y))) := nthH_set_same hlt
    have hj2 : l.length - 1 - i < ((revM l i).set i y).length := by simp; omega
    have hfl2 := flat3_len ((revM l i).set i y)
    have hs2 : ((revM l i).set i y).length = l.length := by simp; omega
    refine ⟨⟨by omega, by omega⟩, by omega, by omega, ⟨by omega, by omega⟩, ?_⟩
    simp -implicitDefEqProofs (disch := omega) [wrap_id, n1, hlt]
    rw [flat3_put hj2, st]
    refine ⟨by omega, ?_⟩
    rw [hK0]
    exact next_eq (i + 1) (by omega) (by omega) (by simp; omega)
  · simp at h
    subst hK0
    simp -implicitDefEqProofs (disch := omega) [wrap_id]
    rw [revM_end (by omega)]; exact hK

theorem rev3_nil {hp : List HObj} {K : AV → List HObj → Prop} (hK : K (.tup []) hp) : CallW Try.prog 94 [.sl true 0 []] hp K := by
  refine walk Try.func94 form94 res94 (by show 1 ≤ _; decide) ?_
  simp -implicitDefEqProofs (disch := omega) [G94, wrap_id]
  refine loop_eq (fun _ : Unit => ⟨[(0, .sl true 0 []), (2, I 0), (3, I (-1))], hp⟩) (fun _ => True) (fun _ => 0) () trivial rfl ?_
  intro _ _
  simp -implicitDefEqProofs (disch := omega) [wrap_id]
  exact hK

end Go.AM

/- WHAT THE CODE ANSWERS, PART 31: up. Own work. -/
set_option linter.unusedSimpArgs false
set_option linter.unusedVariables false
namespace Go.AM
open Go.RowKit Go.Proofs

theorem slc_accV {hp : List HObj} {y : AV} {c : List Mv} {n : Nat} {K : AV → List (Nat × HObj) → Prop} (h : AccV hp y c) (hn : c.length = n) (k : K y []) : SlcW 3 y none (some (I (n : Int))) (some (I (n : Int))) K := by
  subst hn
  rcases h with ⟨rfl, rfl⟩ | ⟨id, rfl, _, h2⟩
  · exact ⟨.sl true 0 [], [], ⟨0, 0, rfl, rfl, by omega, by omega, rfl, ⟨rfl, rfl, rfl⟩, rfl⟩, k⟩
  · exact slc_ms_of (l := 0) (h := c.length) rfl rfl ⟨c.length, rfl, Nat.le_refl _, Nat.le_refl _, rfl⟩ (Nat.zero_le _) (Nat.le_refl _) (by simpa using k)

/-- The moves that led to a list, as they are met. -/
def upF (b : Bch) : List Int → List Mv → List Mv
  | _, [] => []
  | l, m :: ms => match mvO b l m with
    | some x => invM l m :: upF b x ms
    | none => []
theorem upF_rev {b : Bch} : ∀ {ms : List Mv} {l x : List Int}, runO b l ms = some x → (upF b l ms).reverse = upM b l ms ∧ (upF b l ms).length = ms.length
  | [], l, x, _ => ⟨rfl, rfl⟩
  | m :: ms, l, x, h => by
    obtain ⟨y, h1, _, h2⟩ := runO_cons h
    obtain ⟨i1, i2⟩ := upF_rev h2
    simp only [upF, upM, h1]
    refine ⟨by rw [List.reverse_cons, i1], by simp [i2]⟩

set_option maxHeartbeats 1000000 in
theorem up_w (f g k : Bool) (b : Bch) (l lx : List Int) (ms : List Mv) (hc : chkL b l = 0) (hr : runO b l ms = some lx) (hne : l ≠ [] ∨ ms = []) (hm : ms.length ≤ 10000) {K : AV → List HObj → Prop} (hK : ∀ H y, AccV H y (upM b l ms) → K y H) : CallW Try.prog 65 [.ptr (TB f b) 0, Ms k ms, Ls g l] [] K := by
  obtain ⟨k1, k2, k3⟩ := chkL0.1 hc
  obtain ⟨L1, L2, _⟩ := chkB_zero k1
  obtain ⟨u1, u2⟩ := upF_rev hr
  refine walk Try.func65 form65 res65 (by show 3 ≤ _; decide) ?_
  simp -implicitDefEqProofs (disch := omega) [G65, wrap_id]
  refine clone_w g l (by omega) fun H x x1 x2 x3 => ?_
  simp -implicitDefEqProofs (disch := omega) [wrap_id]
  rcases x1 with ⟨rfl, rfl⟩ | ⟨id, rfl, x1⟩
  · obtain rfl := hne.resolve_left (by simp)
    refine loop_eq (fun _ : Unit => ⟨[(0, .ptr (TB f b) 0), (7, .sl true 0 []), (8, .sl true 0 []), (14, Ms k []), (15, I 0), (16, I 0)], H⟩) (fun _ => True) (fun _ => 0) () trivial rfl ?_
    intro _ _
    simp -implicitDefEqProofs (disch := omega) [wrap_id]
    refine rev3_nil ?_
    simp -implicitDefEqProofs (disch := omega) [wrap_id]
    exact hK _ _ (.inl ⟨rfl, rfl⟩)
  · have hrow : RowM H (.ms id 0 l.length 1) l := ⟨id, 0, _, rfl, x1, by simp, by unfold view; rw [List.drop_zero, List.take_of_length_le (by simp)], pc_ls _⟩
    refine loop_eq (fun q : Nat × List Int × AV × List Mv × AV × List HObj => ⟨[(0, .ptr (TB f b) 0), (7, q.2.2.1), (8, q.2.2.2.2.1), (14, Ms k ms), (15, I (ms.length : Int)), (16, I (q.1 : Int))], q.2.2.2.2.2⟩)
      (fun q => q.1 ≤ ms.length ∧ RowM q.2.2.2.2.2 q.2.2.1 q.2.1 ∧ AccV q.2.2.2.2.2 q.2.2.2.2.1 q.2.2.2.1 ∧ (∀ i, rid q.2.2.1 = some i → rid q.2.2.2.2.1 ≠ some i) ∧ (∀ s ∈ q.2.1, strokeB b s = true) ∧ q.2.1.length ≤ 120 ∧ runO b q.2.1 (ms.drop q.1) = some lx ∧ q.2.2.2.1 ++ upF b q.2.1 (ms.drop q.1) = upF b l ms ∧ q.2.2.2.1.length = q.1) (fun q => ms.length - q.1) (0, l, .ms id 0 l.length 1, [], .sl true 0 [], H)
      ⟨Nat.zero_le _, hrow, .inl ⟨rfl, rfl⟩, fun i hi e => (by cases e), k3, by simp only; omega, by simpa using hr, by simp, rfl⟩ rfl ?_
    rintro ⟨i, now, x, out, y, H⟩ ⟨c1, c2, c3, c4, c5, c6, c7, c8, c9⟩
    simp only at c1 c2 c3 c4 c5 c6 c7 c8 c9 ⊢
    refine hideK' fun K0 hK0 => ?_
    simp -implicitDefEqProofs (disch := omega) [wrap_id]
    refine c_split (fun h => ?_) (fun h => ?_)
    · have hi : i < ms.length := by simp at h; omega
      have nx : ((i : Int) + 1) = ((i + 1 : Nat) : Int) := by omega
      rw [List.drop_eq_getElem_cons hi] at c7 c8
      obtain ⟨x', m1, m2, m3⟩ := runO_cons c7
      have cm := fun {K : AV → List (Nat × HObj) → Prop} => cells_mv (K := K) hi
      generalize ms[i] = m at *
      simp -implicitDefEqProofs (disch := omega) [wrap_id, cm, nthH_at, nthH_at0, set_at, nthH_end, set_end]
      refine ⟨hi, flat3_len ms, ?_⟩
      have s8 : S8 now := fun t ht => st8_of k1 (c5 t ht)
      have lH : ∀ j, j < H.length → nthH (H ++ [HObj.cells [I m.1, I m.2.1, I m.2.2], HObj.cells [I m.1, I m.2.1, I m.2.2]]) j = nthH H j := fun j hj => nthH_front hj
      have d2 : RowM (H ++ [HObj.cells [I m.1, I m.2.1, I m.2.2], HObj.cells [I m.1, I m.2.1, I m.2.2]]) x now := c2.mono fun j hj => lH j (c2.lt hj)
      have d3 : AccV (H ++ [HObj.cells [I m.1, I m.2.1, I m.2.2], HObj.cells [I m.1, I m.2.1, I m.2.2]]) y out := c3.mono fun j hj => lH j (c3.lt hj)
      have d0 : nthH (H ++ [HObj.cells [I m.1, I m.2.1, I m.2.2], HObj.cells [I m.1, I m.2.1, I m.2.2]]) H.length = some (.cells [I m.1, I m.2.1, I m.2.2]) := nthH_at0
      have d1 : nthH (H ++ [HObj.cells [I m.1, I m.2.1, I m.2.2], HObj.cells [I m.1, I m.2.1, I m.2.2]]) (H.length + 1) = some (.cells [I m.1, I m.2.1, I m.2.2]) := nthH_at
      have dl : (H ++ [HObj.cells [I m.1, I m.2.1, I m.2.2], HObj.cells [I m.1, I m.2.1, I m.2.2]]).length = H.length + 2 := by simp
      have e8 : upF b now (m :: ms.drop (i + 1)) = invM now m :: upF b x' (ms.drop (i + 1)) := by simp only [upF, m1]
      rw [e8] at c8
      have lx := fun j (hj : rid x = some j) => c2.lt hj
      have ly := fun j (hj : rid y = some j) => c3.lt hj
      have cont : ∀ (H1 : List HObj) (e : List (Nat × AV)), H1.length = H.length + 2 → RowM H1 x now → AccV H1 y out → nthH H1 H.length = some (.cells [I m.1, I m.2.1, I m.2.2]) → nthH H1 (H.length + 1) = some (.cells [I (invM now m).1, I (invM now m).2.1, I (invM now m).2.2]) →
          AWP Try.prog (E1 Try.prog) (.seq (.rgn [⟨none, [(.mv 32 (.t 0)), (.mv 33 (.t 7)), (.ld 34 true 3 (.t 10)), (.call 35 68 [(.t 32), (.t 33), (.t 34)]), (.mv 7 (.t 35))]⟩] [0, 7, 8, 11, 14, 15, 16]) (.drw [⟨none, [(.mv 36 (.t 8)), (.mv 37 (.t 8)), (.len 38 (.t 37)), (.mv 39 (.t 8)), (.len 40 (.t 39)), (.slc 41 3 (.t 36) none (some (.t 38)) (some (.t 40))), (.ld 42 true 3 (.t 11)), (.bsl 43 1 3 [(I 0), (I 0), (I 0)] [(0, (.t 42))]), (.app 44 3 24 (.t 41) (.t 43)), (.mv 8 (.t 44))]⟩] [] [0, 7, 8, 14, 15, 16]))
            ⟨(0, .ptr (TB f b) 0) :: (7, x) :: (8, y) :: (10, .ref H.length 0) :: (11, .ref (H.length + 1) 0) :: (14, Ms k ms) :: (15, I (ms.length : Int)) :: (16, I (i : Int)) :: e, H1⟩
            (Exit.blk 1 (Exit.th (fun st => AWP Try.prog (E1 Try.prog) (.rgn [⟨none, [(.bin 45 .add (.t 16) (.k (I 1))), (.mv 16 (.t 45))]⟩] [0, 7, 8, 14, 15, 16]) st K0) K0)) := by
        intro H1 e hl1 w2 w3 w0 w1
        simp -implicitDefEqProofs (disch := omega) [wrap_id, w0]
        refine move_w f b now x' m m1 s8 ⟨by omega, by omega⟩ (by omega) w2 fun H2 z r1 r2 r3 r4 => ?_
        have v3 : AccV H2 y out := w3.mono fun j hj => r2 j (by have := ly j hj; omega) (fun e => c4 j e hj)
        have v1 : nthH H2 (H.length + 1) = some (.cells [I (invM now m).1, I (invM now m).2.1, I (invM now m).2.2]) := (r2 _ (by omega) (fun e => by have := lx _ e; omega)).trans w1
        have hyl : ∀ {K : AV → List (Nat × HObj) → Prop}, LenW y K = K (I out.length) [] := by
          intro K
          rcases v3 with ⟨rfl, rfl⟩ | ⟨_, rfl, _⟩ <;> rfl
        simp -implicitDefEqProofs (disch := omega) [wrap_id, v1, hyl]
        refine slc_accV v3 rfl ?_
        simp -implicitDefEqProofs (disch := omega) [wrap_id, v1]
        refine bsl_of (ys := [.agg [I (invM now m).1, I (invM now m).2.1, I (invM now m).2.2]]) rfl rfl ?_
        simp -implicitDefEqProofs (disch := omega) [wrap_id, zrep, place]
        refine app_accV v3 (by omega) fun ws q1 q2 q3 => ?_
        simp -implicitDefEqProofs (disch := omega) [wrap_id]
        rw [hK0]
        have rz : ∀ j, rid z = some j → j < H2.length ∧ rid y ≠ some j := fun j hj => by
          refine ⟨r1.lt hj, fun e => ?_⟩
          rcases r3 j hj with h | h
          · exact c4 j h e
          · have := ly j e; omega
        refine next_eq (i + 1, x', z, out ++ [invM now m], .ms H2.length 0 (out.length + 1) 3, writeL H2 ws) ⟨by simp only; omega, r1.mono fun j hj => q1 j (rz j hj).1 (rz j hj).2, .inr ⟨H2.length, by simp, by simp, q3⟩, fun j hj e => ?_, mvO_strokes c5 m1, m2, m3, by simp only [List.append_assoc, List.singleton_append]; exact c8, by simp [c9]⟩ (by simp only; omega) (by simp only [nx])
        have := Option.some.inj e
        have := (rz j hj).1
        omega
      have inv2 : m.1 = 2 → ∃ (n : Nat) (hn : n < now.length), m.2.1 = n ∧ invM now m = (3, (n : Int), now[n]) := fun h2 => by
        rcases mvO_cases m1 with ⟨p, t, y', z, rfl, _⟩ | ⟨p, s, z, rfl, rfl, _⟩ | ⟨p, s, z, rfl, _⟩
        · simp at h2
        · exact ⟨p.length, by simp, rfl, by simp [invM]⟩
        · simp at h2
      have inv1 : m.1 ≠ 2 → invM now m = m := fun h2 => by unfold invM; rw [if_neg h2]
      generalize hH1 : H ++ [HObj.cells [I m.1, I m.2.1, I m.2.2], HObj.cells [I m.1, I m.2.1, I m.2.2]] = H1 at *
      by_cases hm2 : m.1 = 2
      · obtain ⟨n, hn, hn1, hn2⟩ := inv2 hm2
        have hm2' : (m.1 == 2) = true := by simp [hm2]
        have d2c := d2
        obtain ⟨ix, ox, cx, ex, r1, r2, r3, r4⟩ := d2c
        have cv := fun {K : AV → List (Nat × HObj) → Prop} => cells_view (K := K) r3 hn
        have lH1 : H.length + 1 < H1.length := by omega
        have hix : ix < H.length := lx ix (by rw [ex]; rfl)
        have hiy : ∀ j, rid y = some j → j < H.length := ly
        have z2 := cont (H1.set (H.length + 1) (.cells [I 3, I (n : Int), I now[n]])) [] (by simp [dl]) (d2.mono fun j hj => nthH_set_ne (by have := lx j hj; omega)) (d3.mono fun j hj => nthH_set_ne (by have := ly j hj; omega)) ((nthH_set_ne (by omega)).trans d0) (by rw [nthH_set_same lH1, hn2])
        subst ex
        simp -implicitDefEqProofs (disch := omega) [wrap_id, hm2', d0, hn1, cv, r1, lH1, d1, cmp2, nthT]
        refine ⟨hn, ?_⟩
        simp -implicitDefEqProofs (disch := omega) [wrap_id] at z2
        exact z2
      · have hm2' : (m.1 == 2) = false := by simp [hm2]
        rw [inv1 hm2] at cont
        rw [hm2', c_false]
        exact cont H1 [(23, B false)] dl d2 d3 d0 d1
    · have hi : i = ms.length := by simp at h; omega
      subst hi
      rw [List.drop_length] at c8
      simp only [upF, List.append_nil] at c8
      subst hK0
      simp -implicitDefEqProofs (disch := omega) [wrap_id]
      rcases c3 with ⟨rfl, rfl⟩ | ⟨iy, rfl, hne', gy⟩
      · refine rev3_nil ?_
        simp -implicitDefEqProofs (disch := omega) [wrap_id]
        refine hK _ _ (.inl ⟨rfl, ?_⟩)
        rw [← u1, ← c8]; rfl
      · refine rev3_w (by omega) gy ?_
        simp -implicitDefEqProofs (disch := omega) [wrap_id]
        refine hK _ _ (.inr ⟨iy, ?_, ?_, ?_⟩)
        · rw [← u1, ← c8, List.length_reverse]
        · rw [← u1, ← c8]; simpa using hne'
        · rw [← u1, ← c8]; exact nthH_set_same (nthH_lt gy)

end Go.AM

/- WHAT THE CODE ANSWERS, PART 32: Chain. Own work. -/
set_option linter.unusedSimpArgs false
set_option linter.unusedVariables false
namespace Go.AM
open Go.RowKit Go.Proofs

theorem pc_flat3 (c : List Mv) : ((flat3 c).all AV.isPC) = true := by
  rw [List.all_eq_true]
  intro x hx
  obtain ⟨m, _, h⟩ := List.mem_flatMap.1 hx
  simp at h
  rcases h with rfl | rfl | rfl <;> rfl
theorem accV_pur {hp : List HObj} {y : AV} {c : List Mv} (h : AccV hp y c) : ∃ k ids, purify (hpf hp) y = some (Ms k c, ids) ∧ ∀ i ∈ ids, rid y = some i := by
  rcases h with ⟨rfl, rfl⟩ | ⟨id, rfl, _, h2⟩
  · exact ⟨true, [], rfl, fun i hi => by cases hi⟩
  · refine ⟨false, [id], ?_, fun i hi => by simp at hi; subst hi; rfl⟩
    have fl := flat3_len c
    simp only [purify, purify1, hpf_nthH, h2]
    rw [if_pos ⟨by omega, pcL_pure (pc_flat3 c)⟩]
    simp [view]
    rw [List.take_of_length_le (by omega)]

/-- What a function makes of moves, in any heap. -/
theorem made3_c {f : FuncId} {xs ys : List AV} {ids : List Nat} {hp : List HObj} {c : List Mv} {K : AV → List HObj → Prop} (h1 : purifyAll (hpf hp) xs = some (ys, ids)) (hw : ∀ K : AV → List HObj → Prop, (∀ H y, AccV H y c → K y H) → CallW Try.prog f ys [] K)
    (hK : ∀ H y, AccV H y c → (∀ i, i < hp.length → i ∉ ids → nthH H i = nthH hp i) → (∀ i, rid y = some i → hp.length ≤ i) → hp.length ≤ H.length → K y H) : CallW Try.prog f xs hp K := by
  by_cases h0 : c = []
  · subst h0
    refine callW_nil (fl := true) h1 (pure_of (hw _ fun H y h => ?_)) (hK _ _ (.inl ⟨rfl, rfl⟩) (fun i hi _ => rfl) (fun i hi => by cases hi) (Nat.le_refl _))
    rcases h with ⟨rfl, _⟩ | ⟨_, _, h, _⟩
    · exact ⟨[], rfl⟩
    · exact absurd rfl h
  · have hm : MadeOK Try.prog f ys c.length 3 (flat3 c) := made_of (pc_flat3 c) (hw _ fun H y h => by
      rcases h with ⟨_, h⟩ | ⟨id, rfl, _, h⟩
      · exact absurd h h0
      · exact ⟨id, rfl, by rw [hpf_nthH]; exact h⟩)
    have hlen : ∀ p ∈ gones ids ++ [(hp.length, HObj.cells (flat3 c))], p.1 ≤ hp.length := fun p hpm => by
      rw [List.mem_append] at hpm
      rcases hpm with hpm | hpm
      · simp only [gones, List.mem_map] at hpm
        obtain ⟨i, hi, rfl⟩ := hpm
        exact Nat.le_of_lt (purifyAll_lt h1 i hi)
      · simp at hpm; subst hpm; exact Nat.le_refl _
    refine callW_made h1 hm (hK _ _ (.inr ⟨hp.length, rfl, h0, ?_⟩) (fun i hi hni => ?_) (fun i hi => by cases hi; exact Nat.le_refl _) (writeL_len _ _))
    · rw [nthH_writeL hlen, write_end, Hp.set_same]
    · rw [nthH_writeL hlen, write_end, Hp.set_other _ _ (by omega), write_gones, if_neg hni, hpf_nthH]

theorem app_VV {hp : List HObj} {x y : AV} {c d : List Mv} {K : AV → List (Nat × HObj) → Prop} (hA : AccV hp x c) (hD : AccV hp y d) (hl : c.length ≤ 100000) (hm : d.length ≤ 100000)
    (hK : ∀ ws, nthH (writeL hp ws) hp.length = some (.cells (flat3 (c ++ d))) → K (.ms hp.length 0 (c.length + d.length) 3) ws) : AppW hp 3 24 x y K := by
  have fl := flat3_len c
  have fd := flat3_len d
  have main : ∀ g : Bool, AppW hp 3 24 x (.sl g d.length (flat3 d)) K := fun g => by
    rcases hA with ⟨rfl, rfl⟩ | ⟨id, rfl, hne, hc⟩
    · rw [app_sl]
      have hn : nthH (writeL hp [(hp.length, HObj.cells ([] ++ flat3 d))]) hp.length = some (.cells (flat3 ([] ++ d))) := by
        rw [nthH_writeL (by simp)]; simp [Hp.write, Hp.set_same]
      exact ⟨⟨rfl, by omega, pc_flat3 d, by simp, by simp; omega, by simp; omega, .inl rfl⟩, hK _ hn⟩
    · have hlt := nthH_lt hc
      rw [app_ms, hc, appr_some]
      have ev : view (flat3 c) 0 (c.length * 3) = flat3 c := by unfold view; rw [List.drop_zero, List.take_of_length_le (by omega)]
      have hn : nthH (writeL hp [(id, HObj.gone), (hp.length, HObj.cells (flat3 c ++ flat3 d))]) hp.length = some (.cells (flat3 (c ++ d))) := by
        rw [nthH_writeL (by simp; omega), flat3_app]
        simp only [Hp.write, Hp.set_same]
      rw [ev]
      exact ⟨⟨by omega, pc_flat3 d, rfl, by omega, by omega, by omega⟩, hK _ hn⟩
  rcases hD with ⟨rfl, rfl⟩ | ⟨id, rfl, hne, hc⟩
  · exact main true
  · rw [app_ms_ms hc (by omega)]
    have ev : view (flat3 d) 0 (d.length * 3) = flat3 d := by unfold view; rw [List.drop_zero, List.take_of_length_le (by omega)]
    rw [ev]
    exact main false

def chnR (b : Bch) (l m : List Int) : List Mv := if sameR b l m ≠ 0 then [] else dnM b l ++ upM b m (dnM b m)

set_option maxHeartbeats 1000000 in
theorem chainGo_ok (f g h : Bool) (b : Bch) (l m : List Int) (hb : b.c.length ≤ 1000000) (hl : l.length ≤ 1000000) (hm : m.length ≤ 1000000) : PureOK Try.prog 29 [Bn f b, Ls g l, Ls h m] (.tup [Ms (decide (sameR b l m ≠ 0)) (chnR b l m), I (sameR b l m)]) := by
  refine pure_of (walk Try.func29 form29 res29 (by show 3 ≤ _; decide) ?_)
  simp -implicitDefEqProofs (disch := omega) [G29, wrap_id]
  refine callW_pure rfl (same_ok f g h b l m hb hl hm) ?_
  by_cases hs : sameR b l m = 0
  · rw [hs]
    simp -implicitDefEqProofs (disch := omega) [wrap_id]
    have e : chnR b l m = dnM b l ++ upM b m (dnM b m) := by unfold chnR; rw [if_neg (by simp [hs])]
    rw [e]
    have h2 : twoR b l m = 0 := by
      refine Classical.byContradiction fun h2 => ?_
      unfold sameR at hs
      rw [if_pos h2] at hs
      exact h2 hs
    obtain ⟨c1, c2⟩ := two_S8 h2
    obtain ⟨k1, k2, k3⟩ := chkL0.1 c1
    obtain ⟨k1', k2', k3'⟩ := chkL0.1 c2
    obtain ⟨dr1, dr2⟩ := dn_run (b := b) (chkL_S8 c1).1 k2
    obtain ⟨er1, er2⟩ := dn_run (b := b) (chkL_S8 c2).1 k2'
    have hul : (upM b m (dnM b m)).length ≤ 1770 := by
      obtain ⟨u1, u2⟩ := upF_rev er1
      rw [← u1, List.length_reverse, u2]; exact er2
    have hne : m ≠ [] ∨ dnM b m = [] := by
      by_cases h : m = []
      · subst h; exact .inr rfl
      · exact .inl h
    refine callW_pure rfl (newTable_ok f b k1) ?_
    simp -implicitDefEqProofs (disch := omega) [wrap_id]
    refine made3_c (ids := []) rfl (fun K hK => down_w f g b l c1 hK) fun H1 y1 a1 a2 a3 a4 => ?_
    simp -implicitDefEqProofs (disch := omega) [wrap_id]
    refine made3_c (ids := []) rfl (fun K hK => down_w f h b m c2 hK) fun H2 y2 b1 b2 b3 b4 => ?_
    obtain ⟨k, ids, py, hids⟩ := accV_pur b1
    simp -implicitDefEqProofs (disch := omega) [wrap_id]
    have hpy : purifyAll (hpf H2) [.ptr (TB f b) 0, y2, Ls h m] = some ([.ptr (TB f b) 0, Ms k (dnM b m), Ls h m], [] ++ (ids ++ [])) := purAll3 (a := .ptr (TB f b) 0) rfl py ls_pur
    refine made3_c hpy (fun K hK => up_w f h k b m (form b m) (dnM b m) c2 er1 hne (by omega) hK) fun H3 y3 d1 d2 d3 d4 => ?_
    have a1' : AccV H3 y1 (dnM b l) := (a1.mono fun i hi => b2 i (a1.lt hi) (by simp)).mono fun i hi => d2 i (by have := a1.lt hi; omega) (by
      simp only [List.nil_append, List.append_nil]
      intro hm'
      have := b3 i (hids i hm')
      have := a1.lt hi
      omega)
    simp -implicitDefEqProofs (disch := omega) [wrap_id]
    refine app_VV a1' d1 (by omega) (by omega) fun ws hn => ?_
    simp -implicitDefEqProofs (disch := omega) [wrap_id]
    refine out_of (is := [H3.length]) ?_
    have fl := flat3_len (dnM b l ++ upM b m (dnM b m))
    rw [nthH_eq] at hn
    simp only [purify, purifyL, purify1, hpf, hn]
    rw [if_pos ⟨by rw [fl, List.length_append]; omega, pcL_pure (pc_flat3 _)⟩]
    simp [view]
    rw [List.take_of_length_le (by rw [fl, List.length_append]; omega)]
  · have hs' : (sameR b l m != 0) = true := by simpa using hs
    have e : chnR b l m = [] := by unfold chnR; rw [if_pos hs]
    rw [e]
    simp -implicitDefEqProofs (disch := omega) [wrap_id, hs', hs]
    exact out_of (is := []) rfl

end Go.AM

/- THE THEORY OF MOVES, PART 12: the chain that is returned; chains from Moved. Own work. -/
set_option linter.unusedSimpArgs false
set_option linter.unusedVariables false
namespace Go.AM
open Go.RowKit Go.Proofs

variable {b : Bch}

theorem runO_in (hL : b.L ≤ 8) : ∀ {ms : List Mv} {l x : List Int}, l.length ≤ 120 → runO b l ms = some x → MvIn ms
  | [], _, _, _, _ => fun m hm => by cases hm
  | m :: ms, l, x, hl, h => by
    obtain ⟨y, h1, h2, h3⟩ := runO_cons h
    intro q hq
    rcases List.mem_cons.1 hq with rfl | hq
    · unfold In64
      rcases mvO_cases h1 with ⟨p, t, y', z, rfl, rfl, _⟩ | ⟨p, s, z, rfl, rfl, _⟩ | ⟨p, s, z, rfl, rfl, hs, _⟩
      · simp at hl ⊢; omega
      · simp at hl ⊢; omega
      · unfold strokeB at hs; simp at hl hs ⊢; omega
    · exact runO_in hL h2 h3 q hq

theorem br_no3 : ∀ (d to : Nat), ∀ q ∈ brM d to, q.1 ≠ 3
  | 0, _, q, h => by cases h
  | d + 1, to, q, h => by
    simp only [brM] at h
    rcases List.mem_cons.1 h with rfl | h
    · simp
    · exact br_no3 d to q h
theorem dn1_no3 : ∀ (n : Nat) (l : List Int), ∀ q ∈ dn1F b n l, q.1 ≠ 3
  | 0, l, q, h => by cases h
  | n + 1, l, q, h => by
    simp only [dn1F] at h
    split at h
    · rcases List.mem_append.1 h with h | h
      · exact br_no3 _ _ q h
      · rcases List.mem_cons.1 h with rfl | h
        · simp
        · exact dn1_no3 n _ q h
    · cases h
theorem dn2_no3 : ∀ (n to : Nat) (l : List Int), ∀ q ∈ dn2F b n to l, q.1 ≠ 3
  | 0, to, l, q, h => by cases h
  | n + 1, to, l, q, h => by
    simp only [dn2F] at h
    split at h
    · cases h
    · rcases List.mem_append.1 h with h | h
      · exact br_no3 _ _ q h
      · exact dn2_no3 n _ _ q h
theorem dn_no3 (l : List Int) : ∀ q ∈ dnM b l, q.1 ≠ 3 := fun q h => by
  unfold dnM at h
  rcases List.mem_append.1 h with h | h
  · exact dn1_no3 _ _ q h
  · exact dn2_no3 _ _ _ q h

theorem chn_run {l m : List Int} (hs : sameR b l m = 0) : runO b l (chnR b l m) = some m ∧ (chnR b l m).length ≤ 3540 ∧ twoR b l m = 0 := by
  have e : chnR b l m = dnM b l ++ upM b m (dnM b m) := by unfold chnR; rw [if_neg (by simp [hs])]
  have h2 : twoR b l m = 0 := by
    refine Classical.byContradiction fun h2 => ?_
    unfold sameR at hs
    rw [if_pos h2] at hs
    exact h2 hs
  obtain ⟨c1, c2⟩ := two_S8 h2
  obtain ⟨k1, k2, k3⟩ := chkL0.1 c1
  obtain ⟨_, k2', k3'⟩ := chkL0.1 c2
  obtain ⟨L1, L2, _⟩ := chkB_zero k1
  obtain ⟨dr1, dr2⟩ := dn_run (b := b) (chkL_S8 c1).1 k2
  obtain ⟨er1, er2⟩ := dn_run (b := b) (chkL_S8 c2).1 k2'
  have hf : form b l = form b m := (sim_iff (chkL_S8 c1).1 (chkL_S8 c2).1).1 ((sameR_pat c1 c2).1 hs)
  have k3n : ∀ q ∈ dnM b m, q.1 ≠ 3 := dn_no3 m
  obtain ⟨ur1, ur2⟩ := up_run ⟨L1, L2⟩ k3n k3' (by omega) er1
  refine ⟨?_, ?_, h2⟩
  · rw [e, runO_app dr1, hf]; exact ur1
  · rw [e, List.length_append, ur2]; omega
theorem chain_zero {l m : List Int} (hs : sameR b l m = 0) : chainR b l m (chnR b l m) = 0 ∧ MvIn (chnR b l m) ∧ (chnR b l m).length ≤ 3540 := by
  obtain ⟨h1, h2, h3⟩ := chn_run hs
  obtain ⟨c1, c2⟩ := two_S8 h3
  obtain ⟨k1, k2, _⟩ := chkL0.1 c1
  obtain ⟨_, L2, _⟩ := chkB_zero k1
  refine ⟨?_, runO_in L2 (by omega) h1, h2⟩
  unfold chainR
  rw [if_neg (by simp [h3]), if_neg (by omega)]
  exact chR_run.2 h1
theorem chain_same {l m : List Int} {ms : List Mv} (h : chainR b l m ms = 0) : sameR b l m = 0 := by
  have h2 : twoR b l m = 0 := by
    refine Classical.byContradiction fun h2 => ?_
    unfold chainR at h
    rw [if_pos h2] at h
    exact h2 h
  obtain ⟨c1, c2⟩ := two_S8 h2
  obtain ⟨k1, k2, _⟩ := chkL0.1 c1
  obtain ⟨L1, L2, _⟩ := chkB_zero k1
  unfold chainR at h
  rw [if_neg (by simp [h2])] at h
  split at h
  · omega
  · exact (sameR_pat c1 c2).2 (runO_pat ⟨L1, L2⟩ (chkL_S8 c1).1 (chR_run.1 h))

theorem runO_snoc {ms : List Mv} {l x y : List Int} {m : Mv} (h : runO b l ms = some x) (hm : mvO b x m = some y) (hy : y.length ≤ 120) : runO b l (ms ++ [m]) = some y := by
  rw [runO_app h]
  simp only [runO, hm]
  rw [if_neg (by omega)]
theorem movedR_run : ∀ (n : Nat) {u now l : List Int} {out : List Mv}, u.length ≤ n → runO b l out = some now → runO b l (movedR b u now out).2 = some (movedR b u now out).1 ∧ (movedR b u now out).2.length ≤ out.length + u.length
  | 0, u, now, l, out, hn, h => by
    have : u = [] := List.eq_nil_of_length_eq_zero (by omega)
    subst this; exact ⟨h, by simp [movedR]⟩
  | n + 1, [], now, l, out, hn, h => ⟨h, by simp [movedR]⟩
  | n + 1, [_], now, l, out, hn, h => ⟨h, by simp [movedR]⟩
  | n + 1, p :: q :: r, now, l, out, hn, h => by
    have hr : r.length ≤ n := by simp at hn; omega
    cases hm : mvOK b now (mvOf b now p q) with
    | none =>
      have e : movedR b (p :: q :: r) now out = movedR b r now out := by simp only [movedR, hm]
      rw [e]
      obtain ⟨h1, h2⟩ := movedR_run n hr h
      exact ⟨h1, by simp; omega⟩
    | some x =>
      have e : movedR b (p :: q :: r) now out = movedR b r x (out ++ [mvOf b now p q]) := by simp only [movedR, hm]
      rw [e]
      obtain ⟨g1, g2⟩ := mvOK_some hm
      obtain ⟨h1, h2⟩ := movedR_run n hr (runO_snoc h g1 (by omega))
      exact ⟨h1, by simp at h2 ⊢; omega⟩
theorem moved_run {u l : List Int} (hc : chkL b l = 0) (hu : u.length ≤ 60) : chainR b l (movedR b u l []).1 (movedR b u l []).2 = 0 ∧ MvIn (movedR b u l []).2 ∧ (movedR b u l []).2.length ≤ 60 := by
  obtain ⟨h1, h2⟩ := movedR_run (b := b) u.length (u := u) (now := l) (l := l) (out := []) (Nat.le_refl _) rfl
  obtain ⟨p1, p2⟩ := moved_pat (u := u) hc
  obtain ⟨k1, k2, _⟩ := chkL0.1 hc
  obtain ⟨_, L2, _⟩ := chkB_zero k1
  simp only [List.length_nil, Nat.zero_add] at h2
  refine ⟨?_, runO_in L2 (by omega) h1, by omega⟩
  unfold chainR
  rw [if_neg (by simp [two_zero hc p2]), if_neg (by omega)]
  exact chR_run.2 h1

end Go.AM
