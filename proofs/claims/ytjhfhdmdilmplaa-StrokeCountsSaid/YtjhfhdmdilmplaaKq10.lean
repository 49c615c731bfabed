/-
  WHAT THE CODE ANSWERS, PART 6: one move, of the specification. Own work.
  FREEZING; WHAT THE CODE ANSWERS, PART 7: Moved. Own work.
  WHAT THE CODE ANSWERS, PART 8: Moved. Own work.
  THE THEORY OF MOVES, PART 3: lists after moves. Own work.
-/
import Derived.Test.YtjhfhdmdilmplaaKq9

/- WHAT THE CODE ANSWERS, PART 6: one move, of the specification. Own work. -/
set_option linter.unusedSimpArgs false
set_option linter.unusedVariables false
namespace Go.AM
open Go.RowKit Go.Proofs

/-- What a move makes of a list. -/
def mvO (b : Bch) (l : List Int) (m : Mv) : Option (List Int) :=
  if m.2.1 < 0 ∨ l.length < m.2.1 then none
  else if m.1 = 3 then (if strokeB b m.2.2 = true then some (l.take m.2.1.toNat ++ m.2.2 :: -m.2.2 :: l.drop m.2.1.toNat) else none)
  else if l.length ≤ m.2.1 + 1 ∨ m.2.2 ≠ 0 then none
  else if m.1 = 1 ∧ canB b (l.getD m.2.1.toNat 0) (l.getD (m.2.1.toNat + 1) 0) = true then some ((l.set m.2.1.toNat (l.getD (m.2.1.toNat + 1) 0)).set (m.2.1.toNat + 1) (l.getD m.2.1.toNat 0))
  else if m.1 = 2 ∧ l.getD (m.2.1.toNat + 1) 0 = -l.getD m.2.1.toNat 0 then some ((l.eraseIdx (m.2.1.toNat + 1)).eraseIdx m.2.1.toNat)
  else none
def mvAV : Option (List Int) → AV
  | some x => .tup [Ls false x, B true]
  | none => .tup [Ls true [], B false]
theorem out_msB {hp : List HObj} {id n : Nat} {l : List Int} {x : Bool} (h : nthH hp id = some (.cells (l.map fun n => I n))) (hn : n = l.length) : Out (.tup [Ls false l, B x]) (.tup [.ms id 0 n 1, B x]) hp := by
  subst hn
  rw [nthH_eq] at h
  refine out_of (is := [id]) ?_
  simp only [purify, purifyL, purify1, hpf, h]
  rw [if_pos ⟨by simp, ls_isPure _⟩]
  simp [view]
  rw [List.take_of_length_le (by simp)]
theorem set_ls (a : List Int) (q : Nat) (y : Int) (hq : q < a.length) : List.take q (a.map fun n => I n) ++ I y :: List.drop (q + 1) (a.map fun n => I n) = (a.set q y).map fun n => I n := by
  have := splice_ls (v := y) hq
  simpa [splice] using this
theorem strokeB_def (b : Bch) (n : Int) : ((decide (1 ≤ n) && decide (n ≤ b.L)) || (decide (n ≤ -1) && decide (-b.L ≤ n))) = strokeB b n := rfl

theorem move_ok (f g : Bool) (b : Bch) (l : List Int) (m : Mv) (hb : b.c.length ≤ 1000000) (hL : -1000000 ≤ b.L ∧ b.L ≤ 1000000) (hl : l.length ≤ 1000000) (hs : Small l) (hm : In64 m.1 ∧ In64 m.2.1 ∧ In64 m.2.2) :
    PureOK Try.prog 69 [Bn f b, Ls g l, .agg [I m.1, I m.2.1, I m.2.2]] (mvAV (mvO b l m)) := by
  obtain ⟨k, a, s⟩ := m
  obtain ⟨hk, ha, hS⟩ := hm
  simp only at hk ha hS ⊢
  refine pure_of (walk Try.func69 form69 res69 (by show 3 ≤ _; decide) ?_)
  simp (disch := omega) [G69, wrap_id]
  by_cases h1 : a < 0
  · have e : mvO b l (k, a, s) = none := by simp [mvO, h1]
    rw [e]
    simp (disch := omega) [wrap_id, h1]
    exact out_of (is := []) rfl
  by_cases h2 : (l.length : Int) < a
  · have e : mvO b l (k, a, s) = none := by simp [mvO, h2]
    rw [e]
    simp (disch := omega) [wrap_id, h1, h2]
    exact out_of (is := []) rfl
  simp (disch := omega) [wrap_id, h1, h2]
  obtain ⟨n, rfl⟩ : ∃ n : Nat, a = n := ⟨a.toNat, by omega⟩
  have hn : n ≤ l.length := by omega
  by_cases h3 : k = 3
  · subst h3
    simp (disch := omega) [wrap_id]
    refine callW_pure rfl (isStroke_ok f b hL s) ?_
    rw [strokeB_def]
    cases h4 : strokeB b s with
    | false =>
      have e : mvO b l (3, (n : Int), s) = none := by simp [mvO, h1, h2, h4]
      rw [e]
      simp (disch := omega) [wrap_id]
      exact out_of (is := []) rfl
    | true =>
      have e : mvO b l (3, (n : Int), s) = some (l.take n ++ s :: -s :: l.drop n) := by simp [mvO, h1, h2, h4]
      rw [e]
      have hs2 : -1000000 ≤ s ∧ s ≤ 1000000 := by
        unfold strokeB at h4
        simp at h4
        omega
      simp (disch := omega) [wrap_id]
      refine bsl_of (ys := []) rfl rfl ?_
      simp (disch := omega) [wrap_id, zrep, place]
      have pc : ∀ x : AV, x ∈ List.map (fun n => I n) l → ∃ i, x = I i := fun x hx => by
        obtain ⟨i, _, h⟩ := List.mem_map.1 hx; exact ⟨i, h.symm⟩
      refine ⟨hn, ⟨fun x hx => ?_, by omega, by omega⟩, ?_⟩
      · obtain ⟨i, rfl⟩ := pc x (List.mem_of_mem_take hx); rfl
      refine bsl_of (ys := [I s, I (-s)]) rfl rfl ?_
      simp (disch := omega) [wrap_id, zrep, place]
      refine ⟨⟨by omega, by omega⟩, hn, ⟨fun x hx => ?_, by omega, by omega⟩, ?_⟩
      · obtain ⟨i, rfl⟩ := pc x (List.mem_of_mem_drop (List.mem_of_mem_take hx)); rfl
      refine out_msB (l := l.take n ++ s :: -s :: l.drop n) ?_ (by simp; omega)
      simp
      rw [List.take_of_length_le (l := List.take n _ ++ _) (by simp; omega), List.take_of_length_le (l := List.drop n _) (by simp)]
      simp
      rw [List.take_take, Nat.min_self]
  have h3' : (k == 3) = false := by simpa using h3
  simp (disch := omega) [wrap_id, h3, h3']
  by_cases h5 : (l.length : Int) ≤ n + 1
  · have e : mvO b l (k, (n : Int), s) = none := by simp [mvO, h1, h2, h3, h5]
    rw [e]
    simp (disch := omega) [wrap_id, h5]
    exact out_of (is := []) rfl
  by_cases h6 : s = 0
  · subst h6
    simp (disch := omega) [wrap_id, h5]
    refine bsl_of (ys := []) rfl rfl ?_
    simp (disch := omega) [wrap_id, zrep, place]
    refine ⟨⟨by omega, by omega⟩, ?_⟩
    have i1 : n < l.length := by omega
    have i2 : n + 1 < l.length := by omega
    have s1 := hs (l[n]) (List.getElem_mem i1)
    have s2 := hs (l[n + 1]) (List.getElem_mem i2)
    have e1 : l.getD n 0 = l[n] := by simp [i1]
    have e2 : l.getD (n + 1) 0 = l[n + 1] := by simp [i2]
    have j1 : ((n : Int) + 1).toNat = n + 1 := by omega
    by_cases k1 : k = 1
    · subst k1
      simp (disch := omega) [wrap_id, cells_ls, i1, i2, j1]
      refine ⟨⟨by omega, by omega⟩, ?_⟩
      refine pureW_of rfl (refCan_ok f b hb l[n] l[n + 1] s1 s2) ?_
      cases hc : canB b l[n] l[n + 1] with
      | true =>
        have e : mvO b l (1, (n : Int), 0) = some ((l.set n (l.getD (n + 1) 0)).set (n + 1) (l.getD n 0)) := by simp [mvO, h1, h2, h5, i1, i2, hc]
        rw [e]
        simp (disch := omega) [wrap_id, cells_ls, i1, i2, j1]
        refine ⟨⟨by omega, by omega⟩, by omega, ⟨by omega, by omega⟩, by omega, ?_⟩
        rw [set_ls l n _ i1, set_ls (l.set n l[n + 1]) (n + 1) _ (by simp; omega)]
        exact out_msB rfl (by simp)
      | false =>
        have e : mvO b l (1, (n : Int), 0) = none := by simp [mvO, h1, h2, h5, i1, i2, hc]
        rw [e]
        simp (disch := omega) [wrap_id, cells_ls, i1, i2, j1]
        exact out_of (is := []) rfl
    have k1' : (k == 1) = false := by simpa using k1
    simp (disch := omega) [wrap_id, k1']
    by_cases k2 : k = 2
    · subst k2
      simp (disch := omega) [wrap_id, cells_ls, i1, i2, j1]
      refine ⟨⟨by omega, by omega⟩, ?_⟩
      refine c_split (fun h => ?_) (fun h => ?_)
      · have hq : l[n + 1] = -l[n] := by simpa using h
        have e : mvO b l (2, (n : Int), 0) = some ((l.eraseIdx (n + 1)).eraseIdx n) := by simp [mvO, h1, h2, h5, i1, i2, hq]
        rw [e]
        have hm2 : nthH [HObj.cells [I b.L, Ps f b.c], HObj.cells [I 2, I (n : Int), I 0], HObj.cells (l.map fun n => I n)] 2 = some (.cells (l.map fun n => I n)) := rfl
        simp (disch := omega) [wrap_id]
        refine pureW_of (purifyAll2 (ms_pur hm2 rfl) rfl) (without_ok false l hl (n + 1) i2) ?_
        simp (disch := omega) [wrap_id]
        refine pureW_of rfl (without_ok false (l.eraseIdx (n + 1)) (by rw [List.length_eraseIdx]; split <;> omega) n (by rw [List.length_eraseIdx]; split <;> omega)) ?_
        simp (disch := omega) [wrap_id]
        exact out_of (is := []) rfl
      · have hq : ¬ l[n + 1] = -l[n] := by simpa using h
        have e : mvO b l (2, (n : Int), 0) = none := by simp [mvO, h1, h2, h5, i1, i2, hq]
        rw [e]
        simp (disch := omega) [wrap_id]
        exact out_of (is := []) rfl
    have k2' : (k == 2) = false := by simpa using k2
    have e : mvO b l (k, (n : Int), 0) = none := by simp [mvO, h1, h2, h3, h5, i1, i2, k1, k2]
    rw [e]
    simp (disch := omega) [wrap_id, k2']
    exact out_of (is := []) rfl
  · have e : mvO b l (k, (n : Int), s) = none := by simp [mvO, h1, h2, h3, h5, h6]
    rw [e]
    have h6' : (s != 0) = true := by simpa using h6
    simp (disch := omega) [wrap_id, h5, h6']
    exact out_of (is := []) rfl

end Go.AM

/- FREEZING; WHAT THE CODE ANSWERS, PART 7: Moved. Own work. -/
set_option linter.unusedSimpArgs false
set_option linter.unusedVariables false
namespace Go.AM
open Go.RowKit Go.Proofs

/-- Private lists that turn into values which nobody changes any more. -/
def Fzn (hp : List HObj) (ids : List Nat) (fr fr' : List (Nat × AV)) : Prop :=
  ∀ t, get fr' t = get fr t ∨ ∃ is, purify (hpf hp) (get fr t) = some (get fr' t, is) ∧ ∀ i ∈ is, i ∈ ids
theorem Fzn.refl {hp ids fr} : Fzn hp ids fr fr := fun _ => .inl rfl
theorem Fzn.keep {hp ids fr fr'} {k : Nat} {x : AV} (h : Fzn hp ids fr fr') : Fzn hp ids ((k, x) :: fr) ((k, x) :: fr') := fun t => by
  rw [get_cons, get_cons]; split
  · exact .inl rfl
  · exact h t
theorem Fzn.new {hp ids fr fr'} {k : Nat} {x y : AV} {is : List Nat} (hx : purify (hpf hp) x = some (y, is)) (hs : ∀ i ∈ is, i ∈ ids) (h : Fzn hp ids fr fr') : Fzn hp ids ((k, x) :: fr) ((k, y) :: fr') := fun t => by
  rw [get_cons, get_cons]; split
  · exact .inr ⟨is, hx, hs⟩
  · exact h t
theorem le_freeze {fr fr' : List (Nat × AV)} {hp : List HObj} {ids : List Nat} (h : Fzn hp ids fr fr') (hids : ∀ i ∈ ids, ∃ cs, hpf hp i = some (.cells cs)) : St.le ⟨fr, hp⟩ ⟨fr', writeL hp (gones ids)⟩ := by
  rintro N a w g ⟨h1, hF, hok⟩
  obtain ⟨hokA, updA⟩ := hok.giveAll ids hids
  have e : hpf (writeL hp (gones ids)) = Hp.write (hpf hp) (gones ids) := hpf_write fun p hp => by
    simp only [gones, List.mem_map] at hp
    obtain ⟨i, hi, rfl⟩ := hp
    obtain ⟨cs, hcs⟩ := hids i hi
    exact Nat.le_of_lt (hpf_lt hcs)
  refine ⟨_, ⟨h1, ?_, by rw [e]; exact hokA⟩, by rw [e]; exact updA⟩
  intro t
  rcases h t with h | ⟨is, h, hs⟩
  · show Rep _ _ _ (get fr' t) _
    rw [h]; exact (hF t).mono updA.tr
  · exact (purify_rep hok h hs (hF t)).of

theorem moveF_ok (k a s : Int) : PureOK Try.prog 55 [I k, I a, I s] (.agg [I k, I a, I s]) := by
  refine pure_of (callW_of Try.func55 form55 resc55 (by show 3 ≤ _; decide) ?_)
  simp (disch := omega) [G55, wrap_id]
  refine ⟨[.agg [I k, I a, I s]], ⟨?_, trivial⟩, ⟨[], rfl⟩⟩
  simp [semLd, hpf]

/-- A list of moves that grows. -/
def AccM (hp : List HObj) (x : AV) (c : List Mv) : Prop := (x = .sl true 0 [] ∧ c = []) ∨ ∃ id, x = .ms id 0 c.length 3 ∧ 0 < id ∧ c ≠ [] ∧ nthH hp id = some (.cells (flat3 c))
theorem flat3_len (c : List Mv) : (flat3 c).length = c.length * 3 := by
  induction c with
  | nil => rfl
  | cons p c ih => simp [flat3] at ih ⊢; omega
theorem flat3_app (c d : List Mv) : flat3 (c ++ d) = flat3 c ++ flat3 d := by simp [flat3]
theorem app_accM {hp : List HObj} {x : AV} {c : List Mv} {m : Mv} {K : AV → List (Nat × HObj) → Prop} (hA : AccM hp x c) (h0 : 0 < hp.length) (hl : c.length ≤ 1000000)
    (hK : ∀ ws, nthH (writeL hp ws) 0 = nthH hp 0 → 0 < (writeL hp ws).length → AccM (writeL hp ws) (.ms hp.length 0 (c.length + 1) 3) (c ++ [m]) → K (.ms hp.length 0 (c.length + 1) 3) ws) :
    AppW hp 3 24 x (.sl true 1 [I m.1, I m.2.1, I m.2.2]) K := by
  have pos : ∀ ws, 0 < (writeL hp ws).length := fun ws => Nat.lt_of_lt_of_le h0 (writeL_len ws hp)
  rcases hA with ⟨rfl, rfl⟩ | ⟨id, rfl, hid, hne, hc⟩
  · rw [app_sl]
    refine ⟨by simp, ?_⟩
    refine hK _ ?_ (pos _) (.inr ⟨hp.length, by simp, h0, by simp, ?_⟩)
    · rw [nthH_writeL (by simp), nthH_eq]
      simp only [Hp.write]
      rw [Hp.set_other _ _ (by omega)]; rfl
    · rw [nthH_writeL (by simp)]
      simp [Hp.write, Hp.set_same, flat3]
  · have hlt : id < hp.length := by rw [nthH_eq] at hc; exact hpf_lt hc
    have fl := flat3_len c
    rw [app_ms, hc, appr_some]
    refine ⟨by simp; omega, ?_⟩
    refine hK _ ?_ (pos _) (.inr ⟨hp.length, by simp, h0, by simp, ?_⟩)
    · rw [nthH_writeL (by simp; omega), nthH_eq]
      simp only [Hp.write]
      rw [Hp.set_other _ _ (by omega), Hp.set_other _ _ (by omega)]; rfl
    · rw [nthH_writeL (by simp; omega)]
      simp [Hp.write, Hp.set_same]
      rw [List.take_of_length_le (by omega), flat3_app]
      rfl

/-- What Moved takes from two bytes. -/
def mvOf (b : Bch) (now : List Int) (p q : Int) : Mv :=
  if 1 + p.tmod 3 = 3 then (3, q.tmod (now.length + 1), if 128 ≤ p then -(1 + (p.tdiv 3).tmod b.L) else 1 + (p.tdiv 3).tmod b.L) else (1 + p.tmod 3, q.tmod (now.length + 1), 0)
def mvOK (b : Bch) (now : List Int) (m : Mv) : Option (List Int) := match mvO b now m with
  | some x => if x.length ≤ 50 then some x else none
  | none => none
def movedR (b : Bch) : List Int → List Int → List Mv → List Int × List Mv
  | p :: q :: r, now, out => match mvOK b now (mvOf b now p q) with
    | some x => movedR b r x (out ++ [mvOf b now p q])
    | none => movedR b r now out
  | _, now, out => (now, out)

theorem mvO_pat {b : Bch} {l x : List Int} {m : Mv} (h8 : 0 ≤ b.L ∧ b.L ≤ 8) (hl : S8 l) (h : mvO b l m = some x) : Pat b l x := by
  unfold mvO at h
  split at h
  · cases h
  rename_i g1
  generalize hn : m.2.1.toNat = n at h
  have hn' : n ≤ l.length := by omega
  split at h
  · split at h
    · rename_i g3
      cases h
      have s8 : St8 m.2.2 := by unfold strokeB at g3; simp at g3; exact ⟨by omega, by omega, by omega⟩
      have := Pat.back (b := b) (l.take n) (l.drop n) s8
      rw [List.take_append_drop] at this
      exact this.symm
    · cases h
  split at h
  · cases h
  rename_i g2
  have i1 : n < l.length := by omega
  have i2 : n + 1 < l.length := by omega
  have e1 : l.getD n 0 = l[n] := by simp [i1]
  have e2 : l.getD (n + 1) 0 = l[n + 1] := by simp [i2]
  have sp : l = l.take n ++ l[n] :: l[n + 1] :: l.drop (n + 2) := by
    rw [← List.drop_eq_getElem_cons i2, ← List.drop_eq_getElem_cons i1, List.take_append_drop]
  have tl : (l.take n).length = n := by simp; omega
  rw [e1, e2] at h
  split at h
  · rename_i g3
    cases h
    have := Pat.swap (b := b) (l.take n) (l.drop (n + 2)) g3.2
    rw [← sp] at this
    refine this.trans (.of_eq ?_)
    generalize l[n] = p at *
    generalize l[n + 1] = q at *
    generalize l.take n = u at *
    generalize l.drop (n + 2) = v at *
    subst tl
    rw [sp]
    simp
  split at h
  · rename_i g3
    cases h
    have s8 : St8 l[n] := hl _ (List.getElem_mem i1)
    have := Pat.back (b := b) (l.take n) (l.drop (n + 2)) s8
    rw [← g3.2, ← sp] at this
    refine this.trans (.of_eq ?_)
    generalize l[n] = p at *
    generalize l[n + 1] = q at *
    generalize l.take n = u at *
    generalize l.drop (n + 2) = v at *
    subst tl
    rw [sp]
    have := erase_split (u := u) (v := []) (z := v) (s := p) (t := q)
    simp at this
    exact this.symm
  · cases h

theorem mvO_strokes {b : Bch} {l x : List Int} {m : Mv} (hl : ∀ s ∈ l, strokeB b s = true) (h : mvO b l m = some x) : ∀ s ∈ x, strokeB b s = true := by
  unfold mvO at h
  split at h
  · cases h
  rename_i g1
  generalize hn : m.2.1.toNat = n at h
  split at h
  · split at h
    · rename_i g3
      cases h
      intro s hs
      simp only [List.mem_append, List.mem_cons] at hs
      rcases hs with hs | rfl | rfl | hs
      · exact hl s (List.mem_of_mem_take hs)
      · exact g3
      · exact strokeB_neg g3
      · exact hl s (List.mem_of_mem_drop hs)
    · cases h
  split at h
  · cases h
  rename_i g2
  have i1 : n < l.length := by omega
  have i2 : n + 1 < l.length := by omega
  have e1 : l.getD n 0 = l[n] := by simp [i1]
  have e2 : l.getD (n + 1) 0 = l[n + 1] := by simp [i2]
  rw [e1, e2] at h
  split at h
  · cases h
    intro s hs
    rcases List.mem_or_eq_of_mem_set hs with hs | rfl
    · rcases List.mem_or_eq_of_mem_set hs with hs | rfl
      · exact hl s hs
      · exact hl _ (List.getElem_mem i2)
    · exact hl _ (List.getElem_mem i1)
  split at h
  · cases h
    exact fun s hs => hl s (List.mem_of_mem_eraseIdx (List.mem_of_mem_eraseIdx hs))
  · cases h
theorem mvO_len {b : Bch} {l x : List Int} {m : Mv} (h : mvO b l m = some x) : x.length ≤ l.length + 2 := by
  unfold mvO at h
  (repeat' split at h) <;> cases h <;> simp [List.length_eraseIdx] <;> (repeat' split) <;> omega

end Go.AM

/- WHAT THE CODE ANSWERS, PART 8: Moved. Own work. -/
set_option linter.unusedSimpArgs false
set_option linter.unusedVariables false
namespace Go.AM
open Go.RowKit Go.Proofs

theorem cells_us {l : List Int} {j sz} {K : AV → List (Nat × HObj) → Prop} (h : j < l.length) : CellsW (l.map fun n => U n) j sz false K = K (U (l.getD j 0)) [] := by
  simp [CellsW, h]

set_option maxHeartbeats 1000000 in
theorem moved_ok (f g h : Bool) (b : Bch) (l u : List Int) (hb : chkL b l = 0) (hu : u.length ≤ 60 ∧ ∀ n ∈ u, 0 ≤ n ∧ n ≤ 255) :
    PureOK Try.prog 48 [Bn f b, Ls g l, Us h u] (.tup [Ls false (movedR b u l []).1, Ms (movedR b u l []).2.isEmpty (movedR b u l []).2]) := by
  obtain ⟨k1, k2, k3⟩ := chkL0.1 hb
  obtain ⟨L1, L2, L3⟩ := chkB_zero k1
  refine pure_of (walk Try.func48 form48 res48 (by show 3 ≤ _; decide) ?_)
  simp (disch := omega) [G48, wrap_id]
  refine bsl_of (ys := []) rfl rfl ?_
  simp (disch := omega) [wrap_id, zrep, place]
  refine ⟨⟨by omega, by omega⟩, ?_⟩
  have h1 : nthH [HObj.cells [I b.L, Ps f b.c], HObj.cells (l.map fun n => I n)] 1 = some (.cells (l.map fun n => I n)) := rfl
  refine loop_of (fun s : List HObj × List Int × List Mv × AV × Nat => ⟨[(2, Us h u), (3, .ref 0 0), (8, Ls false s.2.1), (9, s.2.2.2.1), (10, I (s.2.2.2.2 : Int))], s.1⟩)
    (fun s => nthH s.1 0 = some (.cells [I b.L, Ps f b.c]) ∧ s.2.1.length ≤ 60 ∧ (∀ n ∈ s.2.1, strokeB b n = true) ∧ AccM s.1 s.2.2.2.1 s.2.2.1 ∧ s.2.2.2.2 ≤ u.length ∧ s.2.2.1.length ≤ s.2.2.2.2 ∧ movedR b u l [] = movedR b (u.drop s.2.2.2.2) s.2.1 s.2.2.1)
    (fun s => u.length - s.2.2.2.2) ([HObj.cells [I b.L, Ps f b.c], HObj.gone], l, [], .sl true 0 [], 0) ⟨rfl, k2, k3, .inl ⟨rfl, rfl⟩, Nat.zero_le _, Nat.zero_le _, rfl⟩ ?_ ?_
  · refine le_freeze (ids := [1]) (.keep (.keep (.new (ms_pur h1 rfl) (by simp) .refl))) fun i hi => ?_
    simp at hi; subst hi; exact ⟨l.map fun n => I n, rfl⟩
  rintro ⟨H, now, out, y, i⟩ ⟨c1, c2, c3, c4, c5, c6, c7⟩
  simp only at c1 c2 c3 c4 c5 c6 c7 ⊢
  have H0 := nthH_lt c1
  simp (disch := omega) [wrap_id]
  refine c_split (fun hc => ?_) (fun hc => ?_)
  · simp at hc
    have i1 : i < u.length := by omega
    have i2 : i + 1 < u.length := by omega
    have j1 : ((i : Int) + 1).toNat = i + 1 := by omega
    have up := hu.2 u[i] (List.getElem_mem i1)
    have uq := hu.2 u[i + 1] (List.getElem_mem i2)
    have dr : u.drop i = u[i] :: u[i + 1] :: u.drop (i + 2) := by rw [← List.drop_eq_getElem_cons i2, ← List.drop_eq_getElem_cons i1]
    generalize hp : u[i] = p at up dr
    generalize hq : u[i + 1] = q at uq dr
    have p1 := Int.tmod_nonneg 3 up.1
    have p2 := Int.tmod_lt_of_pos p (show (0 : Int) < 3 by omega)
    have q1 := Int.tmod_nonneg ((now.length : Int) + 1) uq.1
    have q2 := Int.tmod_lt_of_pos q (show (0 : Int) < (now.length : Int) + 1 by omega)
    have p3 : 0 ≤ p.tdiv 3 := Int.tdiv_nonneg up.1 (by omega)
    have p4 : p.tdiv 3 ≤ 85 := by rw [Int.tdiv_eq_ediv_of_nonneg up.1]; omega
    have p5 := Int.tmod_nonneg b.L p3
    have p6 := Int.tmod_lt_of_pos (p.tdiv 3) (show 0 < b.L by omega)
    have L0 : b.L ≠ 0 := by omega
    simp (disch := omega) [wrap_id, cells_us, i1, i2, j1, hp, hq]
    refine ⟨⟨by omega, by omega⟩, ?_⟩
    obtain ⟨s0, hs0⟩ : ∃ s0 : Int, s0 = 0 := ⟨0, rfl⟩
    refine callW_pure (r := .agg [I (1 + p.tmod 3), I (q.tmod (↑now.length + 1)), I s0]) rfl (by rw [hs0]; exact moveF_ok _ _ _) ?_
    have mv : mvOf b now p q = if 1 + p.tmod 3 = 3 then (3, q.tmod (now.length + 1), if 128 ≤ p then -(1 + (p.tdiv 3).tmod b.L) else 1 + (p.tdiv 3).tmod b.L) else (1 + p.tmod 3, q.tmod (now.length + 1), 0) := rfl
    have c0 : ∀ x, nthH (H ++ [x]) 0 = some (.cells [I b.L, Ps f b.c]) := fun x => (nthH_front H0).trans c1
    have w8 : IntKind.u8.wrap (p.tdiv 3) = p.tdiv 3 := by simp [IntKind.wrap, IntKind.bits, IntKind.signed]; omega
    have KA : In64 (1 + p.tmod 3) ∧ In64 (q.tmod (↑now.length + 1)) := ⟨⟨by omega, by omega⟩, ⟨by omega, by omega⟩⟩
    generalize q.tmod (↑now.length + 1) = a at *
    generalize 1 + p.tmod 3 = k at *
    have S1 : In64 (-(1 + (p.tdiv 3).tmod b.L)) := ⟨by omega, by omega⟩
    have S2 : In64 (1 + (p.tdiv 3).tmod b.L) := ⟨by omega, by omega⟩
    have S0 : In64 s0 := ⟨by omega, by omega⟩
    have sm : Small now := fun s hs => by have := c3 s hs; unfold strokeB at this; simp at this; omega
    have nx : (i : Int) + 2 = ((i + 2 : Nat) : Int) := by omega
    have ml : movedR b (u.drop i) now out = match mvOK b now (mvOf b now p q) with
        | some x => movedR b (u.drop (i + 2)) x (out ++ [mvOf b now p q])
        | none => movedR b (u.drop (i + 2)) now out := by rw [dr]; rfl
    by_cases hk : k = 3
    rw [if_pos hk] at mv
    have mv : mvOf b now p q = (k, a, if 128 ≤ p then -(1 + (p.tdiv 3).tmod b.L) else 1 + (p.tdiv 3).tmod b.L) := by rw [mv, hk]
    have hk' : (k == 3) = true := by simpa using hk
    simp (disch := omega) [wrap_id, cells_us, i1, i2, j1, hk', hp, hq, c0, w8]
    refine c_split (fun h => ?_) (fun h => ?_)
    all_goals first
      | have h' : 128 ≤ p := by simpa using h
        rw [if_pos h'] at mv
        simp (disch := omega) [wrap_id, cells_us, i1, i2, j1, hp, hq, c0, w8]
        generalize -(1 + (p.tdiv 3).tmod b.L) = s1 at mv S1 ⊢
      | have h' : ¬ 128 ≤ p := by simpa using h
        rw [if_neg h'] at mv
        simp (disch := omega) [wrap_id, cells_us, i1, i2, j1, hp, hq, c0, w8]
        clear S1
        have S1 := S2
        generalize 1 + (p.tdiv 3).tmod b.L = s1 at mv S1 ⊢
      | rw [if_neg hk, ← hs0] at mv
        have hk' : (k == 3) = false := by simpa using hk
        simp (disch := omega) [wrap_id, cells_us, i1, i2, j1, hk', c0]
        clear S1
        have S1 := S0
        generalize s0 = s1 at mv S1 ⊢
    all_goals
      refine callW_pure rfl (move_ok f false b now (k, a, s1) (by omega) (by omega) (by omega) sm ⟨KA.1, KA.2, S1⟩) ?_
      rw [mv] at ml
      have ac : ∀ x, AccM (H ++ [x]) y out := fun x => by
        rcases c4 with h | ⟨id, h1, h2, h3, h4⟩
        · exact .inl h
        · exact .inr ⟨id, h1, h2, h3, (nthH_front (nthH_lt h4)).trans h4⟩
      have c0' := c0 (.cells [I k, I a, I s1])
      have ac' := ac (.cells [I k, I a, I s1])
      have nn : nthH (H ++ [.cells [I k, I a, I s1]]) H.length = some (.cells [I k, I a, I s1]) := nthH_end
      have hl : H.length < (H ++ [HObj.cells [I k, I a, I s1]]).length := by simp
      generalize H ++ [HObj.cells [I k, I a, I s1]] = H2 at c0' ac' nn hl ⊢
      cases hm : mvO b now (k, a, s1) with
      | none =>
        have e : mvOK b now (k, a, s1) = none := by unfold mvOK; rw [hm]
        rw [e] at ml
        simp (disch := omega) [wrap_id, mvAV]
        exact next_eq (H2, now, out, y, i + 2) ⟨c0', c2, c3, ac', by simp only; omega, by simp only; omega, by rw [c7, ml]⟩ (by simp only; omega) (by simp only [nx])
      | some x =>
        by_cases hx : x.length ≤ 50
        · have e : mvOK b now (k, a, s1) = some x := by unfold mvOK; rw [hm]; simp only; rw [if_pos hx]
          rw [e] at ml
          have hx' : (x.length : Int) ≤ 50 := by omega
          simp (disch := omega) [wrap_id, mvAV, hx', nn]
          refine bsl_of (ys := [.agg [I k, I a, I s1]]) rfl rfl ?_
          simp (disch := omega) [wrap_id, zrep, place]
          refine app_accM (m := (k, a, s1)) ac' (by omega) (by omega) fun ws w1 w2 w3 => ?_
          simp (disch := omega) [wrap_id]
          exact next_eq (writeL H2 ws, x, out ++ [(k, a, s1)], .ms H2.length 0 (out.length + 1) 3, i + 2) ⟨by rw [w1]; exact c0', by simp only; omega, mvO_strokes c3 hm, w3, by simp only; omega, by simp only [List.length_append, List.length_singleton]; omega, by rw [c7, ml]⟩ (by simp only; omega) (by simp only [nx])
        · have e : mvOK b now (k, a, s1) = none := by unfold mvOK; rw [hm]; simp only; rw [if_neg hx]
          rw [e] at ml
          have hx' : ¬ (x.length : Int) ≤ 50 := by omega
          simp (disch := omega) [wrap_id, mvAV, hx']
          exact next_eq (H2, now, out, y, i + 2) ⟨c0', c2, c3, ac', by simp only; omega, by simp only; omega, by rw [c7, ml]⟩ (by simp only; omega) (by simp only [nx])
  · simp at hc
    simp (disch := omega) [wrap_id]
    have e : movedR b (u.drop i) now out = (now, out) := by
      have : (u.drop i).length ≤ 1 := by simp; omega
      match hd : u.drop i, this with
      | [], _ => rfl
      | [_], _ => rfl
      | _ :: _ :: _, h => simp at h
    rw [c7, e]
    rcases c4 with ⟨rfl, rfl⟩ | ⟨id, rfl, h2, h3, h4⟩
    · exact out_of (is := []) rfl
    · have e2 : out.isEmpty = false := by cases out <;> simp_all
      rw [e2]
      rw [nthH_eq] at h4
      refine out_of (is := [id]) ?_
      have fl := flat3_len out
      have pu : ((flat3 out).all AV.isPure) = true := by
        rw [List.all_eq_true]; intro x hx
        simp only [flat3, List.mem_flatMap] at hx
        obtain ⟨p, _, hx⟩ := hx
        simp at hx
        rcases hx with rfl | rfl | rfl <;> rfl
      simp only [purify, purifyL, purify1, hpf, h4]
      rw [if_pos ⟨by omega, pu⟩]
      simp [view]
      rw [List.take_of_length_le (by omega)]

end Go.AM

/- THE THEORY OF MOVES, PART 3: lists after moves. Own work. -/
set_option linter.unusedSimpArgs false
set_option linter.unusedVariables false
namespace Go.AM
open Go.RowKit Go.Proofs

variable {b : Bch}

theorem mvOK_some {l x : List Int} {m : Mv} (h : mvOK b l m = some x) : mvO b l m = some x ∧ x.length ≤ 50 := by
  unfold mvOK at h
  split at h
  · split at h
    · cases h; exact ⟨by assumption, by assumption⟩
    · cases h
  · cases h
theorem chkL_of {l : List Int} (k : chkB b = 0) (h1 : l.length ≤ 60) (h2 : ∀ s ∈ l, strokeB b s = true) : chkL b l = 0 := chkL0.2 ⟨k, h1, h2⟩

theorem movedR_ok : ∀ (n : Nat) {u now : List Int} {out : List Mv}, u.length ≤ n → chkL b now = 0 → Pat b now (movedR b u now out).1 ∧ chkL b (movedR b u now out).1 = 0
  | 0, u, now, out, hn, hc => by
    have : u = [] := List.eq_nil_of_length_eq_zero (by omega)
    subst this; exact ⟨.refl _, hc⟩
  | n + 1, [], now, out, hn, hc => ⟨.refl _, hc⟩
  | n + 1, [_], now, out, hn, hc => ⟨.refl _, hc⟩
  | n + 1, p :: q :: r, now, out, hn, hc => by
    obtain ⟨k1, k2, k3⟩ := chkL0.1 hc
    obtain ⟨L1, L2, _⟩ := chkB_zero k1
    have hr : r.length ≤ n := by simp at hn; omega
    cases hm : mvOK b now (mvOf b now p q) with
    | none =>
      have e : movedR b (p :: q :: r) now out = movedR b r now out := by simp only [movedR, hm]
      rw [e]; exact movedR_ok n hr hc
    | some x =>
      have e : movedR b (p :: q :: r) now out = movedR b r x (out ++ [mvOf b now p q]) := by simp only [movedR, hm]
      rw [e]
      obtain ⟨h1, h2⟩ := mvOK_some hm
      obtain ⟨g1, g2⟩ := movedR_ok n (out := out ++ [mvOf b now p q]) hr (chkL_of k1 (by omega) (mvO_strokes k3 h1))
      exact ⟨(mvO_pat (by omega) (chkL_S8 hc).1 h1).trans g1, g2⟩

theorem moved_pat {u l : List Int} (hc : chkL b l = 0) : Pat b l (movedR b u l []).1 ∧ chkL b (movedR b u l []).1 = 0 := movedR_ok u.length (Nat.le_refl _) hc

end Go.AM
