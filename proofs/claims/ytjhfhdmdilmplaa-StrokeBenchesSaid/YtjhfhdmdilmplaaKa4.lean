/-
  CONTRACTS, PART 9: the short form as the specification makes it. Own work.
  CONTRACTS, PART 10: what the specification answers. Own work.
  CONTRACTS, PART 11: which strokes can be first. Own work.
  CONTRACTS, PART 12: which strokes can be first: the function. Own work.
  ARGUMENTS OF THE STROKE LAYER, read. Own work.
  THE EVALUATOR, PART 1: the abstract machine carried out on closed states, and what it finds holds of the machine. Own work.
  THE EVALUATOR, PART 2: regions, code, calls; what it finds holds of the machine. Own work.
  SLICES OF UNKNOWN CAPACITY, PART 2: the room behind a private slice; results in a new place; slices.Insert. Own work.
  THE EVALUATOR, PART 3: a table of functions; what it finds holds of their calls. Own work.
  THE COMPILED FORMS of functions of the program, each held against its body by the kernel. Own work (printed by a program of this claim).
  THE COMPILED FORMS of functions of the program, each held against its body by the kernel. Own work (printed by a program of this claim).
  TABLE ENTRIES OF THE EVALUATOR. Own work (printed by a program of this claim).
  Works, by the evaluator. Own work.
-/
import Derived.Test.YtjhfhdmdilmplaaKa3
import Derived.Test.YtjhfhdmdilmplaaProg

/- CONTRACTS, PART 9: the short form as the specification makes it. Own work. -/
set_option linter.unusedSimpArgs false
set_option linter.unusedVariables false
namespace Go.AM
open Go.RowKit Go.Proofs

theorem redF_len (b : Bch) : ∀ (n : Nat) (l : List Int), (redF b n l).length ≤ l.length
  | 0, l => Nat.le_refl _
  | n + 1, l => by
    simp only [redF]
    split
    · refine Nat.le_trans (redF_len b n _) ?_
      rw [List.length_eraseIdx, List.length_eraseIdx]; (repeat' split) <;> omega
    · exact Nat.le_refl _

theorem redF_small (b : Bch) : ∀ (n : Nat) (l : List Int), Small l → Small (redF b n l)
  | 0, l, h => h
  | n + 1, l, h => by
    simp only [redF]
    split
    · exact redF_small b n _ ((h.erase _).erase _)
    · exact h

theorem firstI_pos (b : Bch) (l : List Int) : ∀ n, 0 < n → 0 ≤ firstI b l n
  | 0, h => by omega
  | n + 1, _ => by
    rw [firstI_succ]
    by_cases h : n = 0
    · subst h; simp [bestStep, firstI, freeB, freeTo]
    · have := firstI_pos b l n (by omega)
      unfold bestStep
      split <;> omega

theorem formF_step (b : Bch) (l : List Int) (h : 0 < l.length) : formF b l.length l = l.getD (firstI b l l.length).toNat 0 :: formF b (l.length - 1) (l.eraseIdx (firstI b l l.length).toNat) := by
  cases l with
  | nil => simp at h
  | cons x r => rfl

theorem form_ok (f g : Bool) (b : Bch) (l : List Int) (hb : b.c.length ≤ 1000000) (hl : l.length ≤ 1000) (hs : Small l) : PureOK Try.prog 40 [Bn f b, Ls g l] (Ls (form b l).isEmpty (form b l)) := by
  refine pure_of (walk Try.func40 form40 res40 (by show 2 ≤ _; decide) ?_)
  simp (disch := omega) [G40, wrap_id]
  refine callW_pure rfl (reduced_ok f g b l hb (by omega) hs) ?_
  simp (disch := omega) [wrap_id]
  have hr1 := redF_len b l.length l
  refine loop_eq (fun p : List Int × AV × List HObj × List Int => ⟨[(2, .ref 0 0), (5, Ls false p.1), (6, p.2.1)], p.2.2.1⟩)
    (fun p => nthH p.2.2.1 0 = some (.cells [I b.L, Ps f b.c]) ∧ 0 < p.2.2.1.length ∧ Acc p.2.2.1 p.2.1 p.2.2.2 ∧ p.1.length + p.2.2.2.length ≤ 1000 ∧ Small p.1 ∧ form b l = p.2.2.2 ++ formF b p.1.length p.1) (fun p => p.1.length)
    (red b l, .sl true 0 [], [.cells [I b.L, Ps f b.c]], []) ⟨rfl, by simp, .inl ⟨rfl, rfl⟩, by simp [red]; omega, redF_small b _ _ hs, rfl⟩ rfl ?_
  rintro ⟨m, x, hp, acc⟩ ⟨c1, c2, c3, c4, c5, c6⟩
  simp only at c1 c2 c3 c4 c5 c6
  simp (disch := omega) [wrap_id]
  refine c_split (fun h => ?_) (fun h => ?_)
  · simp at h
    have hj1 := firstI_lt b m m.length
    have hj2 := firstI_pos b m m.length h
    obtain ⟨j, hj⟩ : ∃ j : Nat, firstI b m m.length = j := ⟨(firstI b m m.length).toNat, by omega⟩
    have hjl : j < m.length := by omega
    simp (disch := omega) [wrap_id, c1]
    refine callW_pure rfl (first_ok f false b m hb (by omega) c5) ?_
    rw [hj]
    simp (disch := omega) [wrap_id, cells_ls, hjl]
    refine bsl_of rfl rfl ?_
    simp (disch := omega) [wrap_id, zrep]
    refine app_acc c3 c2 (by omega) fun ws h0 hp' hA => ?_
    simp (disch := omega) [wrap_id]
    refine callW_pure rfl (without_ok false m (by omega) j hjl) ?_
    simp (disch := omega) [wrap_id]
    have hm1 : (m.eraseIdx j).length = m.length - 1 := by rw [List.length_eraseIdx, if_pos hjl]
    refine next_eq (m.eraseIdx j, .ms hp.length 0 (acc.length + 1) 1, writeL hp ws, acc ++ [m[j]]) ⟨by rw [h0]; exact c1, hp', hA, by simp only [List.length_append, List.length_singleton]; omega, c5.erase j, ?_⟩ (by simp only; omega) rfl
    simp only
    rw [c6, formF_step b m h, hj, hm1]
    simp [hjl]
  · simp at h
    subst h
    simp
    have e : form b l = acc := by rw [c6]; simp [formF]
    rw [e]
    rcases c3 with ⟨rfl, rfl⟩ | ⟨id, rfl, hid, hne, hc⟩
    · exact ⟨[], rfl⟩
    · have e2 : acc.isEmpty = false := by simpa using hne
      rw [e2]
      exact out_ls hc rfl

end Go.AM

/- CONTRACTS, PART 10: what the specification answers. Own work. -/
set_option linter.unusedSimpArgs false
set_option linter.unusedVariables false
namespace Go.AM
open Go.RowKit Go.Proofs

theorem chkL_zero {b : Bch} {l : List Int} (h : chkL b l = 0) : chkB b = 0 ∧ l.length ≤ 60 ∧ ∀ x ∈ l, strokeB b x = true := by
  simp only [chkL] at h
  split at h
  · rename_i h1; exact absurd h h1
  · rename_i h1
    split at h
    · omega
    · split at h
      · rename_i h2 h3; exact ⟨by simpa using h1, by omega, List.all_eq_true.1 h3⟩
      · omega

theorem strokeB_abs {b : Bch} (hb : chkB b = 0) {x : Int} (h : strokeB b x = true) : -8 ≤ x ∧ x ≤ 8 ∧ x ≠ 0 := by
  obtain ⟨k1, k2, _⟩ := chkB_zero hb
  simp [strokeB] at h
  omega

theorem chkL_small {b : Bch} {l : List Int} (h : chkL b l = 0) : Small l := fun x hx => by
  obtain ⟨h1, _, h3⟩ := chkL_zero h
  have := strokeB_abs h1 (h3 x hx)
  omega

def shortR (b : Bch) (l : List Int) : List Int := if chkL b l ≠ 0 then [] else form b l

theorem refShort_ok (f g : Bool) (b : Bch) (l : List Int) (hb : b.c.length ≤ 1000000) (hl : l.length ≤ 1000000) : PureOK Try.prog 25 [Bn f b, Ls g l] (.tup [Ls (shortR b l).isEmpty (shortR b l), I (chkL b l)]) := by
  refine pure_of (walk Try.func25 form25 res25 (by show 2 ≤ _; decide) ?_)
  simp (disch := omega) [G25, wrap_id]
  refine callW_pure rfl (refList_ok f g b l hb hl) ?_
  simp (disch := omega) [wrap_id]
  refine c_split (fun h0 => ?_) (fun h0 => ?_)
  · simp at h0
    simp (disch := omega) [wrap_id]
    refine callW_pure rfl (refList_ok f g b l hb hl) ?_
    simp [shortR, h0]
    exact ⟨[], rfl⟩
  · simp at h0
    simp (disch := omega) [wrap_id]
    obtain ⟨k1, k2, k3⟩ := chkL_zero h0
    refine callW_pure rfl (form_ok f g b l hb (by omega) (chkL_small h0)) ?_
    simp [shortR, h0]
    exact ⟨[], rfl⟩

def twoR (b : Bch) (l m : List Int) : Int := if chkL b l ≠ 0 then chkL b l else chkL b m
def sameR (b : Bch) (l m : List Int) : Int := if twoR b l m ≠ 0 then twoR b l m else if form b l = form b m then 0 else 18

theorem twoR_zero {b : Bch} {l m : List Int} (h : twoR b l m = 0) : chkL b l = 0 ∧ chkL b m = 0 := by
  simp only [twoR] at h
  split at h
  · rename_i h1; exact absurd h h1
  · rename_i h1; exact ⟨by simpa using h1, h⟩

theorem form_len (b : Bch) (l : List Int) : (form b l).length ≤ l.length := by
  have : ∀ (n : Nat) (l : List Int), (formF b n l).length ≤ n := fun n => by
    induction n with
    | zero => intro l; simp [formF]
    | succ n ih =>
      intro l
      cases l with
      | nil => simp [formF]
      | cons x r => simp only [formF, List.length_cons]; have := ih ((x :: r).eraseIdx (firstI b (x :: r) (r.length + 1)).toNat); omega
  exact Nat.le_trans (this _ _) (redF_len b _ _)

theorem refSame_ok (f g h : Bool) (b : Bch) (l m : List Int) (hb : b.c.length ≤ 1000000) (hl : l.length ≤ 1000000) (hm : m.length ≤ 1000000) : PureOK Try.prog 28 [Bn f b, Ls g l, Ls h m] (I (sameR b l m)) := by
  refine pure_of (walk Try.func28 form28 res28 (by show 3 ≤ _; decide) ?_)
  simp (disch := omega) [G28, wrap_id]
  refine callW_pure rfl (two_ok f g h b l m hb hl hm) ?_
  rw [show (if chkL b l ≠ 0 then chkL b l else chkL b m) = twoR b l m from rfl]
  simp (disch := omega) [wrap_id]
  refine c_split (fun h0 => ?_) (fun h0 => ?_)
  · simp at h0
    simp (disch := omega) [wrap_id]
    refine callW_pure rfl (two_ok f g h b l m hb hl hm) ?_
    rw [show (if chkL b l ≠ 0 then chkL b l else chkL b m) = twoR b l m from rfl]
    simp [sameR, h0]
  · simp at h0
    obtain ⟨z1, z2⟩ := twoR_zero h0
    obtain ⟨_, a2, _⟩ := chkL_zero z1
    obtain ⟨_, b2, _⟩ := chkL_zero z2
    have f1 := form_len b l
    have f2 := form_len b m
    simp (disch := omega) [wrap_id]
    refine pureW_of rfl (form_ok f g b l hb (by omega) (chkL_small z1)) ?_
    simp (disch := omega) [wrap_id]
    refine pureW_of rfl (form_ok f h b m hb (by omega) (chkL_small z2)) ?_
    simp (disch := omega) [wrap_id]
    refine pureW_of rfl (equal_ok _ _ (form b l) (form b m) (by omega) (by omega)) ?_
    simp (disch := omega) [wrap_id]
    refine c_split (fun e => ?_) (fun e => ?_)
    · simp at e
      simp (disch := omega) [wrap_id, sameR, h0, e]
    · simp at e
      simp (disch := omega) [wrap_id, sameR, h0, e]

end Go.AM

/- CONTRACTS, PART 11: which strokes can be first. Own work. -/
set_option linter.unusedSimpArgs false
set_option linter.unusedVariables false
namespace Go.AM
open Go.RowKit Go.Proofs

/-- A stroke brought from behind to its place in the order. -/
def insK (v : Int) (l : List Int) : Nat → List Int
  | 0 => v :: l
  | k + 1 => if keyR v < keyR (l.getD k 0) then insK v l k else l.take (k + 1) ++ v :: l.drop (k + 1)
def insR (l : List Int) (v : Int) : List Int := insK v l l.length

def firstsTo (b : Bch) (l : List Int) : Nat → List Int
  | 0 => []
  | i + 1 => if freeB b l i = true then insR (firstsTo b l i) (l.getD i 0) else firstsTo b l i
def firstsR (b : Bch) (l : List Int) : List Int := firstsTo b l l.length

theorem splice_ls {l : List Int} {k : Nat} {v : Int} (h : k < l.length) : splice (l.map fun n => I n) k [I v] = (l.set k v).map fun n => I n := by
  simp only [splice, List.length_singleton]
  rw [List.set_eq_take_append_cons_drop, if_pos h]
  simp [List.map_take, List.map_drop]

theorem insK_len (v : Int) (l : List Int) : ∀ k, k ≤ l.length → (insK v l k).length = l.length + 1
  | 0, _ => by simp [insK]
  | k + 1, h => by
    simp only [insK]
    split
    · exact insK_len v l k (by omega)
    · simp; omega

theorem nthH_set_same {hp : List HObj} {id : Nat} {o : HObj} (h : id < hp.length) : nthH (hp.set id o) id = some o := by
  rw [nthH_eq, List.getElem?_set_self h]
theorem nthH_set_ne {hp : List HObj} {id j : Nat} {o : HObj} (h : id ≠ j) : nthH (hp.set id o) j = nthH hp j := by
  rw [nthH_eq, nthH_eq, List.getElem?_set_ne h]

/-- One step of a stroke towards the front, in the cells. -/
theorem ins_swap {l : List Int} {v : Int} {k : Nat} (h : k < l.length) :
    ((l.take (k + 1) ++ v :: l.drop (k + 1)).set (k + 1) (l.getD k 0)).set k v = l.take k ++ v :: l.drop k := by
  apply List.ext_getElem
  · simp; omega
  · intro i h1 h2
    simp only [List.length_set, List.length_append, List.length_take, List.length_cons, List.length_drop] at h1
    by_cases e1 : i = k
    · subst e1
      rw [List.getElem_set_self, List.getElem_append_right (by simp; omega)]
      simp [Nat.min_eq_left (Nat.le_of_lt h)]
    · rw [List.getElem_set_ne (fun e => e1 e.symm)]
      by_cases e2 : i = k + 1
      · subst e2
        rw [List.getElem_set_self, List.getElem_append_right (by simp; omega)]
        have : k + 1 - (l.take k).length = 1 := by simp; omega
        simp only [this]
        simp [h]
      · rw [List.getElem_set_ne (fun e => e2 e.symm)]
        by_cases e3 : i < k
        · rw [List.getElem_append_left (by simp; omega), List.getElem_append_left (by simp; omega)]
          simp
        · rw [List.getElem_append_right (by simp; omega), List.getElem_append_right (by simp; omega)]
          obtain ⟨d, rfl⟩ : ∃ d, i = k + 2 + d := ⟨i - (k + 2), by omega⟩
          have a1 : k + 2 + d - (l.take (k + 1)).length = d + 1 := by simp; omega
          have a2 : k + 2 + d - (l.take k).length = d + 1 + 1 := by simp; omega
          simp only [a1, a2, List.getElem_cons_succ, List.getElem_drop]
          congr 1; omega

end Go.AM

/- CONTRACTS, PART 12: which strokes can be first: the function. Own work. -/
set_option linter.unusedSimpArgs false
set_option linter.unusedVariables false
namespace Go.AM
open Go.RowKit Go.Proofs

theorem firstsTo_len (b : Bch) (l : List Int) : ∀ i, (firstsTo b l i).length ≤ i
  | 0 => by simp [firstsTo]
  | i + 1 => by
    have := firstsTo_len b l i
    simp only [firstsTo]
    split
    · rw [insR, insK_len _ _ _ (Nat.le_refl _)]; omega
    · omega

theorem insK_mem {v : Int} {l : List Int} {x : Int} : ∀ k, x ∈ insK v l k → x = v ∨ x ∈ l
  | 0, h => by simpa [insK] using h
  | k + 1, h => by
    simp only [insK] at h
    split at h
    · exact insK_mem k h
    · rcases List.mem_append.1 h with h | h
      · exact .inr (List.mem_of_mem_take h)
      · rcases List.mem_cons.1 h with h | h
        · exact .inl h
        · exact .inr (List.mem_of_mem_drop h)

theorem firstsTo_small {b : Bch} {l : List Int} (hs : Small l) : ∀ i, i ≤ l.length → Small (firstsTo b l i)
  | 0, _ => by intro x hx; simp [firstsTo] at hx
  | i + 1, h => by
    have ih := firstsTo_small (b := b) hs i (by omega)
    simp only [firstsTo]
    split
    · intro x hx
      rcases insK_mem _ hx with e | h'
      · rw [e]
        have hi : i < l.length := by omega
        have : l.getD i 0 = l[i] := by simp [hi]
        rw [this]; exact hs.at hi
      · exact ih x h'
    · exact ih

theorem firsts_ok (f g : Bool) (b : Bch) (l : List Int) (hb : b.c.length ≤ 1000000) (hl : l.length ≤ 1000) (hs : Small l) : PureOK Try.prog 72 [Bn f b, Ls g l] (Ls (firstsR b l).isEmpty (firstsR b l)) := by
  refine pure_of (walk Try.func72 form72 res72 (by show 2 ≤ _; decide) ?_)
  simp (disch := omega) [G72, wrap_id]
  refine loop_eq (fun p : Nat × AV × List HObj => ⟨[(1, Ls g l), (2, .ref 0 0), (5, p.2.1), (6, I p.1)], p.2.2⟩)
    (fun p => p.1 ≤ l.length ∧ nthH p.2.2 0 = some (.cells [I b.L, Ps f b.c]) ∧ 0 < p.2.2.length ∧ Acc p.2.2 p.2.1 (firstsTo b l p.1)) (fun p => l.length - p.1)
    (0, .sl true 0 [], [.cells [I b.L, Ps f b.c]]) ⟨by simp, rfl, by simp, .inl ⟨rfl, rfl⟩⟩ rfl ?_
  rintro ⟨i, x, hp⟩ ⟨c0, c1, c2, c3⟩
  simp only at c0 c1 c2 c3
  simp (disch := omega) [wrap_id]
  by_cases h : i < l.length
  · simp (disch := omega) [wrap_id, h]
    refine loop_eq (fun k : Nat => ⟨[(1, Ls g l), (2, .ref 0 0), (5, x), (6, I i), (7, B (freeTo b l i k)), (8, I k)], hp⟩) (fun k => k ≤ i) (fun k => i - k) 0 (by omega) rfl ?_
    intro k hk
    simp (disch := omega) [wrap_id]
    by_cases hk1 : k < i
    · have hk2 : k < l.length := by omega
      simp (disch := omega) [wrap_id, hk1]
      cases hf : freeTo b l i k with
      | false =>
        simp (disch := omega) [wrap_id]
        exact next_eq (k + 1) (by omega) (by omega) (by simp [freeTo_succ h hk2, hf])
      | true =>
        simp (disch := omega) [wrap_id, cells_ls, h, hk2, c1]
        refine pureW_of rfl (refCan_ok f b hb l[k] l[i] (hs.at hk2) (hs.at h)) ?_
        simp (disch := omega) [wrap_id]
        exact next_eq (k + 1) (by omega) (by omega) (by simp [freeTo_succ h hk2, hf])
    · have hki : k = i := by omega
      subst hki
      simp (disch := omega) [wrap_id]
      have hlen := firstsTo_len b l k
      cases hf : freeTo b l k k with
      | false =>
        simp (disch := omega) [wrap_id]
        have e : firstsTo b l (k + 1) = firstsTo b l k := by simp [firstsTo, freeB, hf]
        exact next_eq (k + 1, x, hp) ⟨by simp only; omega, c1, c2, by simp only [e]; exact c3⟩ (by simp only; omega) (by simp)
      | true =>
        simp (disch := omega) [wrap_id, cells_ls, h]
        refine bsl_of rfl rfl ?_
        simp (disch := omega) [wrap_id, zrep]
        refine app_acc c3 c2 (by omega) fun ws h0 hp' hA => ?_
        simp (disch := omega) [wrap_id]
        rcases hA with ⟨e, _⟩ | ⟨id, e, hid, _, hA⟩
        · cases e
        injection e with e1 _ _ _
        subst e1
        have hidl : hp.length < (writeL hp ws).length := by rw [nthH_eq] at hA; exact hpf_lt hA
        generalize hH : writeL hp ws = H at *
        generalize hAcc : firstsTo b l k = acc at *
        generalize hid' : hp.length = id at *
        refine loop_eq (fun p : Nat × List HObj => ⟨[(1, Ls g l), (2, .ref 0 0), (5, .ms id 0 (acc.length + 1) 1), (6, I k), (9, I p.1)], p.2⟩)
          (fun p => p.1 ≤ acc.length ∧ nthH p.2 0 = some (.cells [I b.L, Ps f b.c]) ∧ id < p.2.length ∧ nthH p.2 id = some (.cells ((acc.take p.1 ++ l[k] :: acc.drop p.1).map fun n => I n)) ∧ insK l[k] acc p.1 = insR acc l[k]) (fun p => p.1)
          (acc.length, H) ⟨by simp, by rw [h0]; exact c1, hidl, by simpa using hA, rfl⟩ (by simp) ?_
        rintro ⟨j, H'⟩ ⟨d1, d2, d3, d4, d5⟩
        simp only at d1 d2 d3 d4 d5
        simp (disch := omega) [wrap_id]
        have done : insR acc l[k] = acc.take j ++ l[k] :: acc.drop j → Next (fun p : Nat × AV × List HObj => (⟨[(1, Ls g l), (2, .ref 0 0), (5, p.2.1), (6, I p.1)], p.2.2⟩ : St))
            (fun p => p.1 ≤ l.length ∧ nthH p.2.2 0 = some (.cells [I b.L, Ps f b.c]) ∧ 0 < p.2.2.length ∧ Acc p.2.2 p.2.1 (firstsTo b l p.1)) (fun p => l.length - p.1) (k, x, hp)
            ⟨[(1, Ls g l), (2, .ref 0 0), (5, .ms id 0 (acc.length + 1) 1), (6, I ((k : Int) + 1))], H'⟩ := fun e => by
          have e2 : firstsTo b l (k + 1) = insR acc l[k] := by simp [firstsTo, freeB, hf, hAcc, h]
          have e3 : (insR acc l[k]).length = acc.length + 1 := insK_len _ _ _ (Nat.le_refl _)
          refine next_eq (k + 1, .ms id 0 (acc.length + 1) 1, H') ⟨by simp only; omega, d2, by simp only; omega, .inr ⟨id, by simp only [e2, e3], hid, ?_, ?_⟩⟩ (by simp only; omega) (by simp)
          · simp only [e2]; intro e4; rw [e4] at e3; simp at e3
          · simp only [e2]; rw [e]; exact d4
        cases j with
        | zero =>
          simp (disch := omega) [wrap_id]
          exact done (by rw [← d5]; simp [insK])
        | succ j =>
          obtain ⟨arr, harr⟩ : ∃ arr, arr = acc.take (j + 1) ++ l[k] :: acc.drop (j + 1) := ⟨_, rfl⟩
          rw [← harr] at d4 done
          have ha1 : arr.length = acc.length + 1 := by rw [harr]; simp; omega
          have hj1 : j + 1 < arr.length := by omega
          have hj0 : j < arr.length := by omega
          have ha2 : arr[j + 1] = l[k] := by
            simp only [harr]; rw [List.getElem_append_right (by simp; omega)]
            have : j + 1 - (acc.take (j + 1)).length = 0 := by simp; omega
            simp only [this, List.getElem_cons_zero]
          have ha3 : arr[j] = acc[j] := by
            simp only [harr]; rw [List.getElem_append_left (by simp; omega)]; simp
          simp (disch := omega) [wrap_id, d4, cells_ls, ha1, ha2, ha3, hj1, hj0]
          have hsa : Small acc := by rw [← hAcc]; exact firstsTo_small hs k c0
          have hja : j < acc.length := by omega
          refine ⟨by omega, pureW_of rfl (refKey_ok l[k] (hs.at h)) ?_⟩
          simp (disch := omega) [wrap_id, d4, cells_ls, ha1, ha2, ha3, hj1, hj0]
          refine ⟨by omega, pureW_of rfl (refKey_ok acc[j] (hsa.at hja)) ?_⟩
          simp (disch := omega) [wrap_id]
          refine c_split (fun e => ?_) (fun e => ?_)
          · simp at e
            have sp : ∀ (m : List Int) (q : Nat) (y : Int), q < m.length → List.take q (m.map fun n => I n) ++ I y :: List.drop (q + 1) (m.map fun n => I n) = (m.set q y).map fun n => I n := fun m q y hq => by
              have := splice_ls (v := y) hq
              simpa [splice] using this
            simp (disch := omega) [wrap_id, d4, cells_ls, ha1, ha2, ha3, hj1, hj0, d3, sp, nthH_set_same]
            refine ⟨by omega, ⟨by omega, hja⟩, by omega, by omega, by omega, ?_⟩
            have e1 : acc.getD j 0 = acc[j] := by simp [hja]
            refine next_eq (j, _) ⟨by simp only; omega, ?_, ?_, ?_, ?_⟩ (by simp) (by simp; rfl)
            · simp only; rw [nthH_set_ne (by omega)]; exact d2
            · simp only [List.length_set]; exact d3
            · simp only
              rw [nthH_set_same d3]
              have := ins_swap (v := l[k]) hja
              rw [e1, ← harr] at this
              have mk : (List.map (fun n => I n) arr).set (j + 1) (I acc[j]) = (arr.set (j + 1) acc[j]).map fun n => I n := by rw [List.map_set]
              rw [mk, sp _ j l[k] (by simp; omega), this]
              simp
            · simp only
              rw [← d5]
              simp only [insK]
              rw [e1, if_pos e]
          · simp at e
            simp (disch := omega) [wrap_id]
            refine done ?_
            rw [harr, ← d5]
            simp only [insK]
            have e1 : acc.getD j 0 = acc[j] := by simp [hja]
            rw [e1, if_neg (by omega)]
  · have e : i = l.length := by omega
    subst e
    simp
    rcases c3 with ⟨rfl, e⟩ | ⟨id, rfl, hid, hne, hc⟩
    · rw [firstsR, e]; exact ⟨[], rfl⟩
    · have e2 : (firstsTo b l l.length).isEmpty = false := by simpa using hne
      rw [firstsR, e2]
      exact out_ls hc rfl

end Go.AM

/- ARGUMENTS OF THE STROKE LAYER, read. Own work. -/
set_option linter.unusedSimpArgs false
set_option linter.unusedVariables false
namespace Go.AM
open Go.RowKit Go.Proofs

def In64 (n : Int) : Prop := -9223372036854775808 ≤ n ∧ n ≤ 9223372036854775807
theorem in64_of {n : Int} (h : (Lit.int .i64 n).wf = true) : In64 n := by
  simp [Lit.wf, IntKind.min, IntKind.max, IntKind.signed, IntKind.bits] at h
  exact ⟨by omega, by omega⟩
theorem in8_of {n : Int} (h : (Lit.int .u8 n).wf = true) : 0 ≤ n ∧ n ≤ 255 := by
  simp [Lit.wf, IntKind.min, IntKind.max, IntKind.signed, IntKind.bits] at h
  omega

variable {w : World}

theorem rd3 : Rd Try.prog w 3 fun xs => ∃ n, xs = [I n] ∧ In64 n := rd_mono (rd_int Try.underlying3 (by kernel_rfl)) fun xs ⟨n, h1, h2⟩ => ⟨n, h1, in64_of h2⟩
theorem rd5 : Rd Try.prog w 5 fun xs => ∃ n, xs = [.v (.int .u8 n)] ∧ 0 ≤ n ∧ n ≤ 255 := rd_mono (rd_int Try.underlying5 (by kernel_rfl)) fun xs ⟨n, h1, h2⟩ => ⟨n, h1, in8_of h2⟩

theorem ints_of : ∀ {els : List (List AV)}, (∀ x ∈ els, x.length = 1 ∧ ∃ n, x = [I n] ∧ In64 n) → ∃ l : List Int, l.length = els.length ∧ els.flatten = l.map (fun n => I n) ∧ ∀ n ∈ l, In64 n
  | [], _ => ⟨[], rfl, rfl, fun n h => by simp at h⟩
  | x :: els, h => by
    obtain ⟨l, h1, h2, h3⟩ := ints_of (els := els) (fun y hy => h y (by simp [hy]))
    obtain ⟨_, n, rfl, hn⟩ := h x (by simp)
    exact ⟨n :: l, by simp [h1], by simp [h2], fun m hm => by
      rcases List.mem_cons.1 hm with rfl | hm
      · exact hn
      · exact h3 m hm⟩

theorem rd25 : Rd Try.prog w 25 fun xs => ∃ l : List Int, xs = [Ls false l] ∧ l.length ≤ 9223372036854775807 ∧ ∀ n ∈ l, In64 n :=
  rd_mono (rd_slice Try.underlying25 (by kernel_rfl) (sz := 1) (by kernel_rfl) (by omega) rd3) fun xs ⟨els, h1, h2, h3⟩ => by
    obtain ⟨l, k1, k2, k3⟩ := ints_of h1
    refine ⟨l, ?_, ?_, k3⟩
    · rw [h2, k2, ← k1]
    · rw [k1]; simpa [maxLen] using h3

theorem rd66 : Rd Try.prog w 66 fun xs => ∃ p : Int × Int, xs = [I p.1, I p.2] ∧ In64 p.1 ∧ In64 p.2 :=
  rd_mono (rd_array Try.underlying66 (sz := 1) (by kernel_rfl) (by kernel_rfl) (by omega) rd3) fun xs ⟨els, h0, h1, h2⟩ => by
    match els, h0 with
    | [a, b], _ =>
      obtain ⟨_, m, rfl, hm⟩ := h1 a (by simp)
      obtain ⟨_, n, rfl, hn⟩ := h1 b (by simp)
      exact ⟨(m, n), by simp [h2], hm, hn⟩

theorem pairs_of : ∀ {els : List (List AV)}, (∀ x ∈ els, x.length = 2 ∧ ∃ p : Int × Int, x = [I p.1, I p.2] ∧ In64 p.1 ∧ In64 p.2) → ∃ c : List (Int × Int), c.length = els.length ∧ els.flatten = flat2 c ∧ ∀ p ∈ c, In64 p.1 ∧ In64 p.2
  | [], _ => ⟨[], rfl, rfl, fun n h => by simp at h⟩
  | x :: els, h => by
    obtain ⟨l, h1, h2, h3⟩ := pairs_of (els := els) (fun y hy => h y (by simp [hy]))
    obtain ⟨_, n, rfl, hn⟩ := h x (by simp)
    exact ⟨n :: l, by simp [h1], by rw [List.flatten_cons, h2]; rfl, fun m hm => by
      rcases List.mem_cons.1 hm with rfl | hm
      · exact hn
      · exact h3 m hm⟩

theorem rd22 : Rd Try.prog w 22 fun xs => ∃ c : List (Int × Int), xs = [Ps false c] ∧ c.length ≤ 9223372036854775807 ∧ ∀ p ∈ c, In64 p.1 ∧ In64 p.2 :=
  rd_mono (rd_slice Try.underlying22 (by kernel_rfl) (sz := 2) (by kernel_rfl) (by omega) rd66) fun xs ⟨els, h1, h2, h3⟩ => by
    obtain ⟨l, k1, k2, k3⟩ := pairs_of h1
    refine ⟨l, ?_, ?_, k3⟩
    · rw [h2, k2, ← k1]
    · rw [k1]; simpa [maxLen] using h3

/-- A bench as it came in. -/
structure BOK (b : Bch) : Prop where
  L : In64 b.L
  len : b.c.length ≤ 9223372036854775807
  c : ∀ p ∈ b.c, In64 p.1 ∧ In64 p.2

theorem rd24 : Rd Try.prog w 24 fun xs => ∃ b : Bch, xs = [I b.L, Ps false b.c] ∧ BOK b :=
  rd_mono (rd_struct2 Try.underlying24 (c0 := 1) (c1 := 1) (by kernel_rfl) rfl rfl (by kernel_rfl) (by kernel_rfl) rd3 rd22) fun xs ⟨a0, a1, _, _, h, ⟨n, h1, h2⟩, ⟨c, h3, h4, h5⟩⟩ => ⟨⟨n, c⟩, by rw [h, h1, h3]; rfl, h2, h4, h5⟩

/-- A list as it came in. -/
def LOK (l : List Int) : Prop := l.length ≤ 9223372036854775807 ∧ ∀ n ∈ l, In64 n

/-- Moves, laid flat. -/
abbrev Mv := Int × Int × Int
def flat3 (c : List Mv) : List AV := c.flatMap fun p => [I p.1, I p.2.1, I p.2.2]
abbrev Ms (f : Bool) (c : List Mv) : AV := .sl f c.length (flat3 c)
def MOK (c : List Mv) : Prop := c.length ≤ 9223372036854775807 ∧ ∀ p ∈ c, In64 p.1 ∧ In64 p.2.1 ∧ In64 p.2.2

theorem rd70 : Rd Try.prog w 70 fun xs => ∃ p : Mv, xs = [I p.1, I p.2.1, I p.2.2] ∧ In64 p.1 ∧ In64 p.2.1 ∧ In64 p.2.2 :=
  rd_mono (rd_struct3 Try.underlying70 (c0 := 1) (c1 := 1) (c2 := 1) (by kernel_rfl) rfl rfl rfl (by kernel_rfl) (by kernel_rfl) (by kernel_rfl) rd3 rd3 rd3) fun xs ⟨a0, a1, a2, _, _, _, h, ⟨n, h1, h2⟩, ⟨m, h3, h4⟩, ⟨k, h5, h6⟩⟩ => ⟨(n, m, k), by rw [h, h1, h3, h5]; rfl, h2, h4, h6⟩

theorem moves_of : ∀ {els : List (List AV)}, (∀ x ∈ els, x.length = 3 ∧ ∃ p : Mv, x = [I p.1, I p.2.1, I p.2.2] ∧ In64 p.1 ∧ In64 p.2.1 ∧ In64 p.2.2) → ∃ c : List Mv, c.length = els.length ∧ els.flatten = flat3 c ∧ ∀ p ∈ c, In64 p.1 ∧ In64 p.2.1 ∧ In64 p.2.2
  | [], _ => ⟨[], rfl, rfl, fun n h => by simp at h⟩
  | x :: els, h => by
    obtain ⟨l, h1, h2, h3⟩ := moves_of (els := els) (fun y hy => h y (by simp [hy]))
    obtain ⟨_, n, rfl, hn⟩ := h x (by simp)
    exact ⟨n :: l, by simp [h1], by rw [List.flatten_cons, h2]; rfl, fun m hm => by
      rcases List.mem_cons.1 hm with rfl | hm
      · exact hn
      · exact h3 m hm⟩

theorem rd37 : Rd Try.prog w 37 fun xs => ∃ c : List Mv, xs = [Ms false c] ∧ MOK c :=
  rd_mono (rd_slice Try.underlying37 (by kernel_rfl) (sz := 3) (by kernel_rfl) (by omega) rd70) fun xs ⟨els, h1, h2, h3⟩ => by
    obtain ⟨l, k1, k2, k3⟩ := moves_of h1
    refine ⟨l, ?_, ?_, k3⟩
    · rw [h2, k2, ← k1]
    · rw [k1]; simpa [maxLen] using h3

/-- Numbers of one byte. -/
abbrev U (n : Int) : AV := .v (.int .u8 n)
abbrev Us (f : Bool) (l : List Int) : AV := .sl f l.length (l.map fun n => U n)
def UOK (l : List Int) : Prop := l.length ≤ 9223372036854775807 ∧ ∀ n ∈ l, 0 ≤ n ∧ n ≤ 255

theorem bytes_of : ∀ {els : List (List AV)}, (∀ x ∈ els, x.length = 1 ∧ ∃ n, x = [U n] ∧ 0 ≤ n ∧ n ≤ 255) → ∃ l : List Int, l.length = els.length ∧ els.flatten = l.map (fun n => U n) ∧ ∀ n ∈ l, 0 ≤ n ∧ n ≤ 255
  | [], _ => ⟨[], rfl, rfl, fun n h => by simp at h⟩
  | x :: els, h => by
    obtain ⟨l, h1, h2, h3⟩ := bytes_of (els := els) (fun y hy => h y (by simp [hy]))
    obtain ⟨_, n, rfl, hn⟩ := h x (by simp)
    exact ⟨n :: l, by simp [h1], by simp [h2], fun m hm => by
      rcases List.mem_cons.1 hm with rfl | hm
      · exact hn
      · exact h3 m hm⟩

theorem rd52 : Rd Try.prog w 52 fun xs => ∃ l : List Int, xs = [Us false l] ∧ UOK l :=
  rd_mono (rd_slice Try.underlying52 (by kernel_rfl) (sz := 1) (by kernel_rfl) (by omega) rd5) fun xs ⟨els, h1, h2, h3⟩ => by
    obtain ⟨l, k1, k2, k3⟩ := bytes_of h1
    refine ⟨l, ?_, ?_, k3⟩
    · rw [h2, k2, ← k1]
    · rw [k1]; simpa [maxLen] using h3

theorem rd65 : Rd Try.prog w 65 fun xs => ∃ m n : Int, xs = [U m, U n] ∧ (0 ≤ m ∧ m ≤ 255) ∧ 0 ≤ n ∧ n ≤ 255 :=
  rd_mono (rd_array Try.underlying65 (sz := 1) (by kernel_rfl) (by kernel_rfl) (by omega) rd5) fun xs ⟨els, h0, h1, h2⟩ => by
    match els, h0 with
    | [a, b], _ =>
      obtain ⟨_, m, rfl, hm⟩ := h1 a (by simp)
      obtain ⟨_, n, rfl, hn⟩ := h1 b (by simp)
      exact ⟨m, n, by simp [h2], hm, hn⟩

end Go.AM

/- THE EVALUATOR, PART 1: the abstract machine carried out on closed states, and what it finds holds of the machine. Own work. -/
set_option linter.unusedSimpArgs false
set_option linter.unusedVariables false
namespace Go.AM
open Go.RowKit

/-! ### Single operations -/
def natI : AV → Option Nat
  | .v (.int .i64 (.ofNat n)) => some n
  | _ => none

theorem natI_eq {x : AV} {n : Nat} (h : natI x = some n) : x = I n := by
  unfold natI at h
  split at h
  · cases h; rfl
  · cases h

/-- An index. -/
def idxE : AV → Option Nat
  | .v (.int _ (.ofNat n)) => some n
  | _ => none

def cellsE (hp : List HObj) (id : Nat) : Option (List AV) := match hp[id]? with
  | some (.cells cs) => some cs
  | _ => none

theorem cellsE_eq {hp : List HObj} {id cs} (h : cellsE hp id = some cs) : hpf hp id = some (.cells cs) := by
  unfold cellsE at h
  split at h
  · rename_i h1; cases h; exact h1
  · cases h

def aggE (agg : Bool) (sz off : Nat) (cs : List AV) : Option AV :=
  if agg then (if off + sz ≤ cs.length then some (.agg (view cs off sz)) else none) else cs[off]?

theorem aggE_eq {agg sz off cs r} : aggE agg sz off cs = some r → (match agg with | true => off + sz ≤ cs.length ∧ r = .agg (view cs off sz) | false => ∃ y, cs[off]? = some y ∧ r = y) := by
  intro h
  cases agg with
  | true =>
    simp only [aggE, if_true] at h
    split at h
    · rename_i h1; cases h; exact ⟨h1, rfl⟩
    · cases h
  | false => simp only [aggE, Bool.false_eq_true, if_false] at h; exact ⟨r, h, rfl⟩

def lowE (dflt : Nat) : Option AV → Option Nat
  | none => some dflt
  | some y => natI y

theorem lowE_eq {dflt n : Nat} {o : Option AV} : lowE dflt o = some n → (match o with | none => n = dflt | some y => y = I n) := by
  intro h
  cases o with
  | none => simp [lowE] at h; exact h.symm
  | some y => exact natI_eq h

def mxOK (h n : Nat) (hi : Option AV) : Option AV → Bool
  | none => true
  | some y => match natI y with
    | some m => Nat.ble h m && Nat.ble m n && hi.isSome
    | none => false

def slcE (sz : Nat) (x : AV) (lo hi mx : Option AV) : Option AV :=
  match x with
  | .sl full n cs => match lowE 0 lo, lowE n hi with
    | some l, some h => if l ≤ h ∧ h ≤ n ∧ cs.length = n * sz then (match mx with
      | none => some (.sl (full && decide (h = n)) (h - l) (view cs (l * sz) ((h - l) * sz)))
      | some y => if natI y = some h ∧ hi.isSome then some (.sl true (h - l) (view cs (l * sz) ((h - l) * sz))) else none) else none
    | _, _ => none
  | .ms id off n sz' => match lowE 0 lo, lowE n hi with
    | some l, some h => if l ≤ h ∧ h ≤ n ∧ sz' = sz ∧ mxOK h n hi mx = true then some (.ms id (off + l * sz) (h - l) sz) else none
    | _, _ => none
  | .mc id off n c sz' => match lowE 0 lo, lowE n hi, lowE c mx with
    | some l, some h, some m => if l ≤ h ∧ h ≤ m ∧ m ≤ c ∧ sz' = sz ∧ (mx.isNone || hi.isSome) then some (.mc id (off + l * sz) (h - l) (m - l) sz) else none
    | _, _, _ => none
  | _ => none

theorem slcE_eq {sz x lo hi mx r} (h : slcE sz x lo hi mx = some r) : semSlc r [] sz x lo hi mx := by
  unfold slcE at h
  unfold semSlc
  split at h
  · split at h
    · rename_i l hh hl hh'
      split at h
      · rename_i hc
        refine ⟨l, hh, lowE_eq hl, lowE_eq hh', hc.1, hc.2.1, hc.2.2, ?_, rfl⟩
        split at h
        · cases h; rfl
        · split at h
          · rename_i hy; cases h; exact ⟨natI_eq hy.1, hy.2, rfl⟩
          · cases h
      · cases h
    · cases h
  · split at h
    · rename_i l hh hl hh'
      split at h
      · rename_i hc
        cases h
        obtain ⟨c1, c2, c3, c4⟩ := hc
        refine ⟨l, hh, lowE_eq hl, lowE_eq hh', c1, c2, c3, ?_, rfl, rfl⟩
        cases mx with
        | none => trivial
        | some y =>
          simp only [mxOK] at c4
          split at c4
          · rename_i m hm
            simp only [Bool.and_eq_true] at c4
            exact ⟨m, natI_eq hm, Nat.le_of_ble_eq_true c4.1.1, Nat.le_of_ble_eq_true c4.1.2, c4.2⟩
          · cases c4
      · cases h
    · cases h
  · split at h
    · rename_i l hh m hl hh' hm
      split at h
      · rename_i hc
        cases h
        obtain ⟨c1, c2, c3, c4, c5⟩ := hc
        refine ⟨l, hh, m, lowE_eq hl, lowE_eq hh', ?_, c1, c2, c3, c4, rfl, rfl⟩
        have := lowE_eq hm
        cases mx with
        | none => exact this
        | some y => simp at c5; exact ⟨this, c5⟩
      · cases h
    · cases h
  · cases h

def appE (hp : List HObj) (new sz bytes : Nat) (x : AV) (m : Nat) (ys : List AV) : Option (AV × List (Nat × HObj)) :=
  match x with
  | .sl full n cs => if full = true ∧ cs.length = n * sz ∧ (n + m) * bytes ≤ 140737488355328 ∧ n + m ≤ 140737488355328 ∧ (n = 0 ∨ 0 < m) then some (.ms new 0 (n + m) sz, [(new, .cells (cs ++ ys))]) else none
  | .ms id off n sz' => match cellsE hp id with
    | some cs => if sz' = sz ∧ off + n * sz ≤ cs.length ∧ (n + m) * bytes ≤ 140737488355328 ∧ n + m ≤ 140737488355328 then some (.ms new 0 (n + m) sz, [(id, .gone), (new, .cells (view cs off (n * sz) ++ ys))]) else none
    | none => none
  | .mc id off n c sz' => match cellsE hp id with
    | some cs => if sz' = sz ∧ off + n * sz ≤ cs.length ∧ (n + m) * bytes ≤ 140737488355328 ∧ n + m ≤ 140737488355328 then
        (if n + m ≤ c then (if off + (n + m) * sz ≤ cs.length then some (.mc id off (n + m) c sz, [(id, .cells (splice cs (off + n * sz) ys))]) else none)
         else some (.ms new 0 (n + m) sz, [(new, .cells (view cs off (n * sz) ++ ys))])) else none
    | none => none
  | _ => none

theorem appE_eq {hp : List HObj} {new sz bytes x m ys r ws} (h : appE hp new sz bytes x m ys = some (r, ws)) : semApp (hpf hp) new r ws sz bytes x m ys := by
  unfold appE at h
  unfold semApp
  split at h
  · split at h
    · rename_i hc; cases h
      exact ⟨hc.1, hc.2.1, hc.2.2.1, hc.2.2.2.1, hc.2.2.2.2, rfl, rfl⟩
    · cases h
  · split at h
    · rename_i cs hcs
      have := cellsE_eq hcs
      simp only [this]
      split at h
      · rename_i hc; cases h; exact ⟨hc.1, hc.2.1, hc.2.2.1, hc.2.2.2, rfl, rfl⟩
      · cases h
    · cases h
  · split at h
    · rename_i cs hcs
      have := cellsE_eq hcs
      simp only [this]
      split at h
      · rename_i hc
        refine ⟨hc.1, hc.2.1, hc.2.2.1, hc.2.2.2, ?_⟩
        split at h
        · split at h
          · rename_i h1 h2; cases h; exact .inl ⟨h1, h2, rfl, rfl⟩
          · cases h
        · rename_i h1; cases h; exact .inr ⟨by omega, rfl, rfl⟩
      · cases h
    · cases h
  · cases h

def mpE (hp : List HObj) : AV → Option (Nat × List (Value × Nat × AV) × Nat)
  | .mp id => match hp[id]? with
    | some (.mp es clk) => some (id, es, clk)
    | _ => none
  | _ => none

theorem mpE_eq {hp : List HObj} {x id es clk} (h : mpE hp x = some (id, es, clk)) : x = .mp id ∧ hpf hp id = some (.mp es clk) := by
  unfold mpE at h
  split at h
  · split at h
    · rename_i h1; cases h; exact ⟨rfl, h1⟩
    · cases h
  · cases h

/-- A key, fit to be one. -/
def keyE (ks : KS) (x : AV) : Option Value := match x.val with
  | some v => if eqK ks v v = some true then some v else none
  | none => none
theorem keyE_eq {ks x v} (h : keyE ks x = some v) : x.val = some v ∧ eqK ks v v = some true := by
  unfold keyE at h
  split at h
  · split at h
    · rename_i h1 h2; cases h; exact ⟨h1, h2⟩
    · cases h
  · cases h

def sE_mv (x : Opd) (ev : Opd → AV) (hp : List HObj) : Option (AV × List (Nat × HObj)) := some (ev x, [])
def sE_pick (c : Opd) (a : Opd) (b : Opd) (ev : Opd → AV) (hp : List HObj) : Option (AV × List (Nat × HObj)) := match ev c with
    | .v (.bool t) => some (bif t then ev a else ev b, [])
    | _ => none
def sE_bin (op : BinOp) (x : Opd) (y : Opd) (ev : Opd → AV) (hp : List HObj) : Option (AV × List (Nat × HObj)) := match ev x, ev y with
    | .v a, .v b => match binV op a b with
      | some z => some (.v z, [])
      | none => none
    | _, _ => none
def sE_un (op : UnOp) (x : Opd) (ev : Opd → AV) (hp : List HObj) : Option (AV × List (Nat × HObj)) := match ev x with
    | .v a => match unV op a with
      | some z => some (.v z, [])
      | none => none
    | _ => none
def sE_ext (x : Opd) (i : Nat) (ev : Opd → AV) (hp : List HObj) : Option (AV × List (Nat × HObj)) := match ev x with
    | .tup vs => match vs[i]? with
      | some y => some (y, [])
      | none => none
    | _ => none
def sE_ld (agg : Bool) (sz : Nat) (x : Opd) (ev : Opd → AV) (hp : List HObj) : Option (AV × List (Nat × HObj)) := match ev x with
    | .ptr cs off => (aggE agg sz off cs).map (·, [])
    | .ref id off => match cellsE hp id with
      | some cs => (aggE agg sz off cs).map (·, [])
      | none => none
    | _ => none
def sE_st (sz : Nat) (a : Opd) (x : Opd) (ev : Opd → AV) (hp : List HObj) : Option (AV × List (Nat × HObj)) := match ev a with
    | .ref id off => match cellsE hp id with
      | some cs => if (ev x).cells.length = sz ∧ ((ev x).cells.all AV.isCell) = true ∧ off + sz ≤ cs.length then some (.any, [(id, .cells (splice cs off (ev x).cells))]) else none
      | none => none
    | _ => none
def sE_box (sz : Nat) (x : Opd) (ev : Opd → AV) (hp : List HObj) : Option (AV × List (Nat × HObj)) := if (ev x).cells.length = sz ∧ ((ev x).cells.all AV.isCell) = true then some (.ref hp.length 0, [(hp.length, .cells (ev x).cells)]) else none
def sE_al (zero : List AV) (ev : Opd → AV) (hp : List HObj) : Option (AV × List (Nat × HObj)) := some (.ref hp.length 0, [(hp.length, .cells zero)])
def sE_bsl (n : Nat) (sz : Nat) (zero : List AV) (parts : List (Nat × Opd)) (ev : Opd → AV) (hp : List HObj) : Option (AV × List (Nat × HObj)) := match purifyAll (hpf hp) (parts.map fun p => ev p.2) with
    | some (ys, ids) => if (ys.all fun y => y.cells.all AV.isCell && y.cells.all AV.isPure && (y.cells.length == sz)) = true then some (.sl true n (place (zrep n zero) sz ((parts.map (·.1)).zip ys)), gones ids) else none
    | none => none
def sE_bld (zero : List AV) (parts : List (Nat × Nat × Opd)) (ev : Opd → AV) (hp : List HObj) : Option (AV × List (Nat × HObj)) := if (parts.all fun p => (ev p.2.2).cells.all AV.isCell && ((ev p.2.2).cells.length == p.2.1)) = true then some (.agg (placeF zero (parts.map fun p => (p.1, p.2.1, ev p.2.2))), []) else none
def sE_fa (x : Opd) (off : Nat) (ev : Opd → AV) (hp : List HObj) : Option (AV × List (Nat × HObj)) := match ev x with
    | .ptr cs o => some (.ptr cs (o + off), [])
    | .ref id o => some (.ref id (o + off), [])
    | _ => none
def sE_fld (agg : Bool) (sz : Nat) (off : Nat) (x : Opd) (ev : Opd → AV) (hp : List HObj) : Option (AV × List (Nat × HObj)) := match ev x with
    | .agg cs => (aggE agg sz off cs).map (·, [])
    | _ => none
def sE_ia (sz : Nat) (x : Opd) (i : Opd) (ev : Opd → AV) (hp : List HObj) : Option (AV × List (Nat × HObj)) := match ev x, idxE (ev i) with
    | .sl _ n cs, some j => if j < n ∧ cs.length = n * sz then some (.ptr cs (j * sz), []) else none
    | .ms id off n sz', some j => if j < n ∧ sz' = sz then some (.ref id (off + j * sz), []) else none
    | .mc id off n _ sz', some j => if j < n ∧ sz' = sz then some (.ref id (off + j * sz), []) else none
    | _, _ => none
def sE_iaa (ln : Nat) (sz : Nat) (x : Opd) (i : Opd) (ev : Opd → AV) (hp : List HObj) : Option (AV × List (Nat × HObj)) := match ev x, idxE (ev i) with
    | .ptr cs o, some j => if j < ln then some (.ptr cs (o + j * sz), []) else none
    | .ref id o, some j => if j < ln then some (.ref id (o + j * sz), []) else none
    | _, _ => none
def sE_idx (ln : Nat) (agg : Bool) (sz : Nat) (x : Opd) (i : Opd) (ev : Opd → AV) (hp : List HObj) : Option (AV × List (Nat × HObj)) := match ev x, idxE (ev i) with
    | .agg cs, some j => if j < ln then (aggE agg sz (j * sz) cs).map (·, []) else none
    | _, _ => none
def sE_ids (x : Opd) (i : Opd) (ev : Opd → AV) (hp : List HObj) : Option (AV × List (Nat × HObj)) := match ev x, idxE (ev i) with
    | .v (.string s), some j => match s[j]? with
      | some b => some (.v (.int .u8 b.toNat), [])
      | none => none
    | _, _ => none
def sE_len (x : Opd) (ev : Opd → AV) (hp : List HObj) : Option (AV × List (Nat × HObj)) := match ev x with
    | .sl _ n _ => some (I n, [])
    | .ms _ _ n _ => some (I n, [])
    | .mc _ _ n _ _ => some (I n, [])
    | _ => none
def sE_lns (x : Opd) (ev : Opd → AV) (hp : List HObj) : Option (AV × List (Nat × HObj)) := match ev x with
    | .v (.string s) => some (I s.size, [])
    | _ => none
def sE_lnm (x : Opd) (ev : Opd → AV) (hp : List HObj) : Option (AV × List (Nat × HObj)) := match mpE hp (ev x) with
    | some (_, es, _) => some (I es.length, [])
    | none => none
def sE_slc (sz : Nat) (x : Opd) (lo : Option Opd) (hi : Option Opd) (hmx : Option Opd) (ev : Opd → AV) (hp : List HObj) : Option (AV × List (Nat × HObj)) := (slcE sz (ev x) (lo.map ev) (hi.map ev) (hmx.map ev)).map (·, [])
def sE_sls (x : Opd) (lo : Option Opd) (hi : Option Opd) (ev : Opd → AV) (hp : List HObj) : Option (AV × List (Nat × HObj)) := match ev x with
    | .v (.string s) => match lowE 0 (lo.map ev), lowE s.size (hi.map ev) with
      | some l, some h => if l ≤ h ∧ h ≤ s.size then some (.v (.string (s.extract l h)), []) else none
      | _, _ => none
    | _ => none
def sE_app (sz : Nat) (bytes : Nat) (x : Opd) (y : Opd) (ev : Opd → AV) (hp : List HObj) : Option (AV × List (Nat × HObj)) := match elems (hpf hp) sz (ev y) with
    | some (m, ys) => if (ys.all AV.isPC) = true then appE hp hp.length sz bytes (ev x) m ys else none
    | none => none
def sE_cpy (sz : Nat) (x : Opd) (y : Opd) (ev : Opd → AV) (hp : List HObj) : Option (AV × List (Nat × HObj)) := match elems (hpf hp) sz (ev y) with
    | some (m, ys) => if (ys.all AV.isPC) = true then (match ev x with
      | .ms id off n sz' => match cellsE hp id with
        | some cs => if sz' = sz ∧ off + n * sz ≤ cs.length then some (I (Nat.min m n : Nat), [(id, .cells (splice cs off (ys.take (Nat.min m n * sz))))]) else none
        | none => none
      | .mc id off n _ sz' => match cellsE hp id with
        | some cs => if sz' = sz ∧ off + n * sz ≤ cs.length then some (I (Nat.min m n : Nat), [(id, .cells (splice cs off (ys.take (Nat.min m n * sz))))]) else none
        | none => none
      | _ => none) else none
    | none => none
def sE_mks (sz : Nat) (bytes : Nat) (zero : List AV) (n : Opd) (c : Opd) (ev : Opd → AV) (hp : List HObj) : Option (AV × List (Nat × HObj)) := match natI (ev n), natI (ev c) with
    | some k, some k' => if k = k' ∧ k * bytes ≤ 140737488355328 ∧ k ≤ 140737488355328 ∧ zero.length = sz then some (.ms hp.length 0 k sz, [(hp.length, .cells (zrep k zero))]) else none
    | _, _ => none
def sE_cnv (k : IntKind) (x : Opd) (ev : Opd → AV) (hp : List HObj) : Option (AV × List (Nat × HObj)) := match ev x with
    | .v (.int _ n) => some (.v (.int k (k.wrap n)), [])
    | _ => none
def sE_mx (max : Bool) (x : Opd) (y : Opd) (ev : Opd → AV) (hp : List HObj) : Option (AV × List (Nat × HObj)) := match ev x, ev y with
    | .v (.int k a), .v (.int _ b) => some (.v (.int k (bif max then (if b > a then b else a) else (if b < a then b else a))), [])
    | _, _ => none
def sE_nilc (x : Opd) (ev : Opd → AV) (hp : List HObj) : Option (AV × List (Nat × HObj)) := match ev x with
    | .ptr cs o => some (.ptr cs o, [])
    | .ref id o => some (.ref id o, [])
    | .fn (.func f) xs ys => some (.fn (.func f) xs ys, [])
    | _ => none
def sE_mkf (f : Fn) (first : List Opd) (caps : List Opd) (ev : Opd → AV) (hp : List HObj) : Option (AV × List (Nat × HObj)) := some (.fn f (first.map ev) (caps.map ev), [])
def sE_cap (x : Opd) (ev : Opd → AV) (hp : List HObj) : Option (AV × List (Nat × HObj)) := match ev x with
    | .sl full n _ => if full = true then some (I n, []) else none
    | .mc _ _ _ c _ => some (I c, [])
    | _ => none
def sE_clr (sz : Nat) (zero : List AV) (x : Opd) (ev : Opd → AV) (hp : List HObj) : Option (AV × List (Nat × HObj)) := match ev x with
    | .ms id off n sz' => match cellsE hp id with
      | some cs => if sz' = sz ∧ off + n * sz ≤ cs.length then some (.any, [(id, .cells (splice cs off (zrep n zero)))]) else none
      | none => none
    | .mc id off n _ sz' => match cellsE hp id with
      | some cs => if sz' = sz ∧ off + n * sz ≤ cs.length then some (.any, [(id, .cells (splice cs off (zrep n zero)))]) else none
      | none => none
    | _ => none
def sE_appz (sz : Nat) (bytes : Nat) (zero : List AV) (x : Opd) (k : Opd) (ev : Opd → AV) (hp : List HObj) : Option (AV × List (Nat × HObj)) := match natI (ev k) with
    | some m => appE hp hp.length sz bytes (ev x) m (zrep m zero)
    | none => none
def sE_slp (sz : Nat) (ln : Nat) (x : Opd) (lo : Option Opd) (hi : Option Opd) (hmx : Option Opd) (ev : Opd → AV) (hp : List HObj) : Option (AV × List (Nat × HObj)) := match ev x with
    | .ref id off => match cellsE hp id, lowE 0 (lo.map ev), lowE ln (hi.map ev), lowE ln (hmx.map ev) with
      | some cs, some l, some h, some m => if l ≤ h ∧ h ≤ m ∧ m ≤ ln ∧ off + ln * sz ≤ cs.length ∧ (hmx.isNone || hi.isSome) then some (.mc id (off + l * sz) (h - l) (m - l) sz, []) else none
      | _, _, _, _ => none
    | .ptr cs off => match lowE 0 (lo.map ev), lowE ln (hi.map ev) with
      | some l, some h => if hmx.isNone ∧ l ≤ h ∧ h ≤ ln ∧ off + ln * sz ≤ cs.length then some (.sl (decide (h = ln)) (h - l) (view cs (off + l * sz) ((h - l) * sz)), []) else none
      | _, _ => none
    | _ => none
def sE_mkm  (ev : Opd → AV) (hp : List HObj) : Option (AV × List (Nat × HObj)) := some (.mp hp.length, [(hp.length, .mp [] 0)])
def sE_ins (ks : KS) (m : Opd) (k : Opd) (v : Opd) (ev : Opd → AV) (hp : List HObj) : Option (AV × List (Nat × HObj)) := match mpE hp (ev m), keyE ks (ev k) with
    | some (id, es, clk), some kv => match mfind ks kv es 0 with
      | some (some i) => match es[i]? with
        | some e => some (.any, [(id, .mp (es.set i (e.1, e.2.1, ev v)) clk)])
        | none => none
      | some none => some (.any, [(id, .mp (es ++ [(kv, clk, ev v)]) (clk + 1))])
      | none => none
    | _, _ => none
def sE_lku (ks : KS) (zero : AV) (ok : Bool) (m : Opd) (k : Opd) (ev : Opd → AV) (hp : List HObj) : Option (AV × List (Nat × HObj)) := match mpE hp (ev m), keyE ks (ev k) with
    | some (id, es, clk), some kv => match mfind ks kv es 0 with
      | some (some i) => match es[i]? with
        | some e => some (bif ok then .tup [e.2.2, B true] else e.2.2, [])
        | none => none
      | some none => some (bif ok then .tup [zero, B false] else zero, [])
      | none => none
    | _, _ => none
def sE_mpe (ks : KS) (zero : AV) (m : Opd) (k : Opd) (ev : Opd → AV) (hp : List HObj) : Option (AV × List (Nat × HObj)) := match mpE hp (ev m), keyE ks (ev k) with
    | some (id, es, clk), some kv => match mfind ks kv es 0 with
      | some (some i) => match es[i]? with
        | some e => some (.tup [e.2.2, I e.2.1], [])
        | none => none
      | some none => some (.tup [zero, I clk], [(id, .mp (es ++ [(kv, clk, zero)]) (clk + 1))])
      | none => none
    | _, _ => none
def sE_est (m : Opd) (s : Opd) (v : Opd) (ev : Opd → AV) (hp : List HObj) : Option (AV × List (Nat × HObj)) := match mpE hp (ev m), natI (ev s) with
    | some (id, es, clk), some b => match es.findIdx? (fun x => x.2.1 == b) with
      | some i => match es[i]? with
        | some e => if e.2.1 = b then some (.any, [(id, .mp (es.set i (e.1, e.2.1, ev v)) clk)]) else none
        | none => none
      | none => none
    | _, _ => none
def sE_del (ks : KS) (m : Opd) (k : Opd) (ev : Opd → AV) (hp : List HObj) : Option (AV × List (Nat × HObj)) := match mpE hp (ev m), keyE ks (ev k) with
    | some (id, es, clk), some kv => match mfind ks kv es 0 with
      | some (some i) => some (.any, [(id, .mp (es.eraseIdx i) clk)])
      | some none => some (.any, [])
      | none => none
    | _, _ => none
def sE_eqk (neg : Bool) (ks : KS) (x : Opd) (y : Opd) (ev : Opd → AV) (hp : List HObj) : Option (AV × List (Nat × HObj)) := match (ev x).val, (ev y).val with
    | some a, some b => match eqK ks a b with
      | some z => some (B (neg != z), [])
      | none => none
    | _, _ => none

def semE (o : AOp) (ev : Opd → AV) (hp : List HObj) : Option (AV × List (Nat × HObj)) :=
  match o with
  | .mv _ x => sE_mv x ev hp
  | .pick _ c a b => sE_pick c a b ev hp
  | .bin _ op x y => sE_bin op x y ev hp
  | .un _ op x => sE_un op x ev hp
  | .ext _ x i => sE_ext x i ev hp
  | .ld _ agg sz x => sE_ld agg sz x ev hp
  | .st sz a x => sE_st sz a x ev hp
  | .box _ sz x => sE_box sz x ev hp
  | .al _ zero => sE_al zero ev hp
  | .bsl _ n sz zero parts => sE_bsl n sz zero parts ev hp
  | .bld _ zero parts => sE_bld zero parts ev hp
  | .fa _ x off => sE_fa x off ev hp
  | .fld _ agg sz off x => sE_fld agg sz off x ev hp
  | .ia _ sz x i => sE_ia sz x i ev hp
  | .iaa _ ln sz x i => sE_iaa ln sz x i ev hp
  | .idx _ ln agg sz x i => sE_idx ln agg sz x i ev hp
  | .ids _ x i => sE_ids x i ev hp
  | .len _ x => sE_len x ev hp
  | .lns _ x => sE_lns x ev hp
  | .lnm _ x => sE_lnm x ev hp
  | .slc _ sz x lo hi hmx => sE_slc sz x lo hi hmx ev hp
  | .sls _ x lo hi => sE_sls x lo hi ev hp
  | .app _ sz bytes x y => sE_app sz bytes x y ev hp
  | .cpy _ sz x y => sE_cpy sz x y ev hp
  | .mks _ sz bytes zero n c => sE_mks sz bytes zero n c ev hp
  | .cnv _ k x => sE_cnv k x ev hp
  | .mx _ max x y => sE_mx max x y ev hp
  | .nilc _ x => sE_nilc x ev hp
  | .mkf _ f first caps => sE_mkf f first caps ev hp
  | .cap _ x => sE_cap x ev hp
  | .clr sz zero x => sE_clr sz zero x ev hp
  | .appz _ sz bytes zero x k => sE_appz sz bytes zero x k ev hp
  | .slp _ sz ln x lo hi hmx => sE_slp sz ln x lo hi hmx ev hp
  | .mkm _ => sE_mkm  ev hp
  | .ins ks m k v => sE_ins ks m k v ev hp
  | .lku _ ks zero ok m k => sE_lku ks zero ok m k ev hp
  | .mpe _ ks zero m k => sE_mpe ks zero m k ev hp
  | .est m s v => sE_est m s v ev hp
  | .del ks m k => sE_del ks m k ev hp
  | .eqk _ neg ks x y => sE_eqk neg ks x y ev hp
  | _ => none

theorem idxI_eq {x : AV} {n : Nat} (h : idxE x = some n) : ∃ k, x = .v (.int k (n : Int)) := by
  unfold idxE at h
  split at h
  · cases h; exact ⟨_, rfl⟩
  · cases h

theorem all_take {l : List AV} (h : (l.all AV.isPC) = true) (k : Nat) : ((l.take k).all AV.isPC) = true := by
  rw [List.all_eq_true] at *
  exact fun x hx => h x (List.mem_of_mem_take hx)

theorem semE_eq {P : Program} {o : AOp} {ev : Opd → AV} {hp : List HObj} {r : AV} {ws : List (Nat × HObj)} (h : semE o ev hp = some (r, ws)) : o.sem P ev (hpf hp) hp.length r ws := by
  cases o with
  | mv => simp only [semE, sE_mv] at h; cases h; exact ⟨rfl, rfl⟩
  | pick d c a b => simp only [semE, sE_pick] at h; simp only [AOp.sem]; generalize ev c = uc at h ⊢; split at h <;> cases h; exact ⟨rfl, rfl⟩
  | bin d op x y =>
    simp only [semE, sE_bin] at h; simp only [AOp.sem]; generalize ev x = ux at h ⊢; generalize ev y = uy at h ⊢
    split at h
    · split at h
      · rename_i hz; cases h; exact ⟨_, hz, rfl, rfl⟩
      · cases h
    · cases h
  | un d op x =>
    simp only [semE, sE_un] at h; simp only [AOp.sem]; generalize ev x = ux at h ⊢
    split at h
    · split at h
      · rename_i hz; cases h; exact ⟨_, hz, rfl, rfl⟩
      · cases h
    · cases h
  | ext d x i =>
    simp only [semE, sE_ext] at h; simp only [AOp.sem]; generalize ev x = ux at h ⊢
    split at h
    · split at h
      · rename_i hz; cases h; exact ⟨_, hz, rfl, rfl⟩
      · cases h
    · cases h
  | ld d agg sz x =>
    simp only [semE, sE_ld] at h; simp only [AOp.sem, semLd]; generalize ev x = ux at h ⊢
    split at h
    · simp only [Option.map_eq_some_iff] at h
      obtain ⟨y, h1, h2⟩ := h; cases h2
      exact ⟨rfl, aggE_eq h1⟩
    · split at h
      · rename_i cs hcs
        simp only [Option.map_eq_some_iff] at h
        obtain ⟨y, h1, h2⟩ := h; cases h2
        simp only [cellsE_eq hcs]
        exact ⟨trivial, aggE_eq h1⟩
      · cases h
    · cases h
  | st sz a x =>
    simp only [semE, sE_st] at h; simp only [AOp.sem, semSt]; generalize ev a = ua at h ⊢; generalize ev x = ux at h ⊢
    split at h
    · split at h
      · rename_i cs hcs
        split at h
        · rename_i hc; cases h
          simp only [cellsE_eq hcs]
          exact ⟨hc.1, hc.2.1, hc.2.2, trivial, trivial⟩
        · cases h
      · cases h
    · cases h
  | box => simp only [semE, sE_box] at h; split at h <;> first | (rename_i hc; cases h; exact ⟨hc.1, hc.2, rfl, rfl⟩) | cases h
  | al => simp only [semE, sE_al] at h; cases h; exact ⟨rfl, rfl⟩
  | bsl =>
    simp only [semE, sE_bsl] at h
    split at h
    · rename_i ys ids hp1
      split at h
      · rename_i hc; cases h; exact ⟨ys, ids, hp1, hc, rfl, rfl⟩
      · cases h
    · cases h
  | bld => simp only [semE, sE_bld] at h; split at h <;> first | (rename_i hc; cases h; exact ⟨hc, rfl, rfl⟩) | cases h
  | fa d x off => simp only [semE, sE_fa] at h; simp only [AOp.sem]; generalize ev x = ux at h ⊢; split at h <;> cases h <;> exact ⟨rfl, rfl⟩
  | fld d agg sz off x =>
    simp only [semE, sE_fld] at h; simp only [AOp.sem]; generalize ev x = ux at h ⊢
    split at h
    · simp only [Option.map_eq_some_iff] at h
      obtain ⟨y, h1, h2⟩ := h; cases h2
      exact ⟨aggE_eq h1, rfl⟩
    · cases h
  | ia d sz x i =>
    simp only [semE, sE_ia] at h; simp only [AOp.sem]; generalize ev x = ux at h ⊢; generalize ev i = ui at h ⊢
    split at h
    · rename_i hi
      obtain ⟨k, hk⟩ := idxI_eq hi
      split at h
      · rename_i hc; cases h
        rw [hk]
        exact ⟨by omega, by simp, rfl, hc.2⟩
      · cases h
    · rename_i hi
      obtain ⟨k, hk⟩ := idxI_eq hi
      split at h
      · rename_i hc; cases h
        rw [hk]
        exact ⟨by omega, hc.2, by simp, rfl⟩
      · cases h
    · rename_i hi
      obtain ⟨k, hk⟩ := idxI_eq hi
      split at h
      · rename_i hc; cases h
        rw [hk]
        exact ⟨by omega, hc.2, by simp, rfl⟩
      · cases h
    · cases h
  | iaa d ln sz x i =>
    simp only [semE, sE_iaa] at h; simp only [AOp.sem]; generalize ev x = ux at h ⊢; generalize ev i = ui at h ⊢
    split at h
    · rename_i hi
      obtain ⟨k, hk⟩ := idxI_eq hi
      split at h
      · rename_i hc; cases h
        rw [hk]
        exact ⟨by omega, by simp, rfl⟩
      · cases h
    · rename_i hi
      obtain ⟨k, hk⟩ := idxI_eq hi
      split at h
      · rename_i hc; cases h
        rw [hk]
        exact ⟨by omega, by simp, rfl⟩
      · cases h
    · cases h
  | idx d ln agg sz x i =>
    simp only [semE, sE_idx] at h; simp only [AOp.sem]; generalize ev x = ux at h ⊢; generalize ev i = ui at h ⊢
    split at h
    · rename_i hi
      obtain ⟨k, hk⟩ := idxI_eq hi
      split at h
      · rename_i hc
        simp only [Option.map_eq_some_iff] at h
        obtain ⟨y, h1, h2⟩ := h; cases h2
        rw [hk]
        exact ⟨by omega, aggE_eq h1, rfl⟩
      · cases h
    · cases h
  | ids d x i =>
    simp only [semE, sE_ids] at h; simp only [AOp.sem]; generalize ev x = ux at h ⊢; generalize ev i = ui at h ⊢
    split at h
    · rename_i hi
      obtain ⟨k, hk⟩ := idxI_eq hi
      split at h
      · rename_i b hb; cases h
        rw [hk]
        exact ⟨by omega, ⟨b, by simpa using hb, rfl⟩, rfl⟩
      · cases h
    · cases h
  | len d x => simp only [semE, sE_len] at h; simp only [AOp.sem]; generalize ev x = ux at h ⊢; split at h <;> cases h <;> exact ⟨rfl, rfl⟩
  | lns d x => simp only [semE, sE_lns] at h; simp only [AOp.sem]; generalize ev x = ux at h ⊢; split at h <;> cases h <;> exact ⟨rfl, rfl⟩
  | lnm d x =>
    simp only [semE, sE_lnm] at h; simp only [AOp.sem]; generalize ev x = ux at h ⊢
    split at h
    · rename_i hm
      obtain ⟨h1, h2⟩ := mpE_eq hm
      cases h
      simp only [h1, h2]
      first | exact ⟨rfl, rfl⟩ | trivial | simp
    · cases h
  | slc =>
    simp only [semE, sE_slc, Option.map_eq_some_iff] at h
    obtain ⟨y, h1, h2⟩ := h; cases h2
    exact slcE_eq h1
  | sls d x lo hi =>
    simp only [semE, sE_sls] at h; simp only [AOp.sem]; generalize ev x = ux at h ⊢
    split at h
    · split at h
      · rename_i l hh hl hh'
        split at h
        · rename_i hc; cases h
          exact ⟨l, hh, lowE_eq hl, lowE_eq hh', hc.1, hc.2, rfl, rfl⟩
        · cases h
      · cases h
    · cases h
  | app d sz bytes x y =>
    simp only [semE, sE_app] at h; simp only [AOp.sem]; generalize ev x = ux at h ⊢
    split at h
    · rename_i m ys hel
      split at h
      · rename_i hc; exact ⟨m, ys, hel, hc, appE_eq h⟩
      · cases h
    · cases h
  | cpy d sz x y =>
    simp only [semE, sE_cpy] at h; simp only [AOp.sem]; generalize ev x = ux at h ⊢
    split at h
    · rename_i m ys hel
      split at h
      · rename_i hc
        split at h
        · split at h
          · rename_i cs hcs
            split at h
            · rename_i hb; cases h
              exact ⟨m, ys, cs, hel, all_take hc _, cellsE_eq hcs, hb.1, hb.2, rfl, rfl⟩
            · cases h
          · cases h
        · split at h
          · rename_i cs hcs
            split at h
            · rename_i hb; cases h
              exact ⟨m, ys, cs, hel, all_take hc _, cellsE_eq hcs, hb.1, hb.2, rfl, rfl⟩
            · cases h
          · cases h
        · cases h
      · cases h
    · cases h
  | mks =>
    simp only [semE, sE_mks] at h; simp only [AOp.sem]
    split at h
    · rename_i k k' h1 h2
      split at h
      · rename_i hc; cases h
        obtain ⟨rfl, c1, c2, c3⟩ := hc
        exact ⟨k, natI_eq h1, natI_eq h2, c1, c2, c3, rfl, rfl⟩
      · cases h
    · cases h
  | cnv d k x => simp only [semE, sE_cnv] at h; simp only [AOp.sem]; generalize ev x = ux at h ⊢; split at h <;> cases h; exact ⟨rfl, rfl⟩
  | mx d m x y => simp only [semE, sE_mx] at h; simp only [AOp.sem]; generalize ev x = ux at h ⊢; generalize ev y = uy at h ⊢; split at h <;> cases h; exact ⟨rfl, rfl⟩
  | nilc d x => simp only [semE, sE_nilc] at h; simp only [AOp.sem]; generalize ev x = ux at h ⊢; split at h <;> cases h <;> exact ⟨rfl, rfl⟩
  | mkf => simp only [semE, sE_mkf] at h; cases h; exact ⟨rfl, rfl⟩
  | cap d x =>
    simp only [semE, sE_cap] at h; simp only [AOp.sem]; generalize ev x = ux at h ⊢
    split at h
    · split at h
      · rename_i hc; cases h; exact ⟨hc, rfl, rfl⟩
      · cases h
    · cases h; exact ⟨rfl, rfl⟩
    · cases h
  | clr sz z x =>
    simp only [semE, sE_clr] at h; simp only [AOp.sem]; generalize ev x = ux at h ⊢
    split at h
    · split at h
      · rename_i cs hcs
        split at h
        · rename_i hc; cases h; exact ⟨cs, cellsE_eq hcs, hc.1, hc.2, rfl, rfl⟩
        · cases h
      · cases h
    · split at h
      · rename_i cs hcs
        split at h
        · rename_i hc; cases h; exact ⟨cs, cellsE_eq hcs, hc.1, hc.2, rfl, rfl⟩
        · cases h
      · cases h
    · cases h
  | appz =>
    simp only [semE, sE_appz] at h; simp only [AOp.sem]
    split at h
    · rename_i m hm; exact ⟨m, natI_eq hm, appE_eq h⟩
    · cases h
  | slp d sz ln x lo hi hmx =>
    simp only [semE, sE_slp] at h; simp only [AOp.sem]; generalize ev x = ux at h ⊢
    split at h
    · split at h
      · rename_i cs l hh m hcs hl hh' hm
        split at h
        · rename_i hc; cases h
          obtain ⟨c1, c2, c3, c4, c5⟩ := hc
          simp only [cellsE_eq hcs]
          refine ⟨l, hh, m, lowE_eq hl, lowE_eq hh', ?_, c1, c2, c3, c4, rfl, trivial⟩
          have := lowE_eq hm
          cases hmx with
          | none => exact this
          | some y => simp at c5; exact ⟨this, by simpa using c5⟩
        · cases h
      · cases h
    · split at h
      · rename_i l hh hl hh'
        split at h
        · rename_i hc; cases h
          obtain ⟨c1, c2, c3, c4⟩ := hc
          exact ⟨l, hh, lowE_eq hl, lowE_eq hh', by simpa using c1, c2, c3, c4, rfl, rfl⟩
        · cases h
      · cases h
    · cases h
  | mkm => simp only [semE, sE_mkm] at h; cases h; exact ⟨rfl, rfl⟩
  | ins =>
    simp only [semE, sE_ins] at h; simp only [AOp.sem]
    split at h
    · rename_i id es clk kv hm hk
      obtain ⟨h1, h2⟩ := mpE_eq hm
      obtain ⟨k1, k2⟩ := keyE_eq hk
      simp only [h1, h2]
      split at h
      · rename_i i hf
        split at h
        · rename_i e he; cases h; exact ⟨kv, k1, k2, rfl, .inl ⟨i, e, hf, he, rfl⟩⟩
        · cases h
      · rename_i hf; cases h; exact ⟨kv, k1, k2, rfl, .inr ⟨hf, rfl⟩⟩
      · cases h
    · cases h
  | lku =>
    simp only [semE, sE_lku] at h; simp only [AOp.sem]
    split at h
    · rename_i id es clk kv hm hk
      obtain ⟨h1, h2⟩ := mpE_eq hm
      obtain ⟨k1, k2⟩ := keyE_eq hk
      simp only [h1, h2]
      split at h
      · rename_i i hf
        split at h
        · rename_i e he; cases h; exact ⟨kv, k1, k2, rfl, .inl ⟨i, e, hf, he, rfl⟩⟩
        · cases h
      · rename_i hf; cases h; exact ⟨kv, k1, k2, rfl, .inr ⟨hf, rfl⟩⟩
      · cases h
    · cases h
  | mpe =>
    simp only [semE, sE_mpe] at h; simp only [AOp.sem]
    split at h
    · rename_i id es clk kv hm hk
      obtain ⟨h1, h2⟩ := mpE_eq hm
      obtain ⟨k1, k2⟩ := keyE_eq hk
      simp only [h1, h2]
      split at h
      · rename_i i hf
        split at h
        · rename_i e he; cases h; exact ⟨kv, k1, k2, .inl ⟨i, e, hf, he, rfl, rfl⟩⟩
        · cases h
      · rename_i hf; cases h; exact ⟨kv, k1, k2, .inr ⟨hf, rfl, rfl⟩⟩
      · cases h
    · cases h
  | est =>
    simp only [semE, sE_est] at h; simp only [AOp.sem]
    split at h
    · rename_i id es clk b hm hk
      obtain ⟨h1, h2⟩ := mpE_eq hm
      simp only [h1, h2]
      split at h
      · rename_i i hf
        split at h
        · rename_i e he
          split at h
          · rename_i hb; cases h
            exact ⟨i, e, by rw [hb]; exact natI_eq hk, by rw [hb]; exact hf, he, rfl, rfl⟩
          · cases h
        · cases h
      · cases h
    · cases h
  | del =>
    simp only [semE, sE_del] at h; simp only [AOp.sem]
    split at h
    · rename_i id es clk kv hm hk
      obtain ⟨h1, h2⟩ := mpE_eq hm
      obtain ⟨k1, k2⟩ := keyE_eq hk
      simp only [h1, h2]
      split at h
      · rename_i i hf; cases h; exact ⟨kv, k1, k2, rfl, .inl ⟨i, hf, rfl⟩⟩
      · rename_i hf; cases h; exact ⟨kv, k1, k2, rfl, .inr ⟨hf, rfl⟩⟩
      · cases h
    · cases h
  | eqk =>
    simp only [semE, sE_eqk] at h; simp only [AOp.sem]
    split at h
    · rename_i a b ha hb
      split at h
      · rename_i z hz; cases h; exact ⟨a, b, z, ha, hb, hz, rfl, rfl⟩
      · cases h
    · cases h
  | _ => simp [semE] at h

end Go.AM

/- THE EVALUATOR, PART 2: regions, code, calls; what it finds holds of the machine. Own work. -/
set_option linter.unusedSimpArgs false
set_option linter.unusedVariables false
namespace Go.AM
open Go.RowKit

/-! ### Values made plain before they are passed on (for the kernel) -/
section
variable {β : Type}
def fNat (n : Nat) (k : Nat → β) : β := match n with
  | 0 => k 0
  | m + 1 => k (m + 1)
theorem fNat_eq (n : Nat) (k : Nat → β) : fNat n k = k n := by cases n <;> rfl
def fInt (n : Int) (k : Int → β) : β := match n with
  | .ofNat m => fNat m fun m => k (.ofNat m)
  | .negSucc m => fNat m fun m => k (.negSucc m)
theorem fInt_eq (n : Int) (k : Int → β) : fInt n k = k n := by cases n <;> simp only [fInt, fNat_eq]
def fBool (b : Bool) (k : Bool → β) : β := match b with
  | true => k true
  | false => k false
theorem fBool_eq (b : Bool) (k : Bool → β) : fBool b k = k b := by cases b <;> rfl
def fKind (x : IntKind) (k : IntKind → β) : β := match x with
  | .i64 => k .i64
  | .u64 => k .u64
  | .u8 => k .u8
  | x => k x
theorem fKind_eq (x : IntKind) (k : IntKind → β) : fKind x k = k x := by cases x <;> rfl
def fVal (x : Value) (k : Value → β) : β := match x with
  | .int kd n => fKind kd fun kd => fInt n fun n => k (.int kd n)
  | .bool b => fBool b fun b => k (.bool b)
  | x => k x
theorem fVal_eq (x : Value) (k : Value → β) : fVal x k = k x := by cases x <;> simp only [fVal, fKind_eq, fInt_eq, fBool_eq]
def fList {α : Type} (f : α → (α → β) → β) : List α → (List α → β) → β
  | [], k => k []
  | a :: as, k => f a fun a => fList f as fun as => k (a :: as)
theorem fList_eq {α : Type} {f : α → (α → β) → β} (hf : ∀ a k, f a k = k a) : ∀ (l : List α) (k : List α → β), fList f l k = k l
  | [], k => rfl
  | a :: as, k => by simp only [fList, hf, fList_eq hf as]
def fAV : Nat → AV → (AV → β) → β
  | 0 => fun x k => k x
  | d + 1 => fun x k => match x with
    | .v y => fVal y fun y => k (.v y)
    | .sl f n cs => fBool f fun f => fNat n fun n => fList (fAV d) cs fun cs => k (.sl f n cs)
    | .agg cs => fList (fAV d) cs fun cs => k (.agg cs)
    | .tup cs => fList (fAV d) cs fun cs => k (.tup cs)
    | .ptr cs o => fNat o fun o => fList (fAV d) cs fun cs => k (.ptr cs o)
    | .ref i o => fNat i fun i => fNat o fun o => k (.ref i o)
    | .ms i o n z => fNat i fun i => fNat o fun o => fNat n fun n => fNat z fun z => k (.ms i o n z)
    | .mc i o n c z => fNat i fun i => fNat o fun o => fNat n fun n => fNat c fun c => fNat z fun z => k (.mc i o n c z)
    | .fn f as bs => fList (fAV d) as fun as => fList (fAV d) bs fun bs => k (.fn f as bs)
    | .mp i => fNat i fun i => k (.mp i)
    | .yl i => fNat i fun i => k (.yl i)
    | .any => k .any
theorem fAV_eq : ∀ (d : Nat) (x : AV) (k : AV → β), fAV d x k = k x
  | 0, x, k => rfl
  | d + 1, x, k => by cases x <;> simp only [fAV, fVal_eq, fBool_eq, fNat_eq, fList_eq (fAV_eq d)]
def fObj (x : HObj) (k : HObj → β) : β := match x with
  | .cells cs => fList (fAV 4) cs fun cs => k (.cells cs)
  | .mp es c => fList (fun e k => fNat e.2.1 fun b => fAV 4 e.2.2 fun x => k (e.1, b, x)) es fun es => fNat c fun c => k (.mp es c)
  | .it m s l c => fNat m fun m => fNat s fun s => fList fNat l fun l => fNat c fun c => k (.it m s l c)
  | .lp s m => k (.lp s m)
  | .gone => k .gone
theorem fObj_eq (x : HObj) (k : HObj → β) : fObj x k = k x := by
  cases x with
  | cells cs => simp only [fObj, fList_eq (fAV_eq 4)]
  | mp es c => simp only [fObj]; rw [fList_eq (fun a k => by simp only [fNat_eq, fAV_eq])]; rw [fNat_eq]
  | it m s l c => simp only [fObj, fNat_eq, fList_eq fNat_eq]
  | lp => rfl
  | gone => rfl
def fWs (ws : List (Nat × HObj)) (k : List (Nat × HObj) → β) : β := fList (fun p k => fNat p.1 fun i => fObj p.2 fun o => k (i, o)) ws k
theorem fWs_eq (ws : List (Nat × HObj)) (k : List (Nat × HObj) → β) : fWs ws k = k ws := by
  simp only [fWs]; exact fList_eq (fun a k => by simp only [fNat_eq, fObj_eq]) ws k
def fSpine {α : Type} (l : List α) (k : List α → β) : β := fList (fun a k => k a) l k
theorem fSpine_eq {α : Type} (l : List α) (k : List α → β) : fSpine l k = k l := fList_eq (fun _ _ => rfl) l k
def stepE (st : St) (d : Option Nat) (r : AV) (ws : List (Nat × HObj)) (k : St → β) : β := fAV 6 r fun r => match ws with
  | [] => k { fr := frPut st.fr d r, hp := st.hp }
  | ws => fWs ws fun ws => fSpine (writeL st.hp ws) fun hp => k { fr := frPut st.fr d r, hp := hp }
theorem stepE_eq (st : St) (d : Option Nat) (r : AV) (ws : List (Nat × HObj)) (k : St → β) : stepE st d r ws k = k (st.step d r ws) := by
  simp only [stepE, fAV_eq]
  cases ws with
  | nil => rfl
  | cons a l => simp only [fWs_eq, fSpine_eq]; rfl
def fKeep (fr : List (Nat × AV)) : List Nat → (List (Nat × AV) → β) → β
  | [], k => k []
  | t :: ts, k => fAV 6 (get fr t) fun x => fKeep fr ts fun l => k ((t, x) :: l)
theorem fKeep_eq (fr : List (Nat × AV)) : ∀ (ks : List Nat) (k : List (Nat × AV) → β), fKeep fr ks k = k (ks.map fun t => (t, get fr t))
  | [], k => rfl
  | t :: ts, k => by simp only [fKeep, fAV_eq, fKeep_eq fr ts, List.map_cons]
def keepE (st : St) (ks : List Nat) (k : St → β) : β := fKeep st.fr ks fun fr => k { fr := fr, hp := st.hp }
theorem keepE_eq (st : St) (ks : List Nat) (k : St → β) : keepE st ks k = k (st.keep ks) := by simp only [keepE, fKeep_eq]; rfl
end

/-! ### All of several -/
def allE {α β : Type} (f : α → Option (List β)) : List α → Option (List β)
  | [] => some []
  | a :: as => match f a with
    | some x => match as with
      | [] => some x
      | _ => match allE f as with
        | some y => some (x ++ y)
        | none => none
    | none => none

theorem allE_mem {α β : Type} {f : α → Option (List β)} : ∀ {as : List α} {l : List β}, allE f as = some l → ∀ a ∈ as, ∃ la, f a = some la ∧ ∀ b ∈ la, b ∈ l
  | [], l, h, a, ha => by simp at ha
  | x :: as, l, h, a, ha => by
    simp only [allE] at h
    split at h
    · rename_i y hy
      split at h
      · cases h
        simp at ha; subst ha
        exact ⟨_, hy, fun b hb => hb⟩
      · split at h
        · rename_i z hz
          cases h
          rcases List.mem_cons.1 ha with rfl | ha
          · exact ⟨y, hy, fun b hb => List.mem_append_left _ hb⟩
          · obtain ⟨la, h1, h2⟩ := allE_mem hz a ha
            exact ⟨la, h1, fun b hb => List.mem_append_right _ (h2 b hb)⟩
        · cases h
    · cases h

/-! ### Operations with several outcomes -/
def manyE (o : AOp) (ev : Opd → AV) (hp : List HObj) : Option (List (AV × List (Nat × HObj))) :=
  match o with
  | .rng _ x => match mpE hp (ev x) with
    | some (id, _, clk) => some [(.ref hp.length 0, [(hp.length, .it id clk [] clk)])]
    | none => none
  | .nxt _ x => match ev x with
    | .ref id 0 => match hp[id]? with
      | some (.it m since seen last) => match mpE hp (.mp m) with
        | some (_, es, clk) => if (seen.isEmpty || es.isEmpty || !es.all (fun e => decide (last ≤ e.2.1))) = true then
            some ((if (es.filter fun e => !seen.contains e.2.1 && decide (e.2.1 < since)).isEmpty then [(.tup [B false], [])] else []) ++
              (es.filter fun e => !seen.contains e.2.1).map fun e => (.tup [B true, AV.ofValue e.1, e.2.2], [(id, .it m since (seen ++ [e.2.1]) clk)]))
          else none
        | none => none
      | _ => none
    | _ => none
  | .ent _ x => match ev x with
    | .ref id 0 => match hp[id]? with
      | some (.it m _ seen stepped) => match mpE hp (.mp m) with
        | some (_, es, clk) => if clk = stepped then (match seen.getLast? with
          | some b => match es.find? (fun e => e.2.1 == b) with
            | some e => some [(.tup [AV.ofValue e.1, e.2.2], [])]
            | none => none
          | none => none) else none
        | none => none
      | _ => none
    | _ => none
  | .isn _ neg kd x => match kd, ev x with
    | 0, .sl _ _ [] => some [(B false, []), (B true, [])]
    | 0, .sl _ _ (_ :: _) => some [(B neg, [])]
    | 0, .ms _ _ n _ => if n = 0 then some [(B false, []), (B true, [])] else some [(B neg, [])]
    | 1, .ptr .. | 1, .ref .. | 2, .mp _ | 3, .fn .. => some [(B neg, [])]
    | 1, .v (.pointer none) | 2, .v (.map none) | 3, .v .nilFunc => some [(B !neg, [])]
    | _, _ => none
  | _ => none

theorem manyE_eq {o : AOp} {ev : Opd → AV} {hp : List HObj} {l : List (AV × List (Nat × HObj))} (h : manyE o ev hp = some l) : o.many ev (hpf hp) hp.length fun r ws => (r, ws) ∈ l := by
  cases o with
  | rng d x =>
    simp only [manyE] at h; simp only [AOp.many]
    split at h
    · rename_i hm
      obtain ⟨h1, h2⟩ := mpE_eq hm
      cases h
      simp only [h1, h2]
      simp
    · cases h
  | nxt d x =>
    simp only [manyE] at h; simp only [AOp.many]
    generalize ev x = u at h ⊢
    split at h
    · rename_i id
      split at h
      · rename_i m since seen last hid
        split at h
        · rename_i es clk hm
          obtain ⟨h1, h2⟩ := mpE_eq hm
          cases h1
          have hid' : hpf hp id = some (.it m since seen last) := hid
          simp only [hid', h2]
          split at h
          · rename_i hc
            cases h
            refine ⟨hc, fun hz => by rw [if_pos hz]; simp, fun e he hs => ?_⟩
            rw [List.mem_append]
            refine .inr (List.mem_map.2 ⟨e, List.mem_filter.2 ⟨he, by simpa using hs⟩, rfl⟩)
          · cases h
        · cases h
      · cases h
    · cases h
  | ent d x =>
    simp only [manyE] at h; simp only [AOp.many]
    generalize ev x = u at h ⊢
    split at h
    · rename_i id
      split at h
      · rename_i m since seen last hid
        split at h
        · rename_i es clk hm
          obtain ⟨h1, h2⟩ := mpE_eq hm
          cases h1
          have hid' : hpf hp id = some (.it m since seen last) := hid
          simp only [hid', h2]
          split at h
          · rename_i hc
            split at h
            · rename_i b hb
              split at h
              · rename_i e he
                cases h
                exact ⟨hc, b, e, hb, he, by simp⟩
              · cases h
            · cases h
          · cases h
        · cases h
      · cases h
    · cases h
  | isn d neg kd x =>
    simp only [manyE] at h; simp only [AOp.many]
    generalize ev x = u at h ⊢
    split at h
    · cases h; simp
    · cases h; simp
    · split at h
      · rename_i h0; cases h; simp [h0]
      · rename_i h0; cases h; simp [h0]
    all_goals first | (cases h; simp; done) | cases h
  | _ => simp [manyE] at h

/-! ### What is handed in -/
/-- What is known of functions: pure ones, and those that make a list. -/
inductive PR where
  | val (r : AV)
  | made (m sz : Nat) (cs : List AV)

def PRok (P : Program) (f : FuncId) (ys : List AV) : PR → Prop
  | .val r => PureOK P f ys r
  | .made m sz cs => MadeOK P f ys m sz cs

structure Hands where
  C : FuncId → List AV → List HObj → Option (List (AV × List HObj))
  CP : FuncId → List AV → Option PR
  X : FuncId → List AV → List HObj → Option AV
  Y : Nat → List AV → List HObj → Option (List (AV × List HObj))
  R : AV → List HObj → (List AV → List HObj → Option (List (AV × List HObj))) → Option (List (List HObj))
  fok : FuncId → Bool

/-! ### Operations in the text's order -/
def opC (H : Hands) (d : Nat) (f : FuncId) (xs : List AV) (st : St) : Option (List St) := (H.C f xs st.hp).map fun l => l.map fun p => { fr := (d, p.1) :: st.fr, hp := p.2 }
def opY (H : Hands) (d id : Nat) (xs : List AV) (st : St) : Option (List St) := (H.Y id xs st.hp).map fun l => l.map fun p => { fr := (d, p.1) :: st.fr, hp := p.2 }
def opX (H : Hands) (d : Nat) (f : FuncId) (xs : List AV) (st : St) : Option (List St) := (H.X f xs st.hp).map fun r => [{ fr := (d, r) :: st.fr, hp := st.hp }]
def opV (H : Hands) (d : Nat) (x : AV) (xs : List AV) (st : St) : Option (List St) := match x with
  | .fn (.func f) first caps => if H.fok f then opC H d f (first ++ xs ++ caps) st else none
  | .yl id => opY H d id xs st
  | _ => none
def opM (o : AOp) (st : St) : Option (List St) := (manyE o (evF (get st.fr)) st.hp).map fun l => l.map fun p => stepE st o.dst p.1 p.2 fun st => st
def opG (o : AOp) (st : St) : Option (List St) := match semE o (evF (get st.fr)) st.hp with
  | some (r, ws) => stepE st o.dst r ws fun st => some [st]
  | none => none
def opE (H : Hands) (o : AOp) (st : St) : Option (List St) :=
  match o with
  | .call d f args => opC H d f (args.map (evF (get st.fr))) st
  | .callx d f args => opX H d f (args.map (evF (get st.fr))) st
  | .callv d x args => opV H d (evF (get st.fr) x) (args.map (evF (get st.fr))) st
  | .rng .. | .nxt .. | .ent .. | .isn .. => opM o st
  | o => opG o st

def opsE (H : Hands) : List AOp → St → Option (List St)
  | [], st => some [st]
  | o :: os, st => match opE H o st with
    | some l => allE (opsE H os) l
    | none => none

def grpsE (H : Hands) : List Grp → St → Option (List St)
  | [], st => some [st]
  | ⟨none, os⟩ :: gs, st => match opsE H os st with
    | some l => allE (grpsE H gs) l
    | none => none
  | ⟨some (j, b), os⟩ :: gs, st => match get st.fr j with
    | .v (.bool c) => if c = b then (match opsE H os st with
        | some l => allE (grpsE H gs) l
        | none => none) else grpsE H gs (undefs os st)
    | .v (.tuple _) => grpsE H gs (undefs os st)
    | _ => none

/-! ### Operations that draw their order -/
def dopC (H : Hands) (f : FuncId) (xs : List AV) (hp : List HObj) : Option (AV × List (Nat × HObj)) := match purifyAll (hpf hp) xs with
  | some (ys, ids) => match H.CP f ys with
    | some (.val r) => some (r, bif r.scalar then [] else gones ids)
    | some (.made m sz cs) => some (.ms hp.length 0 m sz, gones ids ++ [(hp.length, .cells cs)])
    | none => none
  | none => none
def dopE (H : Hands) (o : AOp) (st : St) : Option (AV × List (Nat × HObj)) :=
  match o with
  | .call _ f args => dopC H f (args.map (evF (get st.fr))) st.hp
  | o => semE o (evF (get st.fr)) st.hp

def dopsE (H : Hands) : List AOp → St → Tr → Option (St × Tr)
  | [], st, tr => some (st, tr)
  | o :: os, st, tr => match dopE H o st with
    | some (r, ws) => stepE st o.dst r ws fun st' => dopsE H os st' (tr ++ [(o.foot (get st.fr), ws.map (·.1))])
    | none => none

def dgrpsE (H : Hands) : List Grp → St → Tr → Option (St × Tr)
  | [], st, tr => some (st, tr)
  | ⟨none, os⟩ :: gs, st, tr => match dopsE H os st tr with
    | some (st, tr) => dgrpsE H gs st tr
    | none => none
  | ⟨some (j, b), os⟩ :: gs, st, tr => match get st.fr j with
    | .v (.bool c) => if c = b then (match dopsE H os st tr with
        | some (st, tr) => dgrpsE H gs st tr
        | none => none) else dgrpsE H gs (undefs os st) (tr ++ os.map fun _ => ([], []))
    | .v (.tuple _) => dgrpsE H gs (undefs os st) (tr ++ os.map fun _ => ([], []))
    | _ => none

/-! ### Code -/
/-- A loop, so many rounds at most. -/
def loopE (body : St → Option (List (Exit × St))) : Nat → St → Option (List (Exit × St))
  | 0, _ => none
  | n + 1, st => match body st with
    | some l => allE (fun p => match p with
      | (.normal, st) => loopE body n st
      | p => some [p]) l
    | none => none

def lpE (hp : List HObj) (id : Nat) : Option (LpSt × Nat) := match hp[id]? with
  | some (.lp s mk) => some (s, mk)
  | _ => none
theorem lpE_eq {hp : List HObj} {id s mk} (h : lpE hp id = some (s, mk)) : hpf hp id = some (.lp s mk) := by
  unfold lpE at h
  split at h
  · rename_i h1; cases h; exact h1
  · cases h

def isReady : Option (LpSt × Nat) → Nat → Bool
  | some (.ready, mk), n => mk == n
  | _, _ => false
def isBusy : Option (LpSt × Nat) → Nat → Bool
  | some (.busy, mk), n => mk == n
  | _, _ => false

def roundE (id : Nat) : Exit × St → Option (List (AV × List HObj))
  | (.normal, st) => if isBusy (lpE st.hp id) (id + 1) then some [(B true, setL st.hp id (.lp .ready (id + 1)))] else none
  | (.ret, st) => if isBusy (lpE st.hp id) (id + 1) then some [(B false, setL st.hp id (.lp (.done none) (id + 1)))] else none
  | (.exit e, st) => if isBusy (lpE st.hp id) (id + 1) then some [(B false, setL st.hp id (.lp (.done (some e)) (id + 1)))] else none
  | _ => none

def rfEndE (id : Nat) (fr : List (Nat × AV)) (ks : List Nat) (hp : List HObj) : Option (List (Exit × St)) := match lpE hp id with
  | some (.ready, _) => some [(.normal, St.keep { fr := fr, hp := setL hp id .gone } ks)]
  | some (.done none, _) => some [(.ret, { fr := fr, hp := setL hp id .gone })]
  | some (.done (some e), _) => some [(.exit e, { fr := fr, hp := setL hp id .gone })]
  | _ => none

def rfE1 (H : Hands) (fx fy : St → Option (List (Exit × St))) (g : AV) (ps ks : List Nat) (st : St) : Option (List (Exit × St)) := match H.R g st.hp (fun xs hp =>
      if isReady (lpE hp st.hp.length) (st.hp.length + 1) ∧ xs.length = ps.length then (match fx { fr := putPs ps xs st.fr, hp := hp } with
        | some l => allE (fun p => match p.1 with
          | .normal => if isReady (lpE p.2.hp st.hp.length) (st.hp.length + 1) then (match fy { fr := p.2.fr, hp := setL p.2.hp st.hp.length (.lp .busy (st.hp.length + 1)) } with
            | some l => allE (roundE st.hp.length) l
            | none => none) else none
          | _ => none) l
        | none => none) else none) with
    | some l => allE (rfEndE st.hp.length st.fr ks) l
    | none => none

def acE (H : Hands) (n : Nat) : AC → St → Option (List (Exit × St))
  | .skip, st => some [(.normal, st)]
  | .rgn gs ks, st => (grpsE H gs st).map fun l => l.map fun st => keepE st ks fun st => (.normal, st)
  | .drw gs un ks, st => match dgrpsE H gs st [] with
    | some (st, tr) => if compat tr un then keepE st ks fun st => some [(.normal, st)] else none
    | none => none
  | .seq x y, st => match acE H n x st with
    | some l => allE (fun p => match p with
      | (.normal, st) => acE H n y st
      | p => some [p]) l
    | none => none
  | .cond c x y, st => match evF (get st.fr) c with
    | .v (.bool t) => if t then acE H n x st else acE H n y st
    | _ => none
  | .block id x, st => (acE H n x st).map fun l => l.map fun p => match p.1 with
    | .exit id' => if id' = id then (.normal, p.2) else p
    | _ => p
  | .loop x, st => loopE (acE H n x) n st
  | .exit id, st => some [(.exit id, st)]
  | .ret, st => some [(.ret, st)]
  | .label _, st => some [(.normal, st)]
  | .scope x, st => match acE H n x st with
    | some l => if l.all (fun p => match p.1 with | .goto _ => false | _ => true) then some l else none
    | none => none
  | .rf g ps x y ks, st => rfE1 H (fun st => acE H n x st) (fun st => acE H n y st) (evF (get st.fr) g) ps ks st
  | .dead, _ => none

/-! ### Soundness -/
section
variable {P : Program} {E : HE} {H : Hands}

structure HOK (P : Program) (E : HE) (H : Hands) : Prop where
  C : ∀ f xs hp l, H.C f xs hp = some l → CallW P f xs hp fun r hp' => (r, hp') ∈ l
  CP : ∀ f ys q, H.CP f ys = some q → PRok P f ys q
  X : ∀ f xs hp r, H.X f xs hp = some r → ExtOK P f xs (hpf hp) r
  Y : ∀ id xs hp l, H.Y id xs hp = some l → ∃ K0, E.Y id xs hp K0 ∧ ∀ r hp', K0 r hp' → (r, hp') ∈ l
  R : ∀ v hp G l, H.R v hp G = some l → ∀ G' : List AV → List HObj → (AV → List HObj → Prop) → Prop, (∀ xs hp' l', G xs hp' = some l' → ∃ K0, G' xs hp' K0 ∧ ∀ r hp'', K0 r hp'' → (r, hp'') ∈ l') → ∃ K0, E.R v hp G' K0 ∧ ∀ hp', K0 hp' → hp' ∈ l
  fok : ∀ f, H.fok f = true → funOK P f = true

theorem callW_mono {f xs hp} {K K' : AV → List HObj → Prop} (hk : ∀ r hp', K r hp' → K' r hp') (h : CallW P f xs hp K) : CallW P f xs hp K' := fun ro n w g vs h1 h2 h3 =>
  (h ro n w g vs h1 h2 h3).mono fun e w' ⟨v, r, hp', g', e1, e2, e3⟩ => ⟨v, r, hp', g', e1, hk _ _ e2, e3⟩

theorem opE_sound (ok : HOK P E H) {o : AOp} {st : St} {l : List St} (h : opE H o st = some l) : aop P E o st fun st' => st' ∈ l := by
  have gen : ∀ {o' : AOp}, (match semE o' (evF (get st.fr)) st.hp with
      | some (r, ws) => stepE st o'.dst r ws fun st => some [st]
      | none => none) = some l → ∃ r ws, o'.sem P (evF (get st.fr)) (hpf st.hp) st.hp.length r ws ∧ st.step o'.dst r ws ∈ l := fun {o'} h => by
    split at h
    · rename_i r ws hs; rw [stepE_eq] at h; cases h
      exact ⟨r, ws, semE_eq hs, by simp⟩
    · cases h
  have calls : ∀ {d : Nat} {f xs}, ((H.C f xs st.hp).map fun l => l.map fun p => ({ fr := (d, p.1) :: st.fr, hp := p.2 } : St)) = some l → CallW P f xs st.hp fun r hp' => ({ fr := (d, r) :: st.fr, hp := hp' } : St) ∈ l := fun {d f xs} h => by
    simp only [Option.map_eq_some_iff] at h
    obtain ⟨l', h1, rfl⟩ := h
    exact callW_mono (fun r hp' hm => List.mem_map.2 ⟨_, hm, rfl⟩) (ok.C _ _ _ _ h1)
  have many : ∀ {o' : AOp}, ((manyE o' (evF (get st.fr)) st.hp).map fun l => l.map fun p => stepE st o'.dst p.1 p.2 fun st => st) = some l → o'.many (evF (get st.fr)) (hpf st.hp) st.hp.length fun r ws => st.step o'.dst r ws ∈ l := fun {o'} h => by
    simp only [Option.map_eq_some_iff] at h
    obtain ⟨l', h1, rfl⟩ := h
    exact many_mono (fun r ws hm => List.mem_map.2 ⟨_, hm, stepE_eq ..⟩) (manyE_eq h1)
  cases o with
  | call d f args => exact calls h
  | callx d f args =>
    simp only [opE, opX, Option.map_eq_some_iff] at h
    obtain ⟨r, h1, rfl⟩ := h
    exact ⟨r, ok.X _ _ _ _ h1, by simp⟩
  | callv d x args =>
    simp only [opE, opV] at h
    simp only [aop]
    generalize evF (get st.fr) x = u at h ⊢
    split at h
    · split at h
      · rename_i hf; exact ⟨ok.fok _ hf, calls h⟩
      · cases h
    · simp only [opY, Option.map_eq_some_iff] at h
      obtain ⟨l', h1, rfl⟩ := h
      obtain ⟨K0, k1, k2⟩ := ok.Y _ _ _ _ h1
      exact ⟨K0, k1, fun r hp' hk => List.mem_map.2 ⟨_, k2 r hp' hk, rfl⟩⟩
    · cases h
  | rng d x => exact many (o' := .rng d x) h
  | nxt d x => exact many (o' := .nxt d x) h
  | ent d x => exact many (o' := .ent d x) h
  | isn d b kd x => exact many (o' := .isn d b kd x) h
  | _ => exact gen h

theorem opsE_sound (ok : HOK P E H) : ∀ {os : List AOp} {st : St} {l : List St}, opsE H os st = some l → aops P E os st fun st' => st' ∈ l
  | [], st, l, h => by simp [opsE] at h; subst h; simp [aops]
  | o :: os, st, l, h => by
    simp only [opsE] at h
    split at h
    · rename_i l1 h1
      refine aop_mono (fun st1 _ hm => ?_) (opE_sound ok h1)
      obtain ⟨la, h2, h3⟩ := allE_mem h st1 hm
      exact aops_mono (fun st' hst => h3 st' hst) (opsE_sound ok h2)
    · cases h

theorem agrps_mono : ∀ {gs : List Grp} {st : St} {K K' : St → Prop}, (∀ st', K st' → K' st') → agrps P E gs st K → agrps P E gs st K'
  | [], st, K, K', hk, h => hk st h
  | ⟨none, os⟩ :: gs, st, K, K', hk, h => aops_mono (fun st' h => agrps_mono hk h) h
  | ⟨some (j, b), os⟩ :: gs, st, K, K', hk, h => by
    simp only [agrps] at h ⊢
    split at h
    · exact ⟨fun e => aops_mono (fun st' h => agrps_mono hk h) (h.1 e), fun e => agrps_mono hk (h.2 e)⟩
    · exact agrps_mono hk h
    · exact h.elim

theorem grpsE_sound (ok : HOK P E H) : ∀ {gs : List Grp} {st : St} {l : List St}, grpsE H gs st = some l → agrps P E gs st fun st' => st' ∈ l
  | [], st, l, h => by simp [grpsE] at h; subst h; simp [agrps]
  | ⟨none, os⟩ :: gs, st, l, h => by
    simp only [grpsE] at h
    split at h
    · rename_i l1 h1
      refine aops_mono (fun st1 hm => ?_) (opsE_sound ok h1)
      obtain ⟨la, h2, h3⟩ := allE_mem h st1 hm
      exact agrps_mono (fun st' hst => h3 st' hst) (grpsE_sound ok h2)
    · cases h
  | ⟨some (j, b), os⟩ :: gs, st, l, h => by
    simp only [grpsE] at h
    simp only [agrps]
    generalize get st.fr j = u at h ⊢
    split at h
    · rename_i c
      split at h
      · rename_i e
        refine ⟨fun _ => ?_, fun hne => absurd e hne⟩
        split at h
        · rename_i l1 h1
          refine aops_mono (fun st1 hm => ?_) (opsE_sound ok h1)
          obtain ⟨la, h2, h3⟩ := allE_mem h st1 hm
          exact agrps_mono (fun st' hst => h3 st' hst) (grpsE_sound ok h2)
        · cases h
      · rename_i e
        exact ⟨fun h' => absurd h' e, fun _ => grpsE_sound ok h⟩
    · exact grpsE_sound ok h
    · cases h

theorem dopE_sound (ok : HOK P E H) {o : AOp} {st : St} {r : AV} {ws : List (Nat × HObj)} (h : dopE H o st = some (r, ws)) : o.sem P (evF (get st.fr)) (hpf st.hp) st.hp.length r ws := by
  cases o with
  | call d f args =>
    simp only [dopE, dopC] at h
    split at h
    · rename_i ys ids hp1
      split at h
      · rename_i q hq; cases h
        exact ⟨ys, ids, hp1, .inl ⟨ok.CP _ _ _ hq, rfl⟩⟩
      · rename_i m sz cs hq; cases h
        exact ⟨ys, ids, hp1, .inr ⟨m, sz, cs, ok.CP _ _ _ hq, rfl, rfl⟩⟩
      · cases h
    · cases h
  | _ => exact semE_eq h

theorem dops_mono : ∀ {os : List AOp} {st : St} {tr : Tr} {K K' : St → Tr → Prop}, (∀ st' tr', K st' tr' → K' st' tr') → dops P os st tr K → dops P os st tr K'
  | [], st, tr, K, K', hk, h => hk _ _ h
  | o :: os, st, tr, K, K', hk, ⟨r, ws, h1, h2⟩ => ⟨r, ws, h1, dops_mono hk h2⟩

theorem dgrps_mono : ∀ {gs : List Grp} {st : St} {tr : Tr} {K K' : St → Tr → Prop}, (∀ st' tr', K st' tr' → K' st' tr') → dgrps P gs st tr K → dgrps P gs st tr K'
  | [], st, tr, K, K', hk, h => hk _ _ h
  | ⟨none, os⟩ :: gs, st, tr, K, K', hk, h => dops_mono (fun st' tr' h => dgrps_mono hk h) h
  | ⟨some (j, b), os⟩ :: gs, st, tr, K, K', hk, h => by
    simp only [dgrps] at h ⊢
    split at h
    · exact ⟨fun e => dops_mono (fun st' tr' h => dgrps_mono hk h) (h.1 e), fun e => dgrps_mono hk (h.2 e)⟩
    · exact dgrps_mono hk h
    · exact h.elim

theorem dopsE_sound (ok : HOK P E H) : ∀ {os : List AOp} {st st' : St} {tr tr' : Tr}, dopsE H os st tr = some (st', tr') → dops P os st tr fun s t => s = st' ∧ t = tr'
  | [], st, st', tr, tr', h => by simp [dopsE] at h; exact h
  | o :: os, st, st', tr, tr', h => by
    simp only [dopsE] at h
    split at h
    · rename_i r ws h1; rw [stepE_eq] at h; exact ⟨r, ws, dopE_sound ok h1, dopsE_sound ok h⟩
    · cases h

theorem dgrpsE_sound (ok : HOK P E H) : ∀ {gs : List Grp} {st st' : St} {tr tr' : Tr}, dgrpsE H gs st tr = some (st', tr') → dgrps P gs st tr fun s t => s = st' ∧ t = tr'
  | [], st, st', tr, tr', h => by simp [dgrpsE] at h; exact h
  | ⟨none, os⟩ :: gs, st, st', tr, tr', h => by
    simp only [dgrpsE] at h
    split at h
    · rename_i s1 t1 h1
      refine dops_mono (fun s t ⟨e1, e2⟩ => ?_) (dopsE_sound ok h1)
      subst e1 e2; exact dgrpsE_sound ok h
    · cases h
  | ⟨some (j, b), os⟩ :: gs, st, st', tr, tr', h => by
    simp only [dgrpsE] at h
    simp only [dgrps]
    generalize get st.fr j = u at h ⊢
    split at h
    · split at h
      · rename_i e
        refine ⟨fun _ => ?_, fun hne => absurd e hne⟩
        split at h
        · rename_i s1 t1 h1
          refine dops_mono (fun s t ⟨e1, e2⟩ => ?_) (dopsE_sound ok h1)
          subst e1 e2; exact dgrpsE_sound ok h
        · cases h
      · rename_i e
        exact ⟨fun h' => absurd h' e, fun _ => dgrpsE_sound ok h⟩
    · exact dgrpsE_sound ok h
    · cases h

theorem rfEnd_mono {id fr ks} {Q Q' : Exit → St → Prop} {hp} (hk : ∀ e st, Q e st → Q' e st) (h : RfEnd id fr ks Q hp) : RfEnd id fr ks Q' hp := by
  simp only [RfEnd] at h ⊢
  split at h <;> first | exact hk _ _ h | exact h

theorem awp_mono {ac : AC} : ∀ {st : St} {Q Q' : Exit → St → Prop}, (∀ e st, Q e st → Q' e st) → AWP P E ac st Q → AWP P E ac st Q' := by
  induction ac with
  | skip => intro st Q Q' hk h; exact hk _ _ h
  | rgn gs ks => intro st Q Q' hk h; exact agrps_mono (fun st' h => hk _ _ h) h
  | drw gs un ks => intro st Q Q' hk h; exact dgrps_mono (fun st' tr' h => ⟨h.1, hk _ _ h.2⟩) h
  | seq x y ih1 ih2 => intro st Q Q' hk h; exact ih1 (fun e st' h => by cases e <;> first | exact ih2 hk h | exact hk _ _ h) h
  | cond c x y ih1 ih2 =>
    intro st Q Q' hk h
    simp only [AWP] at h ⊢
    split at h
    · exact ⟨fun e => ih1 hk (h.1 e), fun e => ih2 hk (h.2 e)⟩
    · exact h.elim
  | block id x ih =>
    intro st Q Q' hk h
    refine ih (fun e st' h => ?_) h
    cases e with
    | exit id' =>
      simp only [Exit.blk] at h ⊢
      by_cases hc : id' = id
      · rw [if_pos hc] at h ⊢; exact hk _ _ h
      · rw [if_neg hc] at h ⊢; exact hk _ _ h
    | _ => exact hk _ _ h
  | loop x ih => intro st Q Q' hk ⟨α, I, C, μ, a0, h0, hle, hr⟩; exact ⟨α, I, C, μ, a0, h0, hle, fun a ha => ih (fun e st' h => by cases e <;> first | exact h | exact hk _ _ h) (hr a ha)⟩
  | exit id => intro st Q Q' hk h; exact hk _ _ h
  | ret => intro st Q Q' hk h; exact hk _ _ h
  | label _ => intro st Q Q' hk h; exact hk _ _ h
  | scope x ih => intro st Q Q' hk h; exact ih (fun e st' h => by cases e <;> first | exact hk _ _ h | exact h.elim) h
  | rf g ps x y ks ih1 ih2 => intro st Q Q' hk ⟨K0, h1, h2⟩; exact ⟨K0, h1, fun hp' hh => rfEnd_mono hk (h2 hp' hh)⟩
  | dead => intro st Q Q' hk h; exact h.elim

theorem loopE_sound {x : AC} {f : St → Option (List (Exit × St))} (hf : ∀ st l, f st = some l → AWP P E x st fun e st' => (e, st') ∈ l) {n : Nat} {st : St} {l : List (Exit × St)} (h : loopE f n st = some l) :
    AWP P E (.loop x) st fun e st' => (e, st') ∈ l := by
  refine ⟨Nat × St, fun a => a.2, fun a => ∃ l', loopE f a.1 a.2 = some l' ∧ ∀ p ∈ l', p ∈ l, fun a => a.1, (n, st), ⟨l, h, fun p hp => hp⟩, St.le.rfl' _, ?_⟩
  rintro ⟨k, s⟩ ⟨l', h1, h2⟩
  cases k with
  | zero => simp [loopE] at h1
  | succ k =>
    simp only [loopE] at h1
    split at h1
    · rename_i l1 hl1
      refine awp_mono (fun e st' hm => ?_) (hf _ _ hl1)
      obtain ⟨la, q1, q2⟩ := allE_mem h1 _ hm
      cases e with
      | normal => exact ⟨(k, st'), ⟨la, q1, fun p hp => h2 p (q2 p hp)⟩, by simp, St.le.rfl' _⟩
      | _ => cases q1; exact h2 _ (q2 _ (by simp))
    · cases h1

theorem isReady_eq {o : Option (LpSt × Nat)} {n : Nat} (h : isReady o n = true) : o = some (.ready, n) := by
  unfold isReady at h
  split at h
  · rw [eq_of_beq h]
  · cases h
theorem isBusy_eq {o : Option (LpSt × Nat)} {n : Nat} (h : isBusy o n = true) : o = some (.busy, n) := by
  unfold isBusy at h
  split at h
  · rw [eq_of_beq h]
  · cases h

theorem acE_sound (ok : HOK P E H) {n : Nat} {ac : AC} : ∀ {st : St} {l : List (Exit × St)}, acE H n ac st = some l → AWP P E ac st fun e st' => (e, st') ∈ l := by
  induction ac with
  | skip => intro st l h; simp [acE] at h; subst h; simp [AWP]
  | rgn gs ks =>
    intro st l h
    simp only [acE, Option.map_eq_some_iff] at h
    obtain ⟨l', h1, rfl⟩ := h
    exact agrps_mono (fun st' hm => List.mem_map.2 ⟨_, hm, by rw [keepE_eq]⟩) (grpsE_sound ok h1)
  | drw gs un ks =>
    intro st l h
    simp only [acE] at h
    split at h
    · rename_i s1 t1 h1
      split at h
      · rename_i hc; rw [keepE_eq] at h; cases h
        refine dgrps_mono (fun s t ⟨e1, e2⟩ => ?_) (dgrpsE_sound ok h1)
        subst e1 e2; exact ⟨hc, by simp⟩
      · cases h
    · cases h
  | seq x y ih1 ih2 =>
    intro st l h
    simp only [acE] at h
    split at h
    · rename_i l1 h1
      refine awp_mono (ac := x) (fun e st' hm => ?_) (ih1 h1)
      obtain ⟨la, q1, q2⟩ := allE_mem h _ hm
      cases e with
      | normal => exact awp_mono (fun e s hp => q2 _ hp) (ih2 q1)
      | _ => cases q1; exact q2 _ (by simp)
    · cases h
  | cond c x y ih1 ih2 =>
    intro st l h
    simp only [acE] at h
    simp only [AWP]
    generalize evF (get st.fr) c = u at h ⊢
    split at h
    · rename_i t
      cases t with
      | true => simp only [if_true] at h; exact ⟨fun _ => ih1 h, fun e => (by cases e)⟩
      | false => simp only [Bool.false_eq_true, if_false] at h; exact ⟨fun e => (by cases e), fun _ => ih2 h⟩
    · cases h
  | block id x ih =>
    intro st l h
    simp only [acE, Option.map_eq_some_iff] at h
    obtain ⟨l', h1, rfl⟩ := h
    refine awp_mono (ac := x) (fun e st' hm => ?_) (ih h1)
    cases e with
    | exit id' =>
      simp only [Exit.blk]
      split
      · rename_i hc; exact List.mem_map.2 ⟨_, hm, by simp [hc]⟩
      · rename_i hc; exact List.mem_map.2 ⟨_, hm, by simp [hc]⟩
    | _ => exact List.mem_map.2 ⟨_, hm, rfl⟩
  | loop x ih => intro st l h; exact loopE_sound (fun st l h => ih h) h
  | exit id => intro st l h; simp [acE] at h; subst h; simp [AWP]
  | ret => intro st l h; simp [acE] at h; subst h; simp [AWP]
  | label _ => intro st l h; simp [acE] at h; subst h; simp [AWP]
  | scope x ih =>
    intro st l h
    simp only [acE] at h
    split at h
    · rename_i l1 h1
      split at h
      · rename_i hc; cases h
        refine awp_mono (ac := x) (fun e st' hm => ?_) (ih h1)
        have := List.all_eq_true.1 hc _ hm
        cases e with
        | goto i => cases this
        | _ => exact hm
      · cases h
    · cases h
  | rf g ps x y ks ih1 ih2 =>
    intro st l h
    simp only [acE, rfE1] at h
    split at h
    · rename_i l1 h1
      obtain ⟨K0, k1, k2⟩ := ok.R _ _ _ _ h1 (fun xs hp K => hpf hp st.hp.length = some (.lp .ready (st.hp.length + 1)) ∧ xs.length = ps.length ∧
          AWP P E x { fr := putPs ps xs st.fr, hp := hp } (Exit.th (fun st1 => hpf st1.hp st.hp.length = some (.lp .ready (st.hp.length + 1)) ∧
            AWP P E y { fr := st1.fr, hp := setL st1.hp st.hp.length (.lp .busy (st.hp.length + 1)) } (RoundQ st.hp.length K)) (fun _ _ => False))) (fun xs hp' l' hl => by
        split at hl
        · rename_i hc
          refine ⟨fun r hp'' => (r, hp'') ∈ l', ⟨lpE_eq (isReady_eq hc.1), hc.2, ?_⟩, fun _ _ h => h⟩
          split at hl
          · rename_i l2 h2
            refine awp_mono (fun e st1 hm => ?_) (ih1 h2)
            obtain ⟨la, q1, q2⟩ := allE_mem hl _ hm
            cases e with
            | normal =>
              simp only at q1
              split at q1
              · rename_i hr
                refine ⟨lpE_eq (isReady_eq hr), ?_⟩
                split at q1
                · rename_i l3 h3
                  refine awp_mono (fun e st2 hm2 => ?_) (ih2 h3)
                  obtain ⟨lb, r1, r2⟩ := allE_mem q1 _ hm2
                  cases e with
                  | normal =>
                    simp only [roundE] at r1
                    split at r1
                    · rename_i hb; cases r1; exact ⟨lpE_eq (isBusy_eq hb), q2 _ (r2 _ (by simp))⟩
                    · cases r1
                  | ret =>
                    simp only [roundE] at r1
                    split at r1
                    · rename_i hb; cases r1; exact ⟨lpE_eq (isBusy_eq hb), q2 _ (r2 _ (by simp))⟩
                    · cases r1
                  | exit i =>
                    simp only [roundE] at r1
                    split at r1
                    · rename_i hb; cases r1; exact ⟨lpE_eq (isBusy_eq hb), q2 _ (r2 _ (by simp))⟩
                    · cases r1
                  | _ => cases r1
                · cases q1
              · cases q1
            | _ => cases q1
          · cases hl
        · cases hl)
      refine ⟨K0, k1, fun hp' hh => ?_⟩
      obtain ⟨la, q1, q2⟩ := allE_mem h _ (k2 hp' hh)
      simp only [rfEndE] at q1
      simp only [RfEnd]
      split at q1
      · rename_i hl; cases q1; rw [lpE_eq hl]; exact q2 _ (by simp)
      · rename_i hl; cases q1; rw [lpE_eq hl]; exact q2 _ (by simp)
      · rename_i hl; cases q1; rw [lpE_eq hl]; exact q2 _ (by simp)
      · cases q1
    · cases h
  | dead => intro st l h; simp [acE] at h

end
end Go.AM

/- SLICES OF UNKNOWN CAPACITY, PART 2: the room behind a private slice; results in a new place; slices.Insert. Own work. -/
set_option linter.unusedSimpArgs false
set_option linter.unusedVariables false
set_option maxRecDepth 100000
namespace Go.AM
open Go.RowKit

/-! ### Other cells for a private row -/
theorem live_recell {hp : Hp} {g : G} {id : Nat} {cs cs' : List AV} (ho : hp id = some (.cells cs)) (c : Nat) : Live (Hp.set hp id (.cells cs')) g c ↔ Live hp g c := by
  constructor
  · rintro ⟨i, o, d, h1, h2, h3⟩
    by_cases e : i = id
    · subst e; exact ⟨i, _, d, ho, rfl, h3⟩
    · rw [Hp.set_other _ _ e] at h1; exact ⟨i, o, d, h1, h2, h3⟩
  · rintro ⟨i, o, d, h1, h2, h3⟩
    by_cases e : i = id
    · subst e; exact ⟨i, _, d, Hp.set_same _ _ _, rfl, h3⟩
    · exact ⟨i, o, d, by rw [Hp.set_other _ _ e]; exact h1, h2, h3⟩

theorem HeapOK.recell {hp g w} (h : HeapOK hp g w) {id : Nat} {cs cs' : List AV} {l : Loc} (ho : hp id = some (.cells cs)) (hl : g.ρ id = some l) (hr : HRep w g (.cells cs') l) : HeapOK (Hp.set hp id (.cells cs')) g w := by
  refine ⟨fun i hi => ?_, fun i o hi => ?_, fun i i' o o' c d d' h1 h2 h3 h4 h5 h6 => ?_, h.ex⟩
  · by_cases e : i = id
    · subst e; rw [Hp.set_same] at hi; cases hi
    · rw [Hp.set_other _ _ e] at hi; exact h.dom i hi
  · by_cases e : i = id
    · subst e; rw [Hp.set_same] at hi; cases hi; exact ⟨l, hl, hr⟩
    · rw [Hp.set_other _ _ e] at hi; exact h.rep i o hi
  · have k : ∀ i o c d, Hp.set hp id (.cells cs') i = some o → o.live = true → g.ρ i = some (.blk c d) → ∃ o2, hp i = some o2 ∧ o2.live = true := fun i o c d h1 h2 h3 => by
      by_cases e : i = id
      · subst e; exact ⟨_, ho, rfl⟩
      · rw [Hp.set_other _ _ e] at h1; exact ⟨o, h1, h2⟩
    obtain ⟨o2, k1, k2⟩ := k i o c d h1 h3 h5
    obtain ⟨o3, k3, k4⟩ := k i' o' c d' h2 h4 h6
    exact h.inj i i' o2 o3 c d d' k1 k3 k2 k4 h5 h6

theorem Upd.recell {hp g w id cs cs' hp' g' w'} (ho : hp id = some (.cells cs)) (h : Upd (Hp.set hp id (.cells cs')) g w hp' g' w') : Upd hp g w hp' g' w' :=
  ⟨h.tr, fun c hc => (h.live c hc).imp_left (live_recell ho c).1, fun b o hs => (h.S b o hs).imp_right fun k => k.imp_left (live_recell ho b).1, fun b hb hn => h.keep b hb fun k => hn ((live_recell ho b).1 k)⟩
theorem Upd.recell2 {hp g w id cs cs' hp' g' w'} (ho : hp' id = some (.cells cs)) (h : Upd hp g w hp' g' w') : Upd hp g w (Hp.set hp' id (.cells cs')) g' w' :=
  ⟨h.tr, fun c hc => h.live c ((live_recell ho c).1 hc), h.S, h.keep⟩

/-- Cells of which nothing is known, up to a length. -/
def ext (cs : List AV) (L : Nat) : List AV := cs ++ List.replicate (L - cs.length) .any
theorem ext_len {cs : List AV} {L : Nat} : (ext cs L).length = max cs.length L := by simp [ext]; omega
theorem ext_view {cs : List AV} {L off n : Nat} (h : off + n ≤ cs.length) : view (ext cs L) off n = view cs off n := by
  simp only [ext, view]
  rw [List.drop_append_of_le_length (by omega), List.take_append_of_le_length (by simp; omega)]

variable {P : Program} {hp : List HObj}

/-- A private slice with all its room in sight. -/
theorem callW_ext {f : FuncId} {id off n sz : Nat} {cs : List AV} {xs : List AV} {KC : AV → List HObj → Prop} (hid : nthH hp id = some (.cells cs)) (hcs : off + n * sz ≤ cs.length)
    (h : ∀ c, n ≤ c → CallW P f (.mc id off n c sz :: xs) (setL hp id (.cells (ext cs (off + c * sz)))) KC) : CallW P f (.ms id off n sz :: xs) hp KC := by
  intro ro m w g vs hok hvs hrep
  have hid' : hpf hp id = some (.cells cs) := by rw [nthH_eq] at hid; exact hid
  have hlt := hpf_lt hid'
  obtain ⟨l, hl, hr⟩ := hok.rep id _ hid'
  have hrest : ∀ (c : Nat) (_ : Rep w g false (.mc id off n c sz) (vs.getD 0 undef)) i (hi : i < (AV.mc id off n c sz :: xs).length), Rep w g false (AV.mc id off n c sz :: xs)[i] (vs.getD i undef) := fun c h0 i hi => by
    cases i with
    | zero => exact h0
    | succ i => exact hrep (i + 1) (by simpa using hi)
  have fin : ∀ c, n ≤ c → Rep w g false (.mc id off n c sz) (vs.getD 0 undef) → HRep w g (.cells (ext cs (off + c * sz))) l → CallsIn (W ro) m P f vs w fun e w' => ∃ v r hp' g', e = .returned v ∧ KC r hp' ∧ Rep w' g' false r v ∧ HeapOK (hpf hp') g' w' ∧ Upd (hpf hp) g w (hpf hp') g' w' := fun c hc h0 h1 => by
    have hset := hpf_set (l := hp) (id := id) (o := .cells (ext cs (off + c * sz))) (Nat.le_of_lt hlt)
    refine (h c hc ro m w g vs (by rw [hset]; exact hok.recell hid' hl h1) hvs (hrest c h0)).mono ?_
    rintro e w' ⟨v, r, hp', g', rfl, k1, k2, k3, k4⟩
    rw [hset] at k4
    exact ⟨v, r, hp', g', rfl, k1, k2, k3, k4.recell hid'⟩
  have h0 := hrep 0 (by simp)
  simp only [List.getElem_cons_zero] at h0
  cases hv : vs.getD 0 undef <;> rw [hv] at h0 <;> try (cases h0; done)
  rename_i base nn cap
  cases h0 with
  | ms _ _ _ _ c d _ arr ty fz hl' hn hb hs =>
    rw [hl'] at hl; cases hl
    refine fin cap hn (by rw [hv]; exact .mc id off n cap sz c d arr ty fz hl' hn hb hs) ?_
    obtain ⟨arr', ty', fz', g1, g2, g3, g4, g5⟩ := hr
    rw [hb] at g1; cases g1
    refine ⟨arr, ty, fz, hb, by rw [ext_len]; omega, g3, g4, fun i hi => ?_⟩
    rw [ext_len] at hi
    by_cases e : i < cs.length
    · obtain ⟨x, h1, h2⟩ := g5 i e
      refine ⟨x, h1, ?_⟩
      simp only [ext]
      rw [List.getElem_append_left e]; exact h2
    · refine ⟨arr[d + i]'(by omega), by simp [show d + i < arr.size by omega], ?_⟩
      simp only [ext]
      rw [List.getElem_append_right (by omega), List.getElem_replicate]
      exact .any _ _
  | msz _ _ _ a l' hl' =>
    refine fin 0 (Nat.le_refl _) (by rw [hv]; exact .mcz id off sz _ l' hl') ?_
    have : ext cs (off + 0 * sz) = cs := by simp only [ext]; rw [show off + 0 * sz - cs.length = 0 by omega]; simp
    rw [this]; exact hr

theorem callW_mono' {f : FuncId} {xs : List AV} {K K' : AV → List HObj → Prop} (hk : ∀ r hp', K r hp' → K' r hp') (h : CallW P f xs hp K) : CallW P f xs hp K' := fun ro n w g vs h1 h2 h3 =>
  (h ro n w g vs h1 h2 h3).mono fun e w' ⟨v, r, hp', g', e1, e2, e3⟩ => ⟨v, r, hp', g', e1, hk _ _ e2, e3⟩

theorem callW_drop {f : FuncId} {xs : List AV} {KC : AV → List HObj → Prop} (h : CallW P f xs hp fun r hp' => KC r hp' ∨ ∃ id o, nthH hp' id = some o ∧ KC r (setL hp' id .gone)) : CallW P f xs hp KC := by
  intro ro m w g vs hok hvs hrep
  refine (h ro m w g vs hok hvs hrep).mono ?_
  rintro e w' ⟨v, r, hp', g', rfl, hk | ⟨id, o, ho, hk⟩, h1, h2, h3⟩
  · exact ⟨v, r, hp', g', rfl, hk, h1, h2, h3⟩
  · rw [nthH_eq] at ho
    have ho' : hpf hp' id = some o := ho
    obtain ⟨s1, s2⟩ := h2.drop ho'
    rw [← hpf_set (Nat.le_of_lt (hpf_lt ho'))] at s1 s2
    exact ⟨v, r, _, g', rfl, hk, h1, s1, h3.trans s2⟩

/-- A result that is part of a private row, moved to a place of its own. -/
theorem callW_move {f : FuncId} {xs : List AV} {KC : AV → List HObj → Prop} (h : CallW P f xs hp fun r hp' => KC r hp' ∨ ∃ id off n c sz cs, r = .mc id off n c sz ∧ nthH hp' id = some (.cells cs) ∧ off + n * sz ≤ cs.length ∧
      KC (.ms hp'.length 0 n sz) (writeL hp' [(id, .gone), (hp'.length, .cells (view cs off (n * sz)))])) : CallW P f xs hp KC := by
  intro ro m w g vs hok hvs hrep
  refine (h ro m w g vs hok hvs hrep).mono ?_
  rintro e w' ⟨v, r, hp', g', rfl, hk | ⟨id, off, n, c, sz, cs, rfl, ho, hle, hk⟩, h1, h2, h3⟩
  · exact ⟨v, r, hp', g', rfl, hk, h1, h2, h3⟩
  · rw [nthH_eq] at ho
    have ho' : hpf hp' id = some (.cells cs) := ho
    have hlt := hpf_lt ho'
    have hn : hpf hp' hp'.length = none := by simp [hpf]
    have hne : id ≠ hp'.length := by omega
    have hw : hpf (writeL hp' [(id, .gone), (hp'.length, .cells (view cs off (n * sz)))]) = Hp.set (Hp.set (hpf hp') id .gone) hp'.length (.cells (view cs off (n * sz))) := by
      rw [hpf_write (by simp; omega)]; rfl
    cases h1 with
    | mc _ _ _ _ _ cb dd arr ty fz hl hn' hb hsz =>
      obtain ⟨s1, s2⟩ := h2.rename ho' hl hn (show off ≤ cs.length by omega)
      have hview : view cs off (n * sz) = (cs.drop off).take (n * sz) := rfl
      have hset : Hp.set (Hp.set (hpf hp') id .gone) hp'.length (.cells (cs.drop off)) hp'.length = some (.cells (cs.drop off)) := Hp.set_same _ _ _
      obtain ⟨l, q1, q2⟩ := s1.rep _ _ hset
      simp [G.home] at q1; subst q1
      obtain ⟨arr', ty', fz', g1, g2, g3, g4, g5⟩ := q2
      have s3 := s1.recell (cs' := view cs off (n * sz)) hset (l := .blk cb (dd + off)) (by simp [G.home]) ⟨arr', ty', fz', g1, by rw [hview]; simp at g2 ⊢; omega, g3, g4, fun i hi => by
        rw [hview] at hi
        have hi2 := hi
        rw [List.length_take] at hi2
        obtain ⟨x, k1, k2⟩ := g5 i (by omega)
        refine ⟨x, k1, ?_⟩
        simp only [hview, List.getElem_take]
        exact k2⟩
      have s4 := s2.recell2 (cs' := view cs off (n * sz)) hset
      rw [Hp.set_set] at s3 s4
      refine ⟨_, _, _, _, rfl, hk, ?_, by rw [hw]; exact s3, by rw [hw]; exact h3.trans s4⟩
      have := Rep.ms (w := w') (g := g'.home hp'.length (.blk cb (dd + off))) hp'.length 0 n sz cb (dd + off) c arr ty fz (by simp [G.home]) hn' hb (by omega)
      simpa using this
    | mcz _ _ _ a l hl =>
      obtain ⟨s1, s2⟩ := h2.drop ho'
      obtain ⟨s3, s4⟩ := s1.virgin (id := hp'.length) (by rw [Hp.set_other _ _ (Ne.symm hne)]; exact hn)
      have hv0 : view cs off (0 * sz) = [] := by simp [view]
      rw [hv0] at hw hk
      exact ⟨_, _, _, _, rfl, hk, Rep.msz (w := w') (g := g'.home hp'.length .virg) hp'.length 0 sz a .virg (by simp [G.home]), by rw [hw]; exact s3, by rw [hw]; exact (h3.trans s2).trans s4⟩

variable {E : HE} {K : AV → List (Nat × HObj) → Prop}
theorem app_grow {sz bytes id off n c m : Nat} {y : AV} {ys cs : List AV} (hc : nthH hp id = some (.cells cs)) (he : elems (hpf hp) sz y = some (m, ys)) (hp1 : (ys.all AV.isPC) = true) (h1 : off + n * sz ≤ cs.length)
    (hb : (n + m) * bytes ≤ 140737488355328) (hb2 : n + m ≤ 140737488355328) (hr : c < n + m) (k : K (.ms hp.length 0 (n + m) sz) [(hp.length, .cells (view cs off (n * sz) ++ ys))]) : AppW hp sz bytes (.mc id off n c sz) y K := by
  have hc : hpf hp id = some (.cells cs) := by rw [nthH_eq] at hc; exact hc
  refine ⟨m, ys, he, hp1, _, _, ?_, k⟩
  simp only [semApp, hc]
  exact ⟨trivial, h1, hb, hb2, .inr ⟨hr, trivial, trivial⟩⟩

theorem w_appz_grow {d sz bytes id off n c m : Nat} {z : List AV} {cs : List AV} {x k : Opd} {F : Nat → AV} (hx : evF F x = .mc id off n c sz) (hk : evF F k = I m) (hc : nthH hp id = some (.cells cs)) (h1 : off + n * sz ≤ cs.length)
    (hb : (n + m) * bytes ≤ 140737488355328) (hb2 : n + m ≤ 140737488355328) (hr : c < n + m) (kk : K (.ms hp.length 0 (n + m) sz) [(hp.length, .cells (view cs off (n * sz) ++ zrep m z))]) : (AOp.appz d sz bytes z x k).wp P F hp K := by
  have hc : hpf hp id = some (.cells cs) := by rw [nthH_eq] at hc; exact hc
  refine ⟨_, _, ⟨m, hk, ?_⟩, kk⟩
  simp only [semApp, hx, hc]
  exact ⟨trivial, h1, hb, hb2, .inr ⟨hr, trivial, trivial⟩⟩

theorem w_cpy_of {d sz id off n m : Nat} {ys cs : List AV} {x y : Opd} {F : Nat → AV} (hx : evF F x = .ms id off n sz ∨ ∃ c, evF F x = .mc id off n c sz) (hy : elems (hpf hp) sz (evF F y) = some (m, ys)) (hpc : ((ys.take (min m n * sz)).all AV.isPC) = true)
    (hc : nthH hp id = some (.cells cs)) (h1 : off + n * sz ≤ cs.length) (k : K (I (min m n : Nat)) [(id, .cells (splice cs off (ys.take (min m n * sz))))]) : (AOp.cpy d sz x y).wp P F hp K := by
  have hc : hpf hp id = some (.cells cs) := by rw [nthH_eq] at hc; exact hc
  refine ⟨_, _, ?_, k⟩
  rcases hx with hx | ⟨c, hx⟩
  · simp only [AOp.sem, hx]; exact ⟨m, ys, cs, hy, hpc, hc, trivial, h1, rfl, rfl⟩
  · simp only [AOp.sem, hx]; exact ⟨m, ys, cs, hy, hpc, hc, trivial, h1, rfl, rfl⟩

theorem callx_of {d : Nat} {f : FuncId} {args : List Opd} {os : List AOp} {fr : List (Nat × AV)} {r : AV} {KS : St → Prop} (h : ExtOK P f (args.map (evF (get fr))) (hpf hp) r) (k : aops P E os ⟨(d, r) :: fr, hp⟩ KS) : aops P E (.callx d f args :: os) ⟨fr, hp⟩ KS :=
  ⟨r, h, k⟩

theorem fin_move {id : Nat} {o x : HObj} (hlt : id < hp.length) : writeL (hp.set id o) [(id, .gone), ((hp.set id o).length, x)] = writeL hp [(id, .gone), (hp.length, x)] := by
  simp [writeL, setL, hlt]
theorem fin_drop {id : Nat} {o x : HObj} (hlt : id < hp.length) : setL (hp.set id o ++ [x]) id .gone = writeL hp [(id, .gone), (hp.length, x)] := by
  have : id < hp.length + 1 := by omega
  simp [writeL, setL, hlt, this, List.set_append]

def InsK (KC : AV → List HObj → Prop) (r : AV) (hp' : List HObj) : Prop := (KC r hp' ∨ ∃ id o, nthH hp' id = some o ∧ KC r (setL hp' id .gone)) ∨ ∃ id off n c sz cs, r = .mc id off n c sz ∧ nthH hp' id = some (.cells cs) ∧ off + n * sz ≤ cs.length ∧
      KC (.ms hp'.length 0 n sz) (writeL hp' [(id, .gone), (hp'.length, .cells (view cs off (n * sz)))])

theorem callW_insK {f : FuncId} {xs : List AV} {KC : AV → List HObj → Prop} (h : CallW P f xs hp (InsK KC)) : CallW P f xs hp KC := by
  refine callW_drop (callW_move (callW_mono' (fun r hp' hk => ?_) h))
  rcases hk with (hk | hk) | hk
  · exact .inl (.inl hk)
  · exact .inl (.inr hk)
  · obtain ⟨id, off, n, c, sz, cs, h1, h2, h3, h4⟩ := hk; exact .inr ⟨id, off, n, c, sz, cs, h1, h2, h3, .inl h4⟩

theorem insK_move {KC : AV → List HObj → Prop} {id off n c sz : Nat} {cs : List AV} (hlt : id < hp.length) (h3 : off + n * sz ≤ cs.length) (h4 : KC (.ms hp.length 0 n sz) (writeL hp [(id, .gone), (hp.length, .cells (view cs off (n * sz)))])) :
    InsK KC (.mc id off n c sz) (hp.set id (.cells cs)) := by
  refine .inr ⟨id, off, n, c, sz, cs, rfl, by rw [nthH_eq]; simp [hlt], h3, ?_⟩
  rw [fin_move hlt, List.length_set]; exact h4
theorem insK_drop {KC : AV → List HObj → Prop} {id : Nat} {r : AV} {o x : HObj} (hlt : id < hp.length) (h4 : KC r (writeL hp [(id, .gone), (hp.length, x)])) : InsK KC r (hp.set id o ++ [x]) := by
  refine .inl (.inr ⟨id, o, ?_, ?_⟩)
  · rw [nthH_eq, List.getElem?_append_left (by simpa using hlt)]; simp [hlt]
  · rw [fin_drop hlt]; exact h4

/-! ### slices.Insert -/
def GIns (by' : Nat) (z : List AV) (xf rf : FuncId) : AC := (.seq (.rgn [⟨none, [(.mv 6 (.k (.sl true 0 [])))]⟩] [0, 1, 2]) (.seq (.rgn [⟨none, [(.mv 10 (.t 0)), (.mv 11 (.t 1)), (.slc 12 1 (.t 10) (some (.t 11)) none none)]⟩] [0, 1, 2]) (.seq (.rgn [⟨none, [(.mv 13 (.t 2)), (.len 14 (.t 13)), (.mv 7 (.t 14))]⟩] [0, 1, 2, 7]) (.seq (.seq (.rgn [⟨none, [(.mv 15 (.t 7)), (.bin 16 .eql (.t 15) (.k (I 0)))]⟩] [0, 1, 2, 7, 16]) (.cond (.t 16) (.seq (.rgn [⟨none, [(.mv 17 (.t 0)), (.mv 6 (.t 17))]⟩] [6]) .ret) .skip)) (.seq (.rgn [⟨none, [(.mv 18 (.t 0)), (.len 19 (.t 18)), (.mv 8 (.t 19))]⟩] [0, 1, 2, 7, 8]) (.seq (.seq (.rgn [⟨none, [(.mv 20 (.t 1)), (.mv 21 (.t 8)), (.bin 22 .eql (.t 20) (.t 21))]⟩] [0, 1, 2, 7, 8, 22]) (.cond (.t 22) (.seq (.rgn [⟨none, [(.mv 23 (.t 0)), (.mv 24 (.t 2)), (.app 25 1 by' (.t 23) (.t 24)), (.mv 6 (.t 25))]⟩] [6]) .ret) .skip)) (.seq (.seq (.rgn [⟨none, [(.mv 26 (.t 8)), (.mv 27 (.t 7)), (.bin 28 .add (.t 26) (.t 27)), (.mv 29 (.t 0)), (.cap 30 (.t 29)), (.bin 31 .gtr (.t 28) (.t 30))]⟩] [0, 1, 2, 7, 8, 31]) (.cond (.t 31) (.seq (.rgn [⟨none, [(.mv 32 (.t 0)), (.mv 33 (.t 1)), (.slc 34 1 (.t 32) none (some (.t 33)) none), (.mv 35 (.t 8)), (.mv 36 (.t 7)), (.bin 37 .add (.t 35) (.t 36)), (.mv 38 (.t 1)), (.bin 39 .sub (.t 37) (.t 38)), (.appz 40 1 by' z (.t 34) (.t 39)), (.mv 9 (.t 40))]⟩] [0, 1, 2, 7, 9]) (.seq (.rgn [⟨none, [(.mv 41 (.t 9)), (.mv 42 (.t 1)), (.slc 43 1 (.t 41) (some (.t 42)) none none), (.mv 44 (.t 2)), (.cpy 45 1 (.t 43) (.t 44))]⟩] [0, 1, 7, 9]) (.seq (.drw [⟨none, [(.mv 46 (.t 9)), (.mv 47 (.t 1)), (.mv 48 (.t 7)), (.bin 49 .add (.t 47) (.t 48)), (.slc 50 1 (.t 46) (some (.t 49)) none none), (.mv 51 (.t 0)), (.mv 52 (.t 1)), (.slc 53 1 (.t 51) (some (.t 52)) none none), (.cpy 54 1 (.t 50) (.t 53))]⟩] [] [9]) (.seq (.rgn [⟨none, [(.mv 55 (.t 9)), (.mv 6 (.t 55))]⟩] [6]) .ret)))) .skip)) (.seq (.rgn [⟨none, [(.mv 56 (.t 0)), (.mv 57 (.t 8)), (.mv 58 (.t 7)), (.bin 59 .add (.t 57) (.t 58)), (.slc 60 1 (.t 56) none (some (.t 59)) none), (.mv 0 (.t 60))]⟩] [0, 1, 2, 7, 8]) (.seq (.seq (.rgn [⟨none, [(.mv 61 (.t 2)), (.mv 62 (.t 0)), (.mv 63 (.t 1)), (.mv 64 (.t 7)), (.bin 65 .add (.t 63) (.t 64)), (.slc 66 1 (.t 62) (some (.t 65)) none none), (.callx 67 xf [(.t 61), (.t 66)]), (.un 68 .not (.t 67))]⟩] [0, 1, 2, 7, 8, 68]) (.cond (.t 68) (.seq (.drw [⟨none, [(.mv 69 (.t 0)), (.mv 70 (.t 1)), (.mv 71 (.t 7)), (.bin 72 .add (.t 70) (.t 71)), (.slc 73 1 (.t 69) (some (.t 72)) none none), (.mv 74 (.t 0)), (.mv 75 (.t 1)), (.slc 76 1 (.t 74) (some (.t 75)) none none), (.cpy 77 1 (.t 73) (.t 76))]⟩] [] [0, 1, 2]) (.seq (.rgn [⟨none, [(.mv 78 (.t 0)), (.mv 79 (.t 1)), (.slc 80 1 (.t 78) (some (.t 79)) none none), (.mv 81 (.t 2)), (.cpy 82 1 (.t 80) (.t 81))]⟩] [0]) (.seq (.rgn [⟨none, [(.mv 83 (.t 0)), (.mv 6 (.t 83))]⟩] [6]) .ret))) .skip)) (.seq (.rgn [⟨none, [(.mv 84 (.t 0)), (.mv 85 (.t 8)), (.slc 86 1 (.t 84) (some (.t 85)) none none), (.mv 87 (.t 2)), (.cpy 88 1 (.t 86) (.t 87))]⟩] [0, 1, 7]) (.seq (.rgn [⟨none, [(.mv 89 (.t 0)), (.mv 90 (.t 1)), (.slc 91 1 (.t 89) (some (.t 90)) none none), (.mv 92 (.t 7)), (.call 93 rf [(.t 91), (.t 92)])]⟩] [0]) (.seq (.rgn [⟨none, [(.mv 94 (.t 0)), (.mv 6 (.t 94))]⟩] [6]) .ret))))))))))))

theorem view_put {A ys D : List AV} {off n : Nat} (h : off + n ≤ A.length) : view (A.take (off + n) ++ (ys ++ D)) off (n + ys.length) = view A off n ++ ys := by
  simp only [view]
  rw [List.drop_append_of_le_length (by simp; omega), List.drop_take, show off + n - off = n by omega, ← List.append_assoc, List.take_left']
  simp; omega

def insCells (V : List AV) (i : Nat) (ys : List AV) : List AV := V.take i ++ (ys ++ V.drop i)

theorem ins_view {xs V ys : List AV} {off n i m : Nat} (hV : view xs off n = V) (hl : off + n + m ≤ xs.length) (hys : ys.length = m) (hi : i ≤ n) :
    view (splice (splice xs (off + (i + m)) (V.drop i)) (off + i) ys) off (n + m) = insCells V i ys := by
  have hVl : V.length = n := by rw [← hV]; simp [view]; omega
  simp only [splice, insCells, List.append_assoc]
  generalize xs.drop (off + (i + m) + (V.drop i).length) = D
  have t1 : (xs.take (off + (i + m)) ++ (V.drop i ++ D)).take (off + i) = xs.take (off + i) := by
    rw [List.take_append_of_le_length (by simp; omega), List.take_take, Nat.min_eq_left (by omega)]
  have t2 : (xs.take (off + (i + m)) ++ (V.drop i ++ D)).drop (off + i + ys.length) = V.drop i ++ D := List.drop_left' (by simp; omega)
  rw [t1, t2]
  have t3 : (xs.take (off + i)).drop off = V.take i := by rw [List.drop_take, show off + i - off = i by omega, ← hV, view, List.take_take, Nat.min_eq_left hi]
  simp only [view]
  rw [List.drop_append_of_le_length (by simp; omega), t3]
  rw [show V.take i ++ (ys ++ (V.drop i ++ D)) = (V.take i ++ (ys ++ V.drop i)) ++ D by simp]
  exact List.take_left' (by simp; omega)

theorem insert_ok {f : FuncId} {fn : Func} {by' : Nat} {z : List AV} {xf rf : FuncId} (hf : P.funcs[f]? = some fn) (hform : formOf P fn [6] = some (GIns by' z xf rf)) (hr : resTmps fn.results.toList = some [6]) (hnt : 3 ≤ fn.ntmps) (hz : z.length = 1) (hzpc : (z.all AV.isPC) = true)
    {id off n i m : Nat} {g : Bool} {cs ys : List AV} {KC : AV → List HObj → Prop} (hx : ∀ (h : Hp) (id' off' n' c' : Nat) (bs : List AV), h id' = some (.cells bs) → ExtOK P xf [.sl g m ys, .mc id' off' n' c' 1] h (B false))
    (hid : nthH hp id = some (.cells cs)) (hi : i ≤ n) (hcs : off + n ≤ cs.length) (hpc : ((view cs off n).all AV.isPC) = true) (hys : ys.length = m) (hypc : (ys.all AV.isPC) = true) (hb : (n + m) * by' ≤ 140737488355328) (hb2 : n + m ≤ 140737488355328)
    (hK : KC (.ms hp.length 0 (n + m) 1) (writeL hp [(id, .gone), (hp.length, .cells (insCells (view cs off n) i ys))])) : CallW P f [.ms id off n 1, I i, .sl g m ys] hp KC := by
  refine callW_ext hid (by omega) fun c hc => callW_insK ?_
  have hlt : id < hp.length := by rw [nthH_eq] at hid; exact hpf_lt hid
  have hne : id ≠ hp.length := by omega
  simp only [Nat.mul_one]
  have hE : setL hp id (.cells (ext cs (off + c))) = hp.set id (.cells (ext cs (off + c))) := by rw [setL, if_pos hlt]
  rw [hE]
  have hX : nthH (hp.set id (.cells (ext cs (off + c)))) id = some (.cells (ext cs (off + c))) := by rw [nthH_eq]; simp [hlt]
  have hXl : off + c ≤ (ext cs (off + c)).length := by rw [ext_len]; omega
  have hXv : view (ext cs (off + c)) off n = view cs off n := ext_view hcs
  generalize ext cs (off + c) = xs at hX hXl hXv ⊢
  have hVl : (view cs off n).length = n := by simp [view]; omega
  generalize view cs off n = V at hpc hK hXv hVl
  have K1 : ∀ x, x = insCells V i ys → KC (.ms hp.length 0 (n + m) 1) (writeL hp [(id, .gone), (hp.length, .cells x)]) := fun x e => by rw [e]; exact hK
  refine walk hf hform hr hnt ?_
  simp (disch := omega) [GIns]
  refine slc_mc_of (l := i) (h := n) (m := c) rfl rfl rfl hi hc (Nat.le_refl _) ?_
  simp (disch := omega)
  refine c_split (fun h => ?_) (fun h => ?_)
  · -- nothing to put in
    have h : m = 0 := by simp at h; omega
    subst h
    simp (disch := omega)
    have hy0 : ys = [] := List.eq_nil_of_length_eq_zero hys
    subst hy0
    refine insK_move hlt (by omega) (K1 _ ?_)
    rw [Nat.mul_one, hXv]; simp [insCells]
  · have h : m ≠ 0 := by simp at h; omega
    simp (disch := omega)
    refine c_split (fun h1 => ?_) (fun h1 => ?_)
    · -- at the end
      have h1 : i = n := by simp at h1; omega
      subst h1
      simp (disch := omega)
      by_cases hroom : i + m ≤ c
      · refine app_in hX (by simp [elems, hys]) hypc (by omega) hb hb2 hroom ?_
        simp (disch := omega) [hlt]
        refine insK_move hlt ?_ (K1 _ ?_)
        · simp; omega
        · have := view_put (A := xs) (ys := ys) (D := xs.drop (off + i + ys.length)) (off := off) (n := i) (by omega)
          rw [hys, hXv] at this
          rw [Nat.mul_one, hys, this, insCells, List.take_of_length_le (by omega), List.drop_of_length_le (by omega)]; simp
      · refine app_grow hX (by simp [elems, hys]) hypc (by omega) hb hb2 (by omega) ?_
        simp (disch := omega) [hlt]
        refine insK_drop hlt (K1 _ ?_)
        rw [show List.take i (List.drop off xs) = V from hXv, insCells, List.take_of_length_le (by omega), List.drop_of_length_le (by omega)]; simp
    · have h1 : i ≠ n := by simp at h1; omega
      simp (disch := omega) [w_cap, wrap_id]
      refine c_split (fun h2 => ?_) (fun h2 => ?_)
      · -- a new row
        have h2 : c < n + m := by simp at h2; omega
        simp (disch := omega) [wrap_id]
        refine slc_mc_of (l := 0) (h := i) (m := c) rfl rfl rfl (Nat.zero_le _) (by omega) (Nat.le_refl _) ?_
        simp (disch := omega) [wrap_id]
        refine w_appz_grow (m := n + m - i) rfl (by simp [I_inj]; omega) hX (by omega) (by rw [show i + (n + m - i) = n + m by omega]; exact hb) (by omega) (by omega) ?_
        rw [show i + (n + m - i) = n + m by omega]
        simp (disch := omega) [wrap_id]
        have hPl : (List.take i (List.drop off xs)).length = i := by simp; omega
        have hzl : (zrep (n + m - i) z).length = n + m - i := zrep_len1 hz _
        have hPV : List.take i (List.drop off xs) = V.take i := by rw [← hXv, view, List.take_take, Nat.min_eq_left hi]
        generalize List.take i (List.drop off xs) = p0 at hPl hPV ⊢
        generalize zrep (n + m - i) z = z0 at hzl ⊢
        have hE2 : ∀ X Y, setL (hp.set id (.cells xs) ++ [.cells X]) hp.length (.cells Y) = hp.set id (.cells xs) ++ [.cells Y] := fun X Y => by simp [setL, List.set_append]
        have hN : ∀ X, nthH (hp.set id (.cells xs) ++ [.cells X]) hp.length = some (.cells X) := fun X => by rw [nthH_eq]; simp
        have hO : ∀ X, nthH (hp.set id (.cells xs) ++ [.cells X]) id = some (.cells xs) := fun X => by rw [nthH_eq, List.getElem?_append_left (by simpa using hlt)]; simp [hlt]
        have hsub : ∀ h : List HObj, nthH h id = some (.cells xs) → elems (hpf h) 1 (.mc id (off + i) (n - i) (c - i) 1) = some (n - i, V.drop i) := fun h hh => by
          rw [elems_mc hh (by omega), Nat.mul_one, ← hXv]
          simp only [view, List.drop_take, List.drop_drop]
        refine slc_ms_of (l := i) (h := n + m) rfl rfl trivial (by omega) (Nat.le_refl _) ?_
        simp (disch := omega) [wrap_id, -setL]
        refine w_cpy_of (m := m) (.inl rfl) (by simp [elems, hys]) (pc_take hypc _) (hN _) (by simp; omega) ?_
        simp (disch := omega) [wrap_id, -setL, hE2]
        rw [show ys.take m = ys from List.take_of_length_le (by omega)]
        refine slc_ms_of (l := i + m) (h := n + m) (by simp [I_inj]) rfl trivial (by omega) (Nat.le_refl _) ?_
        simp (disch := omega) [wrap_id, -setL]
        refine slc_mc_of (l := i) (h := n) (m := c) rfl rfl rfl hi hc (Nat.le_refl _) ?_
        simp (disch := omega) [wrap_id, -setL]
        refine w_cpy_of (m := n - i) (.inl rfl) (by simp; exact hsub _ (hO _)) (pc_take (pc_drop hpc _) _) (hN _) (by simp; omega) ?_
        simp (disch := omega) [wrap_id, -setL, hE2]
        refine insK_drop hlt (K1 _ ?_)
        have a1 : List.take (n - i) (List.drop i V) = List.drop i V := List.take_of_length_le (by rw [List.length_drop]; omega)
        have a2 : ∀ R : List AV, List.take (i + m) (p0 ++ (ys ++ R)) = p0 ++ ys := fun R => by rw [← List.append_assoc]; exact List.take_left' (by rw [List.length_append]; omega)
        have a3 : List.drop (i + m + (n - i)) (p0 ++ (ys ++ List.drop (i + m) (p0 ++ z0))) = [] := List.drop_of_length_le (by rw [List.length_append, List.length_append, List.length_drop, List.length_append]; omega)
        rw [a1, a2, a3, hPV]
        simp [insCells]
      · -- in place
        have h2 : n + m ≤ c := by simp at h2; omega
        simp (disch := omega) [wrap_id]
        refine slc_mc_of (l := 0) (h := n + m) (m := c) rfl (by simp) rfl (Nat.zero_le _) (by omega) (Nat.le_refl _) ?_
        simp (disch := omega) [wrap_id]
        refine slc_mc_of (l := i + m) (h := n + m) (m := c) (by simp) rfl rfl (by omega) (by omega) (Nat.le_refl _) ?_
        simp (disch := omega) [wrap_id]
        have hE2 : ∀ X Y : List AV, setL (hp.set id (.cells X)) id (.cells Y) = hp.set id (.cells Y) := fun X Y => by simp [setL, hlt]
        have hN : ∀ X : List AV, nthH (hp.set id (.cells X)) id = some (.cells X) := fun X => by rw [nthH_eq]; simp [hlt]
        refine callx_of (r := B false) (by simp; exact hx _ _ _ _ _ xs (by rw [nthH_eq] at hX; exact hX)) ?_
        simp (disch := omega) [wrap_id]
        refine slc_mc_of (l := i + m) (h := n + m) (m := c) (by simp [I_inj]) rfl rfl (by omega) (by omega) (Nat.le_refl _) ?_
        simp (disch := omega) [wrap_id, -setL]
        refine slc_mc_of (l := i) (h := n + m) (m := c) rfl rfl rfl (by omega) (by omega) (Nat.le_refl _) ?_
        simp (disch := omega) [wrap_id, -setL]
        have hmin : min (n + m - i) (n + m - (i + m)) * 1 = n - i := by omega
        have htk : (view xs (off + i) ((n + m - i) * 1)).take (min (n + m - i) (n + m - (i + m)) * 1) = V.drop i := by
          rw [hmin, ← hXv]
          simp only [view, List.drop_take, List.drop_drop, List.take_take]
          congr 1; omega
        have hel : elems (hpf (hp.set id (.cells xs))) 1 (.mc id (off + i) (n + m - i) (c - i) 1) = some (n + m - i, view xs (off + i) ((n + m - i) * 1)) := elems_mc hX (by omega)
        refine w_cpy_of (id := id) (off := off + (i + m)) (n := n + m - (i + m)) (m := n + m - i) (ys := view xs (off + i) ((n + m - i) * 1)) (.inr ⟨_, rfl⟩) (by simp; simpa using hel) (by rw [htk]; exact pc_drop hpc _) hX (by omega) ?_
        rw [htk]
        simp (disch := omega) [wrap_id, -setL, hE2, -splice]
        refine slc_mc_of (l := i) (h := n + m) (m := c) rfl rfl rfl (by omega) (by omega) (Nat.le_refl _) ?_
        simp (disch := omega) [wrap_id, -setL, -splice]
        refine w_cpy_of (id := id) (off := off + i) (n := n + m - i) (m := m) (ys := ys) (.inr ⟨_, rfl⟩) (by simp [elems, hys]) (pc_take hypc _) (hN _) (by simp; omega) ?_
        simp (disch := omega) [wrap_id, -setL, hE2, -splice]
        rw [show ys.take m = ys from List.take_of_length_le (by omega)]
        refine insK_move hlt ?_ (K1 _ ?_)
        · simp; omega
        · rw [Nat.mul_one]; exact ins_view hXv (by omega) hys hi

end Go.AM

/- THE EVALUATOR, PART 3: a table of functions; what it finds holds of their calls. Own work. -/
set_option linter.unusedSimpArgs false
set_option linter.unusedVariables false
namespace Go.AM
open Go.RowKit

/-- A function as the evaluator knows it. md: run alone in an empty heap when nothing of the heap is handed to it. -/
structure Code where
  f : FuncId
  md : Bool
  n : Nat
  rc : RC
  ac : AC

def CodeOK (P : Program) (c : Code) : Prop := ∃ fn ts, P.funcs[c.f]? = some fn ∧ formOf P fn ts = some c.ac ∧ resCs P fn.results.toList = some c.rc ∧ c.n ≤ fn.ntmps ∧ funOK P c.f = true

theorem codeOK {P : Program} {c : Code} {fn : Func} {ts : List Nat} (h1 : P.funcs[c.f]? = some fn) (h2 : formOf P fn ts = some c.ac) (h3 : resCs P fn.results.toList = some c.rc) (h4 : Nat.ble c.n fn.ntmps = true) (h5 : funOK P c.f = true) : CodeOK P c :=
  ⟨fn, ts, h1, h2, h3, Nat.le_of_ble_eq_true h4, h5⟩

/-- Results of a call. -/
def resE (hp : List HObj) (fr : List (Nat × AV)) : RC → Option (List AV)
  | [] => some []
  | (t, none) :: r => match resE hp fr r with
    | some xs => some (get fr t :: xs)
    | none => none
  | (a, some (agg, sz)) :: r => match semE (.ld 0 agg sz (.t a)) (evF (get fr)) hp, resE hp fr r with
    | some (x, []), some xs => some (x :: xs)
    | _, _ => none

theorem resE_eq {hp fr} : ∀ {rc : RC} {xs : List AV}, resE hp fr rc = some xs → resC (hpf hp) fr rc xs
  | [], xs, h => by simp [resE] at h; subst h; trivial
  | (t, none) :: r, xs, h => by
    simp only [resE] at h
    split at h
    · rename_i ys hy; cases h; exact ⟨rfl, resE_eq hy⟩
    · cases h
  | (a, some (agg, sz)) :: r, xs, h => by
    simp only [resE] at h
    split at h
    · rename_i x ys h1 h2; cases h
      exact ⟨semE_eq (P := default) h1, resE_eq h2⟩
    · cases h

def retE (rc : RC) : Exit × St → Option (List (AV × List HObj))
  | (.normal, st) | (.ret, st) => match resE st.hp st.fr rc with
    | some xs => fList (fAV 6) xs fun xs => some [(tupOf xs, st.hp)]
    | none => none
  | _ => none

def runE (H : Hands) (n : Nat) (c : Code) (xs : List AV) (hp : List HObj) : Option (List (AV × List HObj)) :=
  if Nat.ble xs.length c.n then match acE H n c.ac { fr := argFr 0 xs, hp := hp } with
    | some l => allE (retE c.rc) l
    | none => none
  else none

section
variable {P : Program} {H : Hands}

theorem retE_sound {E : HE} {ac : AC} {st : St} {rc : RC} {l : List (Exit × St)} {l' : List (AV × List HObj)} (h1 : AWP P E ac st fun e st' => (e, st') ∈ l) (h2 : allE (retE rc) l = some l') : AWP P E ac st (RetC rc fun r hp' => (r, hp') ∈ l') := by
  refine awp_mono (fun e st' hm => ?_) h1
  obtain ⟨la, q1, q2⟩ := allE_mem h2 _ hm
  have go : (match resE st'.hp st'.fr rc with | some xs => fList (fAV 6) xs fun xs => some [(tupOf xs, st'.hp)] | none => none) = some la → ∃ xs, resC (hpf st'.hp) st'.fr rc xs ∧ (tupOf xs, st'.hp) ∈ l' := fun h => by
    split at h
    · rename_i xs hx; rw [fList_eq (fAV_eq 6)] at h; cases h; exact ⟨xs, resE_eq hx, q2 _ (by simp)⟩
    · cases h
  cases e with
  | normal => exact go q1
  | ret => exact go q1
  | _ => cases q1

theorem runE_sound (ok : HOK P (E1 P) H) {n : Nat} {c : Code} (hc : CodeOK P c) {xs : List AV} {hp : List HObj} {l : List (AV × List HObj)} (h : runE H n c xs hp = some l) : CallW P c.f xs hp fun r hp' => (r, hp') ∈ l := by
  obtain ⟨fn, ts, h1, h2, h3, h4, h5⟩ := hc
  unfold runE at h
  split at h
  · rename_i hl
    split at h
    · rename_i l1 hl1
      exact callW_of h1 h2 h3 (Nat.le_trans (Nat.le_of_ble_eq_true hl) h4) (retE_sound (acE_sound ok hl1) h)
    · cases h
  · cases h
end

/-! ### Equal results -/
def vEq : Value → Value → Bool
  | .int k a, .int k' b => decide (k = k') && a == b
  | .bool a, .bool b => a == b
  | _, _ => false
theorem vEq_eq {x y : Value} (h : vEq x y = true) : x = y := by
  unfold vEq at h
  split at h
  · simp at h; rw [h.1, h.2]
  · simp at h; rw [h]
  · cases h
def eqL {α : Type} (f : α → α → Bool) : List α → List α → Bool
  | [], [] => true
  | a :: as, b :: bs => f a b && eqL f as bs
  | _, _ => false
theorem eqL_eq {α : Type} {f : α → α → Bool} (hf : ∀ a b, f a b = true → a = b) : ∀ {as bs : List α}, eqL f as bs = true → as = bs
  | [], [], _ => rfl
  | [], b :: bs, h => by cases h
  | a :: as, [], h => by cases h
  | a :: as, b :: bs, h => by
    simp only [eqL, Bool.and_eq_true] at h
    rw [hf _ _ h.1, eqL_eq hf h.2]
def avEq : Nat → AV → AV → Bool
  | 0 => fun _ _ => false
  | k + 1 => fun x y => match x, y with
    | .v x, .v y => vEq x y
    | .sl f n cs, .sl f' n' cs' => (f == f' && Nat.beq n n') && eqL (avEq k) cs cs'
    | .agg cs, .agg cs' => eqL (avEq k) cs cs'
    | .tup cs, .tup cs' => eqL (avEq k) cs cs'
    | _, _ => false
theorem avEq_eq : ∀ {k : Nat} {x y : AV}, avEq k x y = true → x = y := by
  intro k
  induction k with
  | zero => intro x y h; cases h
  | succ k ih =>
    intro x y h
    have L : ∀ {as bs : List AV}, eqL (avEq k) as bs = true → as = bs := fun h => eqL_eq (fun a b hab => ih hab) h
    simp only [avEq] at h
    split at h
    · rw [vEq_eq h]
    · simp only [Bool.and_eq_true, beq_iff_eq] at h; rw [h.1.1, Nat.eq_of_beq_eq_true h.1.2, L h.2]
    · rw [L h]
    · rw [L h]
    · cases h

/-! ### A function alone -/
def outE : Option (List (AV × List HObj)) → Option PR
  | some [(.ms id 0 m sz, hp)] => match cellsE hp id with
    | some cs => if cs.all AV.isPC then some (.made m sz cs) else none
    | none => none
  | some ((x, hp) :: l) => match purify (hpf hp) x with
    | some (y, _) => if l.all (fun p => match purify (hpf p.2) p.1 with
        | some (y', _) => avEq 8 y y'
        | none => false) then some (.val y) else none
    | none => none
  | _ => none

theorem outE_sound {P : Program} {f : FuncId} {ys : List AV} {o : Option (List (AV × List HObj))} {q : PR} (h : outE o = some q) (hc : ∀ l, o = some l → CallW P f ys [] fun r hp' => (r, hp') ∈ l) : PRok P f ys q := by
  unfold outE at h
  split at h
  · rename_i id m sz hp
    split at h
    · rename_i cs hcs
      split at h
      · rename_i hall; cases h
        refine made_of hall (callW_mono (fun r hp' hm => ?_) (hc _ rfl))
        simp only [List.mem_singleton, Prod.mk.injEq] at hm
        obtain ⟨rfl, rfl⟩ := hm
        exact ⟨id, rfl, cellsE_eq hcs⟩
      · cases h
    · cases h
  · rename_i x hp l hne
    split at h
    · rename_i y is hy
      split at h
      · rename_i hall
        cases h
        refine pure_of (callW_mono (fun r hp' hm => ?_) (hc _ rfl))
        rcases List.mem_cons.1 hm with hm | hm
        · cases hm; exact ⟨is, hy⟩
        · have := List.all_eq_true.1 hall _ hm
          dsimp only at this
          split at this
          · rename_i y' is' hy'
            rw [avEq_eq this]; exact ⟨is', hy'⟩
          · cases this
      · cases h
    · cases h
  · cases h

/-! ### Functions known by hand: slices.Delete and slices.Insert -/
inductive KnF where
  | del
  | ins (xf rf : FuncId)
structure Kn where
  f : FuncId
  k : KnF
  by' : Nat
  z : List AV

def KnF.form (k : KnF) (by' : Nat) (z : List AV) : AC := match k with
  | .del => GDel by' z
  | .ins xf rf => GIns by' z xf rf

structure KnOK (P : Program) (k : Kn) : Prop where
  ex : ∃ fn, P.funcs[k.f]? = some fn ∧ formOf P fn [6] = some (k.k.form k.by' k.z) ∧ resTmps fn.results.toList = some [6] ∧ 3 ≤ fn.ntmps
  z : k.z.length = 1
  zp : (k.z.all AV.isPC) = true
  x : ∀ xf rf, k.k = .ins xf rf → ∀ (g : Bool) (m : Nat) (ys : List AV), ys.length = m → ∀ (h : Hp) (id' off' n' c' : Nat) (bs : List AV), h id' = some (.cells bs) → ExtOK P xf [.sl g m ys, .mc id' off' n' c' 1] h (B false)

def knMs (k : Kn) (id off n : Nat) (xs : List AV) (hp : List HObj) : Option (List (AV × List HObj)) := match cellsE hp id with
  | none => none
  | some cs => if off + n ≤ cs.length ∧ ((view cs off n).all AV.isPC) = true then (match k.k, xs with
    | .del, [a, b] => match natI a, natI b with
      | some i, some j => if i ≤ j ∧ j ≤ n ∧ n * k.by' ≤ 140737488355328 ∧ n ≤ 140737488355328 then some [(.ms id off (n - (j - i)) 1, setL hp id (.cells (delCells k.z cs off n i j)))] else none
      | _, _ => none
    | .ins _ _, [a, .sl _ m ys] => match natI a with
      | some i => if i ≤ n ∧ ys.length = m ∧ (ys.all AV.isPC) = true ∧ (n + m) * k.by' ≤ 140737488355328 ∧ n + m ≤ 140737488355328 then some [(.ms hp.length 0 (n + m) 1, writeL hp [(id, .gone), (hp.length, .cells (insCells (view cs off n) i ys))])] else none
      | none => none
    | _, _ => none) else none

def knE (k : Kn) (xs : List AV) (hp : List HObj) : Option (List (AV × List HObj)) := match xs with
  | .ms id off n 1 :: xs => knMs k id off n xs hp
  | .mc id off n _ 1 :: xs => knMs k id off n xs hp
  | _ => none

def findK (f : FuncId) : List Kn → Option Kn
  | [] => none
  | k :: ks => if Nat.beq k.f f then some k else findK f ks

theorem findK_eq {f : FuncId} : ∀ {ks : List Kn} {k : Kn}, findK f ks = some k → k ∈ ks ∧ k.f = f
  | [], c, h => by cases h
  | d :: cs, c, h => by
    simp only [findK] at h
    split at h
    · rename_i he; cases h; exact ⟨by simp, Nat.eq_of_beq_eq_true he⟩
    · obtain ⟨h1, h2⟩ := findK_eq h; exact ⟨by simp [h1], h2⟩

theorem callW_mc {P : Program} {f : FuncId} {id off n c sz : Nat} {xs : List AV} {hp : List HObj} {KC : AV → List HObj → Prop} (h : CallW P f (.ms id off n sz :: xs) hp KC) : CallW P f (.mc id off n c sz :: xs) hp KC := by
  intro ro m w g vs hok hvs hrep
  refine h ro m w g vs hok hvs fun i hi => ?_
  cases i with
  | zero => exact mc_ms (hrep 0 (by simp))
  | succ i => exact hrep (i + 1) (by simpa using hi)

theorem knMs_ok {P : Program} {k : Kn} (hk : KnOK P k) {id off n : Nat} {xs : List AV} {hp : List HObj} {l : List (AV × List HObj)} (h : knMs k id off n xs hp = some l) : CallW P k.f (.ms id off n 1 :: xs) hp fun r hp' => (r, hp') ∈ l := by
  obtain ⟨⟨fn, h1, h2, h3, h4⟩, hz, hzp, hx⟩ := hk
  unfold knMs at h
  split at h
  · cases h
  · rename_i cs hcs
    have hcs' : nthH hp id = some (.cells cs) := by rw [nthH_eq]; exact cellsE_eq hcs
    split at h
    · rename_i hc
      obtain ⟨c1, c2⟩ := hc
      split at h
      · rename_i a b hkk
        split at h
        · rename_i i j hi hj
          split at h
          · rename_i hc; cases h
            obtain ⟨d1, d2, d3, d4⟩ := hc
            rw [natI_eq hi, natI_eq hj]
            rw [hkk] at h2
            refine delete_ok h1 h2 h3 h4 hz hcs' d1 d2 c1 ?_ d3 d4 (by simp)
            have e : view cs (off + j) (n - j) = (view cs off n).drop j := by simp only [view, List.drop_take, List.drop_drop]
            rw [e]; exact pc_drop c2 _
          · cases h
        · cases h
      · rename_i xf rf a g m ys hkk
        split at h
        · rename_i i hi
          split at h
          · rename_i hc; cases h
            obtain ⟨d1, d2, d3, d4, d5⟩ := hc
            rw [natI_eq hi]
            rw [hkk] at h2
            exact insert_ok h1 h2 h3 h4 hz hzp (fun h id' off' n' c' bs hb => hx xf rf hkk g m ys d2 h id' off' n' c' bs hb) hcs' d1 c1 c2 d2 d3 d4 d5 (by simp)
          · cases h
        · cases h
      · cases h
    · cases h

theorem knE_ok {P : Program} {k : Kn} (hk : KnOK P k) {xs : List AV} {hp : List HObj} {l : List (AV × List HObj)} (h : knE k xs hp = some l) : CallW P k.f xs hp fun r hp' => (r, hp') ∈ l := by
  unfold knE at h
  split at h
  · exact knMs_ok hk h
  · exact callW_mc (knMs_ok hk h)
  · cases h

/-! ### Functions whose answers are known -/
structure Hk where
  f : FuncId
  g : List AV → Option AV
def HkOK (P : Program) (h : Hk) : Prop := ∀ ys r, h.g ys = some r → PureOK P h.f ys r

def findH (f : FuncId) : List Hk → Option Hk
  | [] => none
  | k :: ks => if Nat.beq k.f f then some k else findH f ks

theorem findH_eq {f : FuncId} : ∀ {ks : List Hk} {k : Hk}, findH f ks = some k → k ∈ ks ∧ k.f = f
  | [], c, h => by cases h
  | d :: cs, c, h => by
    simp only [findH] at h
    split at h
    · rename_i he; cases h; exact ⟨by simp, Nat.eq_of_beq_eq_true he⟩
    · obtain ⟨h1, h2⟩ := findH_eq h; exact ⟨by simp [h1], h2⟩

def hookE (hs : List Hk) (f : FuncId) (xs : List AV) (hp : List HObj) : Option (List (AV × List HObj)) := match findH f hs with
  | some h => (match purifyAll (hpf hp) xs with
    | some (ys, ids) => (match h.g ys with
      | some r => fAV 6 r fun r => some [(r, writeL hp (bif r.scalar then [] else gones ids))]
      | none => none)
    | none => none)
  | none => none
def hookP (hs : List Hk) (f : FuncId) (ys : List AV) : Option PR := match findH f hs with
  | some h => (match h.g ys with
    | some r => fAV 6 r fun r => some (.val r)
    | none => none)
  | none => none

theorem hookE_ok {P : Program} {hs : List Hk} (ok : ∀ h ∈ hs, HkOK P h) {f xs hp l} (h : hookE hs f xs hp = some l) : CallW P f xs hp fun r hp' => (r, hp') ∈ l := by
  unfold hookE at h
  split at h
  · rename_i k hk
    obtain ⟨h1, rfl⟩ := findH_eq hk
    split at h
    · rename_i ys ids hp1
      split at h
      · rename_i r hr
        rw [fAV_eq] at h; cases h
        exact callW_pure hp1 (ok k h1 _ _ hr) (by simp)
      · cases h
    · cases h
  · cases h
theorem hookP_ok {P : Program} {hs : List Hk} (ok : ∀ h ∈ hs, HkOK P h) {f ys q} (h : hookP hs f ys = some q) : PRok P f ys q := by
  unfold hookP at h
  split at h
  · rename_i k hk
    obtain ⟨h1, rfl⟩ := findH_eq hk
    split at h
    · rename_i r hr
      rw [fAV_eq] at h; cases h
      exact ok k h1 _ _ hr
    · cases h
  · cases h

/-! ### A table -/
structure Tab (P : Program) where
  hks : List Hk
  hok : ∀ h ∈ hks, HkOK P h
  codes : List Code
  ok : ∀ c ∈ codes, CodeOK P c
  kns : List Kn
  kok : ∀ k ∈ kns, KnOK P k
  x : FuncId → List AV → List HObj → Option AV
  xok : ∀ f xs hp r, x f xs hp = some r → ExtOK P f xs (hpf hp) r

def findE (f : FuncId) : List Code → Option Code
  | [] => none
  | c :: cs => if Nat.beq c.f f then some c else findE f cs

theorem findE_eq {f : FuncId} : ∀ {cs : List Code} {c : Code}, findE f cs = some c → c ∈ cs ∧ c.f = f
  | [], c, h => by cases h
  | d :: cs, c, h => by
    simp only [findE] at h
    split at h
    · rename_i he; cases h; exact ⟨by simp, Nat.eq_of_beq_eq_true he⟩
    · obtain ⟨h1, h2⟩ := findE_eq h; exact ⟨by simp [h1], h2⟩

def pureE (H : Hands) (n : Nat) (c : Code) (ys : List AV) : Option PR := outE (runE H n c ys [])

def callE (cs : List Code) (ks : List Kn) (H : Hands) (n : Nat) (f : FuncId) (xs : List AV) (hp : List HObj) : Option (List (AV × List HObj)) := match findK f ks with
  | some k => knE k xs hp
  | none => match findE f cs with
  | none => none
  | some c => if c.md then (match purifyAll (hpf hp) xs with
      | some (ys, []) => match pureE H n c ys with
        | some (.val r) => some [(r, hp)]
        | some (.made m sz cs) => some [(.ms hp.length 0 m sz, writeL hp [(hp.length, .cells cs)])]
        | none => none
      | _ => runE H n c xs hp) else runE H n c xs hp

def rfE (cs : List Code) (H : Hands) (n : Nat) (v : AV) (hp : List HObj) (G : List AV → List HObj → Option (List (AV × List HObj))) : Option (List (List HObj)) := match v with
  | .fn (.func f) [] caps => match findE f cs with
    | some c => if Nat.ble (caps.length + 1) c.n then (match acE { H with Y := fun id xs hp' => if Nat.beq id hp.length then G xs hp' else none, R := fun _ _ _ => none } n c.ac { fr := argFr 0 (.yl hp.length :: caps), hp := hp ++ [.lp .ready (hp.length + 1), .gone] } with
        | some l => (allE (retE c.rc) l).map fun l => l.map (·.2)
        | none => none) else none
    | none => none
  | _ => none

def hands (hs : List Hk) (cs : List Code) (ks : List Kn) (x : FuncId → List AV → List HObj → Option AV) (n : Nat) : Nat → Hands
  | 0 => ⟨fun _ _ _ => none, fun _ _ => none, fun _ _ _ => none, fun _ _ _ => none, fun _ _ _ => none, fun _ => false⟩
  | k + 1 => { C := fun f xs hp => (match hookE hs f xs hp with
                 | some l => some l
                 | none => callE cs ks (hands hs cs ks x n k) n f xs hp),
               CP := fun f ys => match hookP hs f ys with
                 | some q => some q
                 | none => (match findE f cs with
                   | some c => pureE (hands hs cs ks x n k) n c ys
                   | none => none),
               X := x, Y := fun _ _ _ => none, R := rfE cs (hands hs cs ks x n k) n, fok := fun f => (findE f cs).isSome }

theorem hands_ok {P : Program} (T : Tab P) {n : Nat} : ∀ k, HOK P (E1 P) (hands T.hks T.codes T.kns T.x n k)
  | 0 => ⟨fun _ _ _ _ h => (by cases h), fun _ _ _ h => (by cases h), fun _ _ _ _ h => (by cases h), fun _ _ _ _ h => (by cases h), fun _ _ _ _ h => (by cases h), fun _ h => (by cases h)⟩
  | k + 1 => by
    have ih := hands_ok T (n := n) k
    have pureS : ∀ {c : Code} {ys q}, c ∈ T.codes → pureE (hands T.hks T.codes T.kns T.x n k) n c ys = some q → PRok P c.f ys q := fun {c ys q} hc h => outE_sound h fun l hl => runE_sound ih (T.ok c hc) hl
    refine ⟨?_, ?_, T.xok, fun _ _ _ _ h => (by cases h), ?_, ?_⟩
    · intro f xs hp l h
      simp only [hands] at h
      split at h
      · rename_i l' hl'; cases h; exact hookE_ok T.hok hl'
      simp only [callE] at h
      split at h
      · rename_i kk hkf
        obtain ⟨hk, rfl⟩ := findK_eq hkf
        exact knE_ok (T.kok kk hk) h
      split at h
      · cases h
      · rename_i c hcf
        obtain ⟨hc, rfl⟩ := findE_eq hcf
        split at h
        · split at h
          · rename_i ys hpur
            split at h
            · rename_i r hr; cases h
              refine callW_pure hpur (pureS hc hr) ?_
              cases r.scalar <;> simp [gones, writeL]
            · rename_i m sz cs hr; cases h
              refine callW_made hpur (pureS hc hr) ?_
              simp [gones]
            · cases h
          · exact runE_sound ih (T.ok c hc) h
        · exact runE_sound ih (T.ok c hc) h
    · intro f ys q h
      simp only [hands] at h
      split at h
      · rename_i q' hq'; cases h; exact hookP_ok T.hok hq'
      split at h
      · rename_i c hcf
        obtain ⟨hc, rfl⟩ := findE_eq hcf
        exact pureS hc h
      · cases h
    · intro v hp G l h G' hG
      simp only [hands, rfE] at h
      split at h
      · rename_i f caps
        split at h
        · rename_i c hcf
          obtain ⟨hc, rfl⟩ := findE_eq hcf
          split at h
          · rename_i hl
            split at h
            · rename_i l1 hl1
              simp only [Option.map_eq_some_iff] at h
              obtain ⟨l2, hl2, rfl⟩ := h
              obtain ⟨fn, ts, h1, h2, h3, h4, h5⟩ := T.ok c hc
              refine ⟨fun hp' => hp' ∈ l2.map (·.2), ⟨c.f, caps, fn, c.ac, ts, c.rc, rfl, h5, h1, h2, h3, Nat.le_trans (Nat.le_of_ble_eq_true hl) h4, ?_⟩, fun _ h => h⟩
              have hok : HOK P ⟨fun id xs hp' K => id = hp.length ∧ G' xs hp' K, noR⟩ { hands T.hks T.codes T.kns T.x n k with Y := fun id xs hp' => if Nat.beq id hp.length then G xs hp' else none, R := fun _ _ _ => none } :=
                ⟨ih.C, ih.CP, ih.X, fun id xs hp' l h => (by
                  dsimp only at h
                  split at h
                  · rename_i he
                    obtain ⟨K0, k1, k2⟩ := hG _ _ _ h
                    exact ⟨K0, ⟨Nat.eq_of_beq_eq_true he, k1⟩, k2⟩
                  · cases h), fun _ _ _ _ h => (by cases h), ih.fok⟩
              refine awp_mono (fun e st' hm => ?_) (retE_sound (acE_sound hok hl1) hl2)
              cases e with
              | normal => obtain ⟨xs, q1, q2⟩ := hm; exact ⟨xs, q1, List.mem_map.2 ⟨_, q2, rfl⟩⟩
              | ret => obtain ⟨xs, q1, q2⟩ := hm; exact ⟨xs, q1, List.mem_map.2 ⟨_, q2, rfl⟩⟩
              | _ => exact hm.elim
            · cases h
          · cases h
        · cases h
      · cases h
    · intro f h
      simp only [hands, Option.isSome_iff_exists] at h
      obtain ⟨c, hcf⟩ := h
      obtain ⟨hc, rfl⟩ := findE_eq hcf
      exact (T.ok c hc).elim fun _ ⟨_, _, _, _, _, h⟩ => h

/-- What the evaluator finds for a function alone holds. -/
def evalE (hs : List Hk) (cs : List Code) (ks : List Kn) (x : FuncId → List AV → List HObj → Option AV) (n k : Nat) (f : FuncId) (ys : List AV) : Option PR := (hands hs cs ks x n (k + 1)).CP f ys

theorem evalE_ok {P : Program} (T : Tab P) {n k : Nat} {f : FuncId} {ys : List AV} {r : AV} (h : evalE T.hks T.codes T.kns T.x n k f ys = some (.val r)) : PureOK P f ys r := (hands_ok T (k + 1)).CP _ _ _ h

end Go.AM

/- THE COMPILED FORMS of functions of the program, each held against its body by the kernel. Own work (printed by a program of this claim). -/
set_option maxRecDepth 100000
namespace Go.AM
open Go.RowKit Go.Proofs

/-- oxgall/oxgalllaw02.StrokeBenches -/
def G3 : AC := (.seq (.rgn [⟨none, [(.box 2 2 (.t 0)), (.mv 4 (.k (B false)))]⟩] [1, 2]) (.seq (.seq (.rgn [⟨none, [(.ld 5 true 2 (.t 2)), (.call 6 18 [(.t 5)]), (.mv 7 (.t 6))]⟩, ⟨(some (7, false)), [(.mv 8 (.t 1)), (.len 9 (.t 8)), (.bin 10 .gtr (.t 9) (.k (I 70)))]⟩, ⟨none, [(.pick 11 (.t 7) (.k (B true)) (.t 10))]⟩] [1, 2, 11]) (.cond (.t 11) (.seq (.rgn [⟨none, [(.call 12 19 []), (.mv 4 (.t 12))]⟩] [4]) .ret) .skip)) (.seq (.drw [⟨none, [(.ld 13 true 2 (.t 2)), (.call 14 20 [(.t 13)]), (.ld 15 true 2 (.t 2)), (.call 16 21 [(.t 15)]), (.bin 17 .eql (.t 14) (.t 16)), (.mv 18 (.t 17))]⟩, ⟨(some (18, true)), [(.ld 19 true 2 (.t 2)), (.mv 20 (.t 1)), (.call 21 22 [(.t 19), (.t 20)]), (.ld 22 true 2 (.t 2)), (.mv 23 (.t 1)), (.call 24 23 [(.t 22), (.t 23)]), (.bin 25 .eql (.t 21) (.t 24))]⟩, ⟨none, [(.pick 26 (.t 18) (.t 25) (.k (B false))), (.mv 27 (.t 26))]⟩, ⟨(some (27, true)), [(.call 28 19 [])]⟩, ⟨none, [(.pick 29 (.t 27) (.t 28) (.k (B false))), (.mv 4 (.t 29))]⟩] [(0, 2), (1, 2), (6, 9), (8, 9)] [4]) .ret)))
theorem form3 : formOf Try.prog Try.f3 [4] = some G3 := by kernel_rfl
theorem res3 : resTmps Try.f3.results.toList = some [4] := by kernel_rfl

/-- oxgall/oxgalllaw02.StrokeShorts -/
def G4 : AC := (.seq (.rgn [⟨none, [(.box 3 2 (.t 0)), (.mv 6 (.k (B false)))]⟩] [1, 2, 3]) (.seq (.seq (.rgn [⟨none, [(.ld 11 true 2 (.t 3)), (.call 12 18 [(.t 11)]), (.mv 13 (.t 12))]⟩, ⟨(some (13, false)), [(.mv 14 (.t 1)), (.len 15 (.t 14)), (.bin 16 .gtr (.t 15) (.k (I 70)))]⟩, ⟨none, [(.pick 17 (.t 13) (.k (B true)) (.t 16)), (.mv 18 (.t 17))]⟩, ⟨(some (18, false)), [(.mv 19 (.t 2)), (.len 20 (.t 19)), (.bin 21 .gtr (.t 20) (.k (I 70)))]⟩, ⟨none, [(.pick 22 (.t 18) (.k (B true)) (.t 21))]⟩] [1, 2, 3, 22]) (.cond (.t 22) (.seq (.rgn [⟨none, [(.call 23 19 []), (.mv 6 (.t 23))]⟩] [6]) .ret) .skip)) (.seq (.rgn [⟨none, [(.ld 25 true 2 (.t 3)), (.mv 26 (.t 1)), (.call 27 24 [(.t 25), (.t 26)]), (.mv 24 (.t 27)), (.ext 28 (.t 24) 0), (.ext 29 (.t 24) 1), (.mv 7 (.t 28)), (.mv 8 (.t 29))]⟩] [1, 2, 3, 7, 8]) (.seq (.rgn [⟨none, [(.ld 31 true 2 (.t 3)), (.mv 32 (.t 1)), (.call 33 25 [(.t 31), (.t 32)]), (.mv 30 (.t 33)), (.ext 34 (.t 30) 0), (.ext 35 (.t 30) 1), (.mv 9 (.t 34)), (.mv 10 (.t 35))]⟩] [1, 2, 3, 7, 8, 9, 10]) (.seq (.drw [⟨none, [(.mv 36 (.t 7)), (.mv 37 (.t 9)), (.call 38 26 [(.t 36), (.t 37)]), (.mv 39 (.t 38))]⟩, ⟨(some (39, true)), [(.mv 40 (.t 8)), (.mv 41 (.t 10)), (.bin 42 .eql (.t 40) (.t 41))]⟩, ⟨none, [(.pick 43 (.t 39) (.t 42) (.k (B false))), (.mv 44 (.t 43))]⟩, ⟨(some (44, true)), [(.ld 45 true 2 (.t 3)), (.mv 46 (.t 1)), (.mv 47 (.t 2)), (.call 48 27 [(.t 45), (.t 46), (.t 47)]), (.ld 49 true 2 (.t 3)), (.mv 50 (.t 1)), (.mv 51 (.t 2)), (.call 52 28 [(.t 49), (.t 50), (.t 51)]), (.bin 53 .eql (.t 48) (.t 52))]⟩, ⟨none, [(.pick 54 (.t 44) (.t 53) (.k (B false))), (.mv 55 (.t 54))]⟩, ⟨(some (55, true)), [(.call 56 19 [])]⟩, ⟨none, [(.pick 57 (.t 55) (.t 56) (.k (B false))), (.mv 6 (.t 57))]⟩] [(9, 13), (12, 13)] [6]) .ret)))))
theorem form4 : formOf Try.prog Try.f4 [6] = some G4 := by kernel_rfl
theorem res4 : resTmps Try.f4.results.toList = some [6] := by kernel_rfl

/-- oxgall/oxgalllaw02.StrokeChains -/
def G5 : AC := (.seq (.rgn [⟨none, [(.box 4 2 (.t 0)), (.mv 8 (.k (B false)))]⟩] [1, 2, 3, 4]) (.seq (.seq (.rgn [⟨none, [(.ld 12 true 2 (.t 4)), (.call 13 18 [(.t 12)]), (.mv 14 (.t 13))]⟩, ⟨(some (14, false)), [(.mv 15 (.t 1)), (.len 16 (.t 15)), (.bin 17 .gtr (.t 16) (.k (I 70)))]⟩, ⟨none, [(.pick 18 (.t 14) (.k (B true)) (.t 17)), (.mv 19 (.t 18))]⟩, ⟨(some (19, false)), [(.mv 20 (.t 2)), (.len 21 (.t 20)), (.bin 22 .gtr (.t 21) (.k (I 70)))]⟩, ⟨none, [(.pick 23 (.t 19) (.k (B true)) (.t 22)), (.mv 24 (.t 23))]⟩, ⟨(some (24, false)), [(.mv 25 (.t 3)), (.len 26 (.t 25)), (.bin 27 .gtr (.t 26) (.k (I 200))), (.mv 28 (.t 27))]⟩, ⟨(some (28, true)), [(.mv 29 (.t 3)), (.len 30 (.t 29)), (.bin 31 .leq (.t 30) (.k (I 8192)))]⟩, ⟨(some (24, false)), [(.pick 32 (.t 28) (.t 31) (.k (B false)))]⟩, ⟨none, [(.pick 33 (.t 24) (.k (B true)) (.t 32)), (.mv 34 (.t 33))]⟩, ⟨(some (34, false)), [(.mv 35 (.t 3)), (.len 36 (.t 35)), (.bin 37 .gtr (.t 36) (.k (I 8200)))]⟩, ⟨none, [(.pick 38 (.t 34) (.k (B true)) (.t 37))]⟩] [1, 2, 3, 4, 38]) (.cond (.t 38) (.seq (.rgn [⟨none, [(.call 39 19 []), (.mv 8 (.t 39))]⟩] [8]) .ret) .skip)) (.seq (.rgn [⟨none, [(.ld 41 true 2 (.t 4)), (.mv 42 (.t 1)), (.mv 43 (.t 2)), (.call 44 29 [(.t 41), (.t 42), (.t 43)]), (.mv 40 (.t 44)), (.ext 45 (.t 40) 0), (.ext 46 (.t 40) 1), (.mv 9 (.t 45)), (.mv 10 (.t 46))]⟩] [1, 2, 3, 4, 9, 10]) (.seq (.rgn [⟨none, [(.ld 47 true 2 (.t 4)), (.mv 48 (.t 1)), (.mv 49 (.t 2)), (.call 50 28 [(.t 47), (.t 48), (.t 49)]), (.mv 11 (.t 50))]⟩] [1, 2, 3, 4, 9, 10, 11]) (.seq (.seq (.drw [⟨none, [(.mv 51 (.t 10)), (.mv 52 (.t 11)), (.bin 53 .neq (.t 51) (.t 52)), (.mv 54 (.t 53))]⟩, ⟨(some (54, false)), [(.ld 55 true 2 (.t 4)), (.mv 56 (.t 1)), (.mv 57 (.t 2)), (.mv 58 (.t 3)), (.call 59 30 [(.t 55), (.t 56), (.t 57), (.t 58)]), (.ld 60 true 2 (.t 4)), (.mv 61 (.t 1)), (.mv 62 (.t 2)), (.mv 63 (.t 3)), (.call 64 31 [(.t 60), (.t 61), (.t 62), (.t 63)]), (.bin 65 .neq (.t 59) (.t 64))]⟩, ⟨none, [(.pick 66 (.t 54) (.k (B true)) (.t 65))]⟩] [(4, 9), (8, 9)] [1, 2, 4, 9, 11, 66]) (.cond (.t 66) (.seq (.rgn [⟨none, [(.mv 8 (.k (B false)))]⟩] [8]) .ret) .skip)) (.seq (.seq (.rgn [⟨none, [(.mv 67 (.t 11)), (.bin 68 .neq (.t 67) (.k (I 0)))]⟩] [1, 2, 4, 9, 68]) (.cond (.t 68) (.seq (.rgn [⟨none, [(.mv 69 (.t 9)), (.len 70 (.t 69)), (.bin 71 .eql (.t 70) (.k (I 0))), (.mv 72 (.t 71))]⟩, ⟨(some (72, true)), [(.call 73 19 [])]⟩, ⟨none, [(.pick 74 (.t 72) (.t 73) (.k (B false))), (.mv 8 (.t 74))]⟩] [8]) .ret) .skip)) (.seq (.rgn [⟨none, [(.ld 75 true 2 (.t 4)), (.mv 76 (.t 1)), (.mv 77 (.t 2)), (.mv 78 (.t 9)), (.call 79 31 [(.t 75), (.t 76), (.t 77), (.t 78)]), (.bin 80 .eql (.t 79) (.k (I 0))), (.mv 81 (.t 80))]⟩, ⟨(some (81, true)), [(.call 82 19 [])]⟩, ⟨none, [(.pick 83 (.t 81) (.t 82) (.k (B false))), (.mv 8 (.t 83))]⟩] [8]) .ret)))))))
theorem form5 : formOf Try.prog Try.f5 [8] = some G5 := by kernel_rfl
theorem res5 : resTmps Try.f5.results.toList = some [8] := by kernel_rfl

/-- oxgall/oxgalllaw02.StrokeRounds -/
def G6 : AC := (.seq (.rgn [⟨none, [(.box 3 2 (.t 0)), (.mv 6 (.k (B false)))]⟩] [1, 2, 3]) (.seq (.seq (.rgn [⟨none, [(.ld 23 true 2 (.t 3)), (.call 24 18 [(.t 23)]), (.mv 25 (.t 24))]⟩, ⟨(some (25, false)), [(.mv 26 (.t 1)), (.len 27 (.t 26)), (.bin 28 .gtr (.t 27) (.k (I 70)))]⟩, ⟨none, [(.pick 29 (.t 25) (.k (B true)) (.t 28)), (.mv 30 (.t 29))]⟩, ⟨(some (30, false)), [(.mv 31 (.t 2)), (.len 32 (.t 31)), (.bin 33 .gtr (.t 32) (.k (I 70)))]⟩, ⟨none, [(.pick 34 (.t 30) (.k (B true)) (.t 33))]⟩] [1, 2, 3, 34]) (.cond (.t 34) (.seq (.rgn [⟨none, [(.call 35 19 []), (.mv 6 (.t 35))]⟩] [6]) .ret) .skip)) (.seq (.rgn [⟨none, [(.ld 37 true 2 (.t 3)), (.mv 38 (.t 1)), (.call 39 32 [(.t 37), (.t 38)]), (.mv 36 (.t 39)), (.ext 40 (.t 36) 0), (.ext 41 (.t 36) 1), (.mv 7 (.t 40)), (.mv 8 (.t 41))]⟩] [1, 2, 3, 7, 8]) (.seq (.rgn [⟨none, [(.ld 43 true 2 (.t 3)), (.mv 44 (.t 1)), (.call 45 33 [(.t 43), (.t 44)]), (.mv 42 (.t 45)), (.ext 46 (.t 42) 0), (.ext 47 (.t 42) 1), (.mv 9 (.t 46)), (.mv 10 (.t 47))]⟩] [1, 2, 3, 7, 8, 9, 10]) (.seq (.rgn [⟨none, [(.ld 49 true 2 (.t 3)), (.mv 50 (.t 1)), (.call 51 34 [(.t 49), (.t 50)]), (.mv 48 (.t 51)), (.ext 52 (.t 48) 0), (.ext 53 (.t 48) 1), (.mv 11 (.t 52)), (.mv 12 (.t 53))]⟩] [1, 2, 3, 7, 8, 9, 10, 11, 12]) (.seq (.rgn [⟨none, [(.ld 55 true 2 (.t 3)), (.mv 56 (.t 1)), (.call 57 35 [(.t 55), (.t 56)]), (.mv 54 (.t 57)), (.ext 58 (.t 54) 0), (.ext 59 (.t 54) 1), (.mv 13 (.t 58)), (.mv 14 (.t 59))]⟩] [1, 2, 3, 7, 8, 9, 10, 11, 12, 13, 14]) (.seq (.rgn [⟨none, [(.ld 61 true 2 (.t 3)), (.mv 62 (.t 1)), (.mv 63 (.t 2)), (.call 64 36 [(.t 61), (.t 62), (.t 63)]), (.mv 60 (.t 64)), (.ext 65 (.t 60) 0), (.ext 66 (.t 60) 1), (.mv 15 (.t 65)), (.mv 16 (.t 66))]⟩] [1, 2, 3, 7, 8, 9, 10, 11, 12, 13, 14, 15, 16]) (.seq (.rgn [⟨none, [(.ld 68 true 2 (.t 3)), (.mv 69 (.t 1)), (.mv 70 (.t 2)), (.call 71 37 [(.t 68), (.t 69), (.t 70)]), (.mv 67 (.t 71)), (.ext 72 (.t 67) 0), (.ext 73 (.t 67) 1), (.mv 17 (.t 72)), (.mv 18 (.t 73))]⟩] [1, 3, 7, 8, 9, 10, 11, 12, 13, 14, 15, 16, 17, 18]) (.seq (.rgn [⟨none, [(.ld 75 true 2 (.t 3)), (.mv 76 (.t 1)), (.call 77 38 [(.t 75), (.t 76)]), (.mv 74 (.t 77)), (.ext 78 (.t 74) 0), (.ext 79 (.t 74) 1), (.mv 19 (.t 78)), (.mv 20 (.t 79))]⟩] [1, 3, 7, 8, 9, 10, 11, 12, 13, 14, 15, 16, 17, 18, 19, 20]) (.seq (.seq (.rgn [⟨none, [(.mv 80 (.t 7)), (.mv 81 (.t 9)), (.call 82 26 [(.t 80), (.t 81)]), (.un 83 .not (.t 82)), (.mv 84 (.t 83))]⟩, ⟨(some (84, false)), [(.mv 85 (.t 8)), (.mv 86 (.t 10)), (.bin 87 .neq (.t 85) (.t 86))]⟩, ⟨none, [(.pick 88 (.t 84) (.k (B true)) (.t 87)), (.mv 89 (.t 88))]⟩, ⟨(some (89, false)), [(.mv 90 (.t 11)), (.mv 91 (.t 13)), (.call 92 39 [(.t 90), (.t 91)]), (.un 93 .not (.t 92))]⟩, ⟨none, [(.pick 94 (.t 89) (.k (B true)) (.t 93)), (.mv 95 (.t 94))]⟩, ⟨(some (95, false)), [(.mv 96 (.t 12)), (.mv 97 (.t 14)), (.bin 98 .neq (.t 96) (.t 97))]⟩, ⟨none, [(.pick 99 (.t 95) (.k (B true)) (.t 98)), (.mv 100 (.t 99))]⟩, ⟨(some (100, false)), [(.mv 101 (.t 15)), (.mv 102 (.t 17)), (.bin 103 .neq (.t 101) (.t 102))]⟩, ⟨none, [(.pick 104 (.t 100) (.k (B true)) (.t 103)), (.mv 105 (.t 104))]⟩, ⟨(some (105, false)), [(.mv 106 (.t 16)), (.mv 107 (.t 18)), (.bin 108 .neq (.t 106) (.t 107))]⟩, ⟨none, [(.pick 109 (.t 105) (.k (B true)) (.t 108)), (.mv 110 (.t 109))]⟩, ⟨(some (110, false)), [(.mv 111 (.t 20)), (.mv 112 (.t 14)), (.bin 113 .neq (.t 111) (.t 112))]⟩, ⟨none, [(.pick 114 (.t 110) (.k (B true)) (.t 113))]⟩] [1, 3, 13, 14, 19, 114]) (.cond (.t 114) (.seq (.rgn [⟨none, [(.mv 6 (.k (B false)))]⟩] [6]) .ret) .skip)) (.seq (.seq (.rgn [⟨none, [(.mv 115 (.t 14)), (.bin 116 .neq (.t 115) (.k (I 0)))]⟩] [1, 3, 13, 19, 116]) (.cond (.t 116) (.seq (.rgn [⟨none, [(.mv 117 (.t 19)), (.len 118 (.t 117)), (.bin 119 .eql (.t 118) (.k (I 0))), (.mv 120 (.t 119))]⟩, ⟨(some (120, true)), [(.call 121 19 [])]⟩, ⟨none, [(.pick 122 (.t 120) (.t 121) (.k (B false))), (.mv 6 (.t 122))]⟩] [6]) .ret) .skip)) (.seq (.rgn [⟨none, [(.ld 124 true 2 (.t 3)), (.mv 125 (.t 1)), (.mv 126 (.t 19)), (.call 127 37 [(.t 124), (.t 125), (.t 126)]), (.mv 123 (.t 127)), (.ext 128 (.t 123) 0), (.ext 129 (.t 123) 1), (.mv 21 (.t 128)), (.mv 22 (.t 129))]⟩] [13, 21, 22]) (.seq (.rgn [⟨none, [(.mv 130 (.t 22)), (.bin 131 .eql (.t 130) (.k (I 0))), (.mv 132 (.t 131))]⟩, ⟨(some (132, true)), [(.mv 133 (.t 21)), (.mv 134 (.t 13)), (.len 135 (.t 134)), (.bin 136 .eql (.t 133) (.t 135))]⟩, ⟨none, [(.pick 137 (.t 132) (.t 136) (.k (B false))), (.mv 138 (.t 137))]⟩, ⟨(some (138, true)), [(.call 139 19 [])]⟩, ⟨none, [(.pick 140 (.t 138) (.t 139) (.k (B false))), (.mv 6 (.t 140))]⟩] [6]) .ret)))))))))))))
theorem form6 : formOf Try.prog Try.f6 [6] = some G6 := by kernel_rfl
theorem res6 : resTmps Try.f6.results.toList = some [6] := by kernel_rfl

/-- oxgall/oxgalllaw02.StrokeCounts -/
def G7 : AC := (.seq (.rgn [⟨none, [(.box 2 2 (.t 0)), (.mv 4 (.k (B false)))]⟩] [1, 2]) (.seq (.seq (.rgn [⟨none, [(.ld 10 true 2 (.t 2)), (.call 11 18 [(.t 10)]), (.mv 12 (.t 11))]⟩, ⟨(some (12, false)), [(.mv 13 (.t 1)), (.len 14 (.t 13)), (.bin 15 .gtr (.t 14) (.k (I 70)))]⟩, ⟨none, [(.pick 16 (.t 12) (.k (B true)) (.t 15))]⟩] [1, 2, 16]) (.cond (.t 16) (.seq (.rgn [⟨none, [(.call 17 19 []), (.mv 4 (.t 17))]⟩] [4]) .ret) .skip)) (.seq (.seq (.rgn [⟨none, [(.ld 18 true 2 (.t 2)), (.mv 19 (.t 1)), (.call 20 23 [(.t 18), (.t 19)]), (.bin 21 .eql (.t 20) (.k (I 0)))]⟩] [1, 2, 21]) (.cond (.t 21) (.seq (.rgn [⟨none, [(.ld 22 true 2 (.t 2)), (.mv 23 (.t 1)), (.call 24 40 [(.t 22), (.t 23)]), (.len 25 (.t 24)), (.mv 5 (.t 25))]⟩] [1, 2, 5]) (.seq (.rgn [⟨none, [(.mv 26 (.t 5)), (.bin 27 .gtr (.t 26) (.k (I 12))), (.mv 28 (.t 27))]⟩, ⟨(some (28, true)), [(.mv 29 (.t 5)), (.bin 30 .leq (.t 29) (.k (I 16)))]⟩, ⟨none, [(.pick 31 (.t 28) (.t 30) (.k (B false)))]⟩] [1, 2, 31]) (.cond (.t 31) (.seq (.rgn [⟨none, [(.call 32 19 []), (.mv 4 (.t 32))]⟩] [4]) .ret) .skip))) .skip)) (.seq (.rgn [⟨none, [(.ld 34 true 2 (.t 2)), (.mv 35 (.t 1)), (.call 36 41 [(.t 34), (.t 35)]), (.mv 33 (.t 36)), (.ext 37 (.t 33) 0), (.ext 38 (.t 33) 1), (.mv 6 (.t 37)), (.mv 7 (.t 38))]⟩] [1, 2, 6, 7]) (.seq (.rgn [⟨none, [(.ld 40 true 2 (.t 2)), (.mv 41 (.t 1)), (.call 42 42 [(.t 40), (.t 41)]), (.mv 39 (.t 42)), (.ext 43 (.t 39) 0), (.ext 44 (.t 39) 1), (.mv 8 (.t 43)), (.mv 9 (.t 44))]⟩] [6, 7, 8, 9]) (.seq (.rgn [⟨none, [(.mv 45 (.t 6)), (.mv 46 (.t 8)), (.bin 47 .eql (.t 45) (.t 46)), (.mv 48 (.t 47))]⟩, ⟨(some (48, true)), [(.mv 49 (.t 7)), (.mv 50 (.t 9)), (.bin 51 .eql (.t 49) (.t 50))]⟩, ⟨none, [(.pick 52 (.t 48) (.t 51) (.k (B false))), (.mv 53 (.t 52))]⟩, ⟨(some (53, true)), [(.call 54 19 [])]⟩, ⟨none, [(.pick 55 (.t 53) (.t 54) (.k (B false))), (.mv 4 (.t 55))]⟩] [4]) .ret))))))
theorem form7 : formOf Try.prog Try.f7 [4] = some G7 := by kernel_rfl
theorem res7 : resTmps Try.f7.results.toList = some [4] := by kernel_rfl

/-- oxgall/oxgalllaw02.StrokeWays -/
def G8 : AC := (.seq (.rgn [⟨none, [(.box 3 2 (.t 0)), (.mv 6 (.k (B false)))]⟩] [1, 2, 3]) (.seq (.seq (.rgn [⟨none, [(.ld 15 true 2 (.t 3)), (.call 16 18 [(.t 15)]), (.mv 17 (.t 16))]⟩, ⟨(some (17, false)), [(.mv 18 (.t 1)), (.len 19 (.t 18)), (.bin 20 .gtr (.t 19) (.k (I 70)))]⟩, ⟨none, [(.pick 21 (.t 17) (.k (B true)) (.t 20)), (.mv 22 (.t 21))]⟩, ⟨(some (22, false)), [(.mv 23 (.t 2)), (.len 24 (.t 23)), (.bin 25 .gtr (.t 24) (.k (I 70)))]⟩, ⟨none, [(.pick 26 (.t 22) (.k (B true)) (.t 25))]⟩] [1, 2, 3, 26]) (.cond (.t 26) (.seq (.rgn [⟨none, [(.call 27 19 []), (.mv 6 (.t 27))]⟩] [6]) .ret) .skip)) (.seq (.rgn [⟨none, [(.ld 29 true 2 (.t 3)), (.mv 30 (.t 1)), (.mv 31 (.t 2)), (.call 32 43 [(.t 29), (.t 30), (.t 31)]), (.mv 28 (.t 32)), (.ext 33 (.t 28) 0), (.ext 34 (.t 28) 1), (.mv 7 (.t 33)), (.mv 8 (.t 34))]⟩] [1, 2, 3, 7, 8]) (.seq (.rgn [⟨none, [(.ld 36 true 2 (.t 3)), (.mv 37 (.t 1)), (.mv 38 (.t 2)), (.call 39 44 [(.t 36), (.t 37), (.t 38)]), (.mv 35 (.t 39)), (.ext 40 (.t 35) 0), (.ext 41 (.t 35) 1), (.mv 9 (.t 40)), (.mv 10 (.t 41))]⟩] [1, 2, 3, 7, 8, 9, 10]) (.seq (.rgn [⟨none, [(.ld 43 true 2 (.t 3)), (.mv 44 (.t 1)), (.mv 45 (.t 2)), (.call 46 45 [(.t 43), (.t 44), (.t 45)]), (.mv 42 (.t 46)), (.ext 47 (.t 42) 0), (.ext 48 (.t 42) 1), (.mv 11 (.t 47)), (.mv 12 (.t 48))]⟩] [1, 2, 3, 7, 8, 9, 10, 11, 12]) (.seq (.rgn [⟨none, [(.ld 50 true 2 (.t 3)), (.mv 51 (.t 1)), (.mv 52 (.t 2)), (.call 53 46 [(.t 50), (.t 51), (.t 52)]), (.mv 49 (.t 53)), (.ext 54 (.t 49) 0), (.ext 55 (.t 49) 1), (.mv 13 (.t 54)), (.mv 14 (.t 55))]⟩] [7, 8, 9, 10, 11, 12, 13, 14]) (.seq (.rgn [⟨none, [(.mv 56 (.t 7)), (.mv 57 (.t 9)), (.call 58 26 [(.t 56), (.t 57)]), (.mv 59 (.t 58))]⟩, ⟨(some (59, true)), [(.mv 60 (.t 8)), (.mv 61 (.t 10)), (.bin 62 .eql (.t 60) (.t 61))]⟩, ⟨none, [(.pick 63 (.t 59) (.t 62) (.k (B false))), (.mv 64 (.t 63))]⟩, ⟨(some (64, true)), [(.mv 65 (.t 11)), (.mv 66 (.t 13)), (.call 67 26 [(.t 65), (.t 66)])]⟩, ⟨none, [(.pick 68 (.t 64) (.t 67) (.k (B false))), (.mv 69 (.t 68))]⟩, ⟨(some (69, true)), [(.mv 70 (.t 12)), (.mv 71 (.t 14)), (.bin 72 .eql (.t 70) (.t 71))]⟩, ⟨none, [(.pick 73 (.t 69) (.t 72) (.k (B false))), (.mv 74 (.t 73))]⟩, ⟨(some (74, true)), [(.call 75 19 [])]⟩, ⟨none, [(.pick 76 (.t 74) (.t 75) (.k (B false))), (.mv 6 (.t 76))]⟩] [6]) .ret)))))))
theorem form8 : formOf Try.prog Try.f8 [6] = some G8 := by kernel_rfl
theorem res8 : resTmps Try.f8.results.toList = some [6] := by kernel_rfl

/-- oxgall/oxgalllaw02.StrokeExchanged -/
def G9 : AC := (.seq (.rgn [⟨none, [(.box 5 2 (.t 0)), (.mv 10 (.k (B false)))]⟩] [1, 2, 3, 4, 5]) (.seq (.seq (.rgn [⟨none, [(.ld 24 true 2 (.t 5)), (.mv 25 (.t 1)), (.call 26 47 [(.t 24), (.t 25)]), (.un 27 .not (.t 26)), (.mv 28 (.t 27))]⟩, ⟨(some (28, false)), [(.ld 29 true 2 (.t 5)), (.mv 30 (.t 2)), (.call 31 47 [(.t 29), (.t 30)]), (.un 32 .not (.t 31))]⟩, ⟨none, [(.pick 33 (.t 28) (.k (B true)) (.t 32)), (.mv 34 (.t 33))]⟩, ⟨(some (34, false)), [(.mv 35 (.t 1)), (.len 36 (.t 35)), (.bin 37 .gtr (.t 36) (.k (I 50)))]⟩, ⟨none, [(.pick 38 (.t 34) (.k (B true)) (.t 37)), (.mv 39 (.t 38))]⟩, ⟨(some (39, false)), [(.mv 40 (.t 3)), (.len 41 (.t 40)), (.bin 42 .gtr (.t 41) (.k (I 60)))]⟩, ⟨none, [(.pick 43 (.t 39) (.k (B true)) (.t 42)), (.mv 44 (.t 43))]⟩, ⟨(some (44, false)), [(.mv 45 (.t 4)), (.len 46 (.t 45)), (.bin 47 .gtr (.t 46) (.k (I 200)))]⟩, ⟨none, [(.pick 48 (.t 44) (.k (B true)) (.t 47))]⟩] [1, 2, 3, 4, 5, 48]) (.cond (.t 48) (.seq (.rgn [⟨none, [(.call 49 19 []), (.mv 10 (.t 49))]⟩] [10]) .ret) .skip)) (.seq (.rgn [⟨none, [(.ld 51 true 2 (.t 5)), (.mv 52 (.t 1)), (.mv 53 (.t 3)), (.call 54 48 [(.t 51), (.t 52), (.t 53)]), (.mv 50 (.t 54)), (.ext 55 (.t 50) 0), (.ext 56 (.t 50) 1), (.mv 11 (.t 55)), (.mv 12 (.t 56))]⟩] [1, 2, 4, 5, 11, 12]) (.seq (.rgn [⟨none, [(.ld 58 true 2 (.t 5)), (.mv 59 (.t 1)), (.call 60 24 [(.t 58), (.t 59)]), (.mv 57 (.t 60)), (.ext 61 (.t 57) 0), (.ext 62 (.t 57) 1), (.mv 13 (.t 61)), (.mv 14 (.t 62))]⟩] [1, 2, 4, 5, 11, 12, 13, 14]) (.seq (.rgn [⟨none, [(.ld 64 true 2 (.t 5)), (.mv 65 (.t 11)), (.call 66 24 [(.t 64), (.t 65)]), (.mv 63 (.t 66)), (.ext 67 (.t 63) 0), (.ext 68 (.t 63) 1), (.mv 15 (.t 67)), (.mv 16 (.t 68))]⟩] [1, 2, 4, 5, 11, 12, 13, 14, 15, 16]) (.seq (.rgn [⟨none, [(.ld 70 true 2 (.t 5)), (.mv 71 (.t 2)), (.call 72 24 [(.t 70), (.t 71)]), (.mv 69 (.t 72)), (.ext 73 (.t 69) 0), (.ext 74 (.t 69) 1), (.mv 17 (.t 73)), (.mv 18 (.t 74))]⟩] [1, 2, 4, 5, 11, 12, 13, 14, 15, 16, 17, 18]) (.seq (.rgn [⟨none, [(.ld 76 true 2 (.t 5)), (.mv 77 (.t 1)), (.mv 78 (.t 11)), (.call 79 29 [(.t 76), (.t 77), (.t 78)]), (.mv 75 (.t 79)), (.ext 80 (.t 75) 0), (.ext 81 (.t 75) 1), (.mv 19 (.t 80)), (.mv 20 (.t 81))]⟩] [1, 2, 4, 5, 11, 12, 13, 14, 15, 16, 17, 18, 19, 20]) (.seq (.seq (.rgn [⟨none, [(.mv 82 (.t 14)), (.bin 83 .neq (.t 82) (.k (I 0))), (.mv 84 (.t 83))]⟩, ⟨(some (84, false)), [(.mv 85 (.t 16)), (.bin 86 .neq (.t 85) (.k (I 0)))]⟩, ⟨none, [(.pick 87 (.t 84) (.k (B true)) (.t 86)), (.mv 88 (.t 87))]⟩, ⟨(some (88, false)), [(.mv 89 (.t 18)), (.bin 90 .neq (.t 89) (.k (I 0)))]⟩, ⟨none, [(.pick 91 (.t 88) (.k (B true)) (.t 90)), (.mv 92 (.t 91))]⟩, ⟨(some (92, false)), [(.mv 93 (.t 20)), (.bin 94 .neq (.t 93) (.k (I 0)))]⟩, ⟨none, [(.pick 95 (.t 92) (.k (B true)) (.t 94)), (.mv 96 (.t 95))]⟩, ⟨(some (96, false)), [(.mv 97 (.t 13)), (.mv 98 (.t 15)), (.call 99 26 [(.t 97), (.t 98)]), (.un 100 .not (.t 99))]⟩, ⟨none, [(.pick 101 (.t 96) (.k (B true)) (.t 100)), (.mv 102 (.t 101))]⟩, ⟨(some (102, false)), [(.ld 103 true 2 (.t 5)), (.mv 104 (.t 1)), (.mv 105 (.t 11)), (.call 106 27 [(.t 103), (.t 104), (.t 105)]), (.bin 107 .neq (.t 106) (.k (I 0)))]⟩, ⟨none, [(.pick 108 (.t 102) (.k (B true)) (.t 107)), (.mv 109 (.t 108))]⟩, ⟨(some (109, false)), [(.ld 110 true 2 (.t 5)), (.mv 111 (.t 1)), (.mv 112 (.t 11)), (.mv 113 (.t 12)), (.call 114 30 [(.t 110), (.t 111), (.t 112), (.t 113)]), (.bin 115 .neq (.t 114) (.k (I 0)))]⟩, ⟨none, [(.pick 116 (.t 109) (.k (B true)) (.t 115)), (.mv 117 (.t 116))]⟩, ⟨(some (117, false)), [(.ld 118 true 2 (.t 5)), (.mv 119 (.t 1)), (.mv 120 (.t 11)), (.mv 121 (.t 19)), (.call 122 30 [(.t 118), (.t 119), (.t 120), (.t 121)]), (.bin 123 .neq (.t 122) (.k (I 0)))]⟩, ⟨none, [(.pick 124 (.t 117) (.k (B true)) (.t 123)), (.mv 125 (.t 124))]⟩, ⟨(some (125, false)), [(.ld 126 true 2 (.t 5)), (.mv 127 (.t 1)), (.mv 128 (.t 11)), (.mv 129 (.t 19)), (.call 130 31 [(.t 126), (.t 127), (.t 128), (.t 129)]), (.bin 131 .neq (.t 130) (.k (I 0)))]⟩, ⟨none, [(.pick 132 (.t 125) (.k (B true)) (.t 131))]⟩] [1, 2, 4, 5, 13, 17, 132]) (.cond (.t 132) (.seq (.rgn [⟨none, [(.mv 10 (.k (B false)))]⟩] [10]) .ret) .skip)) (.seq (.rgn [⟨none, [(.ld 133 true 2 (.t 5)), (.mv 134 (.t 1)), (.mv 135 (.t 2)), (.call 136 27 [(.t 133), (.t 134), (.t 135)]), (.mv 21 (.t 136))]⟩] [1, 2, 4, 5, 13, 17, 21]) (.seq (.rgn [⟨none, [(.ld 138 true 2 (.t 5)), (.mv 139 (.t 1)), (.mv 140 (.t 2)), (.call 141 29 [(.t 138), (.t 139), (.t 140)]), (.mv 137 (.t 141)), (.ext 142 (.t 137) 0), (.ext 143 (.t 137) 1), (.mv 22 (.t 142)), (.mv 23 (.t 143))]⟩] [1, 2, 4, 5, 13, 17, 21, 22, 23]) (.seq (.seq (.rgn [⟨none, [(.mv 144 (.t 21)), (.bin 145 .eql (.t 144) (.k (I 0))), (.mv 146 (.t 13)), (.mv 147 (.t 17)), (.call 148 26 [(.t 146), (.t 147)]), (.eqk 149 true (false, [.bool]) (.t 145) (.t 148)), (.mv 150 (.t 149))]⟩, ⟨(some (150, false)), [(.mv 151 (.t 21)), (.mv 152 (.t 23)), (.bin 153 .neq (.t 151) (.t 152))]⟩, ⟨none, [(.pick 154 (.t 150) (.k (B true)) (.t 153)), (.mv 155 (.t 154))]⟩, ⟨(some (155, false)), [(.mv 156 (.t 21)), (.bin 157 .neq (.t 156) (.k (I 0))), (.mv 158 (.t 157))]⟩, ⟨(some (158, true)), [(.mv 159 (.t 21)), (.bin 160 .neq (.t 159) (.k (I 18)))]⟩, ⟨(some (155, false)), [(.pick 161 (.t 158) (.t 160) (.k (B false)))]⟩, ⟨none, [(.pick 162 (.t 155) (.k (B true)) (.t 161))]⟩] [1, 2, 4, 5, 21, 22, 162]) (.cond (.t 162) (.seq (.rgn [⟨none, [(.mv 10 (.k (B false)))]⟩] [10]) .ret) .skip)) (.seq (.seq (.rgn [⟨none, [(.mv 163 (.t 21)), (.bin 164 .neq (.t 163) (.k (I 0)))]⟩] [1, 2, 4, 5, 22, 164]) (.cond (.t 164) (.seq (.rgn [⟨none, [(.mv 165 (.t 22)), (.len 166 (.t 165)), (.bin 167 .eql (.t 166) (.k (I 0))), (.mv 168 (.t 167))]⟩, ⟨(some (168, true)), [(.ld 169 true 2 (.t 5)), (.mv 170 (.t 1)), (.mv 171 (.t 2)), (.mv 172 (.t 4)), (.call 173 30 [(.t 169), (.t 170), (.t 171), (.t 172)]), (.bin 174 .neq (.t 173) (.k (I 0)))]⟩, ⟨none, [(.pick 175 (.t 168) (.t 174) (.k (B false))), (.mv 176 (.t 175))]⟩, ⟨(some (176, true)), [(.call 177 19 [])]⟩, ⟨none, [(.pick 178 (.t 176) (.t 177) (.k (B false))), (.mv 10 (.t 178))]⟩] [10]) .ret) .skip)) (.seq (.rgn [⟨none, [(.ld 179 true 2 (.t 5)), (.mv 180 (.t 1)), (.mv 181 (.t 2)), (.mv 182 (.t 22)), (.call 183 30 [(.t 179), (.t 180), (.t 181), (.t 182)]), (.bin 184 .eql (.t 183) (.k (I 0))), (.mv 185 (.t 184))]⟩, ⟨(some (185, true)), [(.ld 186 true 2 (.t 5)), (.mv 187 (.t 1)), (.mv 188 (.t 2)), (.mv 189 (.t 22)), (.call 190 31 [(.t 186), (.t 187), (.t 188), (.t 189)]), (.bin 191 .eql (.t 190) (.k (I 0)))]⟩, ⟨none, [(.pick 192 (.t 185) (.t 191) (.k (B false))), (.mv 193 (.t 192))]⟩, ⟨(some (193, true)), [(.call 194 19 [])]⟩, ⟨none, [(.pick 195 (.t 193) (.t 194) (.k (B false))), (.mv 10 (.t 195))]⟩] [10]) .ret)))))))))))))
theorem form9 : formOf Try.prog Try.f9 [10] = some G9 := by kernel_rfl
theorem res9 : resTmps Try.f9.results.toList = some [10] := by kernel_rfl

/-- oxgall/oxgalllaw02.StrokeShortest -/
def G10 : AC := (.seq (.rgn [⟨none, [(.box 4 2 (.t 0)), (.mv 8 (.k (B false)))]⟩] [1, 2, 3, 4]) (.seq (.seq (.rgn [⟨none, [(.ld 19 true 2 (.t 4)), (.mv 20 (.t 1)), (.call 21 47 [(.t 19), (.t 20)]), (.un 22 .not (.t 21)), (.mv 23 (.t 22))]⟩, ⟨(some (23, false)), [(.ld 24 true 2 (.t 4)), (.mv 25 (.t 2)), (.call 26 47 [(.t 24), (.t 25)]), (.un 27 .not (.t 26))]⟩, ⟨none, [(.pick 28 (.t 23) (.k (B true)) (.t 27)), (.mv 29 (.t 28))]⟩, ⟨(some (29, false)), [(.mv 30 (.t 1)), (.len 31 (.t 30)), (.mv 32 (.t 2)), (.len 33 (.t 32)), (.bin 34 .add (.t 31) (.t 33)), (.bin 35 .gtr (.t 34) (.k (I 60)))]⟩, ⟨none, [(.pick 36 (.t 29) (.k (B true)) (.t 35)), (.mv 37 (.t 36))]⟩, ⟨(some (37, false)), [(.mv 38 (.t 1)), (.len 39 (.t 38)), (.bin 40 .gtr (.t 39) (.k (I 50)))]⟩, ⟨none, [(.pick 41 (.t 37) (.k (B true)) (.t 40)), (.mv 42 (.t 41))]⟩, ⟨(some (42, false)), [(.mv 43 (.t 3)), (.len 44 (.t 43)), (.bin 45 .gtr (.t 44) (.k (I 60)))]⟩, ⟨none, [(.pick 46 (.t 42) (.k (B true)) (.t 45))]⟩] [1, 2, 3, 4, 46]) (.cond (.t 46) (.seq (.rgn [⟨none, [(.call 47 19 []), (.mv 8 (.t 47))]⟩] [8]) .ret) .skip)) (.seq (.rgn [⟨none, [(.ld 49 true 2 (.t 4)), (.mv 50 (.t 1)), (.call 51 24 [(.t 49), (.t 50)]), (.mv 48 (.t 51)), (.ext 52 (.t 48) 0), (.ext 53 (.t 48) 1), (.mv 9 (.t 52)), (.mv 10 (.t 53))]⟩] [1, 2, 3, 4, 9, 10]) (.seq (.rgn [⟨none, [(.ld 55 true 2 (.t 4)), (.mv 56 (.t 2)), (.call 57 24 [(.t 55), (.t 56)]), (.mv 54 (.t 57)), (.ext 58 (.t 54) 0), (.ext 59 (.t 54) 1), (.mv 11 (.t 58)), (.mv 12 (.t 59))]⟩] [1, 2, 3, 4, 9, 10, 11, 12]) (.seq (.seq (.rgn [⟨none, [(.mv 60 (.t 10)), (.bin 61 .neq (.t 60) (.k (I 0))), (.mv 62 (.t 61))]⟩, ⟨(some (62, false)), [(.mv 63 (.t 12)), (.bin 64 .neq (.t 63) (.k (I 0)))]⟩, ⟨none, [(.pick 65 (.t 62) (.k (B true)) (.t 64)), (.mv 66 (.t 65))]⟩, ⟨(some (66, false)), [(.mv 67 (.t 9)), (.len 68 (.t 67)), (.mv 69 (.t 1)), (.len 70 (.t 69)), (.bin 71 .gtr (.t 68) (.t 70))]⟩, ⟨none, [(.pick 72 (.t 66) (.k (B true)) (.t 71)), (.mv 73 (.t 72))]⟩, ⟨(some (73, false)), [(.mv 74 (.t 1)), (.len 75 (.t 74)), (.mv 76 (.t 9)), (.len 77 (.t 76)), (.bin 78 .sub (.t 75) (.t 77)), (.bin 79 .rem (.t 78) (.k (I 2))), (.bin 80 .neq (.t 79) (.k (I 0)))]⟩, ⟨none, [(.pick 81 (.t 73) (.k (B true)) (.t 80)), (.mv 82 (.t 81))]⟩, ⟨(some (82, false)), [(.mv 83 (.t 11)), (.len 84 (.t 83)), (.mv 85 (.t 2)), (.len 86 (.t 85)), (.bin 87 .gtr (.t 84) (.t 86))]⟩, ⟨none, [(.pick 88 (.t 82) (.k (B true)) (.t 87)), (.mv 89 (.t 88))]⟩, ⟨(some (89, false)), [(.ld 90 true 2 (.t 4)), (.mv 91 (.t 9)), (.call 92 47 [(.t 90), (.t 91)]), (.un 93 .not (.t 92))]⟩, ⟨none, [(.pick 94 (.t 89) (.k (B true)) (.t 93)), (.mv 95 (.t 94))]⟩, ⟨(some (95, false)), [(.ld 96 true 2 (.t 4)), (.mv 97 (.t 11)), (.call 98 47 [(.t 96), (.t 97)]), (.un 99 .not (.t 98))]⟩, ⟨none, [(.pick 100 (.t 95) (.k (B true)) (.t 99))]⟩] [1, 2, 3, 4, 9, 11, 100]) (.cond (.t 100) (.seq (.rgn [⟨none, [(.mv 8 (.k (B false)))]⟩] [8]) .ret) .skip)) (.seq (.rgn [⟨none, [(.ld 102 true 2 (.t 4)), (.mv 103 (.t 9)), (.call 104 24 [(.t 102), (.t 103)]), (.mv 101 (.t 104)), (.ext 105 (.t 101) 0), (.ext 106 (.t 101) 1), (.mv 13 (.t 105)), (.mv 10 (.t 106))]⟩] [1, 2, 3, 4, 9, 10, 11, 13]) (.seq (.drw [⟨none, [(.ld 108 true 2 (.t 4)), (.bsl 109 0 1 [(I 0)] []), (.mv 110 (.t 1)), (.app 111 1 8 (.t 109) (.t 110)), (.mv 112 (.t 2)), (.app 113 1 8 (.t 111) (.t 112)), (.call 114 24 [(.t 108), (.t 113)]), (.mv 107 (.t 114)), (.ext 115 (.t 107) 0), (.ext 116 (.t 107) 1), (.mv 14 (.t 115)), (.mv 12 (.t 116))]⟩] [(0, 1), (0, 3), (0, 5)] [1, 3, 4, 9, 10, 11, 12, 13, 14]) (.seq (.drw [⟨none, [(.ld 118 true 2 (.t 4)), (.bsl 119 0 1 [(I 0)] []), (.mv 120 (.t 9)), (.app 121 1 8 (.t 119) (.t 120)), (.mv 122 (.t 11)), (.app 123 1 8 (.t 121) (.t 122)), (.call 124 24 [(.t 118), (.t 123)]), (.mv 117 (.t 124)), (.ext 125 (.t 117) 0), (.ext 126 (.t 117) 1), (.mv 15 (.t 125)), (.mv 16 (.t 126))]⟩] [(0, 1), (0, 3), (0, 5)] [1, 3, 4, 9, 10, 12, 13, 14, 15, 16]) (.seq (.rgn [⟨none, [(.ld 128 true 2 (.t 4)), (.mv 129 (.t 1)), (.mv 130 (.t 3)), (.call 131 48 [(.t 128), (.t 129), (.t 130)]), (.mv 127 (.t 131)), (.ext 132 (.t 127) 0), (.ext 133 (.t 127) 1), (.mv 17 (.t 132)), (.mv 18 (.t 133))]⟩] [9, 10, 12, 13, 14, 15, 16, 17]) (.seq (.rgn [⟨none, [(.mv 134 (.t 10)), (.bin 135 .eql (.t 134) (.k (I 0))), (.mv 136 (.t 135))]⟩, ⟨(some (136, true)), [(.mv 137 (.t 12)), (.bin 138 .eql (.t 137) (.k (I 0)))]⟩, ⟨none, [(.pick 139 (.t 136) (.t 138) (.k (B false))), (.mv 140 (.t 139))]⟩, ⟨(some (140, true)), [(.mv 141 (.t 16)), (.bin 142 .eql (.t 141) (.k (I 0)))]⟩, ⟨none, [(.pick 143 (.t 140) (.t 142) (.k (B false))), (.mv 144 (.t 143))]⟩, ⟨(some (144, true)), [(.mv 145 (.t 9)), (.mv 146 (.t 13)), (.call 147 26 [(.t 145), (.t 146)])]⟩, ⟨none, [(.pick 148 (.t 144) (.t 147) (.k (B false))), (.mv 149 (.t 148))]⟩, ⟨(some (149, true)), [(.mv 150 (.t 14)), (.mv 151 (.t 15)), (.call 152 26 [(.t 150), (.t 151)])]⟩, ⟨none, [(.pick 153 (.t 149) (.t 152) (.k (B false))), (.mv 154 (.t 153))]⟩, ⟨(some (154, true)), [(.mv 155 (.t 17)), (.len 156 (.t 155)), (.mv 157 (.t 9)), (.len 158 (.t 157)), (.bin 159 .geq (.t 156) (.t 158))]⟩, ⟨none, [(.pick 160 (.t 154) (.t 159) (.k (B false))), (.mv 161 (.t 160))]⟩, ⟨(some (161, true)), [(.call 162 19 [])]⟩, ⟨none, [(.pick 163 (.t 161) (.t 162) (.k (B false))), (.mv 8 (.t 163))]⟩] [8]) .ret))))))))))
theorem form10 : formOf Try.prog Try.f10 [8] = some G10 := by kernel_rfl
theorem res10 : resTmps Try.f10.results.toList = some [8] := by kernel_rfl

/-- oxgall/oxgalllaw02.StrokeBack -/
def G11 : AC := (.seq (.rgn [⟨none, [(.box 3 2 (.t 0)), (.mv 6 (.k (B false)))]⟩] [1, 2, 3]) (.seq (.seq (.rgn [⟨none, [(.ld 15 true 2 (.t 3)), (.mv 16 (.t 1)), (.call 17 47 [(.t 15), (.t 16)]), (.un 18 .not (.t 17)), (.mv 19 (.t 18))]⟩, ⟨(some (19, false)), [(.ld 20 true 2 (.t 3)), (.mv 21 (.t 2)), (.call 22 47 [(.t 20), (.t 21)]), (.un 23 .not (.t 22))]⟩, ⟨none, [(.pick 24 (.t 19) (.k (B true)) (.t 23)), (.mv 25 (.t 24))]⟩, ⟨(some (25, false)), [(.mv 26 (.t 1)), (.len 27 (.t 26)), (.bin 28 .gtr (.t 27) (.k (I 30)))]⟩, ⟨none, [(.pick 29 (.t 25) (.k (B true)) (.t 28)), (.mv 30 (.t 29))]⟩, ⟨(some (30, false)), [(.mv 31 (.t 2)), (.len 32 (.t 31)), (.bin 33 .gtr (.t 32) (.k (I 15)))]⟩, ⟨none, [(.pick 34 (.t 30) (.k (B true)) (.t 33))]⟩] [1, 2, 3, 34]) (.cond (.t 34) (.seq (.rgn [⟨none, [(.call 35 19 []), (.mv 6 (.t 35))]⟩] [6]) .ret) .skip)) (.seq (.rgn [⟨none, [(.mv 36 (.t 1)), (.call 37 49 [(.t 36)]), (.mv 7 (.t 37))]⟩] [1, 2, 3, 7]) (.seq (.drw [⟨none, [(.ld 39 true 2 (.t 3)), (.bsl 40 0 1 [(I 0)] []), (.mv 41 (.t 1)), (.app 42 1 8 (.t 40) (.t 41)), (.mv 43 (.t 7)), (.app 44 1 8 (.t 42) (.t 43)), (.call 45 24 [(.t 39), (.t 44)]), (.mv 38 (.t 45)), (.ext 46 (.t 38) 0), (.ext 47 (.t 38) 1), (.mv 8 (.t 46)), (.mv 9 (.t 47))]⟩] [(0, 1), (0, 3), (0, 5)] [1, 2, 3, 7, 8, 9]) (.seq (.rgn [⟨none, [(.ld 49 true 2 (.t 3)), (.mv 50 (.t 7)), (.call 51 24 [(.t 49), (.t 50)]), (.mv 48 (.t 51)), (.ext 52 (.t 48) 0), (.ext 53 (.t 48) 1), (.mv 10 (.t 52)), (.mv 11 (.t 53))]⟩] [1, 2, 3, 8, 9, 10, 11]) (.seq (.rgn [⟨none, [(.ld 55 true 2 (.t 3)), (.mv 56 (.t 1)), (.call 57 24 [(.t 55), (.t 56)]), (.mv 54 (.t 57)), (.ext 58 (.t 54) 0), (.ext 59 (.t 54) 1), (.mv 12 (.t 58)), (.mv 13 (.t 59))]⟩] [1, 2, 3, 8, 9, 10, 11, 12, 13]) (.seq (.rgn [⟨none, [(.bsl 60 0 1 [(I 0)] []), (.mv 61 (.t 1)), (.app 62 1 8 (.t 60) (.t 61)), (.mv 63 (.t 2)), (.app 64 1 8 (.t 62) (.t 63)), (.mv 65 (.t 2)), (.call 66 49 [(.t 65)]), (.app 67 1 8 (.t 64) (.t 66)), (.mv 14 (.t 67))]⟩] [1, 3, 8, 9, 10, 11, 12, 13, 14]) (.seq (.rgn [⟨none, [(.mv 68 (.t 9)), (.bin 69 .eql (.t 68) (.k (I 0))), (.mv 70 (.t 69))]⟩, ⟨(some (70, true)), [(.mv 71 (.t 11)), (.bin 72 .eql (.t 71) (.k (I 0)))]⟩, ⟨none, [(.pick 73 (.t 70) (.t 72) (.k (B false))), (.mv 74 (.t 73))]⟩, ⟨(some (74, true)), [(.mv 75 (.t 13)), (.bin 76 .eql (.t 75) (.k (I 0)))]⟩, ⟨none, [(.pick 77 (.t 74) (.t 76) (.k (B false))), (.mv 78 (.t 77))]⟩, ⟨(some (78, true)), [(.mv 79 (.t 8)), (.len 80 (.t 79)), (.bin 81 .eql (.t 80) (.k (I 0)))]⟩, ⟨none, [(.pick 82 (.t 78) (.t 81) (.k (B false))), (.mv 83 (.t 82))]⟩, ⟨(some (83, true)), [(.mv 84 (.t 10)), (.len 85 (.t 84)), (.mv 86 (.t 12)), (.len 87 (.t 86)), (.bin 88 .eql (.t 85) (.t 87))]⟩, ⟨none, [(.pick 89 (.t 83) (.t 88) (.k (B false))), (.mv 90 (.t 89))]⟩, ⟨(some (90, true)), [(.ld 91 true 2 (.t 3)), (.mv 92 (.t 1)), (.mv 93 (.t 14)), (.call 94 27 [(.t 91), (.t 92), (.t 93)]), (.bin 95 .eql (.t 94) (.k (I 0)))]⟩, ⟨none, [(.pick 96 (.t 90) (.t 95) (.k (B false))), (.mv 97 (.t 96))]⟩, ⟨(some (97, true)), [(.call 98 19 [])]⟩, ⟨none, [(.pick 99 (.t 97) (.t 98) (.k (B false))), (.mv 6 (.t 99))]⟩] [6]) .ret))))))))
theorem form11 : formOf Try.prog Try.f11 [6] = some G11 := by kernel_rfl
theorem res11 : resTmps Try.f11.results.toList = some [6] := by kernel_rfl

/-- oxgall/oxgalllaw02.StrokeSeen -/
def G12 : AC := (.seq (.rgn [⟨none, [(.box 4 2 (.t 0)), (.mv 8 (.k (B false)))]⟩] [1, 2, 3, 4]) (.seq (.seq (.rgn [⟨none, [(.ld 21 true 2 (.t 4)), (.mv 22 (.t 1)), (.call 23 47 [(.t 21), (.t 22)]), (.un 24 .not (.t 23)), (.mv 25 (.t 24))]⟩, ⟨(some (25, false)), [(.ld 26 true 2 (.t 4)), (.mv 27 (.t 2)), (.call 28 47 [(.t 26), (.t 27)]), (.un 29 .not (.t 28))]⟩, ⟨none, [(.pick 30 (.t 25) (.k (B true)) (.t 29)), (.mv 31 (.t 30))]⟩, ⟨(some (31, false)), [(.mv 32 (.t 1)), (.len 33 (.t 32)), (.bin 34 .gtr (.t 33) (.k (I 40)))]⟩, ⟨none, [(.pick 35 (.t 31) (.k (B true)) (.t 34)), (.mv 36 (.t 35))]⟩, ⟨(some (36, false)), [(.mv 37 (.t 2)), (.len 38 (.t 37)), (.bin 39 .gtr (.t 38) (.k (I 40)))]⟩, ⟨none, [(.pick 40 (.t 36) (.k (B true)) (.t 39)), (.mv 41 (.t 40))]⟩, ⟨(some (41, false)), [(.mv 42 (.t 3)), (.len 43 (.t 42)), (.bin 44 .gtr (.t 43) (.k (I 60)))]⟩, ⟨none, [(.pick 45 (.t 41) (.k (B true)) (.t 44))]⟩] [1, 2, 3, 4, 45]) (.cond (.t 45) (.seq (.rgn [⟨none, [(.call 46 19 []), (.mv 8 (.t 46))]⟩] [8]) .ret) .skip)) (.seq (.rgn [⟨none, [(.ld 48 true 2 (.t 4)), (.mv 49 (.t 1)), (.mv 50 (.t 3)), (.call 51 48 [(.t 48), (.t 49), (.t 50)]), (.mv 47 (.t 51)), (.ext 52 (.t 47) 0), (.ext 53 (.t 47) 1), (.mv 9 (.t 52)), (.mv 10 (.t 53))]⟩] [1, 2, 4, 9]) (.seq (.rgn [⟨none, [(.mv 54 (.t 9)), (.mv 55 (.t 2)), (.bsl 56 2 1 [(.sl true 0 [])] [(0, (.t 54)), (1, (.t 55))]), (.mv 11 (.t 56))]⟩] [1, 4, 11]) (.seq (.seq (.rgn [⟨none, [(.mv 12 (.k (I 0)))]⟩] [1, 4, 11, 12]) (.block 0 (.loop (.seq (.seq (.rgn [⟨none, [(.mv 57 (.t 12)), (.bin 58 .lss (.t 57) (.k (I 2)))]⟩] [1, 4, 11, 12, 58]) (.cond (.t 58) .skip (.exit 0))) (.seq (.block 1 (.seq (.drw [⟨none, [(.ld 61 true 2 (.t 4)), (.mv 62 (.t 1)), (.mv 63 (.t 11)), (.mv 64 (.t 12)), (.ia 65 1 (.t 63) (.t 64)), (.ld 66 false 1 (.t 65)), (.call 67 27 [(.t 61), (.t 62), (.t 66)]), (.mv 13 (.t 67))]⟩] [(0, 5)] [1, 4, 11, 12, 13]) (.seq (.seq (.rgn [⟨none, [(.mv 68 (.t 13)), (.bin 69 .neq (.t 68) (.k (I 0))), (.mv 70 (.t 69))]⟩, ⟨(some (70, true)), [(.mv 71 (.t 12)), (.bin 72 .eql (.t 71) (.k (I 0))), (.mv 73 (.t 72))]⟩, ⟨(some (73, false)), [(.mv 74 (.t 13)), (.bin 75 .neq (.t 74) (.k (I 18)))]⟩, ⟨(some (70, true)), [(.pick 76 (.t 73) (.k (B true)) (.t 75))]⟩, ⟨none, [(.pick 77 (.t 70) (.t 76) (.k (B false)))]⟩] [1, 4, 11, 12, 13, 77]) (.cond (.t 77) (.seq (.rgn [⟨none, [(.mv 8 (.k (B false)))]⟩] [8]) .ret) .skip)) (.seq (.rgn [⟨none, [(.mv 14 (.k (B true))), (.mv 15 (.k (B false)))]⟩] [1, 4, 11, 12, 13, 14, 15]) (.seq (.seq (.rgn [⟨none, [(.mv 16 (.k (I 0)))]⟩] [1, 4, 11, 12, 13, 14, 15, 16]) (.block 2 (.loop (.seq (.seq (.rgn [⟨none, [(.mv 78 (.t 16)), (.fa 79 (.t 4) 0), (.ld 80 false 1 (.t 79)), (.bin 81 .lss (.t 78) (.t 80))]⟩] [1, 4, 11, 12, 13, 14, 15, 16, 81]) (.cond (.t 81) .skip (.exit 2))) (.seq (.block 3 (.seq (.rgn [⟨none, [(.mv 84 (.t 16)), (.mv 17 (.t 84))]⟩] [1, 4, 11, 12, 13, 14, 15, 16, 17]) (.block 4 (.loop (.seq (.seq (.rgn [⟨none, [(.mv 85 (.t 17)), (.fa 86 (.t 4) 0), (.ld 87 false 1 (.t 86)), (.bin 88 .lss (.t 85) (.t 87))]⟩] [1, 4, 11, 12, 13, 14, 15, 16, 17, 88]) (.cond (.t 88) .skip (.exit 4))) (.seq (.block 5 (.seq (.drw [⟨none, [(.ld 91 true 2 (.t 4)), (.mv 92 (.t 1)), (.mv 93 (.t 16)), (.mv 94 (.t 17)), (.call 95 50 [(.t 92), (.t 93), (.t 94)]), (.mv 96 (.t 11)), (.mv 97 (.t 12)), (.ia 98 1 (.t 96) (.t 97)), (.ld 99 false 1 (.t 98)), (.mv 100 (.t 16)), (.mv 101 (.t 17)), (.call 102 50 [(.t 99), (.t 100), (.t 101)]), (.call 103 27 [(.t 91), (.t 95), (.t 102)]), (.mv 18 (.t 103))]⟩] [(0, 4), (0, 8), (4, 8), (0, 11)] [1, 4, 11, 12, 13, 14, 15, 16, 17, 18]) (.seq (.seq (.rgn [⟨none, [(.mv 104 (.t 18)), (.bin 105 .neq (.t 104) (.k (I 0))), (.mv 106 (.t 105))]⟩, ⟨(some (106, true)), [(.mv 107 (.t 18)), (.bin 108 .neq (.t 107) (.k (I 18)))]⟩, ⟨none, [(.pick 109 (.t 106) (.t 108) (.k (B false)))]⟩] [1, 4, 11, 12, 13, 14, 15, 16, 17, 18, 109]) (.cond (.t 109) (.seq (.rgn [⟨none, [(.mv 8 (.k (B false)))]⟩] [8]) .ret) .skip)) (.rgn [⟨none, [(.mv 110 (.t 14)), (.mv 111 (.t 110))]⟩, ⟨(some (111, true)), [(.mv 112 (.t 18)), (.bin 113 .eql (.t 112) (.k (I 0)))]⟩, ⟨none, [(.pick 114 (.t 111) (.t 113) (.k (B false))), (.mv 14 (.t 114))]⟩] [1, 4, 11, 12, 13, 14, 15, 16, 17])))) (.rgn [⟨none, [(.mv 89 (.t 17)), (.bin 90 .add (.t 89) (.k (I 1))), (.mv 17 (.t 90))]⟩] [1, 4, 11, 12, 13, 14, 15, 16, 17]))))))) (.rgn [⟨none, [(.mv 82 (.t 16)), (.bin 83 .add (.t 82) (.k (I 1))), (.mv 16 (.t 83))]⟩] [1, 4, 11, 12, 13, 14, 15, 16])))))) (.seq (.seq (.rgn [⟨none, [(.mv 19 (.k (I 0)))]⟩] [1, 4, 11, 12, 13, 14, 15, 19]) (.block 6 (.loop (.seq (.seq (.rgn [⟨none, [(.mv 115 (.t 19)), (.mv 116 (.t 1)), (.len 117 (.t 116)), (.bin 118 .lss (.t 115) (.t 117))]⟩] [1, 4, 11, 12, 13, 14, 15, 19, 118]) (.cond (.t 118) .skip (.exit 6))) (.seq (.block 7 (.rgn [⟨none, [(.mv 121 (.t 15)), (.mv 122 (.t 121))]⟩, ⟨(some (122, false)), [(.mv 123 (.t 1)), (.mv 124 (.t 19)), (.ia 125 1 (.t 123) (.t 124)), (.ld 126 false 1 (.t 125)), (.bin 127 .lss (.t 126) (.k (I 0)))]⟩, ⟨none, [(.pick 128 (.t 122) (.k (B true)) (.t 127)), (.mv 15 (.t 128))]⟩] [1, 4, 11, 12, 13, 14, 15, 19])) (.rgn [⟨none, [(.mv 119 (.t 19)), (.bin 120 .add (.t 119) (.k (I 1))), (.mv 19 (.t 120))]⟩] [1, 4, 11, 12, 13, 14, 15, 19])))))) (.seq (.seq (.rgn [⟨none, [(.mv 20 (.k (I 0)))]⟩] [1, 4, 11, 12, 13, 14, 15, 20]) (.block 8 (.loop (.seq (.seq (.rgn [⟨none, [(.mv 129 (.t 20)), (.mv 130 (.t 11)), (.mv 131 (.t 12)), (.ia 132 1 (.t 130) (.t 131)), (.ld 133 false 1 (.t 132)), (.len 134 (.t 133)), (.bin 135 .lss (.t 129) (.t 134))]⟩] [1, 4, 11, 12, 13, 14, 15, 20, 135]) (.cond (.t 135) .skip (.exit 8))) (.seq (.block 9 (.rgn [⟨none, [(.mv 138 (.t 15)), (.mv 139 (.t 138))]⟩, ⟨(some (139, false)), [(.mv 140 (.t 11)), (.mv 141 (.t 12)), (.ia 142 1 (.t 140) (.t 141)), (.ld 143 false 1 (.t 142)), (.mv 144 (.t 20)), (.ia 145 1 (.t 143) (.t 144)), (.ld 146 false 1 (.t 145)), (.bin 147 .lss (.t 146) (.k (I 0)))]⟩, ⟨none, [(.pick 148 (.t 139) (.k (B true)) (.t 147)), (.mv 15 (.t 148))]⟩] [1, 4, 11, 12, 13, 14, 15, 20])) (.rgn [⟨none, [(.mv 136 (.t 20)), (.bin 137 .add (.t 136) (.k (I 1))), (.mv 20 (.t 137))]⟩] [1, 4, 11, 12, 13, 14, 15, 20])))))) (.seq (.rgn [⟨none, [(.mv 149 (.t 13)), (.bin 150 .eql (.t 149) (.k (I 0))), (.mv 151 (.t 150))]⟩, ⟨(some (151, true)), [(.mv 152 (.t 14)), (.un 153 .not (.t 152))]⟩, ⟨none, [(.pick 154 (.t 151) (.t 153) (.k (B false))), (.mv 155 (.t 154))]⟩, ⟨(some (155, false)), [(.mv 156 (.t 15)), (.un 157 .not (.t 156)), (.mv 158 (.t 157))]⟩, ⟨(some (158, true)), [(.mv 159 (.t 14))]⟩, ⟨(some (155, false)), [(.pick 160 (.t 158) (.t 159) (.k (B false))), (.mv 161 (.t 160))]⟩, ⟨(some (161, true)), [(.mv 162 (.t 13)), (.bin 163 .neq (.t 162) (.k (I 0)))]⟩, ⟨(some (155, false)), [(.pick 164 (.t 161) (.t 163) (.k (B false)))]⟩, ⟨none, [(.pick 165 (.t 155) (.k (B true)) (.t 164))]⟩] [1, 4, 11, 12, 165]) (.cond (.t 165) (.seq (.rgn [⟨none, [(.mv 8 (.k (B false)))]⟩] [8]) .ret) .skip))))))))) (.rgn [⟨none, [(.mv 59 (.t 12)), (.bin 60 .add (.t 59) (.k (I 1))), (.mv 12 (.t 60))]⟩] [1, 4, 11, 12])))))) (.seq (.rgn [⟨none, [(.call 166 19 []), (.mv 8 (.t 166))]⟩] [8]) .ret))))))
theorem form12 : formOf Try.prog Try.f12 [8] = some G12 := by kernel_rfl
theorem res12 : resTmps Try.f12.results.toList = some [8] := by kernel_rfl

/-- oxgall/oxgalllaw02.StrokeRounded -/
def G13 : AC := (.seq (.rgn [⟨none, [(.box 4 2 (.t 0)), (.mv 8 (.k (B false)))]⟩] [1, 2, 3, 4]) (.seq (.seq (.rgn [⟨none, [(.ld 27 true 2 (.t 4)), (.mv 28 (.t 1)), (.call 29 47 [(.t 27), (.t 28)]), (.un 30 .not (.t 29)), (.mv 31 (.t 30))]⟩, ⟨(some (31, false)), [(.mv 32 (.t 1)), (.len 33 (.t 32)), (.bin 34 .gtr (.t 33) (.k (I 50)))]⟩, ⟨none, [(.pick 35 (.t 31) (.k (B true)) (.t 34)), (.mv 36 (.t 35))]⟩, ⟨(some (36, false)), [(.mv 37 (.t 2)), (.len 38 (.t 37)), (.bin 39 .gtr (.t 38) (.k (I 60)))]⟩, ⟨none, [(.pick 40 (.t 36) (.k (B true)) (.t 39)), (.mv 41 (.t 40))]⟩, ⟨(some (41, false)), [(.mv 42 (.t 3)), (.len 43 (.t 42)), (.bin 44 .gtr (.t 43) (.k (I 60)))]⟩, ⟨none, [(.pick 45 (.t 41) (.k (B true)) (.t 44))]⟩] [1, 2, 3, 4, 45]) (.cond (.t 45) (.seq (.rgn [⟨none, [(.call 46 19 []), (.mv 8 (.t 46))]⟩] [8]) .ret) .skip)) (.seq (.rgn [⟨none, [(.ld 48 true 2 (.t 4)), (.mv 49 (.t 1)), (.call 50 34 [(.t 48), (.t 49)]), (.mv 47 (.t 50)), (.ext 51 (.t 47) 0), (.ext 52 (.t 47) 1), (.mv 9 (.t 51)), (.mv 10 (.t 52))]⟩] [1, 2, 3, 4, 9, 10]) (.seq (.rgn [⟨none, [(.ld 54 true 2 (.t 4)), (.mv 55 (.t 1)), (.call 56 38 [(.t 54), (.t 55)]), (.mv 53 (.t 56)), (.ext 57 (.t 53) 0), (.ext 58 (.t 53) 1), (.mv 11 (.t 57)), (.mv 12 (.t 58))]⟩] [1, 2, 3, 4, 9, 10, 11, 12]) (.seq (.rgn [⟨none, [(.ld 60 true 2 (.t 4)), (.mv 61 (.t 1)), (.call 62 32 [(.t 60), (.t 61)]), (.mv 59 (.t 62)), (.ext 63 (.t 59) 0), (.ext 64 (.t 59) 1), (.mv 13 (.t 63)), (.mv 14 (.t 64))]⟩] [1, 2, 3, 4, 9, 10, 11, 12, 13, 14]) (.seq (.seq (.rgn [⟨none, [(.mv 65 (.t 10)), (.bin 66 .neq (.t 65) (.k (I 0))), (.mv 67 (.t 66))]⟩, ⟨(some (67, false)), [(.mv 68 (.t 12)), (.bin 69 .neq (.t 68) (.k (I 0)))]⟩, ⟨none, [(.pick 70 (.t 67) (.k (B true)) (.t 69)), (.mv 71 (.t 70))]⟩, ⟨(some (71, false)), [(.mv 72 (.t 14)), (.bin 73 .neq (.t 72) (.k (I 0)))]⟩, ⟨none, [(.pick 74 (.t 71) (.k (B true)) (.t 73)), (.mv 75 (.t 74))]⟩, ⟨(some (75, false)), [(.mv 76 (.t 11)), (.len 77 (.t 76)), (.mv 78 (.t 9)), (.len 79 (.t 78)), (.bin 80 .neq (.t 77) (.t 79))]⟩, ⟨none, [(.pick 81 (.t 75) (.k (B true)) (.t 80)), (.mv 82 (.t 81))]⟩, ⟨(some (82, false)), [(.mv 83 (.t 9)), (.len 84 (.t 83)), (.mv 85 (.t 1)), (.len 86 (.t 85)), (.bin 87 .gtr (.t 84) (.t 86))]⟩, ⟨none, [(.pick 88 (.t 82) (.k (B true)) (.t 87))]⟩] [1, 2, 3, 4, 9, 11, 13, 88]) (.cond (.t 88) (.seq (.rgn [⟨none, [(.mv 8 (.k (B false)))]⟩] [8]) .ret) .skip)) (.seq (.rgn [⟨none, [(.mv 15 (.k (.sl true 0 [])))]⟩] [1, 2, 3, 4, 9, 11, 13, 15]) (.seq (.seq (.rgn [⟨none, [(.mv 16 (.k (I 0)))]⟩] [1, 2, 3, 4, 9, 11, 13, 15, 16]) (.block 0 (.loop (.seq (.seq (.rgn [⟨none, [(.mv 89 (.t 16)), (.mv 90 (.t 9)), (.len 91 (.t 90)), (.bin 92 .lss (.t 89) (.t 91))]⟩] [1, 2, 3, 4, 9, 11, 13, 15, 16, 92]) (.cond (.t 92) .skip (.exit 0))) (.seq (.block 1 (.seq (.seq (.drw [⟨none, [(.mv 95 (.t 9)), (.mv 96 (.t 16)), (.ia 97 1 (.t 95) (.t 96)), (.ld 98 false 1 (.t 97)), (.len 99 (.t 98)), (.bin 100 .lss (.t 99) (.k (I 1))), (.mv 101 (.t 100))]⟩, ⟨(some (101, false)), [(.mv 102 (.t 9)), (.mv 103 (.t 16)), (.ia 104 1 (.t 102) (.t 103)), (.ld 105 false 1 (.t 104)), (.len 106 (.t 105)), (.fa 107 (.t 4) 0), (.ld 108 false 1 (.t 107)), (.bin 109 .gtr (.t 106) (.t 108))]⟩, ⟨none, [(.pick 110 (.t 101) (.k (B true)) (.t 109))]⟩] [(10, 13)] [1, 2, 3, 4, 9, 11, 13, 15, 16, 110]) (.cond (.t 110) (.seq (.rgn [⟨none, [(.mv 8 (.k (B false)))]⟩] [8]) .ret) .skip)) (.seq (.seq (.rgn [⟨none, [(.mv 17 (.k (I 0)))]⟩] [1, 2, 3, 4, 9, 11, 13, 15, 16, 17]) (.block 2 (.loop (.seq (.seq (.rgn [⟨none, [(.mv 111 (.t 17)), (.mv 112 (.t 9)), (.mv 113 (.t 16)), (.ia 114 1 (.t 112) (.t 113)), (.ld 115 false 1 (.t 114)), (.len 116 (.t 115)), (.bin 117 .lss (.t 111) (.t 116))]⟩] [1, 2, 3, 4, 9, 11, 13, 15, 16, 17, 117]) (.cond (.t 117) .skip (.exit 2))) (.seq (.block 3 (.seq (.seq (.drw [⟨none, [(.ld 120 true 2 (.t 4)), (.mv 121 (.t 9)), (.mv 122 (.t 16)), (.ia 123 1 (.t 121) (.t 122)), (.ld 124 false 1 (.t 123)), (.mv 125 (.t 17)), (.ia 126 1 (.t 124) (.t 125)), (.ld 127 false 1 (.t 126)), (.call 128 51 [(.t 120), (.t 127)]), (.un 129 .not (.t 128))]⟩] [(0, 4), (0, 7)] [1, 2, 3, 4, 9, 11, 13, 15, 16, 17, 129]) (.cond (.t 129) (.seq (.rgn [⟨none, [(.mv 8 (.k (B false)))]⟩] [8]) .ret) .skip)) (.seq (.rgn [⟨none, [(.mv 18 (.k (I 0)))]⟩] [1, 2, 3, 4, 9, 11, 13, 15, 16, 17, 18]) (.block 4 (.loop (.seq (.seq (.rgn [⟨none, [(.mv 130 (.t 18)), (.mv 131 (.t 17)), (.bin 132 .lss (.t 130) (.t 131))]⟩] [1, 2, 3, 4, 9, 11, 13, 15, 16, 17, 18, 132]) (.cond (.t 132) .skip (.exit 4))) (.seq (.block 5 (.seq (.drw [⟨none, [(.ld 135 true 2 (.t 4)), (.mv 136 (.t 9)), (.mv 137 (.t 16)), (.ia 138 1 (.t 136) (.t 137)), (.ld 139 false 1 (.t 138)), (.mv 140 (.t 18)), (.ia 141 1 (.t 139) (.t 140)), (.ld 142 false 1 (.t 141)), (.mv 143 (.t 9)), (.mv 144 (.t 16)), (.ia 145 1 (.t 143) (.t 144)), (.ld 146 false 1 (.t 145)), (.mv 147 (.t 17)), (.ia 148 1 (.t 146) (.t 147)), (.ld 149 false 1 (.t 148)), (.call 150 52 [(.t 135), (.t 142), (.t 149)]), (.un 151 .not (.t 150))]⟩] [(0, 4), (0, 7), (0, 11), (4, 11), (7, 11), (0, 14), (4, 14), (7, 14)] [1, 2, 3, 4, 9, 11, 13, 15, 16, 17, 18, 151]) (.cond (.t 151) (.seq (.rgn [⟨none, [(.mv 8 (.k (B false)))]⟩] [8]) .ret) .skip))) (.rgn [⟨none, [(.mv 133 (.t 18)), (.bin 134 .add (.t 133) (.k (I 1))), (.mv 18 (.t 134))]⟩] [1, 2, 3, 4, 9, 11, 13, 15, 16, 17, 18])))))))) (.rgn [⟨none, [(.mv 118 (.t 17)), (.bin 119 .add (.t 118) (.k (I 1))), (.mv 17 (.t 119))]⟩] [1, 2, 3, 4, 9, 11, 13, 15, 16, 17])))))) (.rgn [⟨none, [(.mv 152 (.t 15)), (.mv 153 (.t 9)), (.mv 154 (.t 16)), (.ia 155 1 (.t 153) (.t 154)), (.ld 156 false 1 (.t 155)), (.app 157 1 8 (.t 152) (.t 156)), (.mv 15 (.t 157))]⟩] [1, 2, 3, 4, 9, 11, 13, 15, 16])))) (.rgn [⟨none, [(.mv 93 (.t 16)), (.bin 94 .add (.t 93) (.k (I 1))), (.mv 16 (.t 94))]⟩] [1, 2, 3, 4, 9, 11, 13, 15, 16])))))) (.seq (.seq (.rgn [⟨none, [(.mv 158 (.t 15)), (.len 159 (.t 158)), (.mv 160 (.t 1)), (.len 161 (.t 160)), (.bin 162 .gtr (.t 159) (.t 161)), (.mv 163 (.t 162))]⟩, ⟨(some (163, false)), [(.ld 164 true 2 (.t 4)), (.mv 165 (.t 1)), (.mv 166 (.t 15)), (.call 167 27 [(.t 164), (.t 165), (.t 166)]), (.bin 168 .neq (.t 167) (.k (I 0)))]⟩, ⟨none, [(.pick 169 (.t 163) (.k (B true)) (.t 168)), (.mv 170 (.t 169))]⟩, ⟨(some (170, false)), [(.mv 171 (.t 9)), (.len 172 (.t 171)), (.bin 173 .gtr (.t 172) (.k (I 0))), (.mv 174 (.t 173))]⟩, ⟨(some (174, true)), [(.mv 175 (.t 9)), (.ia 176 1 (.t 175) (.k (I 0))), (.ld 177 false 1 (.t 176)), (.mv 178 (.t 13)), (.call 179 26 [(.t 177), (.t 178)]), (.un 180 .not (.t 179))]⟩, ⟨(some (170, false)), [(.pick 181 (.t 174) (.t 180) (.k (B false)))]⟩, ⟨none, [(.pick 182 (.t 170) (.k (B true)) (.t 181)), (.mv 183 (.t 182))]⟩, ⟨(some (183, false)), [(.mv 184 (.t 9)), (.len 185 (.t 184)), (.bin 186 .eql (.t 185) (.k (I 0))), (.mv 187 (.t 186))]⟩, ⟨(some (187, true)), [(.mv 188 (.t 13)), (.len 189 (.t 188)), (.bin 190 .neq (.t 189) (.k (I 0)))]⟩, ⟨(some (183, false)), [(.pick 191 (.t 187) (.t 190) (.k (B false)))]⟩, ⟨none, [(.pick 192 (.t 183) (.k (B true)) (.t 191))]⟩] [1, 2, 3, 4, 9, 11, 192]) (.cond (.t 192) (.seq (.rgn [⟨none, [(.mv 8 (.k (B false)))]⟩] [8]) .ret) .skip)) (.seq (.rgn [⟨none, [(.ld 194 true 2 (.t 4)), (.mv 195 (.t 1)), (.mv 196 (.t 11)), (.call 197 36 [(.t 194), (.t 195), (.t 196)]), (.mv 193 (.t 197)), (.ext 198 (.t 193) 0), (.ext 199 (.t 193) 1), (.mv 19 (.t 198)), (.mv 20 (.t 199))]⟩] [1, 2, 3, 4, 9, 19, 20]) (.seq (.seq (.rgn [⟨none, [(.mv 200 (.t 20)), (.bin 201 .neq (.t 200) (.k (I 0))), (.mv 202 (.t 201))]⟩, ⟨(some (202, false)), [(.mv 203 (.t 19)), (.mv 204 (.t 9)), (.len 205 (.t 204)), (.bin 206 .neq (.t 203) (.t 205))]⟩, ⟨none, [(.pick 207 (.t 202) (.k (B true)) (.t 206))]⟩] [1, 2, 3, 4, 19, 207]) (.cond (.t 207) (.seq (.rgn [⟨none, [(.mv 8 (.k (B false)))]⟩] [8]) .ret) .skip)) (.seq (.rgn [⟨none, [(.ld 209 true 2 (.t 4)), (.mv 210 (.t 1)), (.mv 211 (.t 2)), (.call 212 48 [(.t 209), (.t 210), (.t 211)]), (.mv 208 (.t 212)), (.ext 213 (.t 208) 0), (.ext 214 (.t 208) 1), (.mv 21 (.t 213)), (.mv 22 (.t 214))]⟩] [1, 3, 4, 19, 21]) (.seq (.rgn [⟨none, [(.mv 23 (.k (I 0)))]⟩] [1, 3, 4, 19, 21, 23]) (.seq (.seq (.rgn [⟨none, [(.mv 24 (.k (I 0)))]⟩] [1, 3, 4, 19, 21, 23, 24]) (.block 6 (.loop (.seq (.seq (.rgn [⟨none, [(.mv 215 (.t 24)), (.mv 216 (.t 21)), (.len 217 (.t 216)), (.bin 218 .lss (.t 215) (.t 217))]⟩] [1, 3, 4, 19, 21, 23, 24, 218]) (.cond (.t 218) .skip (.exit 6))) (.block 7 (.seq (.rgn [⟨none, [(.mv 219 (.t 24)), (.bin 220 .add (.t 219) (.k (I 1))), (.mv 25 (.t 220))]⟩] [1, 3, 4, 19, 21, 23, 24, 25]) (.seq (.block 8 (.loop (.seq (.seq (.drw [⟨none, [(.mv 221 (.t 25)), (.mv 222 (.t 21)), (.len 223 (.t 222)), (.bin 224 .lss (.t 221) (.t 223)), (.mv 225 (.t 224))]⟩, ⟨(some (225, true)), [(.ld 226 true 2 (.t 4)), (.mv 227 (.t 21)), (.mv 228 (.t 24)), (.mv 229 (.t 25)), (.slc 230 1 (.t 227) (some (.t 228)) (some (.t 229)) none), (.mv 231 (.t 21)), (.mv 232 (.t 25)), (.ia 233 1 (.t 231) (.t 232)), (.ld 234 false 1 (.t 233)), (.call 235 53 [(.t 226), (.t 230), (.t 234)])]⟩, ⟨none, [(.pick 236 (.t 225) (.t 235) (.k (B false)))]⟩] [(5, 13)] [1, 3, 4, 19, 21, 23, 24, 25, 236]) (.cond (.t 236) .skip (.exit 8))) (.block 9 (.rgn [⟨none, [(.mv 237 (.t 25)), (.bin 238 .add (.t 237) (.k (I 1))), (.mv 25 (.t 238))]⟩] [1, 3, 4, 19, 21, 23, 24, 25]))))) (.seq (.rgn [⟨none, [(.mv 239 (.t 23)), (.bin 240 .add (.t 239) (.k (I 1))), (.mv 23 (.t 240))]⟩] [1, 3, 4, 19, 21, 23, 25]) (.rgn [⟨none, [(.mv 241 (.t 25)), (.mv 24 (.t 241))]⟩] [1, 3, 4, 19, 21, 23, 24]))))))))) (.seq (.rgn [⟨none, [(.ld 243 true 2 (.t 4)), (.mv 244 (.t 1)), (.mv 245 (.t 3)), (.call 246 36 [(.t 243), (.t 244), (.t 245)]), (.mv 242 (.t 246)), (.ext 247 (.t 242) 0), (.ext 248 (.t 242) 1), (.mv 26 (.t 247)), (.mv 20 (.t 248))]⟩] [19, 20, 23, 26]) (.seq (.rgn [⟨none, [(.mv 249 (.t 23)), (.mv 250 (.t 19)), (.bin 251 .geq (.t 249) (.t 250)), (.mv 252 (.t 251))]⟩, ⟨(some (252, true)), [(.mv 253 (.t 20)), (.bin 254 .neq (.t 253) (.k (I 0))), (.mv 255 (.t 254))]⟩, ⟨(some (255, false)), [(.mv 256 (.t 26)), (.mv 257 (.t 19)), (.bin 258 .leq (.t 256) (.t 257))]⟩, ⟨(some (252, true)), [(.pick 259 (.t 255) (.k (B true)) (.t 258))]⟩, ⟨none, [(.pick 260 (.t 252) (.t 259) (.k (B false))), (.mv 261 (.t 260))]⟩, ⟨(some (261, true)), [(.call 262 19 [])]⟩, ⟨none, [(.pick 263 (.t 261) (.t 262) (.k (B false))), (.mv 8 (.t 263))]⟩] [8]) .ret))))))))))))))))
theorem form13 : formOf Try.prog Try.f13 [8] = some G13 := by kernel_rfl
theorem res13 : resTmps Try.f13.results.toList = some [8] := by kernel_rfl

/-- oxgall/oxgalllaw02.StrokeFar -/
def G14 : AC := (.seq (.rgn [⟨none, [(.box 5 2 (.t 0)), (.mv 10 (.k (B false)))]⟩] [1, 2, 3, 4, 5]) (.seq (.seq (.rgn [⟨none, [(.ld 22 true 2 (.t 5)), (.mv 23 (.t 1)), (.call 24 47 [(.t 22), (.t 23)]), (.un 25 .not (.t 24)), (.mv 26 (.t 25))]⟩, ⟨(some (26, false)), [(.ld 27 true 2 (.t 5)), (.mv 28 (.t 2)), (.call 29 47 [(.t 27), (.t 28)]), (.un 30 .not (.t 29))]⟩, ⟨none, [(.pick 31 (.t 26) (.k (B true)) (.t 30)), (.mv 32 (.t 31))]⟩, ⟨(some (32, false)), [(.ld 33 true 2 (.t 5)), (.mv 34 (.t 3)), (.call 35 47 [(.t 33), (.t 34)]), (.un 36 .not (.t 35))]⟩, ⟨none, [(.pick 37 (.t 32) (.k (B true)) (.t 36)), (.mv 38 (.t 37))]⟩, ⟨(some (38, false)), [(.mv 39 (.t 1)), (.len 40 (.t 39)), (.bin 41 .gtr (.t 40) (.k (I 25)))]⟩, ⟨none, [(.pick 42 (.t 38) (.k (B true)) (.t 41)), (.mv 43 (.t 42))]⟩, ⟨(some (43, false)), [(.mv 44 (.t 2)), (.len 45 (.t 44)), (.bin 46 .gtr (.t 45) (.k (I 25)))]⟩, ⟨none, [(.pick 47 (.t 43) (.k (B true)) (.t 46)), (.mv 48 (.t 47))]⟩, ⟨(some (48, false)), [(.mv 49 (.t 3)), (.len 50 (.t 49)), (.bin 51 .gtr (.t 50) (.k (I 25)))]⟩, ⟨none, [(.pick 52 (.t 48) (.k (B true)) (.t 51))]⟩] [1, 2, 3, 4, 5, 52]) (.cond (.t 52) (.seq (.rgn [⟨none, [(.call 53 19 []), (.mv 10 (.t 53))]⟩] [10]) .ret) .skip)) (.seq (.rgn [⟨none, [(.ld 55 true 2 (.t 5)), (.mv 56 (.t 1)), (.mv 57 (.t 2)), (.call 58 43 [(.t 55), (.t 56), (.t 57)]), (.mv 54 (.t 58)), (.ext 59 (.t 54) 0), (.ext 60 (.t 54) 1), (.mv 11 (.t 59)), (.mv 12 (.t 60))]⟩] [1, 2, 3, 4, 5, 11, 12]) (.seq (.rgn [⟨none, [(.ld 62 true 2 (.t 5)), (.mv 63 (.t 2)), (.mv 64 (.t 1)), (.call 65 43 [(.t 62), (.t 63), (.t 64)]), (.mv 61 (.t 65)), (.ext 66 (.t 61) 0), (.ext 67 (.t 61) 1), (.mv 13 (.t 66)), (.mv 14 (.t 67))]⟩] [1, 2, 3, 4, 5, 11, 12, 13, 14]) (.seq (.rgn [⟨none, [(.ld 69 true 2 (.t 5)), (.mv 70 (.t 2)), (.mv 71 (.t 3)), (.call 72 43 [(.t 69), (.t 70), (.t 71)]), (.mv 68 (.t 72)), (.ext 73 (.t 68) 0), (.ext 74 (.t 68) 1), (.mv 15 (.t 73)), (.mv 16 (.t 74))]⟩] [1, 2, 3, 4, 5, 11, 12, 13, 14, 15, 16]) (.seq (.rgn [⟨none, [(.ld 76 true 2 (.t 5)), (.mv 77 (.t 1)), (.mv 78 (.t 3)), (.call 79 43 [(.t 76), (.t 77), (.t 78)]), (.mv 75 (.t 79)), (.ext 80 (.t 75) 0), (.ext 81 (.t 75) 1), (.mv 17 (.t 80)), (.mv 18 (.t 81))]⟩] [1, 2, 4, 5, 11, 12, 13, 14, 15, 16, 17, 18]) (.seq (.seq (.rgn [⟨none, [(.mv 82 (.t 12)), (.bin 83 .neq (.t 82) (.k (I 0))), (.mv 84 (.t 83))]⟩, ⟨(some (84, false)), [(.mv 85 (.t 14)), (.bin 86 .neq (.t 85) (.k (I 0)))]⟩, ⟨none, [(.pick 87 (.t 84) (.k (B true)) (.t 86)), (.mv 88 (.t 87))]⟩, ⟨(some (88, false)), [(.mv 89 (.t 16)), (.bin 90 .neq (.t 89) (.k (I 0)))]⟩, ⟨none, [(.pick 91 (.t 88) (.k (B true)) (.t 90)), (.mv 92 (.t 91))]⟩, ⟨(some (92, false)), [(.mv 93 (.t 18)), (.bin 94 .neq (.t 93) (.k (I 0)))]⟩, ⟨none, [(.pick 95 (.t 92) (.k (B true)) (.t 94)), (.mv 96 (.t 95))]⟩, ⟨(some (96, false)), [(.mv 97 (.t 11)), (.len 98 (.t 97)), (.mv 99 (.t 13)), (.len 100 (.t 99)), (.bin 101 .neq (.t 98) (.t 100))]⟩, ⟨none, [(.pick 102 (.t 96) (.k (B true)) (.t 101)), (.mv 103 (.t 102))]⟩, ⟨(some (103, false)), [(.mv 104 (.t 17)), (.len 105 (.t 104)), (.mv 106 (.t 11)), (.len 107 (.t 106)), (.mv 108 (.t 15)), (.len 109 (.t 108)), (.bin 110 .add (.t 107) (.t 109)), (.bin 111 .gtr (.t 105) (.t 110))]⟩, ⟨none, [(.pick 112 (.t 103) (.k (B true)) (.t 111)), (.mv 113 (.t 112))]⟩, ⟨(some (113, false)), [(.mv 114 (.t 11)), (.len 115 (.t 114)), (.mv 116 (.t 1)), (.len 117 (.t 116)), (.mv 118 (.t 2)), (.len 119 (.t 118)), (.bin 120 .add (.t 117) (.t 119)), (.bin 121 .gtr (.t 115) (.t 120))]⟩, ⟨none, [(.pick 122 (.t 113) (.k (B true)) (.t 121)), (.mv 123 (.t 122))]⟩, ⟨(some (123, false)), [(.ld 124 true 2 (.t 5)), (.mv 125 (.t 11)), (.call 126 47 [(.t 124), (.t 125)]), (.un 127 .not (.t 126))]⟩, ⟨none, [(.pick 128 (.t 123) (.k (B true)) (.t 127))]⟩] [1, 2, 4, 5, 11, 128]) (.cond (.t 128) (.seq (.rgn [⟨none, [(.mv 10 (.k (B false)))]⟩] [10]) .ret) .skip)) (.seq (.seq (.drw [⟨none, [(.mv 129 (.t 11)), (.len 130 (.t 129)), (.bin 131 .eql (.t 130) (.k (I 0))), (.ld 132 true 2 (.t 5)), (.mv 133 (.t 1)), (.mv 134 (.t 2)), (.call 135 27 [(.t 132), (.t 133), (.t 134)]), (.bin 136 .eql (.t 135) (.k (I 0))), (.eqk 137 true (false, [.bool]) (.t 131) (.t 136)), (.mv 138 (.t 137))]⟩, ⟨(some (138, false)), [(.mv 139 (.t 1)), (.len 140 (.t 139)), (.mv 141 (.t 11)), (.len 142 (.t 141)), (.bin 143 .add (.t 140) (.t 142)), (.bin 144 .leq (.t 143) (.k (I 60))), (.mv 145 (.t 144))]⟩, ⟨(some (145, true)), [(.ld 146 true 2 (.t 5)), (.bsl 147 0 1 [(I 0)] []), (.mv 148 (.t 1)), (.app 149 1 8 (.t 147) (.t 148)), (.mv 150 (.t 11)), (.app 151 1 8 (.t 149) (.t 150)), (.mv 152 (.t 2)), (.call 153 27 [(.t 146), (.t 151), (.t 152)]), (.bin 154 .neq (.t 153) (.k (I 0)))]⟩, ⟨(some (138, false)), [(.pick 155 (.t 145) (.t 154) (.k (B false)))]⟩, ⟨none, [(.pick 156 (.t 138) (.k (B true)) (.t 155))]⟩] [(17, 18), (17, 20), (17, 22)] [1, 4, 5, 156]) (.cond (.t 156) (.seq (.rgn [⟨none, [(.mv 10 (.k (B false)))]⟩] [10]) .ret) .skip)) (.seq (.rgn [⟨none, [(.mv 157 (.t 4)), (.cnv 158 .i64 (.t 157)), (.fa 159 (.t 5) 0), (.ld 160 false 1 (.t 159)), (.bin 161 .rem (.t 158) (.t 160)), (.bin 162 .add (.k (I 1)) (.t 161)), (.mv 19 (.t 162))]⟩] [1, 4, 5, 19]) (.seq (.seq (.rgn [⟨none, [(.mv 163 (.t 4)), (.bin 164 .geq (.t 163) (.k (.v (.int .u8 128))))]⟩] [1, 5, 19, 164]) (.cond (.t 164) (.rgn [⟨none, [(.mv 165 (.t 19)), (.un 166 .neg (.t 165)), (.mv 19 (.t 166))]⟩] [1, 5, 19]) .skip)) (.seq (.rgn [⟨none, [(.ld 168 true 2 (.t 5)), (.mv 169 (.t 1)), (.call 170 24 [(.t 168), (.t 169)]), (.mv 167 (.t 170)), (.ext 171 (.t 167) 0), (.ext 172 (.t 167) 1), (.mv 20 (.t 171)), (.mv 12 (.t 172))]⟩] [1, 5, 12, 19, 20]) (.seq (.drw [⟨none, [(.ld 174 true 2 (.t 5)), (.bsl 175 0 1 [(I 0)] []), (.mv 176 (.t 1)), (.app 177 1 8 (.t 175) (.t 176)), (.mv 178 (.t 19)), (.bsl 179 1 1 [(I 0)] [(0, (.t 178))]), (.app 180 1 8 (.t 177) (.t 179)), (.call 181 24 [(.t 174), (.t 180)]), (.mv 173 (.t 181)), (.ext 182 (.t 173) 0), (.ext 183 (.t 173) 1), (.mv 21 (.t 182)), (.mv 14 (.t 183))]⟩] [(0, 1), (0, 3), (0, 5), (1, 5), (3, 5), (0, 6)] [12, 14, 20, 21]) (.seq (.rgn [⟨none, [(.mv 184 (.t 12)), (.bin 185 .eql (.t 184) (.k (I 0))), (.mv 186 (.t 185))]⟩, ⟨(some (186, true)), [(.mv 187 (.t 14)), (.bin 188 .eql (.t 187) (.k (I 0)))]⟩, ⟨none, [(.pick 189 (.t 186) (.t 188) (.k (B false))), (.mv 190 (.t 189))]⟩, ⟨(some (190, true)), [(.mv 191 (.t 21)), (.len 192 (.t 191)), (.mv 193 (.t 20)), (.len 194 (.t 193)), (.bin 195 .add (.t 194) (.k (I 1))), (.bin 196 .eql (.t 192) (.t 195)), (.mv 197 (.t 196))]⟩, ⟨(some (197, false)), [(.mv 198 (.t 21)), (.len 199 (.t 198)), (.mv 200 (.t 20)), (.len 201 (.t 200)), (.bin 202 .sub (.t 201) (.k (I 1))), (.bin 203 .eql (.t 199) (.t 202))]⟩, ⟨(some (190, true)), [(.pick 204 (.t 197) (.k (B true)) (.t 203))]⟩, ⟨none, [(.pick 205 (.t 190) (.t 204) (.k (B false))), (.mv 206 (.t 205))]⟩, ⟨(some (206, true)), [(.call 207 19 [])]⟩, ⟨none, [(.pick 208 (.t 206) (.t 207) (.k (B false))), (.mv 10 (.t 208))]⟩] [10]) .ret)))))))))))))
theorem form14 : formOf Try.prog Try.f14 [10] = some G14 := by kernel_rfl
theorem res14 : resTmps Try.f14.results.toList = some [10] := by kernel_rfl

/-- oxgall/oxgalllaw02.StrokeMeet -/
def G15 : AC := (.seq (.rgn [⟨none, [(.box 4 2 (.t 0)), (.mv 8 (.k (B false)))]⟩] [1, 2, 3, 4]) (.seq (.seq (.rgn [⟨none, [(.ld 29 true 2 (.t 4)), (.mv 30 (.t 1)), (.call 31 47 [(.t 29), (.t 30)]), (.un 32 .not (.t 31)), (.mv 33 (.t 32))]⟩, ⟨(some (33, false)), [(.ld 34 true 2 (.t 4)), (.mv 35 (.t 2)), (.call 36 47 [(.t 34), (.t 35)]), (.un 37 .not (.t 36))]⟩, ⟨none, [(.pick 38 (.t 33) (.k (B true)) (.t 37)), (.mv 39 (.t 38))]⟩, ⟨(some (39, false)), [(.ld 40 true 2 (.t 4)), (.mv 41 (.t 3)), (.call 42 47 [(.t 40), (.t 41)]), (.un 43 .not (.t 42))]⟩, ⟨none, [(.pick 44 (.t 39) (.k (B true)) (.t 43)), (.mv 45 (.t 44))]⟩, ⟨(some (45, false)), [(.mv 46 (.t 1)), (.len 47 (.t 46)), (.bin 48 .gtr (.t 47) (.k (I 20)))]⟩, ⟨none, [(.pick 49 (.t 45) (.k (B true)) (.t 48)), (.mv 50 (.t 49))]⟩, ⟨(some (50, false)), [(.mv 51 (.t 2)), (.len 52 (.t 51)), (.bin 53 .gtr (.t 52) (.k (I 20)))]⟩, ⟨none, [(.pick 54 (.t 50) (.k (B true)) (.t 53)), (.mv 55 (.t 54))]⟩, ⟨(some (55, false)), [(.mv 56 (.t 3)), (.len 57 (.t 56)), (.bin 58 .gtr (.t 57) (.k (I 20)))]⟩, ⟨none, [(.pick 59 (.t 55) (.k (B true)) (.t 58))]⟩] [1, 2, 3, 4, 59]) (.cond (.t 59) (.seq (.rgn [⟨none, [(.call 60 19 []), (.mv 8 (.t 60))]⟩] [8]) .ret) .skip)) (.seq (.rgn [⟨none, [(.ld 62 true 2 (.t 4)), (.mv 63 (.t 1)), (.call 64 24 [(.t 62), (.t 63)]), (.mv 61 (.t 64)), (.ext 65 (.t 61) 0), (.ext 66 (.t 61) 1), (.mv 9 (.t 65)), (.mv 10 (.t 66))]⟩] [1, 2, 3, 4, 9, 10]) (.seq (.rgn [⟨none, [(.ld 68 true 2 (.t 4)), (.mv 69 (.t 2)), (.call 70 24 [(.t 68), (.t 69)]), (.mv 67 (.t 70)), (.ext 71 (.t 67) 0), (.ext 72 (.t 67) 1), (.mv 11 (.t 71)), (.mv 12 (.t 72))]⟩] [1, 2, 3, 4, 9, 10, 11, 12]) (.seq (.rgn [⟨none, [(.ld 74 true 2 (.t 4)), (.mv 75 (.t 1)), (.mv 76 (.t 2)), (.call 77 45 [(.t 74), (.t 75), (.t 76)]), (.mv 73 (.t 77)), (.ext 78 (.t 73) 0), (.ext 79 (.t 73) 1), (.mv 13 (.t 78)), (.mv 14 (.t 79))]⟩] [1, 2, 3, 4, 9, 10, 11, 12, 13, 14]) (.seq (.rgn [⟨none, [(.ld 81 true 2 (.t 4)), (.mv 82 (.t 2)), (.mv 83 (.t 1)), (.call 84 45 [(.t 81), (.t 82), (.t 83)]), (.mv 80 (.t 84)), (.ext 85 (.t 80) 0), (.ext 86 (.t 80) 1), (.mv 15 (.t 85)), (.mv 16 (.t 86))]⟩] [1, 2, 3, 4, 9, 10, 11, 12, 13, 14, 15, 16]) (.seq (.rgn [⟨none, [(.ld 88 true 2 (.t 4)), (.mv 89 (.t 1)), (.mv 90 (.t 2)), (.call 91 43 [(.t 88), (.t 89), (.t 90)]), (.mv 87 (.t 91)), (.ext 92 (.t 87) 0), (.ext 93 (.t 87) 1), (.mv 17 (.t 92)), (.mv 18 (.t 93))]⟩] [1, 2, 3, 4, 9, 10, 11, 12, 13, 14, 15, 16, 17, 18]) (.seq (.seq (.rgn [⟨none, [(.mv 94 (.t 10)), (.bin 95 .neq (.t 94) (.k (I 0))), (.mv 96 (.t 95))]⟩, ⟨(some (96, false)), [(.mv 97 (.t 12)), (.bin 98 .neq (.t 97) (.k (I 0)))]⟩, ⟨none, [(.pick 99 (.t 96) (.k (B true)) (.t 98)), (.mv 100 (.t 99))]⟩, ⟨(some (100, false)), [(.mv 101 (.t 14)), (.bin 102 .neq (.t 101) (.k (I 0)))]⟩, ⟨none, [(.pick 103 (.t 100) (.k (B true)) (.t 102)), (.mv 104 (.t 103))]⟩, ⟨(some (104, false)), [(.mv 105 (.t 16)), (.bin 106 .neq (.t 105) (.k (I 0)))]⟩, ⟨none, [(.pick 107 (.t 104) (.k (B true)) (.t 106)), (.mv 108 (.t 107))]⟩, ⟨(some (108, false)), [(.mv 109 (.t 18)), (.bin 110 .neq (.t 109) (.k (I 0)))]⟩, ⟨none, [(.pick 111 (.t 108) (.k (B true)) (.t 110)), (.mv 112 (.t 111))]⟩, ⟨(some (112, false)), [(.ld 113 true 2 (.t 4)), (.mv 114 (.t 13)), (.call 115 47 [(.t 113), (.t 114)]), (.un 116 .not (.t 115))]⟩, ⟨none, [(.pick 117 (.t 112) (.k (B true)) (.t 116)), (.mv 118 (.t 117))]⟩, ⟨(some (118, false)), [(.mv 119 (.t 13)), (.mv 120 (.t 15)), (.call 121 26 [(.t 119), (.t 120)]), (.un 122 .not (.t 121))]⟩, ⟨none, [(.pick 123 (.t 118) (.k (B true)) (.t 122)), (.mv 124 (.t 123))]⟩, ⟨(some (124, false)), [(.mv 125 (.t 9)), (.len 126 (.t 125)), (.mv 127 (.t 11)), (.len 128 (.t 127)), (.bin 129 .add (.t 126) (.t 128)), (.mv 130 (.t 17)), (.len 131 (.t 130)), (.mv 132 (.t 13)), (.len 133 (.t 132)), (.bin 134 .mul (.k (I 2)) (.t 133)), (.bin 135 .add (.t 131) (.t 134)), (.bin 136 .neq (.t 129) (.t 135))]⟩, ⟨none, [(.pick 137 (.t 124) (.k (B true)) (.t 136))]⟩] [1, 2, 3, 4, 9, 11, 13, 137]) (.cond (.t 137) (.seq (.rgn [⟨none, [(.mv 8 (.k (B false)))]⟩] [8]) .ret) .skip)) (.seq (.rgn [⟨none, [(.ld 139 true 2 (.t 4)), (.mv 140 (.t 13)), (.mv 141 (.t 1)), (.call 142 43 [(.t 139), (.t 140), (.t 141)]), (.mv 138 (.t 142)), (.ext 143 (.t 138) 0), (.ext 144 (.t 138) 1), (.mv 19 (.t 143)), (.mv 10 (.t 144))]⟩] [1, 2, 3, 4, 9, 10, 11, 13, 19]) (.seq (.rgn [⟨none, [(.ld 146 true 2 (.t 4)), (.mv 147 (.t 13)), (.mv 148 (.t 2)), (.call 149 43 [(.t 146), (.t 147), (.t 148)]), (.mv 145 (.t 149)), (.ext 150 (.t 145) 0), (.ext 151 (.t 145) 1), (.mv 20 (.t 150)), (.mv 12 (.t 151))]⟩] [1, 2, 3, 4, 9, 10, 11, 12, 13, 19, 20]) (.seq (.seq (.rgn [⟨none, [(.mv 152 (.t 10)), (.bin 153 .neq (.t 152) (.k (I 0))), (.mv 154 (.t 153))]⟩, ⟨(some (154, false)), [(.mv 155 (.t 12)), (.bin 156 .neq (.t 155) (.k (I 0)))]⟩, ⟨none, [(.pick 157 (.t 154) (.k (B true)) (.t 156)), (.mv 158 (.t 157))]⟩, ⟨(some (158, false)), [(.mv 159 (.t 13)), (.len 160 (.t 159)), (.mv 161 (.t 19)), (.len 162 (.t 161)), (.bin 163 .add (.t 160) (.t 162)), (.mv 164 (.t 9)), (.len 165 (.t 164)), (.bin 166 .neq (.t 163) (.t 165))]⟩, ⟨none, [(.pick 167 (.t 158) (.k (B true)) (.t 166)), (.mv 168 (.t 167))]⟩, ⟨(some (168, false)), [(.mv 169 (.t 13)), (.len 170 (.t 169)), (.mv 171 (.t 20)), (.len 172 (.t 171)), (.bin 173 .add (.t 170) (.t 172)), (.mv 174 (.t 11)), (.len 175 (.t 174)), (.bin 176 .neq (.t 173) (.t 175))]⟩, ⟨none, [(.pick 177 (.t 168) (.k (B true)) (.t 176))]⟩] [1, 2, 3, 4, 9, 11, 177]) (.cond (.t 177) (.seq (.rgn [⟨none, [(.mv 8 (.k (B false)))]⟩] [8]) .ret) .skip)) (.seq (.rgn [⟨none, [(.bsl 178 0 1 [(I 0)] []), (.mv 179 (.t 3)), (.app 180 1 8 (.t 178) (.t 179)), (.mv 181 (.t 1)), (.app 182 1 8 (.t 180) (.t 181)), (.bsl 183 0 1 [(I 0)] []), (.mv 184 (.t 3)), (.app 185 1 8 (.t 183) (.t 184)), (.mv 186 (.t 2)), (.app 187 1 8 (.t 185) (.t 186)), (.mv 21 (.t 182)), (.mv 22 (.t 187))]⟩] [3, 4, 9, 11, 21, 22]) (.seq (.rgn [⟨none, [(.ld 189 true 2 (.t 4)), (.mv 190 (.t 3)), (.call 191 24 [(.t 189), (.t 190)]), (.mv 188 (.t 191)), (.ext 192 (.t 188) 0), (.ext 193 (.t 188) 1), (.mv 23 (.t 192)), (.mv 10 (.t 193))]⟩] [3, 4, 9, 10, 11, 21, 22, 23]) (.seq (.rgn [⟨none, [(.ld 195 true 2 (.t 4)), (.mv 196 (.t 21)), (.call 197 24 [(.t 195), (.t 196)]), (.mv 194 (.t 197)), (.ext 198 (.t 194) 0), (.ext 199 (.t 194) 1), (.mv 24 (.t 198)), (.mv 12 (.t 199))]⟩] [3, 4, 9, 10, 11, 12, 21, 22, 23, 24]) (.seq (.rgn [⟨none, [(.ld 201 true 2 (.t 4)), (.mv 202 (.t 22)), (.call 203 24 [(.t 201), (.t 202)]), (.mv 200 (.t 203)), (.ext 204 (.t 200) 0), (.ext 205 (.t 200) 1), (.mv 25 (.t 204)), (.mv 14 (.t 205))]⟩] [3, 4, 9, 10, 11, 12, 14, 21, 22, 23, 24, 25]) (.seq (.rgn [⟨none, [(.ld 207 true 2 (.t 4)), (.mv 208 (.t 21)), (.mv 209 (.t 22)), (.call 210 45 [(.t 207), (.t 208), (.t 209)]), (.mv 206 (.t 210)), (.ext 211 (.t 206) 0), (.ext 212 (.t 206) 1), (.mv 26 (.t 211)), (.mv 16 (.t 212))]⟩] [3, 4, 9, 10, 11, 12, 14, 16, 23, 24, 25, 26]) (.seq (.seq (.rgn [⟨none, [(.mv 213 (.t 10)), (.bin 214 .neq (.t 213) (.k (I 0))), (.mv 215 (.t 214))]⟩, ⟨(some (215, false)), [(.mv 216 (.t 12)), (.bin 217 .neq (.t 216) (.k (I 0)))]⟩, ⟨none, [(.pick 218 (.t 215) (.k (B true)) (.t 217)), (.mv 219 (.t 218))]⟩, ⟨(some (219, false)), [(.mv 220 (.t 14)), (.bin 221 .neq (.t 220) (.k (I 0)))]⟩, ⟨none, [(.pick 222 (.t 219) (.k (B true)) (.t 221)), (.mv 223 (.t 222))]⟩, ⟨(some (223, false)), [(.mv 224 (.t 16)), (.bin 225 .neq (.t 224) (.k (I 0)))]⟩, ⟨none, [(.pick 226 (.t 223) (.k (B true)) (.t 225)), (.mv 227 (.t 226))]⟩, ⟨(some (227, false)), [(.ld 228 true 2 (.t 4)), (.mv 229 (.t 26)), (.call 230 47 [(.t 228), (.t 229)]), (.un 231 .not (.t 230))]⟩, ⟨none, [(.pick 232 (.t 227) (.k (B true)) (.t 231))]⟩] [3, 4, 9, 11, 23, 24, 25, 26, 232]) (.cond (.t 232) (.seq (.rgn [⟨none, [(.mv 8 (.k (B false)))]⟩] [8]) .ret) .skip)) (.seq (.seq (.rgn [⟨none, [(.mv 233 (.t 24)), (.len 234 (.t 233)), (.mv 235 (.t 23)), (.len 236 (.t 235)), (.mv 237 (.t 9)), (.len 238 (.t 237)), (.bin 239 .add (.t 236) (.t 238)), (.bin 240 .neq (.t 234) (.t 239)), (.mv 241 (.t 240))]⟩, ⟨(some (241, false)), [(.mv 242 (.t 25)), (.len 243 (.t 242)), (.mv 244 (.t 23)), (.len 245 (.t 244)), (.mv 246 (.t 11)), (.len 247 (.t 246)), (.bin 248 .add (.t 245) (.t 247)), (.bin 249 .neq (.t 243) (.t 248))]⟩, ⟨none, [(.pick 250 (.t 241) (.k (B true)) (.t 249))]⟩] [3, 4, 23, 26, 250]) (.cond (.t 250) (.seq (.rgn [⟨none, [(.call 251 19 []), (.mv 8 (.t 251))]⟩] [8]) .ret) .skip)) (.seq (.rgn [⟨none, [(.ld 253 true 2 (.t 4)), (.mv 254 (.t 3)), (.mv 255 (.t 26)), (.call 256 43 [(.t 253), (.t 254), (.t 255)]), (.mv 252 (.t 256)), (.ext 257 (.t 252) 0), (.ext 258 (.t 252) 1), (.mv 27 (.t 257)), (.mv 28 (.t 258))]⟩] [23, 26, 27, 28]) (.seq (.rgn [⟨none, [(.mv 259 (.t 28)), (.bin 260 .eql (.t 259) (.k (I 0))), (.mv 261 (.t 260))]⟩, ⟨(some (261, true)), [(.mv 262 (.t 23)), (.len 263 (.t 262)), (.mv 264 (.t 27)), (.len 265 (.t 264)), (.bin 266 .add (.t 263) (.t 265)), (.mv 267 (.t 26)), (.len 268 (.t 267)), (.bin 269 .eql (.t 266) (.t 268))]⟩, ⟨none, [(.pick 270 (.t 261) (.t 269) (.k (B false))), (.mv 271 (.t 270))]⟩, ⟨(some (271, true)), [(.call 272 19 [])]⟩, ⟨none, [(.pick 273 (.t 271) (.t 272) (.k (B false))), (.mv 8 (.t 273))]⟩] [8]) .ret))))))))))))))))))))
theorem form15 : formOf Try.prog Try.f15 [8] = some G15 := by kernel_rfl
theorem res15 : resTmps Try.f15.results.toList = some [8] := by kernel_rfl

/-- oxgall/oxgalllaw02.StrokeCrossed -/
def G16 : AC := (.seq (.rgn [⟨none, [(.box 5 2 (.t 0)), (.box 9 2 (.t 4)), (.mv 10 (.k (B false)))]⟩] [1, 2, 3, 5, 9]) (.seq (.seq (.rgn [⟨none, [(.ld 20 true 2 (.t 5)), (.mv 21 (.t 1)), (.call 22 47 [(.t 20), (.t 21)]), (.un 23 .not (.t 22)), (.mv 24 (.t 23))]⟩, ⟨(some (24, false)), [(.ld 25 true 2 (.t 5)), (.mv 26 (.t 2)), (.call 27 47 [(.t 25), (.t 26)]), (.un 28 .not (.t 27))]⟩, ⟨none, [(.pick 29 (.t 24) (.k (B true)) (.t 28)), (.mv 30 (.t 29))]⟩, ⟨(some (30, false)), [(.mv 31 (.t 1)), (.len 32 (.t 31)), (.bin 33 .gtr (.t 32) (.k (I 50)))]⟩, ⟨none, [(.pick 34 (.t 30) (.k (B true)) (.t 33)), (.mv 35 (.t 34))]⟩, ⟨(some (35, false)), [(.mv 36 (.t 3)), (.len 37 (.t 36)), (.bin 38 .gtr (.t 37) (.k (I 60)))]⟩, ⟨none, [(.pick 39 (.t 35) (.k (B true)) (.t 38))]⟩] [1, 2, 3, 5, 9, 39]) (.cond (.t 39) (.seq (.rgn [⟨none, [(.call 40 19 []), (.mv 10 (.t 40))]⟩] [10]) .ret) .skip)) (.seq (.drw [⟨none, [(.iaa 41 2 1 (.t 9) (.k (I 0))), (.ld 42 false 1 (.t 41)), (.cnv 43 .i64 (.t 42)), (.fa 44 (.t 5) 0), (.ld 45 false 1 (.t 44)), (.bin 46 .rem (.t 43) (.t 45)), (.iaa 47 2 1 (.t 9) (.k (I 1))), (.ld 48 false 1 (.t 47)), (.cnv 49 .i64 (.t 48)), (.fa 50 (.t 5) 0), (.ld 51 false 1 (.t 50)), (.bin 52 .rem (.t 49) (.t 51)), (.mv 11 (.t 46)), (.mv 12 (.t 52))]⟩] [(1, 4), (1, 7), (4, 7), (1, 10), (4, 10), (7, 10)] [1, 2, 3, 5, 11, 12]) (.seq (.drw [⟨none, [(.fa 53 (.t 5) 0), (.ld 54 false 1 (.t 53)), (.bsl 55 0 2 [(I 0), (I 0)] []), (.fa 56 (.t 5) 1), (.ld 57 false 1 (.t 56)), (.app 58 2 16 (.t 55) (.t 57)), (.mv 59 (.t 11)), (.mv 60 (.t 12)), (.mx 61 false (.t 59) (.t 60)), (.mv 62 (.t 11)), (.mv 63 (.t 12)), (.mx 64 true (.t 62) (.t 63)), (.bld 65 [(I 0), (I 0)] [(0, 1, (.t 61)), (1, 1, (.t 64))]), (.bsl 66 1 2 [(I 0), (I 0)] [(0, (.t 65))]), (.app 67 2 16 (.t 58) (.t 66)), (.bld 68 [(I 0), (.sl true 0 [])] [(0, 1, (.t 54)), (1, 1, (.t 67))]), (.al 13 [(I 0), (.sl true 0 [])]), (.st 2 (.t 13) (.t 68))]⟩] [(1, 2), (1, 4), (2, 4), (1, 5), (1, 13), (2, 13), (4, 13), (5, 13), (1, 14), (1, 16), (2, 16), (4, 16), (5, 16), (13, 16), (14, 16)] [1, 2, 3, 5, 13]) (.seq (.seq (.rgn [⟨none, [(.ld 69 true 2 (.t 13)), (.call 70 21 [(.t 69)]), (.bin 71 .neq (.t 70) (.k (I 0)))]⟩] [1, 2, 3, 5, 13, 71]) (.cond (.t 71) (.seq (.rgn [⟨none, [(.call 72 19 []), (.mv 10 (.t 72))]⟩] [10]) .ret) .skip)) (.seq (.rgn [⟨none, [(.ld 74 true 2 (.t 13)), (.mv 75 (.t 1)), (.mv 76 (.t 3)), (.call 77 48 [(.t 74), (.t 75), (.t 76)]), (.mv 73 (.t 77)), (.ext 78 (.t 73) 0), (.ext 79 (.t 73) 1), (.mv 14 (.t 78)), (.mv 15 (.t 79))]⟩] [1, 2, 5, 13, 14]) (.seq (.rgn [⟨none, [(.ld 81 true 2 (.t 5)), (.mv 82 (.t 1)), (.call 83 24 [(.t 81), (.t 82)]), (.mv 80 (.t 83)), (.ext 84 (.t 80) 0), (.ext 85 (.t 80) 1), (.mv 16 (.t 84)), (.mv 17 (.t 85))]⟩] [1, 2, 5, 13, 14, 16, 17]) (.seq (.rgn [⟨none, [(.ld 87 true 2 (.t 13)), (.mv 88 (.t 1)), (.call 89 24 [(.t 87), (.t 88)]), (.mv 86 (.t 89)), (.ext 90 (.t 86) 0), (.ext 91 (.t 86) 1), (.mv 18 (.t 90)), (.mv 19 (.t 91))]⟩] [1, 2, 5, 13, 14, 16, 17, 18, 19]) (.seq (.rgn [⟨none, [(.mv 92 (.t 17)), (.bin 93 .eql (.t 92) (.k (I 0))), (.mv 94 (.t 93))]⟩, ⟨(some (94, true)), [(.mv 95 (.t 19)), (.bin 96 .eql (.t 95) (.k (I 0)))]⟩, ⟨none, [(.pick 97 (.t 94) (.t 96) (.k (B false))), (.mv 98 (.t 97))]⟩, ⟨(some (98, true)), [(.mv 99 (.t 18)), (.len 100 (.t 99)), (.mv 101 (.t 16)), (.len 102 (.t 101)), (.bin 103 .geq (.t 100) (.t 102))]⟩, ⟨none, [(.pick 104 (.t 98) (.t 103) (.k (B false))), (.mv 105 (.t 104))]⟩, ⟨(some (105, true)), [(.ld 106 true 2 (.t 13)), (.mv 107 (.t 1)), (.mv 108 (.t 14)), (.call 109 27 [(.t 106), (.t 107), (.t 108)]), (.bin 110 .eql (.t 109) (.k (I 0)))]⟩, ⟨none, [(.pick 111 (.t 105) (.t 110) (.k (B false))), (.mv 112 (.t 111))]⟩, ⟨(some (112, true)), [(.ld 113 true 2 (.t 5)), (.mv 114 (.t 1)), (.mv 115 (.t 14)), (.call 116 27 [(.t 113), (.t 114), (.t 115)]), (.bin 117 .eql (.t 116) (.k (I 0)))]⟩, ⟨none, [(.pick 118 (.t 112) (.t 117) (.k (B false))), (.mv 119 (.t 118))]⟩, ⟨(some (119, true)), [(.ld 120 true 2 (.t 13)), (.mv 121 (.t 1)), (.mv 122 (.t 2)), (.call 123 27 [(.t 120), (.t 121), (.t 122)]), (.bin 124 .neq (.t 123) (.k (I 0))), (.mv 125 (.t 124))]⟩, ⟨(some (125, false)), [(.ld 126 true 2 (.t 5)), (.mv 127 (.t 1)), (.mv 128 (.t 2)), (.call 129 27 [(.t 126), (.t 127), (.t 128)]), (.bin 130 .eql (.t 129) (.k (I 0)))]⟩, ⟨(some (119, true)), [(.pick 131 (.t 125) (.k (B true)) (.t 130))]⟩, ⟨none, [(.pick 132 (.t 119) (.t 131) (.k (B false))), (.mv 133 (.t 132))]⟩, ⟨(some (133, true)), [(.call 134 19 [])]⟩, ⟨none, [(.pick 135 (.t 133) (.t 134) (.k (B false))), (.mv 10 (.t 135))]⟩] [10]) .ret)))))))))
theorem form16 : formOf Try.prog Try.f16 [10] = some G16 := by kernel_rfl
theorem res16 : resTmps Try.f16.results.toList = some [10] := by kernel_rfl

/-- oxgall/oxgalllaw02.StrokeKnown -/
def G17 : AC := (.seq (.rgn [⟨none, [(.mv 0 (.k (B false)))]⟩] []) (.seq (.rgn [⟨none, [(.call 11 54 []), (.al 1 [(I 0), (.sl true 0 [])]), (.st 2 (.t 1) (.t 11))]⟩] [1]) (.seq (.rgn [⟨none, [(.ld 13 true 2 (.t 1)), (.bsl 14 3 1 [(I 0)] [(0, (.k (I 1))), (1, (.k (I 2))), (2, (.k (I (-1))))]), (.call 15 24 [(.t 13), (.t 14)]), (.mv 12 (.t 15)), (.ext 16 (.t 12) 0), (.ext 17 (.t 12) 1), (.mv 2 (.t 16)), (.mv 3 (.t 17))]⟩] [1, 2, 3]) (.seq (.rgn [⟨none, [(.ld 19 true 2 (.t 1)), (.bsl 20 4 1 [(I 0)] [(0, (.k (I 4))), (1, (.k (I 1))), (2, (.k (I 3))), (3, (.k (I 2)))]), (.bsl 21 3 1 [(I 0)] [(0, (.k (I 0))), (1, (.k (I 2))), (2, (.k (I 3)))]), (.call 22 36 [(.t 19), (.t 20), (.t 21)]), (.mv 18 (.t 22)), (.ext 23 (.t 18) 0), (.ext 24 (.t 18) 1), (.mv 4 (.t 23)), (.mv 5 (.t 24))]⟩] [1, 2, 3, 5]) (.seq (.rgn [⟨none, [(.ld 26 true 2 (.t 1)), (.bsl 27 4 1 [(I 0)] [(0, (.k (I 4))), (1, (.k (I 1))), (2, (.k (I 3))), (3, (.k (I 2)))]), (.bsl 28 3 1 [(I 0)] [(0, (.k (I 1))), (1, (.k (I 2))), (2, (.k (I 4)))]), (.call 29 36 [(.t 26), (.t 27), (.t 28)]), (.mv 25 (.t 29)), (.ext 30 (.t 25) 0), (.ext 31 (.t 25) 1), (.mv 6 (.t 30)), (.mv 7 (.t 31))]⟩] [1, 2, 3, 5, 7]) (.seq (.rgn [⟨none, [(.ld 33 true 2 (.t 1)), (.call 34 41 [(.t 33), (.k (.sl true 0 []))]), (.mv 32 (.t 34)), (.ext 35 (.t 32) 0), (.ext 36 (.t 32) 1), (.mv 8 (.t 35)), (.mv 9 (.t 36))]⟩] [1, 2, 3, 5, 7, 8, 9]) (.seq (.rgn [⟨none, [(.ld 37 true 2 (.t 1)), (.bsl 38 1 1 [(I 0)] [(0, (.k (I 5)))]), (.call 39 22 [(.t 37), (.t 38)]), (.mv 10 (.t 39))]⟩] [2, 3, 5, 7, 8, 9, 10]) (.seq (.rgn [⟨none, [(.mv 40 (.t 3)), (.bin 41 .eql (.t 40) (.k (I 0))), (.mv 42 (.t 41))]⟩, ⟨(some (42, true)), [(.mv 43 (.t 5)), (.bin 44 .eql (.t 43) (.k (I 16)))]⟩, ⟨none, [(.pick 45 (.t 42) (.t 44) (.k (B false))), (.mv 46 (.t 45))]⟩, ⟨(some (46, true)), [(.mv 47 (.t 7)), (.bin 48 .eql (.t 47) (.k (I 3)))]⟩, ⟨none, [(.pick 49 (.t 46) (.t 48) (.k (B false))), (.mv 50 (.t 49))]⟩, ⟨(some (50, true)), [(.mv 51 (.t 9)), (.bin 52 .eql (.t 51) (.k (I 0)))]⟩, ⟨none, [(.pick 53 (.t 50) (.t 52) (.k (B false))), (.mv 54 (.t 53))]⟩, ⟨(some (54, true)), [(.mv 55 (.t 10)), (.bin 56 .eql (.t 55) (.k (I 3)))]⟩, ⟨none, [(.pick 57 (.t 54) (.t 56) (.k (B false))), (.mv 58 (.t 57))]⟩, ⟨(some (58, true)), [(.mv 59 (.t 2)), (.bsl 60 3 1 [(I 0)] [(0, (.k (I 1))), (1, (.k (I 2))), (2, (.k (I (-1))))]), (.call 61 26 [(.t 59), (.t 60)])]⟩, ⟨none, [(.pick 62 (.t 58) (.t 61) (.k (B false))), (.mv 63 (.t 62))]⟩, ⟨(some (63, true)), [(.mv 64 (.t 8)), (.bin 65 .eql (.t 64) (.k (I 1)))]⟩, ⟨none, [(.pick 66 (.t 63) (.t 65) (.k (B false))), (.mv 67 (.t 66))]⟩, ⟨(some (67, true)), [(.call 68 19 [])]⟩, ⟨none, [(.pick 69 (.t 67) (.t 68) (.k (B false))), (.mv 0 (.t 69))]⟩] [0]) .ret))))))))
theorem form17 : formOf Try.prog Try.f17 [0] = some G17 := by kernel_rfl
theorem res17 : resTmps Try.f17.results.toList = some [0] := by kernel_rfl

/-- oxgall/oxgalllaw02.Works -/
def G19 : AC := (.seq (.rgn [⟨none, [(.mv 0 (.k (B false)))]⟩] []) (.seq (.rgn [⟨none, [(.call 25 54 []), (.al 1 [(I 0), (.sl true 0 [])]), (.st 2 (.t 1) (.t 25))]⟩] [1]) (.seq (.rgn [⟨none, [(.ld 27 true 2 (.t 1)), (.bsl 28 5 1 [(I 0)] [(0, (.k (I 3))), (1, (.k (I 1))), (2, (.k (I 2))), (3, (.k (I (-2)))), (4, (.k (I 1)))]), (.call 29 24 [(.t 27), (.t 28)]), (.mv 26 (.t 29)), (.ext 30 (.t 26) 0), (.ext 31 (.t 26) 1), (.mv 2 (.t 30)), (.mv 3 (.t 31))]⟩] [1, 2, 3]) (.seq (.rgn [⟨none, [(.ld 33 true 2 (.t 1)), (.bsl 34 3 1 [(I 0)] [(0, (.k (I 2))), (1, (.k (I 4))), (2, (.k (I (-2))))]), (.call 35 24 [(.t 33), (.t 34)]), (.mv 32 (.t 35)), (.ext 36 (.t 32) 0), (.ext 37 (.t 32) 1), (.mv 4 (.t 36)), (.mv 5 (.t 37))]⟩] [1, 2, 3, 4, 5]) (.seq (.rgn [⟨none, [(.ld 38 true 2 (.t 1)), (.bsl 39 5 1 [(I 0)] [(0, (.k (I 3))), (1, (.k (I 1))), (2, (.k (I 2))), (3, (.k (I (-2)))), (4, (.k (I 1)))]), (.bsl 40 3 1 [(I 0)] [(0, (.k (I 1))), (1, (.k (I 3))), (2, (.k (I 1)))]), (.call 41 27 [(.t 38), (.t 39), (.t 40)]), (.mv 6 (.t 41))]⟩] [1, 2, 3, 4, 5, 6]) (.seq (.rgn [⟨none, [(.ld 42 true 2 (.t 1)), (.bsl 43 2 1 [(I 0)] [(0, (.k (I 1))), (1, (.k (I 2)))]), (.bsl 44 2 1 [(I 0)] [(0, (.k (I 2))), (1, (.k (I 1)))]), (.call 45 27 [(.t 42), (.t 43), (.t 44)]), (.mv 7 (.t 45))]⟩] [1, 2, 3, 4, 5, 6, 7]) (.seq (.drw [⟨none, [(.ld 46 true 2 (.t 1)), (.bsl 47 3 1 [(I 0)] [(0, (.k (I 2))), (1, (.k (I 4))), (2, (.k (I (-2))))]), (.bsl 48 1 1 [(I 0)] [(0, (.k (I 4)))]), (.call 49 55 [(.k (I 1)), (.k (I 1)), (.k (I 0))]), (.call 50 55 [(.k (I 2)), (.k (I 0)), (.k (I 0))]), (.bsl 51 2 3 [(I 0), (I 0), (I 0)] [(0, (.t 49)), (1, (.t 50))]), (.call 52 30 [(.t 46), (.t 47), (.t 48), (.t 51)]), (.mv 8 (.t 52))]⟩] [(0, 1), (0, 2), (1, 2), (0, 3), (1, 3), (2, 3), (0, 4), (1, 4), (2, 4), (0, 5), (1, 5), (2, 5)] [1, 2, 3, 4, 5, 6, 7, 8]) (.seq (.drw [⟨none, [(.ld 53 true 2 (.t 1)), (.bsl 54 3 1 [(I 0)] [(0, (.k (I 2))), (1, (.k (I 4))), (2, (.k (I (-2))))]), (.bsl 55 1 1 [(I 0)] [(0, (.k (I 4)))]), (.call 56 55 [(.k (I 2)), (.k (I 0)), (.k (I 0))]), (.bsl 57 1 3 [(I 0), (I 0), (I 0)] [(0, (.t 56))]), (.call 58 30 [(.t 53), (.t 54), (.t 55), (.t 57)]), (.mv 9 (.t 58))]⟩] [(0, 1), (0, 2), (1, 2), (0, 3), (1, 3), (2, 3), (0, 4), (1, 4), (2, 4)] [1, 2, 3, 4, 5, 6, 7, 8, 9]) (.seq (.rgn [⟨none, [(.bsl 59 4 1 [(I 0)] [(0, (.k (I 4))), (1, (.k (I 1))), (2, (.k (I 3))), (3, (.k (I 2)))]), (.mv 10 (.t 59))]⟩] [1, 2, 3, 4, 5, 6, 7, 8, 9, 10]) (.seq (.rgn [⟨none, [(.ld 61 true 2 (.t 1)), (.mv 62 (.t 10)), (.call 63 32 [(.t 61), (.t 62)]), (.mv 60 (.t 63)), (.ext 64 (.t 60) 0), (.ext 65 (.t 60) 1), (.mv 11 (.t 64)), (.mv 12 (.t 65))]⟩] [1, 2, 3, 4, 5, 6, 7, 8, 9, 10, 11, 12]) (.seq (.rgn [⟨none, [(.ld 67 true 2 (.t 1)), (.mv 68 (.t 10)), (.call 69 34 [(.t 67), (.t 68)]), (.mv 66 (.t 69)), (.ext 70 (.t 66) 0), (.ext 71 (.t 66) 1), (.mv 13 (.t 70)), (.mv 14 (.t 71))]⟩] [1, 2, 3, 4, 5, 6, 7, 8, 9, 10, 11, 12, 13, 14]) (.seq (.rgn [⟨none, [(.ld 73 true 2 (.t 1)), (.mv 74 (.t 10)), (.bsl 75 3 1 [(I 0)] [(0, (.k (I 1))), (1, (.k (I 2))), (2, (.k (I 3)))]), (.call 76 36 [(.t 73), (.t 74), (.t 75)]), (.mv 72 (.t 76)), (.ext 77 (.t 72) 0), (.ext 78 (.t 72) 1), (.mv 15 (.t 77)), (.mv 16 (.t 78))]⟩] [1, 2, 3, 4, 5, 6, 7, 8, 9, 10, 11, 12, 13, 14, 15, 16]) (.seq (.rgn [⟨none, [(.ld 80 true 2 (.t 1)), (.mv 81 (.t 10)), (.call 82 38 [(.t 80), (.t 81)]), (.mv 79 (.t 82)), (.ext 83 (.t 79) 0), (.ext 84 (.t 79) 1), (.mv 17 (.t 83)), (.mv 18 (.t 84))]⟩] [1, 2, 3, 4, 5, 6, 7, 8, 9, 10, 11, 12, 13, 14, 15, 16, 17, 18]) (.seq (.rgn [⟨none, [(.ld 86 true 2 (.t 1)), (.mv 87 (.t 10)), (.call 88 41 [(.t 86), (.t 87)]), (.mv 85 (.t 88)), (.ext 89 (.t 85) 0), (.ext 90 (.t 85) 1), (.mv 19 (.t 89)), (.mv 20 (.t 90))]⟩] [1, 2, 3, 4, 5, 6, 7, 8, 9, 11, 12, 13, 14, 15, 16, 17, 18, 19, 20]) (.seq (.rgn [⟨none, [(.ld 92 true 2 (.t 1)), (.bsl 93 4 1 [(I 0)] [(0, (.k (I 1))), (1, (.k (I 4))), (2, (.k (I 3))), (3, (.k (I 2)))]), (.bsl 94 3 1 [(I 0)] [(0, (.k (I 4))), (1, (.k (I 1))), (2, (.k (I 2)))]), (.call 95 43 [(.t 92), (.t 93), (.t 94)]), (.mv 91 (.t 95)), (.ext 96 (.t 91) 0), (.ext 97 (.t 91) 1), (.mv 21 (.t 96)), (.mv 22 (.t 97))]⟩] [1, 2, 3, 4, 5, 6, 7, 8, 9, 11, 12, 13, 14, 15, 16, 17, 18, 19, 20, 21, 22]) (.seq (.seq (.rgn [⟨none, [(.mv 98 (.t 3)), (.bin 99 .neq (.t 98) (.k (I 0))), (.mv 100 (.t 99))]⟩, ⟨(some (100, false)), [(.mv 101 (.t 5)), (.bin 102 .neq (.t 101) (.k (I 0)))]⟩, ⟨none, [(.pick 103 (.t 100) (.k (B true)) (.t 102)), (.mv 104 (.t 103))]⟩, ⟨(some (104, false)), [(.mv 105 (.t 6)), (.bin 106 .neq (.t 105) (.k (I 0)))]⟩, ⟨none, [(.pick 107 (.t 104) (.k (B true)) (.t 106)), (.mv 108 (.t 107))]⟩, ⟨(some (108, false)), [(.mv 109 (.t 7)), (.bin 110 .neq (.t 109) (.k (I 18)))]⟩, ⟨none, [(.pick 111 (.t 108) (.k (B true)) (.t 110)), (.mv 112 (.t 111))]⟩, ⟨(some (112, false)), [(.mv 113 (.t 8)), (.bin 114 .neq (.t 113) (.k (I 0)))]⟩, ⟨none, [(.pick 115 (.t 112) (.k (B true)) (.t 114)), (.mv 116 (.t 115))]⟩, ⟨(some (116, false)), [(.mv 117 (.t 9)), (.bin 118 .neq (.t 117) (.k (I 16)))]⟩, ⟨none, [(.pick 119 (.t 116) (.k (B true)) (.t 118)), (.mv 120 (.t 119))]⟩, ⟨(some (120, false)), [(.mv 121 (.t 12)), (.bin 122 .neq (.t 121) (.k (I 0)))]⟩, ⟨none, [(.pick 123 (.t 120) (.k (B true)) (.t 122)), (.mv 124 (.t 123))]⟩, ⟨(some (124, false)), [(.mv 125 (.t 14)), (.bin 126 .neq (.t 125) (.k (I 0)))]⟩, ⟨none, [(.pick 127 (.t 124) (.k (B true)) (.t 126)), (.mv 128 (.t 127))]⟩, ⟨(some (128, false)), [(.mv 129 (.t 16)), (.bin 130 .neq (.t 129) (.k (I 0)))]⟩, ⟨none, [(.pick 131 (.t 128) (.k (B true)) (.t 130)), (.mv 132 (.t 131))]⟩, ⟨(some (132, false)), [(.mv 133 (.t 18)), (.bin 134 .neq (.t 133) (.k (I 0)))]⟩, ⟨none, [(.pick 135 (.t 132) (.k (B true)) (.t 134)), (.mv 136 (.t 135))]⟩, ⟨(some (136, false)), [(.mv 137 (.t 20)), (.bin 138 .neq (.t 137) (.k (I 0)))]⟩, ⟨none, [(.pick 139 (.t 136) (.k (B true)) (.t 138)), (.mv 140 (.t 139))]⟩, ⟨(some (140, false)), [(.mv 141 (.t 22)), (.bin 142 .neq (.t 141) (.k (I 0)))]⟩, ⟨none, [(.pick 143 (.t 140) (.k (B true)) (.t 142))]⟩] [1, 2, 4, 11, 13, 15, 17, 19, 21, 143]) (.cond (.t 143) (.seq (.rgn [⟨none, [(.mv 0 (.k (B false)))]⟩] [0]) .ret) .skip)) (.seq (.rgn [⟨none, [(.ld 145 true 2 (.t 1)), (.bsl 146 4 1 [(I 0)] [(0, (.k (I 1))), (1, (.k (I 4))), (2, (.k (I 3))), (3, (.k (I 2)))]), (.bsl 147 3 1 [(I 0)] [(0, (.k (I 4))), (1, (.k (I 1))), (2, (.k (I 2)))]), (.call 148 45 [(.t 145), (.t 146), (.t 147)]), (.mv 144 (.t 148)), (.ext 149 (.t 144) 0), (.ext 150 (.t 144) 1), (.mv 23 (.t 149)), (.mv 3 (.t 150))]⟩] [1, 2, 3, 4, 11, 13, 15, 17, 19, 21, 23]) (.seq (.rgn [⟨none, [(.ld 152 true 2 (.t 1)), (.bsl 153 5 1 [(I 0)] [(0, (.k (I 3))), (1, (.k (I 1))), (2, (.k (I 2))), (3, (.k (I (-2)))), (4, (.k (I 1)))]), (.bsl 154 3 1 [(I 0)] [(0, (.k (I 1))), (1, (.k (I 3))), (2, (.k (I 1)))]), (.call 155 29 [(.t 152), (.t 153), (.t 154)]), (.mv 151 (.t 155)), (.ext 156 (.t 151) 0), (.ext 157 (.t 151) 1), (.mv 24 (.t 156)), (.mv 5 (.t 157))]⟩] [1, 2, 3, 4, 5, 11, 13, 15, 17, 19, 21, 23, 24]) (.seq (.rgn [⟨none, [(.mv 158 (.t 3)), (.bin 159 .eql (.t 158) (.k (I 0))), (.mv 160 (.t 159))]⟩, ⟨(some (160, true)), [(.mv 161 (.t 5)), (.bin 162 .eql (.t 161) (.k (I 0)))]⟩, ⟨none, [(.pick 163 (.t 160) (.t 162) (.k (B false))), (.mv 164 (.t 163))]⟩, ⟨(some (164, true)), [(.ld 165 true 2 (.t 1)), (.bsl 166 5 1 [(I 0)] [(0, (.k (I 3))), (1, (.k (I 1))), (2, (.k (I 2))), (3, (.k (I (-2)))), (4, (.k (I 1)))]), (.bsl 167 3 1 [(I 0)] [(0, (.k (I 1))), (1, (.k (I 3))), (2, (.k (I 1)))]), (.mv 168 (.t 24)), (.call 169 31 [(.t 165), (.t 166), (.t 167), (.t 168)]), (.bin 170 .eql (.t 169) (.k (I 0)))]⟩, ⟨none, [(.pick 171 (.t 164) (.t 170) (.k (B false))), (.mv 172 (.t 171))]⟩, ⟨(some (172, true)), [(.mv 173 (.t 2)), (.bsl 174 3 1 [(I 0)] [(0, (.k (I 1))), (1, (.k (I 1))), (2, (.k (I 3)))]), (.call 175 26 [(.t 173), (.t 174)])]⟩, ⟨none, [(.pick 176 (.t 172) (.t 175) (.k (B false))), (.mv 177 (.t 176))]⟩, ⟨(some (177, true)), [(.mv 178 (.t 4)), (.bsl 179 1 1 [(I 0)] [(0, (.k (I 4)))]), (.call 180 26 [(.t 178), (.t 179)])]⟩, ⟨none, [(.pick 181 (.t 177) (.t 180) (.k (B false))), (.mv 182 (.t 181))]⟩, ⟨(some (182, true)), [(.mv 183 (.t 11)), (.bsl 184 2 1 [(I 0)] [(0, (.k (I 1))), (1, (.k (I 4)))]), (.call 185 26 [(.t 183), (.t 184)])]⟩, ⟨none, [(.pick 186 (.t 182) (.t 185) (.k (B false))), (.mv 187 (.t 186))]⟩, ⟨(some (187, true)), [(.mv 188 (.t 13)), (.bsl 189 2 1 [(I 0)] [(0, (.k (I 1))), (1, (.k (I 4)))]), (.bsl 190 1 1 [(I 0)] [(0, (.k (I 3)))]), (.bsl 191 1 1 [(I 0)] [(0, (.k (I 2)))]), (.bsl 192 3 1 [(.sl true 0 [])] [(0, (.t 189)), (1, (.t 190)), (2, (.t 191))]), (.call 193 39 [(.t 188), (.t 192)])]⟩, ⟨none, [(.pick 194 (.t 187) (.t 193) (.k (B false))), (.mv 195 (.t 194))]⟩, ⟨(some (195, true)), [(.mv 196 (.t 15)), (.bin 197 .eql (.t 196) (.k (I 3)))]⟩, ⟨none, [(.pick 198 (.t 195) (.t 197) (.k (B false))), (.mv 199 (.t 198))]⟩, ⟨(some (199, true)), [(.mv 200 (.t 17)), (.bsl 201 3 1 [(I 0)] [(0, (.k (I 1))), (1, (.k (I 2))), (2, (.k (I 3)))]), (.call 202 26 [(.t 200), (.t 201)])]⟩, ⟨none, [(.pick 203 (.t 199) (.t 202) (.k (B false))), (.mv 204 (.t 203))]⟩, ⟨(some (204, true)), [(.mv 205 (.t 19)), (.bin 206 .eql (.t 205) (.k (I 3)))]⟩, ⟨none, [(.pick 207 (.t 204) (.t 206) (.k (B false))), (.mv 208 (.t 207))]⟩, ⟨(some (208, true)), [(.mv 209 (.t 21)), (.bsl 210 3 1 [(I 0)] [(0, (.k (I (-2)))), (1, (.k (I (-3)))), (2, (.k (I 2)))]), (.call 211 26 [(.t 209), (.t 210)])]⟩, ⟨none, [(.pick 212 (.t 208) (.t 211) (.k (B false))), (.mv 213 (.t 212))]⟩, ⟨(some (213, true)), [(.mv 214 (.t 23)), (.bsl 215 2 1 [(I 0)] [(0, (.k (I 1))), (1, (.k (I 4)))]), (.call 216 26 [(.t 214), (.t 215)])]⟩, ⟨none, [(.pick 217 (.t 213) (.t 216) (.k (B false))), (.mv 0 (.t 217))]⟩] [0]) .ret)))))))))))))))))))
theorem form19 : formOf Try.prog Try.f19 [0] = some G19 := by kernel_rfl
theorem res19 : resTmps Try.f19.results.toList = some [0] := by kernel_rfl

/-- slices.Concat[[]int,int] -/
def G80 : AC := (.seq (.rgn [⟨none, [(.mv 2 (.k (.sl true 0 [])))]⟩] [0]) (.seq (.rgn [⟨none, [(.mv 3 (.k (I 0)))]⟩] [0, 3]) (.seq (.seq (.rgn [⟨none, [(.mv 9 (.t 0)), (.len 10 (.t 9)), (.mv 11 (.k (I 0)))]⟩] [0, 3, 9, 10, 11]) (.block 0 (.loop (.seq (.rgn [⟨none, [(.bin 12 .lss (.t 11) (.t 10))]⟩] [0, 3, 9, 10, 11, 12]) (.seq (.cond (.t 12) .skip (.exit 0)) (.seq (.block 1 (.seq (.rgn [⟨none, [(.ia 13 1 (.t 9) (.t 11)), (.ld 14 false 1 (.t 13)), (.mv 5 (.t 14))]⟩] [0, 3, 5, 9, 10, 11]) (.seq (.rgn [⟨none, [(.mv 15 (.t 3)), (.mv 16 (.t 5)), (.len 17 (.t 16)), (.bin 18 .add (.t 15) (.t 17)), (.mv 3 (.t 18))]⟩] [0, 3, 9, 10, 11]) (.seq (.rgn [⟨none, [(.mv 19 (.t 3)), (.bin 20 .lss (.t 19) (.k (I 0)))]⟩] [0, 3, 9, 10, 11, 20]) (.cond (.t 20) .dead .skip))))) (.rgn [⟨none, [(.bin 22 .add (.t 11) (.k (I 1))), (.mv 11 (.t 22))]⟩] [0, 3, 9, 10, 11]))))))) (.seq (.rgn [⟨none, [(.mv 23 (.t 3)), (.call 24 103 [(.k (.sl true 0 [])), (.t 23)]), (.mv 6 (.t 24))]⟩] [0, 6]) (.seq (.seq (.rgn [⟨none, [(.mv 25 (.t 0)), (.len 26 (.t 25)), (.mv 27 (.k (I 0)))]⟩] [6, 25, 26, 27]) (.block 2 (.loop (.seq (.rgn [⟨none, [(.bin 28 .lss (.t 27) (.t 26))]⟩] [6, 25, 26, 27, 28]) (.seq (.cond (.t 28) .skip (.exit 2)) (.seq (.block 3 (.seq (.rgn [⟨none, [(.ia 29 1 (.t 25) (.t 27)), (.ld 30 false 1 (.t 29)), (.mv 8 (.t 30))]⟩] [6, 8, 25, 26, 27]) (.rgn [⟨none, [(.mv 31 (.t 6)), (.mv 32 (.t 8)), (.app 33 1 8 (.t 31) (.t 32)), (.mv 6 (.t 33))]⟩] [6, 25, 26, 27]))) (.rgn [⟨none, [(.bin 34 .add (.t 27) (.k (I 1))), (.mv 27 (.t 34))]⟩] [6, 25, 26, 27]))))))) (.seq (.rgn [⟨none, [(.mv 35 (.t 6)), (.mv 2 (.t 35))]⟩] [2]) .ret))))))
theorem form80 : formOf Try.prog Try.f80 [2] = some G80 := by kernel_rfl
theorem res80 : resTmps Try.f80.results.toList = some [2] := by kernel_rfl

end Go.AM

/- THE COMPILED FORMS of functions of the program, each held against its body by the kernel. Own work (printed by a program of this claim). -/
set_option maxRecDepth 100000
namespace Go.AM
open Go.RowKit Go.Proofs

/-- oxgall/stroke.Firsts -/
def G32 : AC := (.seq (.rgn [⟨none, [(.box 2 2 (.t 0)), (.mv 4 (.k (.sl true 0 []))), (.mv 5 (.k (I 0)))]⟩] [1, 2, 4, 5]) (.seq (.rgn [⟨none, [(.ld 11 true 2 (.t 2)), (.mv 12 (.t 1)), (.bsl 13 1 1 [(.sl true 0 [])] [(0, (.t 12))]), (.call 14 59 [(.t 11), (.t 13)]), (.mv 10 (.t 14)), (.ext 15 (.t 10) 0), (.ext 16 (.t 10) 1), (.mv 6 (.t 15)), (.mv 7 (.t 16))]⟩] [1, 4, 5, 6, 7]) (.seq (.seq (.rgn [⟨none, [(.mv 17 (.t 7)), (.bin 18 .neq (.t 17) (.k (I 0)))]⟩] [1, 4, 5, 6, 7, 18]) (.cond (.t 18) (.seq (.rgn [⟨none, [(.mv 19 (.t 7)), (.mv 4 (.k (.sl true 0 []))), (.mv 5 (.t 19))]⟩] [4, 5]) .ret) .skip)) (.seq (.rgn [⟨none, [(.al 8 [(.sl true 0 [])])]⟩] [1, 4, 5, 6, 8]) (.seq (.seq (.rgn [⟨none, [(.mv 20 (.t 6)), (.mv 21 (.t 1)), (.call 22 70 [(.t 20), (.t 21)]), (.call 23 71 [(.t 22)])]⟩] [4, 5, 8, 23]) (.block 0 (.rf (.t 23) [24] (.rgn [⟨none, [(.mv 9 (.t 24))]⟩] [8, 9]) (.block 1 (.rgn [⟨none, [(.ld 25 false 1 (.t 8)), (.ld 26 false 1 (.t 8)), (.len 27 (.t 26)), (.ld 28 false 1 (.t 8)), (.len 29 (.t 28)), (.slc 30 1 (.t 25) none (some (.t 27)) (some (.t 29))), (.mv 31 (.t 9)), (.bsl 32 1 1 [(I 0)] [(0, (.t 31))]), (.app 33 1 8 (.t 30) (.t 32)), (.st 1 (.t 8) (.t 33))]⟩] [])) [8]))) (.seq (.rgn [⟨none, [(.ld 34 false 1 (.t 8)), (.mv 4 (.t 34)), (.mv 5 (.k (I 0)))]⟩] [4, 5]) .ret))))))
theorem form32 : formOf Try.prog Try.f32 [4, 5] = some G32 := by kernel_rfl
theorem res32 : resTmps Try.f32.results.toList = some [4, 5] := by kernel_rfl

/-- oxgall/stroke.Rounds -/
def G34 : AC := (.seq (.rgn [⟨none, [(.box 2 2 (.t 0)), (.mv 4 (.k (.sl true 0 []))), (.mv 5 (.k (I 0)))]⟩] [1, 2, 4, 5]) (.seq (.rgn [⟨none, [(.ld 15 true 2 (.t 2)), (.mv 16 (.t 1)), (.bsl 17 1 1 [(.sl true 0 [])] [(0, (.t 16))]), (.call 18 59 [(.t 15), (.t 17)]), (.mv 14 (.t 18)), (.ext 19 (.t 14) 0), (.ext 20 (.t 14) 1), (.mv 6 (.t 19)), (.mv 7 (.t 20))]⟩] [1, 4, 5, 6, 7]) (.seq (.seq (.rgn [⟨none, [(.mv 21 (.t 7)), (.bin 22 .neq (.t 21) (.k (I 0)))]⟩] [1, 4, 5, 6, 7, 22]) (.cond (.t 22) (.seq (.rgn [⟨none, [(.mv 23 (.t 7)), (.mv 4 (.k (.sl true 0 []))), (.mv 5 (.t 23))]⟩] [4, 5]) .ret) .skip)) (.seq (.rgn [⟨none, [(.mv 8 (.k (.sl true 0 [])))]⟩] [1, 4, 5, 6, 8]) (.seq (.rgn [⟨none, [(.mv 24 (.t 6)), (.mv 25 (.t 1)), (.call 26 70 [(.t 24), (.t 25)]), (.mv 9 (.t 26))]⟩] [4, 5, 8, 9]) (.block 0 (.loop (.block 1 (.seq (.rgn [⟨none, [(.al 10 [(.sl true 0 [])])]⟩] [4, 5, 8, 9, 10]) (.seq (.seq (.rgn [⟨none, [(.mv 27 (.t 9)), (.call 28 71 [(.t 27)])]⟩] [4, 5, 8, 9, 10, 28]) (.block 2 (.rf (.t 28) [29] (.rgn [⟨none, [(.mv 11 (.t 29))]⟩] [10, 11]) (.block 3 (.rgn [⟨none, [(.ld 30 false 1 (.t 10)), (.mv 31 (.t 11)), (.bsl 32 1 1 [(I 0)] [(0, (.t 31))]), (.app 33 1 8 (.t 30) (.t 32)), (.st 1 (.t 10) (.t 33))]⟩] [])) [4, 5, 8, 9, 10]))) (.seq (.seq (.rgn [⟨none, [(.ld 34 false 1 (.t 10)), (.len 35 (.t 34)), (.bin 36 .eql (.t 35) (.k (I 0)))]⟩] [4, 5, 8, 9, 10, 36]) (.cond (.t 36) (.seq (.rgn [⟨none, [(.mv 37 (.t 8)), (.mv 4 (.t 37)), (.mv 5 (.k (I 0)))]⟩] [4, 5]) .ret) .skip)) (.seq (.seq (.rgn [⟨none, [(.ld 38 false 1 (.t 10)), (.len 39 (.t 38)), (.mv 40 (.k (I 0)))]⟩] [4, 5, 8, 9, 10, 38, 39, 40]) (.block 4 (.loop (.seq (.rgn [⟨none, [(.bin 41 .lss (.t 40) (.t 39))]⟩] [4, 5, 8, 9, 10, 38, 39, 40, 41]) (.seq (.cond (.t 41) .skip (.exit 4)) (.seq (.block 5 (.seq (.rgn [⟨none, [(.ia 42 1 (.t 38) (.t 40)), (.ld 43 false 1 (.t 42)), (.mv 13 (.t 43))]⟩] [4, 5, 8, 9, 10, 13, 38, 39, 40]) (.rgn [⟨none, [(.mv 44 (.t 9)), (.mv 45 (.t 13)), (.call 46 73 [(.t 44), (.t 45)])]⟩] [4, 5, 8, 9, 10, 38, 39, 40]))) (.rgn [⟨none, [(.bin 47 .add (.t 40) (.k (I 1))), (.mv 40 (.t 47))]⟩] [4, 5, 8, 9, 10, 38, 39, 40]))))))) (.rgn [⟨none, [(.mv 48 (.t 8)), (.ld 49 false 1 (.t 10)), (.bsl 50 1 1 [(.sl true 0 [])] [(0, (.t 49))]), (.app 51 1 24 (.t 48) (.t 50)), (.mv 8 (.t 51))]⟩] [4, 5, 8, 9])))))))))))))
theorem form34 : formOf Try.prog Try.f34 [4, 5] = some G34 := by kernel_rfl
theorem res34 : resTmps Try.f34.results.toList = some [4, 5] := by kernel_rfl

/-- oxgall/stroke.Common -/
def G45 : AC := (.seq (.rgn [⟨none, [(.box 3 2 (.t 0)), (.mv 6 (.k (.sl true 0 []))), (.mv 7 (.k (I 0)))]⟩] [1, 2, 3, 6, 7]) (.seq (.rgn [⟨none, [(.ld 17 true 2 (.t 3)), (.mv 18 (.t 1)), (.mv 19 (.t 2)), (.bsl 20 2 1 [(.sl true 0 [])] [(0, (.t 18)), (1, (.t 19))]), (.call 21 59 [(.t 17), (.t 20)]), (.mv 16 (.t 21)), (.ext 22 (.t 16) 0), (.ext 23 (.t 16) 1), (.mv 8 (.t 22)), (.mv 9 (.t 23))]⟩] [1, 2, 6, 7, 8, 9]) (.seq (.seq (.rgn [⟨none, [(.mv 24 (.t 9)), (.bin 25 .neq (.t 24) (.k (I 0)))]⟩] [1, 2, 6, 7, 8, 9, 25]) (.cond (.t 25) (.seq (.rgn [⟨none, [(.mv 26 (.t 9)), (.mv 6 (.k (.sl true 0 []))), (.mv 7 (.t 26))]⟩] [6, 7]) .ret) .skip)) (.seq (.rgn [⟨none, [(.mv 27 (.t 8)), (.mv 28 (.t 1)), (.call 29 70 [(.t 27), (.t 28)]), (.mv 30 (.t 8)), (.mv 31 (.t 2)), (.call 32 70 [(.t 30), (.t 31)]), (.al 11 [(.v (.pointer none))]), (.mv 10 (.t 29)), (.st 1 (.t 11) (.t 32))]⟩] [6, 7, 8, 10, 11]) (.seq (.rgn [⟨none, [(.mv 12 (.k (.sl true 0 [])))]⟩] [6, 7, 8, 10, 11, 12]) (.block 0 (.loop (.block 1 (.seq (.rgn [⟨none, [(.al 13 [(.sl true 0 [])])]⟩] [6, 7, 8, 10, 11, 12, 13]) (.seq (.seq (.rgn [⟨none, [(.mv 33 (.t 10)), (.call 34 71 [(.t 33)])]⟩] [6, 7, 8, 10, 11, 12, 13, 34]) (.block 2 (.rf (.t 34) [35] (.rgn [⟨none, [(.mv 14 (.t 35))]⟩] [11, 13, 14]) (.block 3 (.seq (.rgn [⟨none, [(.ld 36 false 1 (.t 11)), (.mv 37 (.t 14)), (.call 38 82 [(.t 36), (.t 37)])]⟩] [13, 14, 38]) (.cond (.t 38) (.rgn [⟨none, [(.ld 39 false 1 (.t 13)), (.mv 40 (.t 14)), (.bsl 41 1 1 [(I 0)] [(0, (.t 40))]), (.app 42 1 8 (.t 39) (.t 41)), (.st 1 (.t 13) (.t 42))]⟩] []) .skip))) [6, 7, 8, 10, 11, 12, 13]))) (.seq (.seq (.rgn [⟨none, [(.ld 43 false 1 (.t 13)), (.len 44 (.t 43)), (.bin 45 .eql (.t 44) (.k (I 0)))]⟩] [6, 7, 8, 10, 11, 12, 13, 45]) (.cond (.t 45) (.seq (.rgn [⟨none, [(.mv 46 (.t 8)), (.mv 47 (.t 12)), (.call 48 60 [(.t 46), (.t 47)]), (.mv 6 (.t 48)), (.mv 7 (.k (I 0)))]⟩] [6, 7]) .ret) .skip)) (.seq (.rgn [⟨none, [(.ld 49 false 1 (.t 13)), (.call 50 83 [(.t 49), (.k (.fn (.func 84) [] []))]), (.mv 15 (.t 50))]⟩] [6, 7, 8, 10, 11, 12, 15]) (.seq (.rgn [⟨none, [(.mv 51 (.t 10)), (.mv 52 (.t 15)), (.call 53 73 [(.t 51), (.t 52)])]⟩] [6, 7, 8, 10, 11, 12, 15]) (.seq (.rgn [⟨none, [(.ld 54 false 1 (.t 11)), (.mv 55 (.t 15)), (.call 56 73 [(.t 54), (.t 55)])]⟩] [6, 7, 8, 10, 11, 12, 15]) (.rgn [⟨none, [(.mv 57 (.t 12)), (.mv 58 (.t 15)), (.bsl 59 1 1 [(I 0)] [(0, (.t 58))]), (.app 60 1 8 (.t 57) (.t 59)), (.mv 12 (.t 60))]⟩] [6, 7, 8, 10, 11, 12])))))))))))))))
theorem form45 : formOf Try.prog Try.f45 [6, 7] = some G45 := by kernel_rfl
theorem res45 : resTmps Try.f45.results.toList = some [6, 7] := by kernel_rfl

/-- oxgall/oxgalllaw02.Bench -/
def G54 : AC := (.seq (.rgn [⟨none, [(.al 0 [(I 0), (.sl true 0 [])])]⟩] [0]) (.seq (.rgn [⟨none, [(.bld 1 [(I 0), (I 0)] [(0, 1, (.k (I 0))), (1, 1, (.k (I 1)))]), (.bld 2 [(I 0), (I 0)] [(0, 1, (.k (I 1))), (1, 1, (.k (I 2)))]), (.bld 3 [(I 0), (I 0)] [(0, 1, (.k (I 2))), (1, 1, (.k (I 3)))]), (.bsl 4 3 2 [(I 0), (I 0)] [(0, (.t 1)), (1, (.t 2)), (2, (.t 3))]), (.bld 5 [(I 0), (.sl true 0 [])] [(0, 1, (.k (I 4))), (1, 1, (.t 4))]), (.st 2 (.t 0) (.t 5))]⟩] [0]) .ret))
theorem form54 : formOf Try.prog Try.f54 [0] = some G54 := by kernel_rfl
theorem resc54 : resCs Try.prog Try.f54.results.toList = some [(0, some (true, 2))] := by kernel_rfl

/-- oxgall/oxgalllaw02.move -/
def G55 : AC := (.seq (.rgn [⟨none, [(.al 6 [(I 0), (I 0), (I 0)])]⟩] [0, 1, 2, 6]) (.seq (.rgn [⟨none, [(.mv 7 (.t 0)), (.mv 8 (.t 1)), (.mv 9 (.t 2)), (.bld 10 [(I 0), (I 0), (I 0)] [(0, 1, (.t 7)), (1, 1, (.t 8)), (2, 1, (.t 9))]), (.st 3 (.t 6) (.t 10))]⟩] [6]) .ret))
theorem form55 : formOf Try.prog Try.f55 [6] = some G55 := by kernel_rfl
theorem resc55 : resCs Try.prog Try.f55.results.toList = some [(6, some (true, 3))] := by kernel_rfl

/-- oxgall/stroke.open -/
def G59 : AC := (.seq (.rgn [⟨none, [(.box 2 2 (.t 0)), (.mv 4 (.k (.v (.pointer none)))), (.mv 5 (.k (I 0)))]⟩] [1, 2]) (.seq (.seq (.rgn [⟨none, [(.mv 9 (.t 1)), (.len 10 (.t 9)), (.mv 11 (.k (I 0)))]⟩] [2, 9, 10, 11]) (.block 0 (.loop (.seq (.rgn [⟨none, [(.bin 12 .lss (.t 11) (.t 10))]⟩] [2, 9, 10, 11, 12]) (.seq (.cond (.t 12) .skip (.exit 0)) (.seq (.block 1 (.seq (.rgn [⟨none, [(.ia 13 1 (.t 9) (.t 11)), (.ld 14 false 1 (.t 13)), (.mv 7 (.t 14))]⟩] [2, 7, 9, 10, 11]) (.seq (.rgn [⟨none, [(.ld 15 true 2 (.t 2)), (.mv 16 (.t 7)), (.call 17 22 [(.t 15), (.t 16)]), (.mv 8 (.t 17))]⟩] [2, 8, 9, 10, 11]) (.seq (.rgn [⟨none, [(.mv 18 (.t 8)), (.bin 19 .neq (.t 18) (.k (I 0)))]⟩] [2, 8, 9, 10, 11, 19]) (.cond (.t 19) (.seq (.rgn [⟨none, [(.mv 20 (.t 8)), (.mv 4 (.k (.v (.pointer none)))), (.mv 5 (.t 20))]⟩] [4, 5]) .ret) .skip))))) (.rgn [⟨none, [(.bin 21 .add (.t 11) (.k (I 1))), (.mv 11 (.t 21))]⟩] [2, 9, 10, 11]))))))) (.seq (.rgn [⟨none, [(.ld 22 true 2 (.t 2)), (.call 23 63 [(.t 22)]), (.mv 4 (.t 23)), (.mv 5 (.k (I 0)))]⟩] [4, 5]) .ret)))
theorem form59 : formOf Try.prog Try.f59 [4, 5] = some G59 := by kernel_rfl
theorem res59 : resTmps Try.f59.results.toList = some [4, 5] := by kernel_rfl

/-- (*oxgall/stroke.table).form -/
def G60 : AC := (.seq (.rgn [⟨none, [(.mv 4 (.k (.sl true 0 [])))]⟩] [0, 1, 4]) (.seq (.rgn [⟨none, [(.mv 10 (.t 0)), (.mv 11 (.t 1)), (.call 12 70 [(.t 10), (.t 11)]), (.mv 5 (.t 12))]⟩] [4, 5]) (.seq (.rgn [⟨none, [(.mv 6 (.k (.sl true 0 [])))]⟩] [4, 5, 6]) (.block 0 (.loop (.block 1 (.seq (.rgn [⟨none, [(.al 7 [(.sl true 0 [])])]⟩] [4, 5, 6, 7]) (.seq (.seq (.rgn [⟨none, [(.mv 13 (.t 5)), (.call 14 71 [(.t 13)])]⟩] [4, 5, 6, 7, 14]) (.block 2 (.rf (.t 14) [15] (.rgn [⟨none, [(.mv 8 (.t 15))]⟩] [7, 8]) (.block 3 (.rgn [⟨none, [(.ld 16 false 1 (.t 7)), (.mv 17 (.t 8)), (.bsl 18 1 1 [(I 0)] [(0, (.t 17))]), (.app 19 1 8 (.t 16) (.t 18)), (.st 1 (.t 7) (.t 19))]⟩] [])) [4, 5, 6, 7]))) (.seq (.seq (.rgn [⟨none, [(.ld 20 false 1 (.t 7)), (.len 21 (.t 20)), (.bin 22 .eql (.t 21) (.k (I 0)))]⟩] [4, 5, 6, 7, 22]) (.cond (.t 22) (.seq (.rgn [⟨none, [(.mv 23 (.t 6)), (.mv 4 (.t 23))]⟩] [4]) .ret) .skip)) (.seq (.rgn [⟨none, [(.ld 24 false 1 (.t 7)), (.call 25 83 [(.t 24), (.k (.fn (.func 84) [] []))]), (.mv 9 (.t 25))]⟩] [4, 5, 6, 9]) (.seq (.rgn [⟨none, [(.mv 26 (.t 5)), (.mv 27 (.t 9)), (.call 28 73 [(.t 26), (.t 27)])]⟩] [4, 5, 6, 9]) (.rgn [⟨none, [(.mv 29 (.t 6)), (.mv 30 (.t 9)), (.bsl 31 1 1 [(I 0)] [(0, (.t 30))]), (.app 32 1 8 (.t 29) (.t 31)), (.mv 6 (.t 32))]⟩] [4, 5, 6]))))))))))))
theorem form60 : formOf Try.prog Try.f60 [4] = some G60 := by kernel_rfl
theorem res60 : resTmps Try.f60.results.toList = some [4] := by kernel_rfl

/-- (*oxgall/stroke.table).count -/
def G79 : AC := (.seq (.rgn [⟨none, [(.mv 4 (.k (I 0)))]⟩] [0, 1]) (.seq (.rgn [⟨none, [(.mkm 14), (.bld 15 [(I 0)] [(0, 1, (.k (I 0)))]), (.ins (true, [.int]) (.t 14) (.t 15) (.k (I 1))), (.mv 16 (.t 14)), (.mv 5 (.t 16))]⟩] [0, 1, 5]) (.seq (.seq (.rgn [⟨none, [(.mv 17 (.t 1)), (.len 18 (.t 17)), (.mv 19 (.k (I 0)))]⟩] [0, 1, 5, 18, 19]) (.block 0 (.loop (.seq (.rgn [⟨none, [(.bin 20 .lss (.t 19) (.t 18))]⟩] [0, 1, 5, 18, 19, 20]) (.seq (.cond (.t 20) .skip (.exit 0)) (.seq (.block 1 (.seq (.rgn [⟨none, [(.mkm 21), (.mv 6 (.t 21))]⟩] [0, 1, 5, 6, 18, 19]) (.seq (.seq (.rgn [⟨none, [(.mv 22 (.t 5)), (.rng 23 (.t 22))]⟩] [0, 1, 6, 18, 19, 23]) (.block 2 (.loop (.seq (.rgn [⟨none, [(.nxt 24 (.t 23)), (.ext 25 (.t 24) 0)]⟩] [0, 1, 6, 18, 19, 23, 25]) (.seq (.cond (.t 25) .skip (.exit 2)) (.block 3 (.seq (.rgn [⟨none, [(.ent 26 (.t 23)), (.ext 27 (.t 26) 0), (.ext 28 (.t 26) 1), (.al 7 [(I 0)]), (.st 1 (.t 7) (.t 27)), (.mv 8 (.t 28))]⟩] [0, 1, 6, 7, 8, 18, 19, 23]) (.seq (.rgn [⟨none, [(.mv 29 (.t 1)), (.len 30 (.t 29)), (.mv 31 (.k (I 0)))]⟩] [0, 1, 6, 7, 8, 18, 19, 23, 29, 30, 31]) (.block 4 (.loop (.seq (.rgn [⟨none, [(.bin 32 .lss (.t 31) (.t 30))]⟩] [0, 1, 6, 7, 8, 18, 19, 23, 29, 30, 31, 32]) (.seq (.cond (.t 32) .skip (.exit 4)) (.seq (.block 5 (.seq (.rgn [⟨none, [(.mv 33 (.t 31)), (.ia 34 1 (.t 29) (.t 31)), (.ld 35 false 1 (.t 34)), (.mv 9 (.t 33)), (.mv 10 (.t 35))]⟩] [0, 1, 6, 7, 8, 9, 10, 18, 19, 23, 29, 30, 31]) (.seq (.rgn [⟨none, [(.fa 36 (.t 7) 0), (.ld 37 false 1 (.t 36)), (.mv 38 (.t 9)), (.bin 39 .shr (.t 37) (.t 38)), (.bin 40 .and (.t 39) (.k (I 1))), (.bin 41 .eql (.t 40) (.k (I 0))), (.mv 42 (.t 41))]⟩, ⟨(some (42, true)), [(.mv 43 (.t 0)), (.mv 44 (.t 1)), (.ld 45 true 1 (.t 7)), (.mv 46 (.t 9)), (.mv 47 (.t 10)), (.call 48 102 [(.t 43), (.t 44), (.t 45), (.t 46), (.t 47)]), (.bin 49 .eql (.t 48) (.k (I 0)))]⟩, ⟨none, [(.pick 50 (.t 42) (.t 49) (.k (B false)))]⟩] [0, 1, 6, 7, 8, 9, 18, 19, 23, 29, 30, 31, 50]) (.cond (.t 50) (.drw [⟨none, [(.mv 51 (.t 6)), (.fa 52 (.t 7) 0), (.ld 53 false 1 (.t 52)), (.mv 54 (.t 9)), (.bin 55 .shl (.k (I 1)) (.t 54)), (.bin 56 .or (.t 53) (.t 55)), (.bld 57 [(I 0)] [(0, 1, (.t 56))]), (.lku 58 (true, [.int]) (I 0) false (.t 51) (.t 57)), (.mv 59 (.t 8)), (.bin 60 .add (.t 58) (.t 59)), (.mpe 61 (true, [.int]) (I 0) (.t 51) (.t 57)), (.ext 62 (.t 61) 1), (.est (.t 51) (.t 62) (.t 60))]⟩] [] [0, 1, 6, 7, 8, 18, 19, 23, 29, 30, 31]) .skip)))) (.rgn [⟨none, [(.bin 63 .add (.t 31) (.k (I 1))), (.mv 31 (.t 63))]⟩] [0, 1, 6, 7, 8, 18, 19, 23, 29, 30, 31])))))))))))))) (.seq (.rgn [⟨none, [(.mv 64 (.t 6)), (.bld 65 [(I 0)] []), (.del (true, [.int]) (.t 64) (.t 65))]⟩] [0, 1, 6, 18, 19]) (.rgn [⟨none, [(.mv 66 (.t 6)), (.mv 5 (.t 66))]⟩] [0, 1, 5, 18, 19]))))) (.rgn [⟨none, [(.bin 67 .add (.t 19) (.k (I 1))), (.mv 19 (.t 67))]⟩] [0, 1, 5, 18, 19]))))))) (.seq (.rgn [⟨none, [(.mv 68 (.t 1)), (.len 69 (.t 68)), (.bin 70 .shl (.k (I 1)) (.t 69)), (.bin 71 .sub (.t 70) (.k (I 1))), (.bld 72 [(I 0)] [(0, 1, (.t 71))]), (.al 11 [(I 0)]), (.st 1 (.t 11) (.t 72))]⟩] [5, 11]) (.seq (.seq (.rgn [⟨none, [(.mv 73 (.t 5)), (.rng 74 (.t 73))]⟩] [11, 74]) (.block 6 (.loop (.seq (.rgn [⟨none, [(.nxt 75 (.t 74)), (.ext 76 (.t 75) 0)]⟩] [11, 74, 76]) (.seq (.cond (.t 76) .skip (.exit 6)) (.block 7 (.seq (.rgn [⟨none, [(.ent 77 (.t 74)), (.ext 78 (.t 77) 0), (.ext 79 (.t 77) 1), (.al 12 [(I 0)]), (.st 1 (.t 12) (.t 78)), (.mv 13 (.t 79))]⟩] [11, 12, 13, 74]) (.seq (.rgn [⟨none, [(.ld 80 true 1 (.t 12)), (.ld 81 true 1 (.t 11)), (.eqk 82 false (true, [.int]) (.t 80) (.t 81))]⟩] [11, 13, 74, 82]) (.cond (.t 82) (.seq (.rgn [⟨none, [(.mv 83 (.t 13)), (.mv 4 (.t 83))]⟩] [4]) .ret) .skip))))))))) (.seq (.rgn [⟨none, [(.mv 4 (.k (I 0)))]⟩] [4]) .ret))))))
theorem form79 : formOf Try.prog Try.f79 [4] = some G79 := by kernel_rfl
theorem res79 : resTmps Try.f79.results.toList = some [4] := by kernel_rfl

/-- (*oxgall/stroke.table).undone -/
def G93 : AC := (.seq (.rgn [⟨none, [(.mv 4 (.k (I 0))), (.mv 5 (.k (I 0)))]⟩] [0, 1]) (.scope (.seq (.rgn [⟨none, [(.mv 12 (.t 0)), (.mkf 13 (.func 75) [(.t 12)] []), (.mv 6 (.t 13))]⟩] [1, 6]) (.seq (.rgn [⟨none, [(.mv 7 (.k (I (-1)))), (.mv 8 (.k (I (-1))))]⟩] [1, 6, 7, 8]) (.seq (.label 0) (.seq (.seq (.rgn [⟨none, [(.mv 14 (.t 1)), (.len 15 (.t 14)), (.mv 16 (.k (I 0)))]⟩] [1, 6, 7, 8, 14, 15, 16]) (.block 0 (.loop (.seq (.rgn [⟨none, [(.bin 17 .lss (.t 16) (.t 15))]⟩] [1, 6, 7, 8, 14, 15, 16, 17]) (.seq (.cond (.t 17) .skip (.exit 0)) (.seq (.block 1 (.seq (.rgn [⟨none, [(.mv 18 (.t 16)), (.ia 19 1 (.t 14) (.t 16)), (.ld 20 false 1 (.t 19)), (.mv 9 (.t 18)), (.mv 10 (.t 20))]⟩] [1, 6, 7, 8, 9, 10, 14, 15, 16]) (.seq (.rgn [⟨none, [(.mv 21 (.t 9)), (.bin 22 .add (.t 21) (.k (I 1))), (.mv 11 (.t 22))]⟩] [1, 6, 7, 8, 9, 10, 11, 14, 15, 16]) (.block 2 (.loop (.seq (.seq (.rgn [⟨none, [(.mv 23 (.t 11)), (.mv 24 (.t 1)), (.len 25 (.t 24)), (.bin 26 .lss (.t 23) (.t 25))]⟩] [1, 6, 7, 8, 9, 10, 11, 14, 15, 16, 26]) (.cond (.t 26) .skip (.exit 2))) (.seq (.block 3 (.seq (.seq (.rgn [⟨none, [(.mv 29 (.t 1)), (.mv 30 (.t 11)), (.ia 31 1 (.t 29) (.t 30)), (.ld 32 false 1 (.t 31)), (.mv 33 (.t 10)), (.un 34 .neg (.t 33)), (.bin 35 .eql (.t 32) (.t 34))]⟩] [1, 6, 7, 8, 9, 10, 11, 14, 15, 16, 35]) (.cond (.t 35) (.seq (.rgn [⟨none, [(.mv 36 (.t 9)), (.mv 37 (.t 11)), (.mv 7 (.t 36)), (.mv 8 (.t 37))]⟩] [7, 8]) (.exit 0)) .skip)) (.seq (.rgn [⟨none, [(.mv 38 (.t 6)), (.mv 39 (.t 10)), (.mv 40 (.t 1)), (.mv 41 (.t 11)), (.ia 42 1 (.t 40) (.t 41)), (.ld 43 false 1 (.t 42)), (.callv 44 (.t 38) [(.t 39), (.t 43)]), (.un 45 .not (.t 44))]⟩] [1, 6, 7, 8, 9, 10, 11, 14, 15, 16, 45]) (.cond (.t 45) (.exit 2) .skip)))) (.rgn [⟨none, [(.mv 27 (.t 11)), (.bin 28 .add (.t 27) (.k (I 1))), (.mv 11 (.t 28))]⟩] [1, 6, 7, 8, 9, 10, 11, 14, 15, 16])))))))) (.rgn [⟨none, [(.bin 46 .add (.t 16) (.k (I 1))), (.mv 16 (.t 46))]⟩] [1, 6, 7, 8, 14, 15, 16]))))))) (.seq (.rgn [⟨none, [(.mv 47 (.t 7)), (.mv 48 (.t 8)), (.mv 4 (.t 47)), (.mv 5 (.t 48))]⟩] [4, 5]) .ret)))))))
theorem form93 : formOf Try.prog Try.f93 [4, 5] = some G93 := by kernel_rfl
theorem res93 : resTmps Try.f93.results.toList = some [4, 5] := by kernel_rfl

/-- slices.Delete[[]int,int] -/
def G95 : AC := (.seq (.rgn [⟨none, [(.mv 6 (.k (.sl true 0 [])))]⟩] [0, 1, 2]) (.seq (.rgn [⟨none, [(.mv 8 (.t 0)), (.mv 9 (.t 1)), (.mv 10 (.t 2)), (.mv 11 (.t 0)), (.len 12 (.t 11)), (.slc 13 1 (.t 8) (some (.t 9)) (some (.t 10)) (some (.t 12)))]⟩] [0, 1, 2]) (.seq (.seq (.rgn [⟨none, [(.mv 14 (.t 1)), (.mv 15 (.t 2)), (.bin 16 .eql (.t 14) (.t 15))]⟩] [0, 1, 2, 16]) (.cond (.t 16) (.seq (.rgn [⟨none, [(.mv 17 (.t 0)), (.mv 6 (.t 17))]⟩] [6]) .ret) .skip)) (.seq (.rgn [⟨none, [(.mv 18 (.t 0)), (.len 19 (.t 18)), (.mv 7 (.t 19))]⟩] [0, 1, 2, 7]) (.seq (.drw [⟨none, [(.mv 20 (.t 0)), (.mv 21 (.t 1)), (.slc 22 1 (.t 20) none (some (.t 21)) none), (.mv 23 (.t 0)), (.mv 24 (.t 2)), (.slc 25 1 (.t 23) (some (.t 24)) none none), (.app 26 1 8 (.t 22) (.t 25)), (.mv 0 (.t 26))]⟩] [] [0, 7]) (.seq (.rgn [⟨none, [(.mv 27 (.t 0)), (.mv 28 (.t 0)), (.len 29 (.t 28)), (.mv 30 (.t 7)), (.slc 31 1 (.t 27) (some (.t 29)) (some (.t 30)) none), (.clr 1 [(I 0)] (.t 31))]⟩] [0]) (.seq (.rgn [⟨none, [(.mv 32 (.t 0)), (.mv 6 (.t 32))]⟩] [6]) .ret)))))))
theorem form95 : formOf Try.prog Try.f95 [6] = some G95 := by kernel_rfl
theorem res95 : resTmps Try.f95.results.toList = some [6] := by kernel_rfl

/-- slices.Insert[[]int,int] -/
def G96 : AC := (.seq (.rgn [⟨none, [(.mv 6 (.k (.sl true 0 [])))]⟩] [0, 1, 2]) (.seq (.rgn [⟨none, [(.mv 10 (.t 0)), (.mv 11 (.t 1)), (.slc 12 1 (.t 10) (some (.t 11)) none none)]⟩] [0, 1, 2]) (.seq (.rgn [⟨none, [(.mv 13 (.t 2)), (.len 14 (.t 13)), (.mv 7 (.t 14))]⟩] [0, 1, 2, 7]) (.seq (.seq (.rgn [⟨none, [(.mv 15 (.t 7)), (.bin 16 .eql (.t 15) (.k (I 0)))]⟩] [0, 1, 2, 7, 16]) (.cond (.t 16) (.seq (.rgn [⟨none, [(.mv 17 (.t 0)), (.mv 6 (.t 17))]⟩] [6]) .ret) .skip)) (.seq (.rgn [⟨none, [(.mv 18 (.t 0)), (.len 19 (.t 18)), (.mv 8 (.t 19))]⟩] [0, 1, 2, 7, 8]) (.seq (.seq (.rgn [⟨none, [(.mv 20 (.t 1)), (.mv 21 (.t 8)), (.bin 22 .eql (.t 20) (.t 21))]⟩] [0, 1, 2, 7, 8, 22]) (.cond (.t 22) (.seq (.rgn [⟨none, [(.mv 23 (.t 0)), (.mv 24 (.t 2)), (.app 25 1 8 (.t 23) (.t 24)), (.mv 6 (.t 25))]⟩] [6]) .ret) .skip)) (.seq (.seq (.rgn [⟨none, [(.mv 26 (.t 8)), (.mv 27 (.t 7)), (.bin 28 .add (.t 26) (.t 27)), (.mv 29 (.t 0)), (.cap 30 (.t 29)), (.bin 31 .gtr (.t 28) (.t 30))]⟩] [0, 1, 2, 7, 8, 31]) (.cond (.t 31) (.seq (.rgn [⟨none, [(.mv 32 (.t 0)), (.mv 33 (.t 1)), (.slc 34 1 (.t 32) none (some (.t 33)) none), (.mv 35 (.t 8)), (.mv 36 (.t 7)), (.bin 37 .add (.t 35) (.t 36)), (.mv 38 (.t 1)), (.bin 39 .sub (.t 37) (.t 38)), (.appz 40 1 8 [(I 0)] (.t 34) (.t 39)), (.mv 9 (.t 40))]⟩] [0, 1, 2, 7, 9]) (.seq (.rgn [⟨none, [(.mv 41 (.t 9)), (.mv 42 (.t 1)), (.slc 43 1 (.t 41) (some (.t 42)) none none), (.mv 44 (.t 2)), (.cpy 45 1 (.t 43) (.t 44))]⟩] [0, 1, 7, 9]) (.seq (.drw [⟨none, [(.mv 46 (.t 9)), (.mv 47 (.t 1)), (.mv 48 (.t 7)), (.bin 49 .add (.t 47) (.t 48)), (.slc 50 1 (.t 46) (some (.t 49)) none none), (.mv 51 (.t 0)), (.mv 52 (.t 1)), (.slc 53 1 (.t 51) (some (.t 52)) none none), (.cpy 54 1 (.t 50) (.t 53))]⟩] [] [9]) (.seq (.rgn [⟨none, [(.mv 55 (.t 9)), (.mv 6 (.t 55))]⟩] [6]) .ret)))) .skip)) (.seq (.rgn [⟨none, [(.mv 56 (.t 0)), (.mv 57 (.t 8)), (.mv 58 (.t 7)), (.bin 59 .add (.t 57) (.t 58)), (.slc 60 1 (.t 56) none (some (.t 59)) none), (.mv 0 (.t 60))]⟩] [0, 1, 2, 7, 8]) (.seq (.seq (.rgn [⟨none, [(.mv 61 (.t 2)), (.mv 62 (.t 0)), (.mv 63 (.t 1)), (.mv 64 (.t 7)), (.bin 65 .add (.t 63) (.t 64)), (.slc 66 1 (.t 62) (some (.t 65)) none none), (.callx 67 105 [(.t 61), (.t 66)]), (.un 68 .not (.t 67))]⟩] [0, 1, 2, 7, 8, 68]) (.cond (.t 68) (.seq (.drw [⟨none, [(.mv 69 (.t 0)), (.mv 70 (.t 1)), (.mv 71 (.t 7)), (.bin 72 .add (.t 70) (.t 71)), (.slc 73 1 (.t 69) (some (.t 72)) none none), (.mv 74 (.t 0)), (.mv 75 (.t 1)), (.slc 76 1 (.t 74) (some (.t 75)) none none), (.cpy 77 1 (.t 73) (.t 76))]⟩] [] [0, 1, 2]) (.seq (.rgn [⟨none, [(.mv 78 (.t 0)), (.mv 79 (.t 1)), (.slc 80 1 (.t 78) (some (.t 79)) none none), (.mv 81 (.t 2)), (.cpy 82 1 (.t 80) (.t 81))]⟩] [0]) (.seq (.rgn [⟨none, [(.mv 83 (.t 0)), (.mv 6 (.t 83))]⟩] [6]) .ret))) .skip)) (.seq (.rgn [⟨none, [(.mv 84 (.t 0)), (.mv 85 (.t 8)), (.slc 86 1 (.t 84) (some (.t 85)) none none), (.mv 87 (.t 2)), (.cpy 88 1 (.t 86) (.t 87))]⟩] [0, 1, 7]) (.seq (.rgn [⟨none, [(.mv 89 (.t 0)), (.mv 90 (.t 1)), (.slc 91 1 (.t 89) (some (.t 90)) none none), (.mv 92 (.t 7)), (.call 93 106 [(.t 91), (.t 92)])]⟩] [0]) (.seq (.rgn [⟨none, [(.mv 94 (.t 0)), (.mv 6 (.t 94))]⟩] [6]) .ret))))))))))))
theorem form96 : formOf Try.prog Try.f96 [6] = some G96 := by kernel_rfl
theorem res96 : resTmps Try.f96.results.toList = some [6] := by kernel_rfl

/-- (*oxgall/stroke.table).waits -/
def G102 : AC := (.seq (.rgn [⟨none, [(.box 7 1 (.t 2)), (.mv 10 (.k (I 0)))]⟩] [0, 1, 3, 4, 7]) (.seq (.rgn [⟨none, [(.al 11 [(I 0), (I 0), (I 0), (I 0), (I 0), (I 0), (I 0), (I 0)]), (.al 12 [(I 0), (I 0), (I 0), (I 0), (I 0), (I 0), (I 0), (I 0)])]⟩] [0, 1, 3, 4, 7, 11, 12]) (.seq (.rgn [⟨none, [(.slp 17 1 8 (.t 12) none none none), (.clr 1 [(I 0)] (.t 17))]⟩] [0, 1, 3, 4, 7, 11, 12]) (.seq (.seq (.rgn [⟨none, [(.mv 18 (.t 3)), (.mv 19 (.k (I 0)))]⟩] [0, 1, 4, 7, 11, 12, 18, 19]) (.block 0 (.loop (.seq (.rgn [⟨none, [(.bin 20 .lss (.t 19) (.t 18))]⟩] [0, 1, 4, 7, 11, 12, 18, 19, 20]) (.seq (.cond (.t 20) .skip (.exit 0)) (.seq (.block 1 (.seq (.rgn [⟨none, [(.mv 21 (.t 19)), (.mv 13 (.t 21))]⟩] [0, 1, 4, 7, 11, 12, 13, 18, 19]) (.seq (.rgn [⟨none, [(.fa 22 (.t 7) 0), (.ld 23 false 1 (.t 22)), (.mv 24 (.t 13)), (.bin 25 .shr (.t 23) (.t 24)), (.bin 26 .and (.t 25) (.k (I 1))), (.bin 27 .eql (.t 26) (.k (I 0))), (.mv 28 (.t 27))]⟩, ⟨(some (28, true)), [(.mv 29 (.t 0)), (.mv 30 (.t 1)), (.mv 31 (.t 13)), (.ia 32 1 (.t 30) (.t 31)), (.ld 33 false 1 (.t 32)), (.mv 34 (.t 4)), (.call 35 75 [(.t 29), (.t 33), (.t 34)]), (.un 36 .not (.t 35))]⟩, ⟨none, [(.pick 37 (.t 28) (.t 36) (.k (B false)))]⟩] [0, 1, 4, 7, 11, 12, 13, 18, 19, 37]) (.cond (.t 37) (.rgn [⟨none, [(.mv 38 (.t 1)), (.mv 39 (.t 13)), (.ia 40 1 (.t 38) (.t 39)), (.ld 41 false 1 (.t 40)), (.call 42 100 [(.t 41)]), (.iaa 43 8 1 (.t 12) (.t 42)), (.ld 44 false 1 (.t 43)), (.bin 45 .add (.t 44) (.k (I 1))), (.iaa 46 8 1 (.t 12) (.t 42)), (.st 1 (.t 46) (.t 45))]⟩] [0, 1, 4, 7, 11, 12, 18, 19]) .skip)))) (.rgn [⟨none, [(.bin 47 .add (.t 19) (.k (I 1))), (.mv 19 (.t 47))]⟩] [0, 1, 4, 7, 11, 12, 18, 19]))))))) (.seq (.seq (.rgn [⟨none, [(.ld 48 true 8 (.t 12)), (.ld 49 true 8 (.t 11)), (.eqk 50 false (true, [.int, .int, .int, .int, .int, .int, .int, .int]) (.t 48) (.t 49))]⟩] [12, 50]) (.cond (.t 50) (.seq (.rgn [⟨none, [(.mv 10 (.k (I 0)))]⟩] [10]) .ret) .skip)) (.seq (.rgn [⟨none, [(.mv 14 (.k (I 0)))]⟩] [12, 14]) (.seq (.seq (.rgn [⟨none, [(.ld 51 true 8 (.t 12)), (.mv 52 (.k (I 0)))]⟩] [14, 51, 52]) (.block 2 (.loop (.seq (.rgn [⟨none, [(.bin 53 .lss (.t 52) (.k (I 8)))]⟩] [14, 51, 52, 53]) (.seq (.cond (.t 53) .skip (.exit 2)) (.seq (.block 3 (.seq (.rgn [⟨none, [(.idx 54 8 false 1 (.t 51) (.t 52)), (.mv 16 (.t 54))]⟩] [14, 16, 51, 52]) (.rgn [⟨none, [(.mv 55 (.t 14)), (.mv 56 (.t 16)), (.bin 57 .add (.t 55) (.t 56)), (.mv 14 (.t 57))]⟩] [14, 51, 52]))) (.rgn [⟨none, [(.bin 58 .add (.t 52) (.k (I 1))), (.mv 52 (.t 58))]⟩] [14, 51, 52]))))))) (.seq (.rgn [⟨none, [(.mv 59 (.t 14)), (.mv 10 (.t 59))]⟩] [10]) .ret))))))))
theorem form102 : formOf Try.prog Try.f102 [10] = some G102 := by kernel_rfl
theorem res102 : resTmps Try.f102.results.toList = some [10] := by kernel_rfl

/-- slices.Grow[[]int,int] -/
def G103 : AC := (.seq (.rgn [⟨none, [(.mv 4 (.k (.sl true 0 [])))]⟩] [0, 1]) (.seq (.seq (.rgn [⟨none, [(.mv 5 (.t 1)), (.bin 6 .lss (.t 5) (.k (I 0)))]⟩] [0, 1, 6]) (.cond (.t 6) .dead .skip)) (.seq (.seq (.rgn [⟨none, [(.mv 8 (.t 1)), (.mv 9 (.t 0)), (.cap 10 (.t 9)), (.mv 11 (.t 0)), (.len 12 (.t 11)), (.bin 13 .sub (.t 10) (.t 12)), (.bin 14 .sub (.t 8) (.t 13)), (.mv 1 (.t 14))]⟩] [0, 1]) (.seq (.rgn [⟨none, [(.mv 15 (.t 1)), (.bin 16 .gtr (.t 15) (.k (I 0)))]⟩] [0, 1, 16]) (.cond (.t 16) (.rgn [⟨none, [(.mv 17 (.t 0)), (.mv 18 (.t 0)), (.cap 19 (.t 18)), (.slc 20 1 (.t 17) none (some (.t 19)) none), (.mv 21 (.t 1)), (.appz 22 1 8 [(I 0)] (.t 20) (.t 21)), (.mv 23 (.t 0)), (.len 24 (.t 23)), (.slc 25 1 (.t 22) none (some (.t 24)) none), (.mv 0 (.t 25))]⟩] [0]) .skip))) (.seq (.rgn [⟨none, [(.mv 26 (.t 0)), (.mv 4 (.t 26))]⟩] [4]) .ret))))
theorem form103 : formOf Try.prog Try.f103 [4] = some G103 := by kernel_rfl
theorem res103 : resTmps Try.f103.results.toList = some [4] := by kernel_rfl

end Go.AM

/- TABLE ENTRIES OF THE EVALUATOR. Own work (printed by a program of this claim). -/
set_option maxRecDepth 100000
namespace Go.AM
open Go.RowKit Go.Proofs

/-- oxgall/oxgalllaw02.great -/
def C18 : Code := ⟨18, true, 7, [(2, none)], G18⟩
theorem cok18 : CodeOK Try.prog C18 := codeOK (fn := Try.f18) (ts := [2]) Try.func18 form18 (resTmps_C res18) (by kernel_rfl) (by kernel_rfl)
/-- oxgall/oxgalllaw02.Works -/
def C19 : Code := ⟨19, true, 218, [(0, none)], G19⟩
theorem cok19 : CodeOK Try.prog C19 := codeOK (fn := Try.f19) (ts := [0]) Try.func19 form19 (resTmps_C res19) (by kernel_rfl) (by kernel_rfl)
/-- oxgall/stroke.CheckBench -/
def C20 : Code := ⟨20, true, 50, [(2, none)], G20⟩
theorem cok20 : CodeOK Try.prog C20 := codeOK (fn := Try.f20) (ts := [2]) Try.func20 form20 (resTmps_C res20) (by kernel_rfl) (by kernel_rfl)
/-- oxgall/oxgallref02.CheckBench -/
def C21 : Code := ⟨21, true, 61, [(2, none)], G21⟩
theorem cok21 : CodeOK Try.prog C21 := codeOK (fn := Try.f21) (ts := [2]) Try.func21 form21 (resTmps_C res21) (by kernel_rfl) (by kernel_rfl)
/-- oxgall/stroke.CheckList -/
def C22 : Code := ⟨22, true, 28, [(4, none)], G22⟩
theorem cok22 : CodeOK Try.prog C22 := codeOK (fn := Try.f22) (ts := [4]) Try.func22 form22 (resTmps_C res22) (by kernel_rfl) (by kernel_rfl)
/-- oxgall/oxgallref02.CheckList -/
def C23 : Code := ⟨23, true, 27, [(4, none)], G23⟩
theorem cok23 : CodeOK Try.prog C23 := codeOK (fn := Try.f23) (ts := [4]) Try.func23 form23 (resTmps_C res23) (by kernel_rfl) (by kernel_rfl)
/-- oxgall/stroke.Short -/
def C24 : Code := ⟨24, true, 30, [(4, none), (5, none)], G24⟩
theorem cok24 : CodeOK Try.prog C24 := codeOK (fn := Try.f24) (ts := [4, 5]) Try.func24 form24 (resTmps_C res24) (by kernel_rfl) (by kernel_rfl)
/-- oxgall/oxgallref02.Short -/
def C25 : Code := ⟨25, true, 16, [(4, none), (5, none)], G25⟩
theorem cok25 : CodeOK Try.prog C25 := codeOK (fn := Try.f25) (ts := [4, 5]) Try.func25 form25 (resTmps_C res25) (by kernel_rfl) (by kernel_rfl)
/-- oxgall/oxgallref02.Equal -/
def C26 : Code := ⟨26, true, 26, [(4, none)], G26⟩
theorem cok26 : CodeOK Try.prog C26 := codeOK (fn := Try.f26) (ts := [4]) Try.func26 form26 (resTmps_C res26) (by kernel_rfl) (by kernel_rfl)
/-- oxgall/stroke.Same -/
def C27 : Code := ⟨27, true, 30, [(6, none)], G27⟩
theorem cok27 : CodeOK Try.prog C27 := codeOK (fn := Try.f27) (ts := [6]) Try.func27 form27 (resTmps_C res27) (by kernel_rfl) (by kernel_rfl)
/-- oxgall/oxgallref02.Same -/
def C28 : Code := ⟨28, true, 24, [(6, none)], G28⟩
theorem cok28 : CodeOK Try.prog C28 := codeOK (fn := Try.f28) (ts := [6]) Try.func28 form28 (resTmps_C res28) (by kernel_rfl) (by kernel_rfl)
/-- oxgall/stroke.Chain -/
def C29 : Code := ⟨29, true, 29, [(6, none), (7, none)], G29⟩
theorem cok29 : CodeOK Try.prog C29 := codeOK (fn := Try.f29) (ts := [6, 7]) Try.func29 form29 (resTmps_C res29) (by kernel_rfl) (by kernel_rfl)
/-- oxgall/stroke.CheckChain -/
def C30 : Code := ⟨30, true, 55, [(8, none)], G30⟩
theorem cok30 : CodeOK Try.prog C30 := codeOK (fn := Try.f30) (ts := [8]) Try.func30 form30 (resTmps_C res30) (by kernel_rfl) (by kernel_rfl)
/-- oxgall/oxgallref02.CheckChain -/
def C31 : Code := ⟨31, true, 54, [(8, none)], G31⟩
theorem cok31 : CodeOK Try.prog C31 := codeOK (fn := Try.f31) (ts := [8]) Try.func31 form31 (resTmps_C res31) (by kernel_rfl) (by kernel_rfl)
/-- oxgall/stroke.Firsts -/
def C32 : Code := ⟨32, true, 35, [(4, none), (5, none)], G32⟩
theorem cok32 : CodeOK Try.prog C32 := codeOK (fn := Try.f32) (ts := [4, 5]) Try.func32 form32 (resTmps_C res32) (by kernel_rfl) (by kernel_rfl)
/-- oxgall/oxgallref02.Firsts -/
def C33 : Code := ⟨33, true, 18, [(4, none), (5, none)], G33⟩
theorem cok33 : CodeOK Try.prog C33 := codeOK (fn := Try.f33) (ts := [4, 5]) Try.func33 form33 (resTmps_C res33) (by kernel_rfl) (by kernel_rfl)
/-- oxgall/stroke.Rounds -/
def C34 : Code := ⟨34, true, 52, [(4, none), (5, none)], G34⟩
theorem cok34 : CodeOK Try.prog C34 := codeOK (fn := Try.f34) (ts := [4, 5]) Try.func34 form34 (resTmps_C res34) (by kernel_rfl) (by kernel_rfl)
/-- oxgall/oxgallref02.Rounds -/
def C35 : Code := ⟨35, true, 52, [(4, none), (5, none)], G35⟩
theorem cok35 : CodeOK Try.prog C35 := codeOK (fn := Try.f35) (ts := [4, 5]) Try.func35 form35 (resTmps_C res35) (by kernel_rfl) (by kernel_rfl)
/-- oxgall/stroke.CheckSpine -/
def C36 : Code := ⟨36, true, 70, [(6, none), (7, none)], G36⟩
theorem cok36 : CodeOK Try.prog C36 := codeOK (fn := Try.f36) (ts := [6, 7]) Try.func36 form36 (resTmps_C res36) (by kernel_rfl) (by kernel_rfl)
/-- oxgall/oxgallref02.CheckSpine -/
def C37 : Code := ⟨37, true, 82, [(6, none), (7, none)], G37⟩
theorem cok37 : CodeOK Try.prog C37 := codeOK (fn := Try.f37) (ts := [6, 7]) Try.func37 form37 (resTmps_C res37) (by kernel_rfl) (by kernel_rfl)
/-- oxgall/stroke.Spine -/
def C38 : Code := ⟨38, true, 112, [(4, none), (5, none)], G38⟩
theorem cok38 : CodeOK Try.prog C38 := codeOK (fn := Try.f38) (ts := [4, 5]) Try.func38 form38 (resTmps_C res38) (by kernel_rfl) (by kernel_rfl)
/-- oxgall/oxgalllaw02.lists -/
def C39 : Code := ⟨39, true, 27, [(4, none)], G39⟩
theorem cok39 : CodeOK Try.prog C39 := codeOK (fn := Try.f39) (ts := [4]) Try.func39 form39 (resTmps_C res39) (by kernel_rfl) (by kernel_rfl)
/-- oxgall/oxgallref02.Form -/
def C40 : Code := ⟨40, true, 28, [(4, none)], G40⟩
theorem cok40 : CodeOK Try.prog C40 := codeOK (fn := Try.f40) (ts := [4]) Try.func40 form40 (resTmps_C res40) (by kernel_rfl) (by kernel_rfl)
/-- oxgall/stroke.Count -/
def C41 : Code := ⟨41, true, 28, [(4, none), (5, none)], G41⟩
theorem cok41 : CodeOK Try.prog C41 := codeOK (fn := Try.f41) (ts := [4, 5]) Try.func41 form41 (resTmps_C res41) (by kernel_rfl) (by kernel_rfl)
/-- oxgall/oxgallref02.Count -/
def C42 : Code := ⟨42, true, 100, [(4, none), (5, none)], G42⟩
theorem cok42 : CodeOK Try.prog C42 := codeOK (fn := Try.f42) (ts := [4, 5]) Try.func42 form42 (resTmps_C res42) (by kernel_rfl) (by kernel_rfl)
/-- oxgall/stroke.Way -/
def C43 : Code := ⟨43, true, 28, [(6, none), (7, none)], G43⟩
theorem cok43 : CodeOK Try.prog C43 := codeOK (fn := Try.f43) (ts := [6, 7]) Try.func43 form43 (resTmps_C res43) (by kernel_rfl) (by kernel_rfl)
/-- oxgall/oxgallref02.Way -/
def C44 : Code := ⟨44, true, 23, [(6, none), (7, none)], G44⟩
theorem cok44 : CodeOK Try.prog C44 := codeOK (fn := Try.f44) (ts := [6, 7]) Try.func44 form44 (resTmps_C res44) (by kernel_rfl) (by kernel_rfl)
/-- oxgall/stroke.Common -/
def C45 : Code := ⟨45, true, 61, [(6, none), (7, none)], G45⟩
theorem cok45 : CodeOK Try.prog C45 := codeOK (fn := Try.f45) (ts := [6, 7]) Try.func45 form45 (resTmps_C res45) (by kernel_rfl) (by kernel_rfl)
/-- oxgall/oxgallref02.Common -/
def C46 : Code := ⟨46, true, 53, [(6, none), (7, none)], G46⟩
theorem cok46 : CodeOK Try.prog C46 := codeOK (fn := Try.f46) (ts := [6, 7]) Try.func46 form46 (resTmps_C res46) (by kernel_rfl) (by kernel_rfl)
/-- oxgall/oxgalllaw02.fine -/
def C47 : Code := ⟨47, true, 19, [(4, none)], G47⟩
theorem cok47 : CodeOK Try.prog C47 := codeOK (fn := Try.f47) (ts := [4]) Try.func47 form47 (resTmps_C res47) (by kernel_rfl) (by kernel_rfl)
/-- oxgall/oxgalllaw02.Moved -/
def C48 : Code := ⟨48, true, 87, [(6, none), (7, none)], G48⟩
theorem cok48 : CodeOK Try.prog C48 := codeOK (fn := Try.f48) (ts := [6, 7]) Try.func48 form48 (resTmps_C res48) (by kernel_rfl) (by kernel_rfl)
/-- oxgall/oxgallref02.Back -/
def C49 : Code := ⟨49, true, 21, [(2, none)], G49⟩
theorem cok49 : CodeOK Try.prog C49 := codeOK (fn := Try.f49) (ts := [2]) Try.func49 form49 (resTmps_C res49) (by kernel_rfl) (by kernel_rfl)
/-- oxgall/oxgalllaw02.through -/
def C50 : Code := ⟨50, true, 37, [(6, none)], G50⟩
theorem cok50 : CodeOK Try.prog C50 := codeOK (fn := Try.f50) (ts := [6]) Try.func50 form50 (resTmps_C res50) (by kernel_rfl) (by kernel_rfl)
/-- oxgall/oxgallref02.IsStroke -/
def C51 : Code := ⟨51, true, 24, [(4, none)], G51⟩
theorem cok51 : CodeOK Try.prog C51 := codeOK (fn := Try.f51) (ts := [4]) Try.func51 form51 (resTmps_C res51) (by kernel_rfl) (by kernel_rfl)
/-- oxgall/oxgallref02.Can -/
def C52 : Code := ⟨52, true, 37, [(6, none)], G52⟩
theorem cok52 : CodeOK Try.prog C52 := codeOK (fn := Try.f52) (ts := [6]) Try.func52 form52 (resTmps_C res52) (by kernel_rfl) (by kernel_rfl)
/-- oxgall/oxgalllaw02.free -/
def C53 : Code := ⟨53, true, 22, [(6, none)], G53⟩
theorem cok53 : CodeOK Try.prog C53 := codeOK (fn := Try.f53) (ts := [6]) Try.func53 form53 (resTmps_C res53) (by kernel_rfl) (by kernel_rfl)
/-- oxgall/oxgalllaw02.Bench -/
def C54 : Code := ⟨54, true, 6, [(0, some (true, 2))], G54⟩
theorem cok54 : CodeOK Try.prog C54 := codeOK (fn := Try.f54) (ts := [0]) Try.func54 form54 resc54 (by kernel_rfl) (by kernel_rfl)
/-- oxgall/oxgalllaw02.move -/
def C55 : Code := ⟨55, true, 11, [(6, some (true, 3))], G55⟩
theorem cok55 : CodeOK Try.prog C55 := codeOK (fn := Try.f55) (ts := [6]) Try.func55 form55 resc55 (by kernel_rfl) (by kernel_rfl)
/-- oxgall/stroke.within -/
def C56 : Code := ⟨56, true, 11, [(6, none)], G56⟩
theorem cok56 : CodeOK Try.prog C56 := codeOK (fn := Try.f56) (ts := [6]) Try.func56 form56 (resTmps_C res56) (by kernel_rfl) (by kernel_rfl)
/-- slices.Contains[[][2]int,[2]int] -/
def C57 : Code := ⟨57, true, 9, [(4, none)], G57⟩
theorem cok57 : CodeOK Try.prog C57 := codeOK (fn := Try.f57) (ts := [4]) Try.func57 form57 (resTmps_C res57) (by kernel_rfl) (by kernel_rfl)
/-- slices.Contains[[]int,int] -/
def C58 : Code := ⟨58, true, 9, [(4, none)], G58⟩
theorem cok58 : CodeOK Try.prog C58 := codeOK (fn := Try.f58) (ts := [4]) Try.func58 form58 (resTmps_C res58) (by kernel_rfl) (by kernel_rfl)
/-- oxgall/stroke.open -/
def C59 : Code := ⟨59, true, 24, [(4, none), (5, none)], G59⟩
theorem cok59 : CodeOK Try.prog C59 := codeOK (fn := Try.f59) (ts := [4, 5]) Try.func59 form59 (resTmps_C res59) (by kernel_rfl) (by kernel_rfl)
/-- (*oxgall/stroke.table).form -/
def C60 : Code := ⟨60, true, 33, [(4, none)], G60⟩
theorem cok60 : CodeOK Try.prog C60 := codeOK (fn := Try.f60) (ts := [4]) Try.func60 form60 (resTmps_C res60) (by kernel_rfl) (by kernel_rfl)
/-- slices.Equal[[]int,int] -/
def C61 : Code := ⟨61, true, 26, [(4, none)], G61⟩
theorem cok61 : CodeOK Try.prog C61 := codeOK (fn := Try.f61) (ts := [4]) Try.func61 form61 (resTmps_C res61) (by kernel_rfl) (by kernel_rfl)
/-- oxgall/oxgallref02.Two -/
def C62 : Code := ⟨62, true, 17, [(6, none)], G62⟩
theorem cok62 : CodeOK Try.prog C62 := codeOK (fn := Try.f62) (ts := [6]) Try.func62 form62 (resTmps_C res62) (by kernel_rfl) (by kernel_rfl)
/-- oxgall/stroke.newTable -/
def C63 : Code := ⟨63, true, 36, [(2, none)], G63⟩
theorem cok63 : CodeOK Try.prog C63 := codeOK (fn := Try.f63) (ts := [2]) Try.func63 form63 (resTmps_C res63) (by kernel_rfl) (by kernel_rfl)
/-- (*oxgall/stroke.table).down -/
def C64 : Code := ⟨64, true, 55, [(4, none)], G64⟩
theorem cok64 : CodeOK Try.prog C64 := codeOK (fn := Try.f64) (ts := [4]) Try.func64 form64 (resTmps_C res64) (by kernel_rfl) (by kernel_rfl)
/-- (*oxgall/stroke.table).up -/
def C65 : Code := ⟨65, true, 49, [(6, none)], G65⟩
theorem cok65 : CodeOK Try.prog C65 := codeOK (fn := Try.f65) (ts := [6]) Try.func65 form65 (resTmps_C res65) (by kernel_rfl) (by kernel_rfl)
/-- slices.Clone[[]int,int] -/
def C66 : Code := ⟨66, true, 8, [(2, none)], G66⟩
theorem cok66 : CodeOK Try.prog C66 := codeOK (fn := Try.f66) (ts := [2]) Try.func66 form66 (resTmps_C res66) (by kernel_rfl) (by kernel_rfl)
/-- (*oxgall/stroke.table).isMove -/
def C67 : Code := ⟨67, true, 84, [(6, none)], G67⟩
theorem cok67 : CodeOK Try.prog C67 := codeOK (fn := Try.f67) (ts := [6]) Try.func67 form67 (resTmps_C res67) (by kernel_rfl) (by kernel_rfl)
/-- (*oxgall/stroke.table).move -/
def C68 : Code := ⟨68, true, 51, [(6, none)], G68⟩
theorem cok68 : CodeOK Try.prog C68 := codeOK (fn := Try.f68) (ts := [6]) Try.func68 form68 (resTmps_C res68) (by kernel_rfl) (by kernel_rfl)
/-- oxgall/oxgallref02.Move -/
def C69 : Code := ⟨69, true, 127, [(6, none), (7, none)], G69⟩
theorem cok69 : CodeOK Try.prog C69 := codeOK (fn := Try.f69) (ts := [6, 7]) Try.func69 form69 (resTmps_C res69) (by kernel_rfl) (by kernel_rfl)
/-- (*oxgall/stroke.table).pile -/
def C70 : Code := ⟨70, false, 22, [(4, none)], G70⟩
theorem cok70 : CodeOK Try.prog C70 := codeOK (fn := Try.f70) (ts := [4]) Try.func70 form70 (resTmps_C res70) (by kernel_rfl) (by kernel_rfl)
/-- (*oxgall/stroke.pile).fronts -/
def C71 : Code := ⟨71, true, 4, [(2, none)], G71⟩
theorem cok71 : CodeOK Try.prog C71 := codeOK (fn := Try.f71) (ts := [2]) Try.func71 form71 (resTmps_C res71) (by kernel_rfl) (by kernel_rfl)
/-- oxgall/oxgallref02.firsts -/
def C72 : Code := ⟨72, true, 81, [(4, none)], G72⟩
theorem cok72 : CodeOK Try.prog C72 := codeOK (fn := Try.f72) (ts := [4]) Try.func72 form72 (resTmps_C res72) (by kernel_rfl) (by kernel_rfl)
/-- (*oxgall/stroke.pile).take -/
def C73 : Code := ⟨73, true, 41, [], G73⟩
theorem cok73 : CodeOK Try.prog C73 := codeOK (fn := Try.f73) (ts := []) Try.func73 form73 (resTmps_C res73) (by kernel_rfl) (by kernel_rfl)
/-- oxgall/oxgallref02.without -/
def C74 : Code := ⟨74, true, 15, [(4, none)], G74⟩
theorem cok74 : CodeOK Try.prog C74 := codeOK (fn := Try.f74) (ts := [4]) Try.func74 form74 (resTmps_C res74) (by kernel_rfl) (by kernel_rfl)
/-- (*oxgall/stroke.table).can -/
def C75 : Code := ⟨75, true, 25, [(6, none)], G75⟩
theorem cok75 : CodeOK Try.prog C75 := codeOK (fn := Try.f75) (ts := [6]) Try.func75 form75 (resTmps_C res75) (by kernel_rfl) (by kernel_rfl)
/-- slices.Reverse[[]int,int] -/
def C76 : Code := ⟨76, true, 28, [], G76⟩
theorem cok76 : CodeOK Try.prog C76 := codeOK (fn := Try.f76) (ts := []) Try.func76 form76 (resTmps_C res76) (by kernel_rfl) (by kernel_rfl)
/-- oxgall/oxgallref02.Reduced -/
def C77 : Code := ⟨77, true, 31, [(4, none)], G77⟩
theorem cok77 : CodeOK Try.prog C77 := codeOK (fn := Try.f77) (ts := [4]) Try.func77 form77 (resTmps_C res77) (by kernel_rfl) (by kernel_rfl)
/-- oxgall/oxgallref02.first -/
def C78 : Code := ⟨78, true, 53, [(4, none)], G78⟩
theorem cok78 : CodeOK Try.prog C78 := codeOK (fn := Try.f78) (ts := [4]) Try.func78 form78 (resTmps_C res78) (by kernel_rfl) (by kernel_rfl)
/-- (*oxgall/stroke.table).count -/
def C79 : Code := ⟨79, true, 84, [(4, none)], G79⟩
theorem cok79 : CodeOK Try.prog C79 := codeOK (fn := Try.f79) (ts := [4]) Try.func79 form79 (resTmps_C res79) (by kernel_rfl) (by kernel_rfl)
/-- slices.Concat[[]int,int] -/
def C80 : Code := ⟨80, true, 36, [(2, none)], G80⟩
theorem cok80 : CodeOK Try.prog C80 := codeOK (fn := Try.f80) (ts := [2]) Try.func80 form80 (resTmps_C res80) (by kernel_rfl) (by kernel_rfl)
/-- oxgall/stroke.back -/
def C81 : Code := ⟨81, true, 24, [(2, none)], G81⟩
theorem cok81 : CodeOK Try.prog C81 := codeOK (fn := Try.f81) (ts := [2]) Try.func81 form81 (resTmps_C res81) (by kernel_rfl) (by kernel_rfl)
/-- (*oxgall/stroke.pile).front -/
def C82 : Code := ⟨82, true, 23, [(4, none)], G82⟩
theorem cok82 : CodeOK Try.prog C82 := codeOK (fn := Try.f82) (ts := [4]) Try.func82 form82 (resTmps_C res82) (by kernel_rfl) (by kernel_rfl)
/-- oxgall/stroke.least[int] -/
def C83 : Code := ⟨83, true, 28, [(4, none)], G83⟩
theorem cok83 : CodeOK Try.prog C83 := codeOK (fn := Try.f83) (ts := [4]) Try.func83 form83 (resTmps_C res83) (by kernel_rfl) (by kernel_rfl)
/-- oxgall/stroke.key -/
def C84 : Code := ⟨84, true, 11, [(2, none)], G84⟩
theorem cok84 : CodeOK Try.prog C84 := codeOK (fn := Try.f84) (ts := [2]) Try.func84 form84 (resTmps_C res84) (by kernel_rfl) (by kernel_rfl)
/-- oxgall/oxgallref02.both -/
def C85 : Code := ⟨85, true, 65, [(6, none), (7, none)], G85⟩
theorem cok85 : CodeOK Try.prog C85 := codeOK (fn := Try.f85) (ts := [6, 7]) Try.func85 form85 (resTmps_C res85) (by kernel_rfl) (by kernel_rfl)
/-- oxgall/oxgallref02.Line -/
def C86 : Code := ⟨86, true, 9, [(2, none)], G86⟩
theorem cok86 : CodeOK Try.prog C86 := codeOK (fn := Try.f86) (ts := [2]) Try.func86 form86 (resTmps_C res86) (by kernel_rfl) (by kernel_rfl)
/-- slices.ContainsFunc[[]int,int] -/
def C87 : Code := ⟨87, true, 9, [(4, none)], G87⟩
theorem cok87 : CodeOK Try.prog C87 := codeOK (fn := Try.f87) (ts := [4]) Try.func87 form87 (resTmps_C res87) (by kernel_rfl) (by kernel_rfl)
/-- oxgall/stroke.within$1 -/
def C88 : Code := ⟨88, true, 13, [(4, none)], G88⟩
theorem cok88 : CodeOK Try.prog C88 := codeOK (fn := Try.f88) (ts := [4]) Try.func88 form88 (resTmps_C res88) (by kernel_rfl) (by kernel_rfl)
/-- slices.Index[[][2]int,[2]int] -/
def C89 : Code := ⟨89, true, 19, [(4, none)], G89⟩
theorem cok89 : CodeOK Try.prog C89 := codeOK (fn := Try.f89) (ts := [4]) Try.func89 form89 (resTmps_C res89) (by kernel_rfl) (by kernel_rfl)
/-- slices.Index[[]int,int] -/
def C90 : Code := ⟨90, true, 19, [(4, none)], G90⟩
theorem cok90 : CodeOK Try.prog C90 := codeOK (fn := Try.f90) (ts := [4]) Try.func90 form90 (resTmps_C res90) (by kernel_rfl) (by kernel_rfl)
/-- (*oxgall/stroke.table).down$1 -/
def C91 : Code := ⟨91, true, 13, [], G91⟩
theorem cok91 : CodeOK Try.prog C91 := codeOK (fn := Try.f91) (ts := []) Try.func91 form91 (resTmps_C res91) (by kernel_rfl) (by kernel_rfl)
/-- (*oxgall/stroke.table).down$2 -/
def C92 : Code := ⟨92, true, 17, [], G92⟩
theorem cok92 : CodeOK Try.prog C92 := codeOK (fn := Try.f92) (ts := []) Try.func92 form92 (resTmps_C res92) (by kernel_rfl) (by kernel_rfl)
/-- (*oxgall/stroke.table).undone -/
def C93 : Code := ⟨93, true, 49, [(4, none), (5, none)], G93⟩
theorem cok93 : CodeOK Try.prog C93 := codeOK (fn := Try.f93) (ts := [4, 5]) Try.func93 form93 (resTmps_C res93) (by kernel_rfl) (by kernel_rfl)
/-- slices.Reverse[[]oxgall/api.StrokeMove,oxgall/api.StrokeMove] -/
def C94 : Code := ⟨94, true, 28, [], G94⟩
theorem cok94 : CodeOK Try.prog C94 := codeOK (fn := Try.f94) (ts := []) Try.func94 form94 (resTmps_C res94) (by kernel_rfl) (by kernel_rfl)
/-- slices.Delete[[]int,int] -/
def C95 : Code := ⟨95, true, 33, [(6, none)], G95⟩
theorem cok95 : CodeOK Try.prog C95 := codeOK (fn := Try.f95) (ts := [6]) Try.func95 form95 (resTmps_C res95) (by kernel_rfl) (by kernel_rfl)
/-- slices.Insert[[]int,int] -/
def C96 : Code := ⟨96, true, 95, [(6, none)], G96⟩
theorem cok96 : CodeOK Try.prog C96 := codeOK (fn := Try.f96) (ts := [6]) Try.func96 form96 (resTmps_C res96) (by kernel_rfl) (by kernel_rfl)
/-- (*oxgall/stroke.pile).lay -/
def C97 : Code := ⟨97, true, 109, [], G97⟩
theorem cok97 : CodeOK Try.prog C97 := codeOK (fn := Try.f97) (ts := []) Try.func97 form97 (resTmps_C res97) (by kernel_rfl) (by kernel_rfl)
/-- (*oxgall/stroke.pile).fronts$1 -/
def C98 : Code := ⟨98, true, 30, [], G98⟩
theorem cok98 : CodeOK Try.prog C98 := codeOK (fn := Try.f98) (ts := []) Try.func98 form98 (resTmps_C res98) (by kernel_rfl) (by kernel_rfl)
/-- oxgall/oxgallref02.Key -/
def C99 : Code := ⟨99, true, 12, [(2, none)], G99⟩
theorem cok99 : CodeOK Try.prog C99 := codeOK (fn := Try.f99) (ts := [2]) Try.func99 form99 (resTmps_C res99) (by kernel_rfl) (by kernel_rfl)
/-- oxgall/stroke.line -/
def C100 : Code := ⟨100, true, 8, [(2, none)], G100⟩
theorem cok100 : CodeOK Try.prog C100 := codeOK (fn := Try.f100) (ts := [2]) Try.func100 form100 (resTmps_C res100) (by kernel_rfl) (by kernel_rfl)
/-- oxgall/oxgallref02.undone -/
def C101 : Code := ⟨101, true, 58, [(4, none), (5, none)], G101⟩
theorem cok101 : CodeOK Try.prog C101 := codeOK (fn := Try.f101) (ts := [4, 5]) Try.func101 form101 (resTmps_C res101) (by kernel_rfl) (by kernel_rfl)
/-- (*oxgall/stroke.table).waits -/
def C102 : Code := ⟨102, true, 60, [(10, none)], G102⟩
theorem cok102 : CodeOK Try.prog C102 := codeOK (fn := Try.f102) (ts := [10]) Try.func102 form102 (resTmps_C res102) (by kernel_rfl) (by kernel_rfl)
/-- slices.Grow[[]int,int] -/
def C103 : Code := ⟨103, true, 27, [(4, none)], G103⟩
theorem cok103 : CodeOK Try.prog C103 := codeOK (fn := Try.f103) (ts := [4]) Try.func103 form103 (resTmps_C res103) (by kernel_rfl) (by kernel_rfl)
/-- slices.IndexFunc[[]int,int] -/
def C104 : Code := ⟨104, true, 19, [(4, none)], G104⟩
theorem cok104 : CodeOK Try.prog C104 := codeOK (fn := Try.f104) (ts := [4]) Try.func104 form104 (resTmps_C res104) (by kernel_rfl) (by kernel_rfl)
/-- slices.rotateRight[int] -/
def C106 : Code := ⟨106, true, 10, [], G106⟩
theorem cok106 : CodeOK Try.prog C106 := codeOK (fn := Try.f106) (ts := []) Try.func106 form106 (resTmps_C res106) (by kernel_rfl) (by kernel_rfl)
/-- slices.rotateLeft[int] -/
def C107 : Code := ⟨107, true, 14, [], G107⟩
theorem cok107 : CodeOK Try.prog C107 := codeOK (fn := Try.f107) (ts := []) Try.func107 form107 (resTmps_C res107) (by kernel_rfl) (by kernel_rfl)
end Go.AM

/- Works, by the evaluator. Own work. -/
set_option maxRecDepth 100000
namespace Go.AM
open Go.RowKit Go.Proofs

def ovlX : FuncId → List AV → List HObj → Option AV
  | f, [.sl _ m cs, .ms id _ _ 1], hp => if f = 105 ∧ cs.length = m then (match cellsE hp id with | some _ => some (B false) | none => none) else none
  | f, [.sl _ m cs, .mc id _ _ _ 1], hp => if f = 105 ∧ cs.length = m then (match cellsE hp id with | some _ => some (B false) | none => none) else none
  | _, _, _ => none

def tab1 : List Code := [C18, C19, C20, C21, C22, C23, C24, C25, C26, C27, C28, C29, C30, C31, C32, C33, C34, C35, C36, C37, C38, C39, C40, C41, C42, C43, C44, C45, C46, C47, C48, C49, C50, C51, C52, C53, C54, C55, C56, C57, C58, C59, C60, C61, C62, C63, C64, C65, C66, C67, C68, C69, C70, C71, C72, C73, C74, C75, C76, C77, C78, C79, C80, C81, C82, C83, C84, C85, C86, C87, C88, C89, C90, C91, C92, C93, C94, C95, C96, C97, C98, C99, C100, C101, C102, C103, C104, C106, C107]

def kn1 : List Kn := [⟨95, .del, 8, [I 0]⟩, ⟨96, .ins 105 106, 8, [I 0]⟩]

end Go.AM
