/-
  PILES, PART 1: the table of a bench. Own work.
  PILES, PART 2: which strokes can be exchanged; piles as private objects. Own work.
  PILES, PART 3: piles as private objects. Own work.
  PILES, PART 4: strokes taken; piles of lists; the least stroke. Own work.
  PILES, PART 5: the strokes that can be first, one after another; short forms. Own work.
  THE PLAIN LAW, PART 1: piles of lists: what lies on them. Own work.
  THE PLAIN LAW, PART 2: piles do not see moves; the short form of the code is that of the specification. Own work.
  THE PLAIN LAW, PART 3: the specification's shortest lists; which stroke comes first. Own work.
  SHORT FORMS, as the code makes them. Own work.
  WHAT THE CODE ANSWERS, PART 1: open, Short, Same. Own work.
-/
import Derived.Test.YtjhfhdmdilmplaaKq6

/- PILES, PART 1: the table of a bench. Own work. -/
set_option linter.unusedSimpArgs false
set_option linter.unusedVariables false
namespace Go.AM
open Go.RowKit Go.Proofs

/-- Whether two lines cross, by pairs. -/
def crC (c : List (Int × Int)) (x y : Int) : Bool := c.contains (min x y, max x y)
/-- The rows of lines that cross, laid flat. -/
def crossF (c : List (Int × Int)) : List AV := (List.range 64).map fun i => I (if crC c ((i / 8 : Nat) : Int) ((i % 8 : Nat) : Int) then 1 else 0)
theorem crossF_len (c : List (Int × Int)) : (crossF c).length = 64 := by simp [crossF]
/-- The cells of a table. -/
def TB (f : Bool) (b : Bch) : List AV := I b.L :: Ps f b.c :: crossF b.c

theorem crossF_zero : crossF [] = (List.range 64).map fun _ => I 0 := by simp [crossF, crC]

theorem crC_snoc {c : List (Int × Int)} {p : Int × Int} {x y : Int} : crC (c ++ [p]) x y = (crC c x y || decide (p = (min x y, max x y))) := by
  simp only [crC, List.contains_eq_mem, List.mem_append, List.mem_singleton, Bool.decide_or]
  congr 1
  simp only [decide_eq_decide]
  exact eq_comm

theorem crossF_step {c : List (Int × Int)} {a d : Nat} (h1 : a < d) (h2 : d < 8) : ((crossF c).set (8 * a + d) (I 1)).set (8 * d + a) (I 1) = crossF (c ++ [((a : Int), (d : Int))]) := by
  apply List.ext_getElem
  · simp [crossF]
  · intro i hi1 hi2
    simp only [crossF, List.length_map, List.length_range] at hi2
    simp only [List.getElem_set]
    simp only [crossF, List.getElem_map, List.getElem_range, crC_snoc]
    by_cases e1 : 8 * d + a = i
    · rw [if_pos e1]
      have : ((a : Int), (d : Int)) = (min ((i / 8 : Nat) : Int) ((i % 8 : Nat) : Int), max ((i / 8 : Nat) : Int) ((i % 8 : Nat) : Int)) := by
        rw [Prod.mk.injEq]; omega
      simp [this]
    · rw [if_neg e1]
      by_cases e2 : 8 * a + d = i
      · rw [if_pos e2]
        have : ((a : Int), (d : Int)) = (min ((i / 8 : Nat) : Int) ((i % 8 : Nat) : Int), max ((i / 8 : Nat) : Int) ((i % 8 : Nat) : Int)) := by
          rw [Prod.mk.injEq]; omega
        simp [this]
      · rw [if_neg e2]
        have : ¬ ((a : Int), (d : Int)) = (min ((i / 8 : Nat) : Int) ((i % 8 : Nat) : Int), max ((i / 8 : Nat) : Int) ((i % 8 : Nat) : Int)) := by
          rw [Prod.mk.injEq]; omega
        simp only [this, decide_false, Bool.or_false]

theorem set_n {l : List AV} {n : Nat} {v : AV} (h : n < l.length) : l.take n ++ v :: l.drop (n + 1) = l.set n v := by
  rw [List.set_eq_take_append_cons_drop, if_pos h]
theorem set_c {x : AV} {l : List AV} {n : Nat} {v : AV} (h : n < l.length + 1) : (x :: l).take n ++ v :: l.drop n = (x :: l).set n v := by
  rw [List.set_eq_take_append_cons_drop, if_pos (by simpa using h)]; simp

theorem tb_pure (f : Bool) (b : Bch) : ((TB f b).all AV.isPure) = true := by
  rw [List.all_eq_true]
  intro x hx
  simp only [TB, List.mem_cons] at hx
  rcases hx with rfl | rfl | hx
  · rfl
  · rfl
  · simp only [crossF, List.mem_map] at hx
    obtain ⟨i, _, rfl⟩ := hx
    rfl

theorem splice_one {cs : List AV} {o : Nat} {v : AV} (h : o < cs.length) : splice cs o [v] = cs.set o v := by
  rw [List.set_eq_take_append_cons_drop, if_pos h]
  simp [splice]

theorem chk_pair {b : Bch} (hb : chkB b = 0) {i : Nat} (h : i < b.c.length) : 0 ≤ b.c[i].1 ∧ b.c[i].1 < b.c[i].2 ∧ b.c[i].2 < b.L := by
  simp only [chkB] at hb
  split at hb
  · cases hb
  · split at hb
    · rename_i ha
      have := range_all.1 ha i h
      rw [pairB_def h] at this
      simp at this; omega
    · cases hb
theorem chk_L {b : Bch} (hb : chkB b = 0) : 1 ≤ b.L ∧ b.L ≤ 8 ∧ b.c.length ≤ 28 := by
  simp only [chkB] at hb
  split at hb
  · cases hb
  · omega

theorem newTable_ok (f : Bool) (b : Bch) (hb : chkB b = 0) : PureOK Try.prog 63 [Bn f b] (.ptr (TB f b) 0) := by
  refine pure_of (walk Try.func63 form63 res63 (by show 1 ≤ _; decide) ?_)
  have hL := chk_L hb
  simp (disch := omega) [G63, wrap_id]
  refine loop_eq (fun p : Nat × List HObj => ⟨[(3, .ref 1 0), (10, Ps f b.c), (11, I b.c.length), (12, I p.1)], .cells [I b.L, Ps f b.c] :: .cells (I b.L :: Ps f b.c :: crossF (b.c.take p.1)) :: p.2⟩) (fun p => p.1 ≤ b.c.length) (fun p => b.c.length - p.1) (0, []) (by simp) (by simp [crossF_zero, splice, List.range, List.range.loop]) ?_
  rintro ⟨i, junk⟩ hi
  simp only at hi
  simp (disch := omega) [wrap_id]
  refine c_split (fun h => ?_) (fun h => ?_)
  · simp at h
    obtain ⟨q1, q2, q3⟩ := chk_pair hb h
    obtain ⟨a, ha⟩ : ∃ a : Nat, b.c[i].1 = a := ⟨b.c[i].1.toNat, by omega⟩
    obtain ⟨d, hd⟩ : ∃ d : Nat, b.c[i].2 = d := ⟨b.c[i].2.toNat, by omega⟩
    have e0 : b.c[i] = ((a : Int), (d : Int)) := Prod.ext ha hd
    simp (disch := omega) [wrap_id, cells_pair, flat2_len, h, e0]
    have hlen := crossF_len (b.c.take i)
    refine ⟨by omega, by omega, by omega, by omega, by omega, by omega, ?_⟩
    refine next_eq (i + 1, junk ++ [.cells [I a, I d]]) (by simp only; omega) (by simp only; omega) ?_
    have e1 : b.c.take (i + 1) = b.c.take i ++ [((a : Int), (d : Int))] := by rw [List.take_add_one]; simp [h, e0]
    have e2 := crossF_step (c := b.c.take i) (show a < d by omega) (show d < 8 by omega)
    have e3 : (((I b.L :: Ps f b.c :: crossF (b.c.take i)).set (2 + a * 8 + d) (I 1)).set (2 + d * 8 + a) (I 1)) = I b.L :: Ps f b.c :: crossF (b.c.take (i + 1)) := by
      rw [e1, ← e2, show 2 + a * 8 + d = 8 * a + d + 1 + 1 by omega, show 2 + d * 8 + a = 8 * d + a + 1 + 1 by omega]
      rfl
    rw [set_c (by simp; omega), set_n (by simp; omega), e3]
    simp
  · simp at h
    have : i = b.c.length := by omega
    subst this
    simp
    refine out_of (is := [1]) ?_
    have e : hpf (HObj.cells [I b.L, Ps f b.c] :: HObj.cells (I b.L :: Ps f b.c :: crossF b.c) :: junk) 1 = some (.cells (TB f b)) := rfl
    have hp : ((TB f b).all AV.isPure) = true := tb_pure f b
    simp only [purify, purify1, e, hp, if_true]

end Go.AM

/- PILES, PART 2: which strokes can be exchanged; piles as private objects. Own work. -/
set_option linter.unusedSimpArgs false
set_option linter.unusedVariables false
namespace Go.AM
open Go.RowKit Go.Proofs

theorem cells_tb {f : Bool} {b : Bch} {x y : Nat} {K : AV → List (Nat × HObj) → Prop} (hx : x < 8) (hy : y < 8) : CellsW (TB f b) (2 + x * 8 + y) 1 false K = K (I (if crC b.c x y then 1 else 0)) [] := by
  have e : (TB f b)[2 + x * 8 + y]? = some (I (if crC b.c x y then 1 else 0)) := by
    show (I b.L :: Ps f b.c :: crossF b.c)[2 + x * 8 + y]? = _
    rw [show 2 + x * 8 + y = (x * 8 + y) + 1 + 1 by omega, List.getElem?_cons_succ, List.getElem?_cons_succ]
    simp only [crossF, List.getElem?_map]
    rw [List.getElem?_range (by omega)]
    simp only [Option.map_some]
    rw [show (x * 8 + y) / 8 = x by omega, show (x * 8 + y) % 8 = y by omega]
  apply propext
  constructor
  · rintro ⟨z, h1, h2⟩
    rw [e] at h1; cases h1; exact h2
  · intro h; exact ⟨_, e, h⟩

theorem line_eq (n : Int) : max n (-n) - 1 = lineI n := by unfold lineI; split <;> omega

/-- A stroke along one of eight lines. -/
def St8 (s : Int) : Prop := s ≠ 0 ∧ -8 ≤ s ∧ s ≤ 8
theorem St8.line {s : Int} (h : St8 s) : 0 ≤ lineI s ∧ lineI s < 8 := by unfold lineI; obtain ⟨h1, h2, h3⟩ := h; split <;> omega
theorem st8_of {b : Bch} (hb : chkB b = 0) {s : Int} (h : strokeB b s = true) : St8 s := by
  have := chk_L hb
  simp [strokeB] at h
  exact ⟨by omega, by omega, by omega⟩

theorem canB_cr (b : Bch) (x y : Int) : canB b x y = (!(lineI x == lineI y) && !crC b.c (lineI x) (lineI y)) := rfl

theorem can_ok (f : Bool) (b : Bch) (x y : Int) (hx : St8 x) (hy : St8 y) : PureOK Try.prog 75 [.ptr (TB f b) 0, I x, I y] (B (canB b x y)) := by
  refine pure_of (walk Try.func75 form75 res75 (by show 3 ≤ _; decide) ?_)
  have h1 := hx.line
  have h2 := hy.line
  obtain ⟨a, ha⟩ : ∃ a : Nat, lineI x = a := ⟨(lineI x).toNat, by omega⟩
  obtain ⟨d, hd⟩ : ∃ d : Nat, lineI y = d := ⟨(lineI y).toNat, by omega⟩
  obtain ⟨p1, p2, p3⟩ := hx
  obtain ⟨q1, q2, q3⟩ := hy
  simp (disch := omega) [G75, wrap_id]
  refine pureW_of rfl (line_ok x (by omega)) ?_
  simp (disch := omega) [wrap_id]
  refine pureW_of rfl (line_ok y (by omega)) ?_
  rw [line_eq, line_eq]
  simp (disch := omega) [wrap_id]
  refine dd_split (fun h => ?_) (fun h => ?_)
  · simp at h
    simp (disch := omega) [wrap_id, h]
    refine pureW_of rfl (line_ok x (by omega)) ?_
    simp (disch := omega) [wrap_id]
    refine pureW_of rfl (line_ok y (by omega)) ?_
    rw [line_eq, line_eq, ha, hd]
    simp (disch := omega) [wrap_id, cells_tb]
    rw [canB_cr, ha, hd]
    rw [ha, hd] at h
    refine ⟨by omega, by omega, ?_⟩
    have e1 : ((a : Int) != d) = true := by simpa using h
    have e2 : ((a : Int) == d) = false := by simpa using h
    rw [e1, e2]
    by_cases hc : crC b.c a d = true
    · rw [if_pos hc, hc]; simp
    · rw [if_neg hc, Bool.eq_false_iff.2 hc]; simp
  · simp at h
    simp (disch := omega) [wrap_id, h]
    simp [canB, h]
end Go.AM

/- PILES, PART 3: piles as private objects. Own work. -/
set_option linter.unusedSimpArgs false
set_option linter.unusedVariables false
namespace Go.AM
open Go.RowKit Go.Proofs

def rid : AV → Option Nat
  | .ms id _ _ _ => some id
  | _ => none

/-- A row holds these strokes. -/
def RowIs (hp : List HObj) (x : AV) (l : List Int) : Prop :=
  (x = .sl true 0 [] ∧ l = []) ∨ ∃ id off cs, x = .ms id off l.length 1 ∧ nthH hp id = some (.cells cs) ∧ off + l.length ≤ cs.length ∧ view cs off l.length = l.map fun n => I n

/-- A pile, with its rows. -/
structure PLr (hp : List HObj) (p : Nat) (T : List AV) (rs : List AV) (R : Nat → List Int) : Prop where
  obj : nthH hp p = some (.cells (.ptr T 0 :: rs))
  len : rs.length = 8
  row : ∀ k (h : k < rs.length), RowIs hp rs[k] (R k)
  apart : ∀ k j (h : k < rs.length) (h' : j < rs.length) i, rid rs[k] = some i → rid rs[j] = some i → k = j
  own : ∀ k (h : k < rs.length), rid rs[k] ≠ some p

/-- What belongs to a pile. -/
def Own (p : Nat) (rs : List AV) (i : Nat) : Prop := i = p ∨ ∃ k, ∃ h : k < rs.length, rid rs[k] = some i
/-- What does not belong to it stays. -/
def Fr (hp hp' : List HObj) (o : Nat → Prop) : Prop := hp.length ≤ hp'.length ∧ ∀ i, i < hp.length → ¬ o i → nthH hp' i = nthH hp i

theorem Fr.refl (hp : List HObj) (o : Nat → Prop) : Fr hp hp o := ⟨Nat.le_refl _, fun _ _ _ => rfl⟩

theorem nthH_lt {hp : List HObj} {i : Nat} {o : HObj} (h : nthH hp i = some o) : i < hp.length := by rw [nthH_eq] at h; exact hpf_lt h

theorem RowIs.lt {hp x l i} (h : RowIs hp x l) (hi : rid x = some i) : i < hp.length := by
  rcases h with ⟨rfl, _⟩ | ⟨id, off, cs, rfl, h2, _⟩
  · cases hi
  · cases hi; exact nthH_lt h2

theorem RowIs.mono {hp H x l} (h : RowIs hp x l) (hk : ∀ i, rid x = some i → nthH H i = nthH hp i) : RowIs H x l := by
  rcases h with h | ⟨id, off, cs, rfl, h2, h3⟩
  · exact .inl h
  · exact .inr ⟨id, off, cs, rfl, (hk id rfl).trans h2, h3⟩

theorem PLr.mono {hp H p T rs R} (h : PLr hp p T rs R) (hk : ∀ i, Own p rs i → nthH H i = nthH hp i) : PLr H p T rs R :=
  ⟨(hk p (.inl rfl)).trans h.obj, h.len, fun k hlt => (h.row k hlt).mono fun i hi => hk i (.inr ⟨k, hlt, hi⟩), h.apart, h.own⟩

theorem PLr.put {hp H p T rs R} (h : PLr hp p T rs R) {k : Nat} (hk : k < 8) {x : AV} {l : List Int} (ho : nthH H p = some (.cells (.ptr T 0 :: rs.set k x))) (hx : RowIs H x l)
    (keep : ∀ i, (∃ j, ∃ hj : j < rs.length, j ≠ k ∧ rid rs[j] = some i) → nthH H i = nthH hp i) (fresh : ∀ i, rid x = some i → i ≠ p ∧ ((∃ hk : k < rs.length, rid rs[k] = some i) ∨ hp.length ≤ i)) :
    PLr H p T (rs.set k x) (fun j => if j = k then l else R j) := by
  have hl := h.len
  refine ⟨ho, by simp [hl], fun j hj => ?_, fun j j' hj hj' i h1 h2 => ?_, fun j hj => ?_⟩
  · have hj0 : j < rs.length := by simpa using hj
    by_cases e : j = k
    · subst e; simp; exact hx
    · rw [List.getElem_set_ne (Ne.symm e), if_neg e]
      exact (h.row j hj0).mono fun i hi => keep i ⟨j, hj0, e, hi⟩
  · have hj0 : j < rs.length := by simpa using hj
    have hj0' : j' < rs.length := by simpa using hj'
    have one : ∀ (m : Nat) (hm : m < rs.length), m ≠ k → rid rs[m] = some i → rid x = some i → False := fun m hm hne h1 h2 => by
      rcases (fresh i h2).2 with ⟨hkl, h3⟩ | h3
      · exact hne (h.apart m k hm hkl i h1 h3)
      · have := (h.row m hm).lt h1; omega
    by_cases e : j = k
    · subst e
      by_cases e' : j' = j
      · exact e'.symm
      · rw [List.getElem_set_ne (Ne.symm e')] at h2
        simp at h1
        exact (one j' hj0' e' h2 h1).elim
    · rw [List.getElem_set_ne (Ne.symm e)] at h1
      by_cases e' : j' = k
      · subst e'
        simp at h2
        exact (one j hj0 e h1 h2).elim
      · rw [List.getElem_set_ne (Ne.symm e')] at h2
        exact h.apart j j' hj0 hj0' i h1 h2
  · have hj0 : j < rs.length := by simpa using hj
    by_cases e : j = k
    · subst e; simp; intro hr; exact (fresh p hr).1 rfl
    · rw [List.getElem_set_ne (Ne.symm e)]; exact h.own j hj0

section
variable {hp : List HObj} {K : AV → List (Nat × HObj) → Prop}
theorem cells_row {T rs : List AV} {k : Nat} (h : k < rs.length) : CellsW (.ptr T 0 :: rs) (1 + k) 1 false K = K rs[k] [] := by
  have e : (AV.ptr T 0 :: rs)[1 + k]? = some rs[k] := by rw [Nat.add_comm, List.getElem?_cons_succ, List.getElem?_eq_getElem h]
  apply propext
  constructor
  · rintro ⟨z, h1, h2⟩; rw [e] at h1; cases h1; exact h2
  · intro h; exact ⟨_, e, h⟩
theorem cells_view {cs : List AV} {off j : Nat} {l : List Int} (hv : view cs off l.length = l.map fun n => I n) (h : j < l.length) : CellsW cs (off + j) 1 false K = K (I l[j]) [] := by
  have e : cs[off + j]? = some (I l[j]) := by
    have : (view cs off l.length)[j]? = some (I l[j]) := by rw [hv]; simp [h]
    simp only [view, List.getElem?_take, List.getElem?_drop] at this
    rwa [if_pos h] at this
  apply propext
  constructor
  · rintro ⟨z, h1, h2⟩; rw [e] at h1; cases h1; exact h2
  · intro h; exact ⟨_, e, h⟩
theorem len_row {x : AV} {l : List Int} (h : RowIs hp x l) : LenW x K = K (I l.length) [] := by
  rcases h with ⟨rfl, rfl⟩ | ⟨id, off, cs, rfl, _⟩ <;> rfl
theorem row_ne {x : AV} {l : List Int} (h : RowIs hp x l) (hl : l ≠ []) : ∃ id off cs, x = .ms id off l.length 1 ∧ nthH hp id = some (.cells cs) ∧ off + l.length ≤ cs.length ∧ view cs off l.length = l.map fun n => I n := by
  rcases h with ⟨_, h⟩ | h
  · exact absurd h hl
  · exact h
end

/-- A stroke laid: row by row. -/
def undR (R : Nat → List Int) (s : Int) : Bool := decide ((R (lineI s).toNat).getLast? = some (-s))
def layR (b : Bch) (R : Nat → List Int) (s : Int) (k : Nat) : List Int :=
  if (k : Int) ≠ lineI s ∧ crC b.c (lineI s) k = false then R k else if undR R s = true then (R k).dropLast else if (k : Int) = lineI s then R k ++ [s] else R k ++ [0]

def G97u : AC := (.cond (.t 68) (.drw [⟨none, [(.mv 70 (.t 0)), (.mv 71 (.t 7)), (.mv 72 (.t 0)), (.mv 73 (.t 7)), (.nilc 74 (.t 72)), (.fa 75 (.t 74) 1), (.iaa 76 8 1 (.t 75) (.t 73)), (.ld 77 false 1 (.t 76)), (.mv 78 (.t 0)), (.mv 79 (.t 7)), (.nilc 80 (.t 78)), (.fa 81 (.t 80) 1), (.iaa 82 8 1 (.t 81) (.t 79)), (.ld 83 false 1 (.t 82)), (.len 84 (.t 83)), (.bin 85 .sub (.t 84) (.k (I 1))), (.slc 86 1 (.t 77) none (some (.t 85)) none), (.nilc 87 (.t 70)), (.fa 88 (.t 87) 1), (.iaa 89 8 1 (.t 88) (.t 71)), (.st 1 (.t 89) (.t 86))]⟩] [(7, 13)] [0, 1, 4, 6, 34]) (.seq (.rgn [⟨none, [(.mv 91 (.t 7)), (.mv 92 (.t 4)), (.bin 93 .eql (.t 91) (.t 92)), (.mv 90 (.t 93))]⟩] [0, 1, 4, 6, 7, 34, 90]) (.cond (.t 90) (.drw [⟨none, [(.mv 94 (.t 0)), (.mv 95 (.t 7)), (.mv 96 (.t 0)), (.mv 97 (.t 7)), (.nilc 98 (.t 96)), (.fa 99 (.t 98) 1), (.iaa 100 8 1 (.t 99) (.t 97)), (.ld 101 false 1 (.t 100)), (.mv 102 (.t 1)), (.bsl 103 1 1 [(I 0)] [(0, (.t 102))]), (.app 104 1 8 (.t 101) (.t 103)), (.nilc 105 (.t 94)), (.fa 106 (.t 105) 1), (.iaa 107 8 1 (.t 106) (.t 95)), (.st 1 (.t 107) (.t 104))]⟩] [(7, 9)] [0, 1, 4, 6, 34]) (.drw [⟨none, [(.mv 37 (.t 0)), (.mv 38 (.t 7)), (.mv 39 (.t 0)), (.mv 40 (.t 7)), (.nilc 41 (.t 39)), (.fa 42 (.t 41) 1), (.iaa 43 8 1 (.t 42) (.t 40)), (.ld 44 false 1 (.t 43)), (.bsl 45 1 1 [(I 0)] [(0, (.k (I 0)))]), (.app 46 1 8 (.t 44) (.t 45)), (.nilc 47 (.t 37)), (.fa 48 (.t 47) 1), (.iaa 49 8 1 (.t 48) (.t 38)), (.st 1 (.t 49) (.t 46))]⟩] [(7, 8)] [0, 1, 4, 6, 34]))))
def G97t : AC := (.seq (.rgn [⟨none, [(.mv 34 (.k (I 0)))]⟩] [0, 1, 4, 6, 34]) (.block 0 (.loop (.seq (.rgn [⟨none, [(.bin 35 .lss (.t 34) (.k (I 8)))]⟩] [0, 1, 4, 6, 34, 35]) (.seq (.cond (.t 35) .skip (.exit 0)) (.seq (.block 1 (.seq (.rgn [⟨none, [(.mv 36 (.t 34)), (.mv 7 (.t 36))]⟩] [0, 1, 4, 6, 7, 34]) (.block 2 (.seq (.rgn [⟨none, [(.mv 51 (.t 7)), (.mv 52 (.t 4)), (.bin 53 .neq (.t 51) (.t 52)), (.mv 54 (.t 53))]⟩, ⟨(some (54, true)), [(.mv 55 (.t 0)), (.nilc 56 (.t 55)), (.fa 57 (.t 56) 0), (.ld 58 false 1 (.t 57)), (.mv 59 (.t 4)), (.mv 60 (.t 7)), (.nilc 61 (.t 58)), (.fa 62 (.t 61) 2), (.iaa 63 8 8 (.t 62) (.t 59)), (.iaa 64 8 1 (.t 63) (.t 60)), (.ld 65 false 1 (.t 64)), (.bin 66 .eql (.t 65) (.k (I 0)))]⟩, ⟨none, [(.pick 67 (.t 54) (.t 66) (.k (B false))), (.mv 50 (.t 67))]⟩] [0, 1, 4, 6, 7, 34, 50]) (.cond (.t 50) .skip (.seq (.rgn [⟨none, [(.mv 69 (.t 6)), (.mv 68 (.t 69))]⟩] [0, 1, 4, 6, 7, 34, 68]) G97u)))))) (.rgn [⟨none, [(.bin 108 .add (.t 34) (.k (I 1))), (.mv 34 (.t 108))]⟩] [0, 1, 4, 6, 34])))))))
theorem G97_t : G97 = (.seq (.rgn [⟨none, [(.mv 8 (.t 1)), (.call 9 100 [(.t 8)]), (.mv 4 (.t 9))]⟩] [0, 1, 4]) (.seq (.rgn [⟨none, [(.mv 10 (.t 0)), (.mv 11 (.t 4)), (.nilc 12 (.t 10)), (.fa 13 (.t 12) 1), (.iaa 14 8 1 (.t 13) (.t 11)), (.ld 15 false 1 (.t 14)), (.len 16 (.t 15)), (.mv 5 (.t 16))]⟩] [0, 1, 4, 5]) (.seq (.rgn [⟨none, [(.mv 17 (.t 5)), (.bin 18 .gtr (.t 17) (.k (I 0))), (.mv 19 (.t 18))]⟩, ⟨(some (19, true)), [(.mv 20 (.t 0)), (.mv 21 (.t 4)), (.nilc 22 (.t 20)), (.fa 23 (.t 22) 1), (.iaa 24 8 1 (.t 23) (.t 21)), (.ld 25 false 1 (.t 24)), (.mv 26 (.t 5)), (.bin 27 .sub (.t 26) (.k (I 1))), (.ia 28 1 (.t 25) (.t 27)), (.ld 29 false 1 (.t 28)), (.mv 30 (.t 1)), (.un 31 .neg (.t 30)), (.bin 32 .eql (.t 29) (.t 31))]⟩, ⟨none, [(.pick 33 (.t 19) (.t 32) (.k (B false))), (.mv 6 (.t 33))]⟩] [0, 1, 4, 6]) G97t))) := rfl

theorem PLr.congr {hp p T rs R R'} (h : PLr hp p T rs R) (e : ∀ k, k < 8 → R k = R' k) : PLr hp p T rs R' :=
  ⟨h.obj, h.len, fun k hk => by rw [← e k (by rw [← h.len]; exact hk)]; exact h.row k hk, h.apart, h.own⟩


theorem set_row {T rk : List AV} {k : Nat} {x : AV} (h : k < rk.length) : List.take (1 + k) (AV.ptr T 0 :: rk) ++ x :: List.drop (1 + k) rk = AV.ptr T 0 :: rk.set k x := by
  rw [set_c (by omega), Nat.add_comm]; rfl

/-- A row cut. -/
theorem PLr.cut {H : List HObj} {p : Nat} {T rk : List AV} {Rc : Nat → List Int} (c : PLr H p T rk Rc) {k : Nat} (hk : k < 8) {id off n off' : Nat} {cs : List AV} {l : List Int} (hkr : k < rk.length) (e1 : rk[k] = .ms id off n 1) (e2 : nthH H id = some (.cells cs))
    (e3 : off' + l.length ≤ cs.length) (e4 : view cs off' l.length = l.map fun n => I n) :
    PLr (H.set p (.cells (.ptr T 0 :: rk.set k (.ms id off' l.length 1)))) p T (rk.set k (.ms id off' l.length 1)) (fun j => if j = k then l else Rc j) ∧
      Fr H (H.set p (.cells (.ptr T 0 :: rk.set k (.ms id off' l.length 1)))) (Own p rk) ∧ ∀ i, Own p (rk.set k (.ms id off' l.length 1)) i → Own p rk i ∨ H.length ≤ i := by
  have hpl := nthH_lt c.obj
  have hid : id ≠ p := fun e => c.own k hkr (by rw [e1, e]; rfl)
  refine ⟨c.put hk (nthH_set_same hpl) (.inr ⟨id, off', cs, rfl, by rw [nthH_set_ne (Ne.symm hid)]; exact e2, e3, e4⟩) (fun i ⟨j, hj, _, hr⟩ => nthH_set_ne (fun e => c.own j hj (by rw [hr, ← e]))) (fun i hi => ?_), ⟨by simp, fun i _ ho => nthH_set_ne (fun e => ho (.inl e.symm))⟩, ?_⟩
  · cases hi; exact ⟨hid, .inl ⟨hkr, by rw [e1]; rfl⟩⟩
  · rintro i (h | ⟨j, hj, hr⟩)
    · exact .inl (.inl h)
    · have hj0 : j < rk.length := by simpa using hj
      by_cases e : j = k
      · subst e
        simp at hr
        exact .inl (.inr ⟨j, hj0, by rw [e1]; exact hr⟩)
      · rw [List.getElem_set_ne (Ne.symm e)] at hr
        exact .inl (.inr ⟨j, hj0, hr⟩)

theorem app_row {hp : List HObj} {x : AV} {l : List Int} {v : Int} {K : AV → List (Nat × HObj) → Prop} (h : RowIs hp x l) (hl : l.length ≤ 1000000)
    (hK : ∀ ws, (∀ i, i < hp.length → rid x ≠ some i → nthH (writeL hp ws) i = nthH hp i) → hp.length < (writeL hp ws).length → nthH (writeL hp ws) hp.length = some (.cells ((l ++ [v]).map fun n => I n)) → K (.ms hp.length 0 (l.length + 1) 1) ws) :
    AppW hp 1 8 x (.sl true 1 [I v]) K := by
  rcases h with ⟨rfl, rfl⟩ | ⟨id, off, cs, rfl, h2, h3, h4⟩
  · rw [app_sl]
    refine ⟨by simp, hK _ (fun i hi _ => ?_) ?_ ?_⟩
    · rw [nthH_writeL (by simp), nthH_eq]; simp only [Hp.write]; rw [Hp.set_other _ _ (by omega)]; rfl
    · have := nthH_lt (hp := writeL hp [(hp.length, HObj.cells ([] ++ [I v]))]) (i := hp.length) (o := .cells [I v]) (by rw [nthH_writeL (by simp)]; simp [Hp.write, Hp.set_same])
      exact this
    · rw [nthH_writeL (by simp)]; simp [Hp.write, Hp.set_same]
  · have hlt := nthH_lt h2
    rw [app_ms, h2, appr_some]
    have hn : nthH (writeL hp [(id, HObj.gone), (hp.length, HObj.cells (view cs off (l.length * 1) ++ [I v]))]) hp.length = some (.cells ((l ++ [v]).map fun n => I n)) := by
      rw [nthH_writeL (by simp; omega)]
      simp only [Hp.write, Hp.set_same, Nat.mul_one, h4]
      simp
    refine ⟨by simp; omega, hK _ (fun i hi hr => ?_) (nthH_lt hn) hn⟩
    rw [nthH_writeL (by simp; omega), nthH_eq]; simp only [Hp.write]
    rw [Hp.set_other _ _ (by omega), Hp.set_other _ _ (fun e => hr (by rw [e]; rfl))]; rfl

/-- A row to which a stroke was added. -/
theorem PLr.add {H H1 : List HObj} {p : Nat} {T rk : List AV} {Rc : Nat → List Int} (c : PLr H p T rk Rc) {k : Nat} (hk : k < 8) (hkr : k < rk.length) {l : List Int} (k1 : ∀ i, i < H.length → rid rk[k] ≠ some i → nthH H1 i = nthH H i) (k2 : H.length < H1.length)
    (k3 : nthH H1 H.length = some (.cells (l.map fun n => I n))) :
    PLr (H1.set p (.cells (.ptr T 0 :: rk.set k (.ms H.length 0 l.length 1)))) p T (rk.set k (.ms H.length 0 l.length 1)) (fun j => if j = k then l else Rc j) ∧
      Fr H (H1.set p (.cells (.ptr T 0 :: rk.set k (.ms H.length 0 l.length 1)))) (Own p rk) ∧ ∀ i, Own p (rk.set k (.ms H.length 0 l.length 1)) i → Own p rk i ∨ H.length ≤ i := by
  have hpl := nthH_lt c.obj
  refine ⟨c.put hk (nthH_set_same (by omega)) (.inr ⟨H.length, 0, _, rfl, by rw [nthH_set_ne (by omega)]; exact k3, by simp, by simp [view]; rw [List.take_of_length_le (by simp)]⟩) (fun i ⟨j, hj, hne, hr⟩ => ?_) (fun i hi => ?_), ⟨by simp; omega, fun i hi ho => ?_⟩, ?_⟩
  · rw [nthH_set_ne (fun e => c.own j hj (by rw [hr, ← e]))]
    exact k1 i ((c.row j hj).lt hr) (fun h => hne (c.apart j k hj hkr i hr h))
  · cases hi; exact ⟨by omega, .inr (Nat.le_refl _)⟩
  · rw [nthH_set_ne (fun e => ho (.inl e.symm))]
    exact k1 i hi (fun h => ho (.inr ⟨k, hkr, h⟩))
  · rintro i (h | ⟨j, hj, hr⟩)
    · exact .inl (.inl h)
    · have hj0 : j < rk.length := by simpa using hj
      by_cases e : j = k
      · subst e
        simp at hr
        cases hr; exact .inr (Nat.le_refl _)
      · rw [List.getElem_set_ne (Ne.symm e)] at hr
        exact .inl (.inr ⟨j, hj0, hr⟩)

theorem lay_u (f : Bool) (b : Bch) (s : Int) {a k : Nat} (ha : lineI s = a) {H : List HObj} {p : Nat} {rk : List AV} {R Rc : Nat → List Int} (c2 : PLr H p (TB f b) rk Rc) (hk : k < 8) (hR : Rc k = R k) (hlen : (R k).length ≤ 1000000)
    (hcr : k = a ∨ crC b.c (lineI s) k = true) (hne : undR R s = true → R k ≠ []) {Q : Exit → St → Prop}
    (hQ : ∀ H' rk', PLr H' p (TB f b) rk' (fun j => if j = k then layR b R s k else Rc j) → Fr H H' (Own p rk) → (∀ i, Own p rk' i → Own p rk i ∨ H.length ≤ i) →
      Q .normal ⟨[(0, .ref p 0), (1, I s), (4, I a), (6, B (undR R s)), (34, I k)], H'⟩) :
    AWP Try.prog (E1 Try.prog) G97u ⟨[(0, .ref p 0), (1, I s), (4, I a), (6, B (undR R s)), (7, I k), (34, I k), (68, B (undR R s))], H⟩ Q := by
  have hkr : k < rk.length := by rw [c2.len]; exact hk
  have hkI : (k : Int) < 8 := by omega
  have hrow := c2.row k hkr
  rw [hR] at hrow
  have hpl : p < H.length := nthH_lt c2.obj
  have hlay : layR b R s k = if undR R s = true then (R k).dropLast else if k = a then R k ++ [s] else R k ++ [0] := by
    unfold layR
    rw [if_neg]
    · by_cases e : k = a
      · rw [if_pos (show (k : Int) = lineI s by omega), if_pos e]
      · rw [if_neg (show ¬ (k : Int) = lineI s by omega), if_neg e]
    · rintro ⟨h1, h2⟩
      rcases hcr with h | h
      · omega
      · rw [h] at h2; cases h2
  cases hu : undR R s with
  | true =>
    obtain ⟨id, off, cs, e1, e2, e3, e4⟩ := row_ne hrow (hne hu)
    have hl0 : 0 < (R k).length := List.length_pos_iff.2 (hne hu)
    simp (disch := omega) [G97u, wrap_id, hu, hkI, c2.obj, cells_row, hkr, e1]
    refine slc_ms_of (l := 0) (h := (R k).length - 1) rfl (by simp; omega) trivial (Nat.zero_le _) (by omega) ?_
    simp (disch := omega) [wrap_id, hkI, c2.obj, hpl]
    refine ⟨by omega, ?_⟩
    rw [set_row hkr]
    have e5 : (R k).dropLast.length = (R k).length - 1 := List.length_dropLast
    obtain ⟨q1, q2, q3⟩ := c2.cut hk (off' := off) (l := (R k).dropLast) hkr e1 e2 (by omega) (by
      rw [e5]
      have : view cs off ((R k).length - 1) = (view cs off (R k).length).take ((R k).length - 1) := by
        simp only [view, List.take_take]; congr 1; omega
      rw [this, e4, ← List.map_take, List.dropLast_eq_take])
    rw [e5] at q1 q2 q3
    rw [hu] at hQ hlay
    exact hQ _ _ (by rw [hlay]; exact q1) q2 q3
  | false =>
    rw [hu] at hQ hlay
    have fin : ∀ v, layR b R s k = R k ++ [v] → ∀ ws, (∀ i, i < H.length → rid rk[k] ≠ some i → nthH (writeL H ws) i = nthH H i) → H.length < (writeL H ws).length → nthH (writeL H ws) H.length = some (.cells ((R k ++ [v]).map fun n => I n)) →
        p < (writeL H ws).length ∧ nthH (writeL H ws) p = some (.cells (.ptr (TB f b) 0 :: rk)) ∧ Q .normal ⟨[(0, .ref p 0), (1, I s), (4, I a), (6, B false), (34, I k)], (writeL H ws).set p (.cells (.ptr (TB f b) 0 :: rk.set k (.ms H.length 0 ((R k).length + 1) 1)))⟩ := fun v hv ws w1 w2 w3 => by
      obtain ⟨q1, q2, q3⟩ := c2.add hk hkr w1 w2 w3
      simp only [List.length_append, List.length_singleton] at q1 q2 q3
      refine ⟨by omega, ?_, hQ _ _ (by rw [hv]; exact q1) q2 q3⟩
      rw [w1 p hpl (c2.own k hkr)]; exact c2.obj
    by_cases e : k = a
    · subst e
      simp (disch := omega) [G97u, wrap_id, hkI, c2.obj, cells_row, hkr]
      refine bsl_of rfl rfl ?_
      simp (disch := omega) [wrap_id, zrep]
      refine app_row hrow hlen fun ws w1 w2 w3 => ?_
      obtain ⟨g1, g2, g3⟩ := fin s (by rw [hlay]; simp) ws w1 w2 w3
      simp (disch := omega) [wrap_id, hkI, g1, g2]
      refine ⟨by omega, ?_⟩
      rw [set_row hkr]
      exact g3
    · have e' : ((k : Int) == (a : Int)) = false := by rw [beq_eq_false_iff_ne]; omega
      simp (disch := omega) [G97u, wrap_id, hkI, c2.obj, cells_row, hkr, e']
      refine bsl_of (ys := [I 0]) rfl rfl ?_
      simp (disch := omega) [wrap_id, zrep]
      refine app_row hrow hlen fun ws w1 w2 w3 => ?_
      obtain ⟨g1, g2, g3⟩ := fin 0 (by rw [hlay]; simp [e]) ws w1 w2 w3
      simp (disch := omega) [wrap_id, hkI, g1, g2]
      refine ⟨by omega, ?_⟩
      rw [set_row hkr]
      exact g3

theorem lay_t (f : Bool) (b : Bch) (s : Int) (hs : St8 s) {a : Nat} (ha : lineI s = a) {hp : List HObj} {p : Nat} {rs : List AV} {R : Nat → List Int} (hP : PLr hp p (TB f b) rs R) (hlen : ∀ k, k < 8 → (R k).length ≤ 1000000)
    (hne : undR R s = true → ∀ k : Nat, k < 8 → ((k : Int) = lineI s ∨ crC b.c (lineI s) k = true) → R k ≠ []) {K : AV → List HObj → Prop}
    (hK : ∀ H rs', PLr H p (TB f b) rs' (layR b R s) → Fr hp H (Own p rs) → (∀ i, Own p rs' i → Own p rs i ∨ hp.length ≤ i) → K (.tup []) H) :
    AWP Try.prog (E1 Try.prog) G97t ⟨[(0, .ref p 0), (1, I s), (4, I a), (6, B (undR R s))], hp⟩ (RetQ [] K) := by
  have h1 := hs.line
  obtain ⟨p1, p2, p3⟩ := hs
  have ha8 : a < 8 := by omega
  simp (disch := omega) [G97t, wrap_id]
  refine loop_eq (fun q : Nat × List AV × List HObj => ⟨[(0, .ref p 0), (1, I s), (4, I a), (6, B (undR R s)), (34, I q.1)], q.2.2⟩)
    (fun q => q.1 ≤ 8 ∧ PLr q.2.2 p (TB f b) q.2.1 (fun j => if j < q.1 then layR b R s j else R j) ∧ Fr hp q.2.2 (Own p rs) ∧ ∀ i, Own p q.2.1 i → Own p rs i ∨ hp.length ≤ i) (fun q => 8 - q.1) (0, rs, hp)
    ⟨by simp, hP.congr (fun k _ => by simp), .refl _ _, fun i h => .inl h⟩ rfl ?_
  rintro ⟨k, rk, H⟩ ⟨c1, c2, c3, c4⟩
  simp only at c1 c2 c3 c4
  simp (disch := omega) [wrap_id]
  by_cases hk : k < 8
  · have hkr : k < rk.length := by rw [c2.len]; exact hk
    have hkI : (k : Int) < 8 := by omega
    have hrow := c2.row k hkr
    simp only [Nat.lt_irrefl, if_false] at hrow
    simp (disch := omega) [wrap_id, hkI]
    have next : ∀ (H' : List HObj) (rk' : List AV), PLr H' p (TB f b) rk' (fun j => if j = k then layR b R s k else (fun j => if j < k then layR b R s j else R j) j) → Fr H H' (Own p rk) → (∀ i, Own p rk' i → Own p rk i ∨ H.length ≤ i) →
        Fr hp H' (Own p rs) ∧ (∀ i, Own p rk' i → Own p rs i ∨ hp.length ≤ i) ∧ PLr H' p (TB f b) rk' (fun j => if j < k + 1 then layR b R s j else R j) := fun H' rk' q1 q2 q3 => by
      refine ⟨⟨Nat.le_trans c3.1 q2.1, fun i hi ho => (q2.2 i (Nat.lt_of_lt_of_le hi c3.1) (fun h => ?_)).trans (c3.2 i hi ho)⟩, fun i hi => ?_, q1.congr fun j hj => ?_⟩
      · rcases c4 i h with h | h
        · exact ho h
        · omega
      · rcases q3 i hi with h | h
        · exact c4 i h
        · exact .inr (Nat.le_trans c3.1 h)
      · by_cases e1 : j = k
        · subst e1; simp
        · simp only [e1, if_false]
          by_cases e2 : j < k
          · rw [if_pos e2, if_pos (by omega)]
          · rw [if_neg e2, if_neg (by omega)]
    have body : k = a ∨ crC b.c (lineI s) k = true → AWP Try.prog (E1 Try.prog) G97u ⟨[(0, .ref p 0), (1, I s), (4, I a), (6, B (undR R s)), (7, I k), (34, I k), (68, B (undR R s))], H⟩ (Exit.blk 2 (Exit.blk 1 (Exit.th
          (fun st => AWP Try.prog (E1 Try.prog) (.rgn [⟨none, [(.bin 108 .add (.t 34) (.k (I 1))), (.mv 34 (.t 108))]⟩] [0, 1, 4, 6, 34]) st
              (Exit.th (Next (fun q : Nat × List AV × List HObj => (⟨[(0, .ref p 0), (1, I s), (4, I a), (6, B (undR R s)), (34, I q.1)], q.2.2⟩ : St))
                (fun q => q.1 ≤ 8 ∧ PLr q.2.2 p (TB f b) q.2.1 (fun j => if j < q.1 then layR b R s j else R j) ∧ Fr hp q.2.2 (Own p rs) ∧ ∀ i, Own p q.2.1 i → Own p rs i ∨ hp.length ≤ i) (fun q => 8 - q.1) (k, rk, H)) (Exit.blk 0 (RetQ [] K))))
          (Exit.th (Next (fun q : Nat × List AV × List HObj => (⟨[(0, .ref p 0), (1, I s), (4, I a), (6, B (undR R s)), (34, I q.1)], q.2.2⟩ : St))
                (fun q => q.1 ≤ 8 ∧ PLr q.2.2 p (TB f b) q.2.1 (fun j => if j < q.1 then layR b R s j else R j) ∧ Fr hp q.2.2 (Own p rs) ∧ ∀ i, Own p q.2.1 i → Own p rs i ∨ hp.length ≤ i) (fun q => 8 - q.1) (k, rk, H)) (Exit.blk 0 (RetQ [] K)))))) := fun hcr => by
      refine lay_u f b s ha c2 hk (by simp) (hlen k hk) hcr (fun hu => hne hu k hk (by rcases hcr with h | h; exact .inl (by omega); exact .inr h)) fun H' rk' q1 q2 q3 => ?_
      obtain ⟨g1, g2, g3⟩ := next H' rk' q1 q2 q3
      rw [blk_n, blk_n, th_n]
      rw [x_rgn]
      simp (disch := omega) [wrap_id]
      exact next_eq (k + 1, rk', H') ⟨by simp only; omega, g3, g1, g2⟩ (by simp only; omega) (by simp)
    by_cases e : k = a
    · subst e
      simp (disch := omega) [wrap_id]
      exact body (.inl rfl)
    · have e2 : ((k : Int) != (a : Int)) = true := by rw [bne_iff_ne]; omega
      refine gd_split (fun _ => ?_) (fun h => absurd (e2.symm.trans h) (by simp))
      have haI : (a : Int) < 8 := by omega
      simp (disch := omega) [wrap_id, c2.obj, hkI, haI, cells_tb, e2]
      by_cases hc : crC b.c a k = true
      · simp (disch := omega) [wrap_id, hc]
        exact body (.inr (by rw [ha]; exact hc))
      · simp (disch := omega) [wrap_id, hc]
        refine next_eq (k + 1, rk, H) ⟨by simp only; omega, c2.congr fun j hj => ?_, c3, c4⟩ (by simp only; omega) (by simp)
        simp only
        by_cases e3 : j = k
        · subst e3
          rw [if_neg (by omega), if_pos (by omega)]
          unfold layR
          rw [if_pos ⟨by rw [ha]; omega, by rw [ha]; simpa using hc⟩]
        · by_cases e4 : j < k
          · rw [if_pos e4, if_pos (by omega)]
          · rw [if_neg e4, if_neg (by omega)]
  · have : k = 8 := by omega
    subst this
    simp
    exact hK H rk (c2.congr fun j hj => by simp [hj]) c3 c4
theorem lay_w (f : Bool) (b : Bch) (s : Int) (hs : St8 s) {hp : List HObj} {p : Nat} {rs : List AV} {R : Nat → List Int} (hP : PLr hp p (TB f b) rs R) (hlen : ∀ k, k < 8 → (R k).length ≤ 1000000)
    (hne : undR R s = true → ∀ k : Nat, k < 8 → ((k : Int) = lineI s ∨ crC b.c (lineI s) k = true) → R k ≠ []) {K : AV → List HObj → Prop}
    (hK : ∀ H rs', PLr H p (TB f b) rs' (layR b R s) → Fr hp H (Own p rs) → (∀ i, Own p rs' i → Own p rs i ∨ hp.length ≤ i) → K (.tup []) H) : CallW Try.prog 97 [.ref p 0, I s] hp K := by
  refine walk Try.func97 form97 res97 (by show 2 ≤ _; decide) ?_
  have h1 := hs.line
  obtain ⟨a, ha⟩ : ∃ a : Nat, lineI s = a := ⟨(lineI s).toNat, by omega⟩
  have hs' := hs
  obtain ⟨p1, p2, p3⟩ := hs
  have ha8 : a < 8 := by omega
  have haI : (a : Int) < 8 := by omega
  have har : a < rs.length := by rw [hP.len]; exact ha8
  have hrow := hP.row a har
  have hla := hlen a ha8
  have tl : ∀ u, u = undR R s → AWP Try.prog (E1 Try.prog) G97t ⟨[(0, .ref p 0), (1, I s), (4, I a), (6, B u)], hp⟩ (RetQ [] K) := fun u hu => by subst hu; exact lay_t f b s hs' ha hP hlen hne hK
  rw [G97_t]
  simp (disch := omega) [wrap_id]
  refine callW_pure rfl (line_ok s (by omega)) ?_
  rw [line_eq, ha]
  simp (disch := omega) [wrap_id, hP.obj, cells_row, har, len_row hrow, haI]
  refine gd_split (fun h => ?_) (fun h => ?_)
  · simp at h
    obtain ⟨id, off, cs, e1, e2, e3, e4⟩ := row_ne hrow (List.length_pos_iff.1 h)
    have hj : (R a).length - 1 < (R a).length := by omega
    have hjn : ((R a).length : Int) - 1 = ((R a).length - 1 : Nat) := by omega
    simp (disch := omega) [wrap_id, hP.obj, cells_row, har, haI, e1]
    refine ⟨by omega, ?_⟩
    rw [e2, ldr_some, cells_view e4 hj]
    have hsw : IntKind.i64.wrap (0 - s) = -s := int_neg_ok s (by omega)
    simp (disch := omega) [wrap_id, hsw]
    have hd : decide (0 < (R a).length) = true := by simpa using h
    rw [hd]
    refine tl ((R a)[(R a).length - 1] == -s) ?_
    simp only [undR, ha, Int.toNat_natCast]
    rw [List.getLast?_eq_getElem?, List.getElem?_eq_getElem hj]
    by_cases hx : (R a)[(R a).length - 1] = -s <;> simp [hx]
  · simp at h
    simp (disch := omega) [wrap_id, h]
    exact tl _ (by simp [undR, ha, h])

end Go.AM

/- PILES, PART 4: strokes taken; piles of lists; the least stroke. Own work. -/
set_option linter.unusedSimpArgs false
set_option linter.unusedVariables false
namespace Go.AM
open Go.RowKit Go.Proofs

/-- A stroke taken that can be first: row by row. -/
def takeR (b : Bch) (R : Nat → List Int) (s : Int) (k : Nat) : List Int := if (k : Int) = lineI s ∨ crC b.c (lineI s) k = true then (R k).tail else R k

theorem view_tail {cs : List AV} {off : Nat} {l : List Int} (hv : view cs off l.length = l.map fun n => I n) : view cs (off + 1) l.tail.length = l.tail.map fun n => I n := by
  cases l with
  | nil => simp [view]
  | cons x l =>
    simp only [List.tail_cons, List.length_cons] at hv ⊢
    have := congrArg List.tail hv
    simp only [List.map_cons, List.tail_cons] at this
    rw [← this]
    simp only [view, ← List.drop_drop]
    cases h : List.drop off cs with
    | nil => simp
    | cons y ys => simp

theorem take_w (f : Bool) (b : Bch) (s : Int) (hs : St8 s) {hp : List HObj} {p : Nat} {rs : List AV} {R : Nat → List Int} (hP : PLr hp p (TB f b) rs R)
    (hne : ∀ k : Nat, k < 8 → ((k : Int) = lineI s ∨ crC b.c (lineI s) k = true) → R k ≠ []) {K : AV → List HObj → Prop}
    (hK : ∀ H rs', PLr H p (TB f b) rs' (takeR b R s) → Fr hp H (Own p rs) → (∀ i, Own p rs' i → Own p rs i ∨ hp.length ≤ i) → H.length = hp.length → K (.tup []) H) : CallW Try.prog 73 [.ref p 0, I s] hp K := by
  refine walk Try.func73 form73 res73 (by show 2 ≤ _; decide) ?_
  have h1 := hs.line
  obtain ⟨a, ha⟩ : ∃ a : Nat, lineI s = a := ⟨(lineI s).toNat, by omega⟩
  obtain ⟨p1, p2, p3⟩ := hs
  have ha8 : a < 8 := by omega
  have haI : (a : Int) < 8 := by omega
  simp (disch := omega) [G73, wrap_id]
  refine callW_pure rfl (line_ok s (by omega)) ?_
  rw [line_eq, ha]
  simp (disch := omega) [wrap_id]
  refine loop_eq (fun q : Nat × List AV × List HObj => ⟨[(0, .ref p 0), (4, I a), (8, I q.1)], q.2.2⟩)
    (fun q => q.1 ≤ 8 ∧ PLr q.2.2 p (TB f b) q.2.1 (fun j => if j < q.1 then takeR b R s j else R j) ∧ Fr hp q.2.2 (Own p rs) ∧ (∀ i, Own p q.2.1 i → Own p rs i ∨ hp.length ≤ i) ∧ q.2.2.length = hp.length) (fun q => 8 - q.1) (0, rs, hp)
    ⟨by simp, hP.congr (fun k _ => by simp), .refl _ _, fun i h => .inl h, rfl⟩ rfl ?_
  rintro ⟨k, rk, H⟩ ⟨c1, c2, c3, c4, c5⟩
  simp only at c1 c2 c3 c4 c5
  simp (disch := omega) [wrap_id]
  by_cases hk : k < 8
  · have hkr : k < rk.length := by rw [c2.len]; exact hk
    have hkI : (k : Int) < 8 := by omega
    have hrow := c2.row k hkr
    have hpl := nthH_lt c2.obj
    simp only [Nat.lt_irrefl, if_false] at hrow
    simp (disch := omega) [wrap_id, hkI]
    have go : ((k : Int) = lineI s ∨ crC b.c (lineI s) k = true) → ∀ (H' : List HObj) (rk' : List AV), PLr H' p (TB f b) rk' (fun j => if j = k then (R k).tail else (fun j => if j < k then takeR b R s j else R j) j) → Fr H H' (Own p rk) → (∀ i, Own p rk' i → Own p rk i ∨ H.length ≤ i) →
        Fr hp H' (Own p rs) ∧ (∀ i, Own p rk' i → Own p rs i ∨ hp.length ≤ i) ∧ PLr H' p (TB f b) rk' (fun j => if j < k + 1 then takeR b R s j else R j) := fun hcr H' rk' q1 q2 q3 => by
      refine ⟨⟨Nat.le_trans c3.1 q2.1, fun i hi ho => (q2.2 i (Nat.lt_of_lt_of_le hi c3.1) (fun h => ?_)).trans (c3.2 i hi ho)⟩, fun i hi => ?_, q1.congr fun j hj => ?_⟩
      · rcases c4 i h with h | h
        · exact ho h
        · omega
      · rcases q3 i hi with h | h
        · exact c4 i h
        · exact .inr (Nat.le_trans c3.1 h)
      · by_cases e1 : j = k
        · subst e1; simp; unfold takeR; rw [if_pos hcr]
        · simp only [e1, if_false]
          by_cases e2 : j < k
          · rw [if_pos e2, if_pos (by omega)]
          · rw [if_neg e2, if_neg (by omega)]
    have cut : ((k : Int) = lineI s ∨ crC b.c (lineI s) k = true) → ∃ id off cs, rk[k] = .ms id off (R k).length 1 ∧ 0 < (R k).length ∧ nthH H id = some (.cells cs) ∧
        Next (fun q : Nat × List AV × List HObj => (⟨[(0, .ref p 0), (4, I a), (8, I q.1)], q.2.2⟩ : St))
          (fun q => q.1 ≤ 8 ∧ PLr q.2.2 p (TB f b) q.2.1 (fun j => if j < q.1 then takeR b R s j else R j) ∧ Fr hp q.2.2 (Own p rs) ∧ (∀ i, Own p q.2.1 i → Own p rs i ∨ hp.length ≤ i) ∧ q.2.2.length = hp.length) (fun q => 8 - q.1) (k, rk, H)
          ⟨[(0, .ref p 0), (4, I a), (8, I ((k : Int) + 1))], H.set p (.cells (.ptr (TB f b) 0 :: rk.set k (.ms id (off + 1) ((R k).length - 1) 1)))⟩ := fun hcr => by
      obtain ⟨id, off, cs, e1, e2, e3, e4⟩ := row_ne hrow (hne k hk hcr)
      have hl0 : 0 < (R k).length := List.length_pos_iff.2 (hne k hk hcr)
      have e5 : (R k).tail.length = (R k).length - 1 := List.length_tail
      obtain ⟨q1, q2, q3⟩ := c2.cut hk (off' := off + 1) (l := (R k).tail) hkr e1 e2 (by omega) (view_tail e4)
      obtain ⟨g1, g2, g3⟩ := go hcr _ _ q1 q2 q3
      rw [e5] at g1 g2 g3
      exact ⟨id, off, cs, e1, hl0, e2, next_eq (k + 1, _, _) ⟨by simp only; omega, g3, g1, g2, by simp [c5]⟩ (by simp only; omega) (by simp)⟩
    by_cases e : k = a
    · have e2 : ((k : Int) == (a : Int)) = true := by rw [beq_iff_eq]; omega
      obtain ⟨id, off, cs, d1, d2, d3, d4⟩ := cut (.inl (by omega))
      refine gd_split (fun _ => ?_) (fun h => absurd (e2.symm.trans h) (by simp))
      simp (disch := omega) [wrap_id, e2, c2.obj, cells_row, hkr, hkI, d1]
      refine slc_ms_of (l := 1) (h := (R k).length) rfl rfl trivial (by omega) (Nat.le_refl _) ?_
      simp (disch := omega) [wrap_id, e2, c2.obj, hkI, hpl]
      refine ⟨by omega, ?_⟩
      rw [set_row hkr]
      exact d4
    · have e2 : ((k : Int) == (a : Int)) = false := by rw [beq_eq_false_iff_ne]; omega
      refine gd_split (fun h => absurd (e2.symm.trans h) (by simp)) (fun _ => ?_)
      simp (disch := omega) [wrap_id, e2, c2.obj, hkI, haI, cells_tb]
      by_cases hc : crC b.c a k = true
      · obtain ⟨id, off, cs, d1, d2, d3, d4⟩ := cut (.inr (by rw [ha]; exact hc))
        simp (disch := omega) [wrap_id, hc, e2, c2.obj, cells_row, hkr, hkI, d1]
        refine slc_ms_of (l := 1) (h := (R k).length) rfl rfl trivial (by omega) (Nat.le_refl _) ?_
        simp (disch := omega) [wrap_id, e2, c2.obj, hkI, hpl]
        refine ⟨by omega, ?_⟩
        rw [set_row hkr]
        exact d4
      · simp (disch := omega) [wrap_id, hc, e2]
        refine next_eq (k + 1, rk, H) ⟨by simp only; omega, c2.congr fun j hj => ?_, c3, c4, c5⟩ (by simp only; omega) (by simp)
        simp only
        by_cases e3 : j = k
        · subst e3
          rw [if_neg (by omega), if_pos (by omega)]
          unfold takeR
          rw [if_neg]
          rintro (h | h)
          · omega
          · rw [ha] at h; exact hc h
        · by_cases e4 : j < k
          · rw [if_pos e4, if_pos (by omega)]
          · rw [if_neg e4, if_neg (by omega)]
  · have : k = 8 := by omega
    subst this
    simp
    exact hK H rk (c2.congr fun j hj => by simp [hj]) c3 c4 c5
/-- The pile of a list. -/
def pileF (b : Bch) (l : List Int) : Nat → List Int := l.foldl (layR b) fun _ => []
/-- Where a stroke is undone, a stroke lies on each row that it crosses. -/
def PileNe (b : Bch) (l : List Int) : Prop := ∀ i (h : i < l.length), undR (pileF b (l.take i)) l[i] = true → ∀ k : Nat, k < 8 → ((k : Int) = lineI l[i] ∨ crC b.c (lineI l[i]) k = true) → pileF b (l.take i) k ≠ []

theorem layR_len (b : Bch) (R : Nat → List Int) (s : Int) (k : Nat) : (layR b R s k).length ≤ (R k).length + 1 := by
  unfold layR
  (repeat' split) <;> simp <;> omega
theorem foldl_lay_len (b : Bch) (k : Nat) : ∀ (l : List Int) (R : Nat → List Int), (l.foldl (layR b) R k).length ≤ (R k).length + l.length
  | [], R => by simp
  | s :: l, R => by
    have h1 := foldl_lay_len b k l (layR b R s)
    have h2 := layR_len b R s k
    simp only [List.foldl_cons, List.length_cons]; omega
theorem pileF_len (b : Bch) (l : List Int) (k : Nat) : (pileF b l k).length ≤ l.length := by
  have := foldl_lay_len b k l (fun _ => [])
  simpa [pileF] using this

def rs0 : List AV := List.replicate 8 (.sl true 0 [])
theorem rs0_get {k : Nat} (h : k < rs0.length) : rs0[k] = .sl true 0 [] := List.getElem_replicate ..

theorem pile_w (f g : Bool) (b : Bch) (l : List Int) (hs : ∀ s ∈ l, St8 s) (hl : l.length ≤ 1000000) (hne : PileNe b l) {hp : List HObj} {K : AV → List HObj → Prop}
    (hK : ∀ H rs, PLr H hp.length (TB f b) rs (pileF b l) → (∀ i, i < hp.length → nthH H i = nthH hp i) → (∀ i, Own hp.length rs i → hp.length ≤ i) → K (.ref hp.length 0) H) : CallW Try.prog 70 [.ptr (TB f b) 0, Ls g l] hp K := by
  refine walk Try.func70 form70 res70 (by show 2 ≤ _; decide) ?_
  simp (disch := omega) [G70, wrap_id]
  refine loop_eq (fun q : Nat × List AV × List HObj => ⟨[(5, .ref hp.length 0), (11, Ls g l), (12, I l.length), (13, I q.1)], q.2.2⟩)
    (fun q => q.1 ≤ l.length ∧ PLr q.2.2 hp.length (TB f b) q.2.1 (pileF b (l.take q.1)) ∧ (∀ i, i < hp.length → nthH q.2.2 i = nthH hp i) ∧ ∀ i, Own hp.length q.2.1 i → hp.length ≤ i) (fun q => l.length - q.1)
    (0, rs0, hp ++ [.cells (.ptr (TB f b) 0 :: rs0)]) ⟨by simp, ?_, ?_, ?_⟩ (by simp [rs0, List.replicate, splice]) ?_
  · refine ⟨nthH_end, rfl, fun k hk => .inl ⟨rs0_get hk, rfl⟩, fun k j h h' i hi => ?_, fun k hk => ?_⟩
    · rw [rs0_get h] at hi; cases hi
    · rw [rs0_get hk]; intro h; cases h
  · intro i hi; exact nthH_front hi
  · rintro i (h | ⟨k, hk, hi⟩)
    · omega
    · rw [rs0_get hk] at hi; cases hi
  rintro ⟨i, rs, H⟩ ⟨c1, c2, c3, c4⟩
  simp only at c1 c2 c3 c4
  simp (disch := omega) [wrap_id]
  refine c_split (fun h => ?_) (fun h => ?_)
  · simp at h
    simp (disch := omega) [wrap_id, cells_ls, h]
    refine lay_w f b l[i] (hs _ (List.getElem_mem h)) c2 (fun k _ => Nat.le_trans (pileF_len b _ k) (by simp; omega)) (hne i h) fun H' rs' q1 q2 q3 => ?_
    simp (disch := omega) [wrap_id]
    refine next_eq (i + 1, rs', H') ⟨by simp only; omega, ?_, fun j hj => ?_, fun j hj => ?_⟩ (by simp only; omega) (by simp)
    · have e : pileF b (l.take (i + 1)) = layR b (pileF b (l.take i)) l[i] := by
        have e0 : l.take (i + 1) = l.take i ++ [l[i]] := by rw [List.take_add_one]; simp [h]
        rw [e0]; simp only [pileF, List.foldl_append, List.foldl_cons, List.foldl_nil]
      simp only [e]; exact q1
    · have hpl := nthH_lt c2.obj
      rw [q2.2 j (by omega) (fun ho => by have := c4 j ho; omega)]
      exact c3 j hj
    · have hpl := nthH_lt c2.obj
      rcases q3 j hj with h | h
      · exact c4 j h
      · omega
  · simp at h
    simp
    have e : l.take i = l := List.take_of_length_le h
    rw [e] at c2
    exact hK H rs c2 c3 c4

theorem key_eq (n : Int) : (if n < 0 then -2 * n - 1 else 2 * n - 2) = keyR n := by unfold keyR lineI; split <;> omega

/-- The stroke with the least key. -/
def bestC (best y : Int) : Int := if keyR y < keyR best then y else best
def leastC : List Int → Int
  | [] => 0
  | x :: l => l.foldl bestC x

theorem least_w {l : List Int} (hl : l.length ≤ 1000000) (hs : ∀ s ∈ l, St8 s) (hne : l ≠ []) {hp : List HObj} {id : Nat} (hid : nthH hp id = some (.cells (l.map fun n => I n))) {K : AV → List HObj → Prop} (hK : K (I (leastC l)) hp) :
    CallW Try.prog 83 [.ms id 0 l.length 1, .fn (.func 84) [] []] hp K := by
  refine walk Try.func83 form83 res83 (by show 2 ≤ _; decide) ?_
  obtain ⟨x, r, rfl⟩ : ∃ x r, l = x :: r := by cases l with | nil => exact absurd rfl hne | cons x r => exact ⟨x, r, rfl⟩
  have hlen : (x :: r).length = r.length + 1 := rfl
  have hbst : ∀ i, i ≤ r.length → St8 ((r.take i).foldl bestC x) := fun i hi => by
    have : ∀ (m : List Int) (y : Int), (∀ s ∈ m, St8 s) → St8 y → St8 (m.foldl bestC y) := fun m => by
      induction m with
      | nil => intro y _ h; exact h
      | cons a m ih =>
        intro y h1 h2
        refine ih _ (fun s hs => h1 s (by simp [hs])) ?_
        unfold bestC; split
        · exact h1 a (by simp)
        · exact h2
    exact this _ x (fun s hs' => hs s (by simp [List.mem_of_mem_take hs'])) (hs x (by simp))
  simp (disch := omega) [G83, wrap_id, hid]
  refine slc_ms_of (l := 1) (h := r.length + 1) rfl rfl trivial (by omega) (Nat.le_refl _) ?_
  simp (disch := omega) [wrap_id]
  refine loop_eq (fun i : Nat => ⟨[(1, .fn (.func 84) [] []), (5, I ((r.take i).foldl bestC x)), (12, .ms id 1 r.length 1), (13, I r.length), (14, I i)], hp⟩) (fun i => i ≤ r.length) (fun i => r.length - i) 0 (by omega) (by simp) ?_
  intro i hi
  simp (disch := omega) [wrap_id]
  refine c_split (fun h => ?_) (fun h => ?_)
  · simp at h
    simp (disch := omega) [wrap_id, hid, h]
    have e0 : nthA (List.map (fun n => I n) r) i = some (I r[i]) := by rw [nthA_eq]; simp [h]
    rw [e0, one_some]
    have hx := hs r[i] (by simp [List.getElem_mem])
    have hb := hbst i hi
    obtain ⟨x1, x2, x3⟩ := hx
    obtain ⟨b1, b2, b3⟩ := hb
    simp (disch := omega) [wrap_id]
    refine ⟨by kernel_rfl, callW_pure rfl (key_ok r[i] (by omega)) ?_⟩
    rw [key_eq]
    simp (disch := omega) [wrap_id]
    refine ⟨by kernel_rfl, callW_pure rfl (key_ok _ (by omega)) ?_⟩
    rw [key_eq]
    simp (disch := omega) [wrap_id]
    have e1 : r.take (i + 1) = r.take i ++ [r[i]] := by rw [List.take_add_one]; simp [h]
    refine c_split (fun e => ?_) (fun e => ?_)
    · simp at e
      simp (disch := omega) [wrap_id]
      exact next_eq (i + 1) (by omega) (by omega) (by rw [e1, List.foldl_append]; simp [bestC, e])
    · simp at e
      simp (disch := omega) [wrap_id]
      exact next_eq (i + 1) (by omega) (by omega) (by rw [e1, List.foldl_append]; simp only [List.foldl_cons, List.foldl_nil, bestC]; rw [if_neg (by omega)]; simp)
  · simp at h
    have e : r.take i = r := List.take_of_length_le h
    simp
    rw [e]; exact hK

end Go.AM

/- PILES, PART 5: the strokes that can be first, one after another; short forms. Own work. -/
set_option linter.unusedSimpArgs false
set_option linter.unusedVariables false
namespace Go.AM
open Go.RowKit Go.Proofs

theorem fronts_w {hp : List HObj} {p : Nat} {K : AV → List HObj → Prop} (hK : K (.fn (.func 98) [] [.ref hp.length 0]) (hp ++ [.cells [.ref p 0]])) : CallW Try.prog 71 [.ref p 0] hp K := by
  refine walk Try.func71 form71 res71 (by show 1 ≤ _; decide) ?_
  simp (disch := omega) [G71, wrap_id]
  exact hK

/-- The first stroke of a row, if it is one. -/
def headS : List Int → List Int
  | [] => []
  | s :: _ => if s = 0 then [] else [s]
/-- The strokes that can be first, of the first rows. -/
def fsTo (R : Nat → List Int) : Nat → List Int
  | 0 => []
  | k + 1 => fsTo R k ++ headS (R k)
def fsR (R : Nat → List Int) : List Int := fsTo R 8

theorem fsTo_prefix (R : Nat → List Int) {k m : Nat} (h : k ≤ m) : fsTo R k <+: fsTo R m := by
  induction m with
  | zero => have : k = 0 := by omega
            subst this; exact List.prefix_refl _
  | succ m ih =>
    by_cases e : k = m + 1
    · subst e; exact List.prefix_refl _
    · exact (ih (by omega)).trans (List.prefix_append _ _)

theorem fsR_at {R : Nat → List Int} {k : Nat} (hk : k < 8) {s : Int} (h : headS (R k) = [s]) : ∃ hl : (fsTo R k).length < (fsR R).length, (fsR R)[(fsTo R k).length] = s := by
  obtain ⟨t, ht⟩ := fsTo_prefix R (show k + 1 ≤ 8 by omega)
  have e : fsR R = fsTo R k ++ s :: t := by
    show fsTo R 8 = _
    rw [← ht]; simp [fsTo, h]
  have hl : (fsTo R k).length < (fsR R).length := by rw [e]; simp
  refine ⟨hl, ?_⟩
  simp only [e]
  rw [List.getElem_append_right (Nat.le_refl _)]
  simp

theorem fronts_R {f : Bool} {b : Bch} {hp : List HObj} {p q : Nat} {rs : List AV} {R : Nat → List Int} (hP : PLr hp p (TB f b) rs R) (hq : nthH hp q = some (.cells [.ref p 0])) {H : List AV → List HObj → (AV → List HObj → Prop) → Prop} {J : Nat → List HObj → Prop}
    (h0 : J 0 (hp ++ [.lp .ready (hp.length + 1), .gone])) (hJ : ∀ j hp', J j hp' → PLr hp' p (TB f b) rs R)
    (hH : ∀ j hp' (h : j < (fsR R).length), J j hp' → H [I (fsR R)[j]] hp' fun r hp'' => r = B true ∧ J (j + 1) hp'') :
    (E1 Try.prog).R (.fn (.func 98) [] [.ref q 0]) hp H (J (fsR R).length) := by
  refine ⟨98, [.ref q 0], Try.f98, G98, [], _, rfl, by kernel_rfl, Try.func98, form98, resTmps_C res98, by show 2 ≤ _; decide, ?_⟩
  have hql := nthH_lt hq
  have hq' : nthH (hp ++ [HObj.lp .ready (hp.length + 1), .gone]) q = some (.cells [.ref p 0]) := by rw [nthH_front hql]; exact hq
  have hp' := (hJ 0 _ h0).obj
  have hlen := hP.len
  simp (disch := omega) [G98, wrap_id, hq', hp']
  rw [List.take_of_length_le (by omega)]
  refine ⟨by omega, ?_⟩
  refine loop_eq (fun a : Nat × List HObj => ⟨[(0, .yl hp.length), (8, .agg rs), (9, I a.1)], a.2⟩) (fun a => a.1 ≤ 8 ∧ J (fsTo R a.1).length a.2) (fun a => 8 - a.1) (0, _) ⟨by simp, h0⟩ rfl ?_
  rintro ⟨k, G⟩ ⟨c1, c2⟩
  simp only at c1 c2
  simp (disch := omega) [wrap_id]
  by_cases hk : k < 8
  · have hkI : (k : Int) < 8 := by omega
    have hkr : k < rs.length := by omega
    have hG := hJ _ _ c2
    have hrow := hG.row k hkr
    have ec : ∀ K : AV → List (Nat × HObj) → Prop, OneW (nthA rs k) K = K rs[k] [] := fun K => by rw [nthA_eq, List.getElem?_eq_getElem hkr]; rfl
    simp (disch := omega) [wrap_id, hkI, ec, len_row hrow]
    have fin : ∀ G', J (fsTo R (k + 1)).length G' → Next (fun a : Nat × List HObj => (⟨[(0, .yl hp.length), (8, .agg rs), (9, I a.1)], a.2⟩ : St)) (fun a => a.1 ≤ 8 ∧ J (fsTo R a.1).length a.2) (fun a => 8 - a.1) (k, G)
        ⟨[(0, .yl hp.length), (8, .agg rs), (9, I ((k : Int) + 1))], G'⟩ := fun G' hg => next_eq (k + 1, G') ⟨by simp only; omega, hg⟩ (by simp only; omega) (by simp)
    refine gd_split (fun h => ?_) (fun h => ?_)
    · simp at h
      obtain ⟨id, off, cs, e1, e2, e3, e4⟩ := row_ne hrow (List.length_pos_iff.1 h)
      obtain ⟨x, t, ext⟩ : ∃ x t, R k = x :: t := by cases hr : R k with | nil => rw [hr] at h; simp at h | cons x t => exact ⟨x, t, rfl⟩
      have cv : ∀ K : AV → List (Nat × HObj) → Prop, CellsW cs off 1 false K = K (I x) [] := fun K => by
        have := cells_view (K := K) e4 h
        simpa [ext] using this
      have h' : (0 : Int) < (R k).length := by omega
      simp (disch := omega) [wrap_id, e1, e2, h, h', cv]
      have hJl : J (fsTo R k).length G := c2
      refine gd_split (fun hx => ?_) (fun hx => ?_)
      · have hx0 : x ≠ 0 := by simpa using hx
        have hd : headS (R k) = [x] := by rw [ext]; simp [headS, hx0]
        obtain ⟨g1, g2⟩ := fsR_at hk hd
        have hb := hH _ _ g1 hJl
        rw [g2] at hb
        simp (disch := omega) [wrap_id, e2, h, h', cv, hx]
        refine ⟨_, ⟨rfl, hb⟩, ?_⟩
        rintro r G' ⟨rfl, hg⟩
        simp (disch := omega) [wrap_id, hx]
        exact fin G' (by simpa [fsTo, hd] using hg)
      · have hx0 : x = 0 := by simpa using hx
        have hd : headS (R k) = [] := by rw [ext]; simp [headS, hx0]
        simp (disch := omega) [wrap_id, e2, h, h', cv, hx]
        exact fin G (by simpa [fsTo, hd] using c2)
    · simp at h
      simp (disch := omega) [wrap_id, h]
      exact fin G (by simpa [fsTo, h, headS] using c2)
  · have : k = 8 := by omega
    subst this
    simp
    exact ⟨[], trivial, c2⟩
end Go.AM

/- THE PLAIN LAW, PART 1: piles of lists: what lies on them. Own work. -/
set_option linter.unusedSimpArgs false
set_option linter.unusedVariables false
namespace Go.AM

variable {b : Bch}

def S8 (l : List Int) : Prop := ∀ s ∈ l, St8 s

theorem crC_comm (c : List (Int × Int)) (x y : Int) : crC c x y = crC c y x := by unfold crC; rw [Int.min_comm, Int.max_comm]
theorem canB_comm (b : Bch) (x y : Int) : canB b x y = canB b y x := by
  rw [canB_cr, canB_cr, crC_comm]
  congr 2
  exact Bool.beq_comm ..
theorem lineI_neg {s : Int} (h : s ≠ 0) : lineI (-s) = lineI s := by unfold lineI; split <;> split <;> omega
theorem canB_neg {s : Int} (h : s ≠ 0) (x : Int) : canB b x (-s) = canB b x s := by rw [canB_cr, canB_cr, lineI_neg h]
theorem canB_self (s : Int) : canB b s s = false := by rw [canB_cr]; simp
theorem canB_iff {x y : Int} : canB b x y = true ↔ lineI x ≠ lineI y ∧ crC b.c (lineI x) (lineI y) = false := by rw [canB_cr]; simp
theorem St8.neg {s : Int} (h : St8 s) : St8 (-s) := ⟨by have := h.1; omega, by have := h.2; omega, by have := h.2; omega⟩

/-- What strokes leave on a row, if none is undone. -/
def Pj1 (b : Bch) (k : Nat) (s : Int) : Option Int := if lineI s = k then some s else if crC b.c (lineI s) k = true then some 0 else none
def Pj (b : Bch) (w : List Int) (k : Nat) : List Int := w.filterMap (Pj1 b k)

theorem Pj_nil (k : Nat) : Pj b [] k = [] := rfl
theorem Pj_append (u v : List Int) (k : Nat) : Pj b (u ++ v) k = Pj b u k ++ Pj b v k := List.filterMap_append
theorem Pj_own {s : Int} {v : List Int} {k : Nat} (h : lineI s = k) : Pj b (s :: v) k = s :: Pj b v k := by simp [Pj, Pj1, h]
theorem Pj_cross {s : Int} {v : List Int} {k : Nat} (h : lineI s ≠ k) (hc : crC b.c (lineI s) k = true) : Pj b (s :: v) k = 0 :: Pj b v k := by simp [Pj, Pj1, h, hc]
theorem Pj_skip {s : Int} {v : List Int} {k : Nat} (h : lineI s ≠ k) (hc : crC b.c (lineI s) k = false) : Pj b (s :: v) k = Pj b v k := by simp [Pj, Pj1, h, hc]

theorem toNat_line {s : Int} (h : St8 s) : (((lineI s).toNat : Nat) : Int) = lineI s := by have := h.line; omega
theorem toNat_lt {s : Int} (h : St8 s) : (lineI s).toNat < 8 := by have := h.line; omega

/-- Strokes that can be exchanged with s leave its row alone. -/
theorem Pj_free_own {s : Int} (hs : St8 s) : ∀ {v : List Int}, (∀ t ∈ v, canB b t s = true) → Pj b v (lineI s).toNat = []
  | [], _ => rfl
  | t :: v, h => by
    obtain ⟨h1, h2⟩ := canB_iff.1 (h t (by simp))
    rw [Pj_skip (by rw [toNat_line hs]; exact h1) (by rw [toNat_line hs]; exact h2)]
    exact Pj_free_own hs fun x hx => h x (by simp [hx])

/-- And leave places only on the rows that it crosses. -/
theorem Pj_free_cross {s : Int} {k : Nat} (hk : crC b.c (lineI s) k = true) : ∀ {v : List Int}, (∀ t ∈ v, canB b t s = true) → ∃ m, Pj b v k = List.replicate m 0
  | [], _ => ⟨0, rfl⟩
  | t :: v, h => by
    obtain ⟨m, hm⟩ := Pj_free_cross hk (v := v) fun x hx => h x (by simp [hx])
    obtain ⟨h1, h2⟩ := canB_iff.1 (h t (by simp))
    have h3 : lineI t ≠ k := fun e => by rw [crC_comm, ← e, h2] at hk; cases hk
    by_cases hc : crC b.c (lineI t) k = true
    · exact ⟨m + 1, by rw [Pj_cross h3 hc, hm]; rfl⟩
    · exact ⟨m, by rw [Pj_skip h3 (by simpa using hc), hm]⟩

/-- Free strokes may be passed. -/
theorem Pj_pass {s : Int} (hs : St8 s) {v : List Int} (h : ∀ t ∈ v, canB b t s = true) (k : Nat) : Pj b (v ++ [s]) k = Pj b (s :: v) k := by
  rw [Pj_append]
  by_cases h1 : lineI s = k
  · have hv := Pj_free_own hs h
    have e : (lineI s).toNat = k := by omega
    rw [e] at hv
    rw [Pj_own h1, Pj_own h1, hv]; rfl
  · by_cases hc : crC b.c (lineI s) k = true
    · obtain ⟨m, hm⟩ := Pj_free_cross hc h
      rw [Pj_cross h1 hc, Pj_cross h1 hc, hm, Pj_nil]
      exact (List.replicate_succ' ..).symm
    · rw [Pj_skip h1 (by simpa using hc), Pj_skip h1 (by simpa using hc), Pj_nil, List.append_nil]

/-! ### What can be first -/
theorem head_free {k : Nat} {s : Int} {r : List Int} (h0 : s ≠ 0) : ∀ {w : List Int}, Pj b w k = s :: r → ∃ u v, w = u ++ s :: v ∧ (∀ t ∈ u, canB b t s = true) ∧ lineI s = k
  | [], h => by simp [Pj] at h
  | t :: w, h => by
    by_cases h1 : lineI t = k
    · rw [Pj_own h1] at h
      cases h
      exact ⟨[], w, rfl, fun t ht => by simp at ht, h1⟩
    · by_cases hc : crC b.c (lineI t) k = true
      · rw [Pj_cross h1 hc] at h; cases h; exact absurd rfl h0
      · rw [Pj_skip h1 (by simpa using hc)] at h
        obtain ⟨u, v, rfl, h2, h3⟩ := head_free h0 h
        refine ⟨t :: u, v, rfl, fun x hx => ?_, h3⟩
        rcases List.mem_cons.1 hx with rfl | hx
        · exact canB_iff.2 ⟨by rw [h3]; exact h1, by rw [h3]; simpa using hc⟩
        · exact h2 x hx

theorem fs_mem {R : Nat → List Int} {s : Int} : ∀ {m : Nat}, s ∈ fsTo R m ↔ ∃ k, k < m ∧ s ∈ headS (R k)
  | 0 => by simp [fsTo]
  | m + 1 => by
    simp only [fsTo, List.mem_append, fs_mem (m := m)]
    constructor
    · rintro (⟨k, h1, h2⟩ | h)
      · exact ⟨k, by omega, h2⟩
      · exact ⟨m, by omega, h⟩
    · rintro ⟨k, h1, h2⟩
      by_cases e : k = m
      · subst e; exact .inr h2
      · exact .inl ⟨k, by omega, h2⟩

theorem headS_mem {l : List Int} {s : Int} : s ∈ headS l ↔ s ≠ 0 ∧ ∃ r, l = s :: r := by
  cases l with
  | nil => simp [headS]
  | cons x r =>
    simp only [headS]
    split
    · rename_i h; subst h
      constructor
      · intro h; simp at h
      · rintro ⟨h, r', e⟩; cases e; exact absurd rfl h
    · rename_i h
      constructor
      · intro h'; simp at h'; subst h'; exact ⟨h, r, rfl⟩
      · rintro ⟨_, r', e⟩; cases e; simp

/-- A stroke of a list that can be brought to its front. -/
def Free (b : Bch) (w : List Int) (s : Int) : Prop := ∃ u v, w = u ++ s :: v ∧ ∀ t ∈ u, canB b t s = true

theorem fs_Pj {w : List Int} (hw : S8 w) {s : Int} : s ∈ fsR (Pj b w) ↔ Free b w s := by
  unfold fsR
  rw [fs_mem]
  constructor
  · rintro ⟨k, hk, h⟩
    obtain ⟨h0, r, hr⟩ := headS_mem.1 h
    obtain ⟨u, v, h1, h2, _⟩ := head_free h0 hr
    exact ⟨u, v, h1, h2⟩
  · rintro ⟨u, v, rfl, h⟩
    have hs : St8 s := hw s (by simp)
    refine ⟨(lineI s).toNat, toNat_lt hs, headS_mem.2 ⟨hs.1, Pj b v (lineI s).toNat, ?_⟩⟩
    rw [Pj_append, Pj_free_own hs h, Pj_own (toNat_line hs).symm]; rfl

theorem cross_ne {u v : List Int} {s : Int} {k : Nat} (h : (k : Int) = lineI s ∨ crC b.c (lineI s) k = true) : Pj b (u ++ s :: v) k ≠ [] := by
  rw [Pj_append]
  by_cases h1 : lineI s = k
  · rw [Pj_own h1]; simp
  · rcases h with h | h
    · exact absurd h.symm h1
    · rw [Pj_cross h1 h]; simp

theorem take_Pj {u v : List Int} {s : Int} (hs : St8 s) (h : ∀ t ∈ u, canB b t s = true) (k : Nat) : takeR b (Pj b (u ++ s :: v)) s k = Pj b (u ++ v) k := by
  unfold takeR
  rw [Pj_append, Pj_append]
  by_cases h1 : lineI s = k
  · rw [if_pos (.inl h1.symm), Pj_own h1]
    have hv := Pj_free_own hs h
    have e : (lineI s).toNat = k := by omega
    rw [e] at hv
    rw [hv]; rfl
  · by_cases hc : crC b.c (lineI s) k = true
    · rw [if_pos (.inr hc), Pj_cross h1 hc]
      obtain ⟨m, hm⟩ := Pj_free_cross hc h
      rw [hm]
      cases m with
      | zero => rfl
      | succ m => 
        show List.replicate m 0 ++ 0 :: Pj b v k = _
        rw [List.replicate_succ', List.append_assoc]; rfl
    · rw [if_neg (by rintro (h | h); exact h1 h.symm; exact hc h), Pj_skip h1 (by simpa using hc)]

/-! ### What is undone -/
theorem last_free {k : Nat} {s : Int} (h0 : s ≠ 0) : ∀ {w : List Int}, (Pj b w k).getLast? = some s → ∃ u v, w = u ++ s :: v ∧ (∀ t ∈ v, canB b t s = true) ∧ lineI s = k := by
  intro w
  induction hn : w.length generalizing w with
  | zero => intro h; rw [List.eq_nil_of_length_eq_zero hn] at h; simp [Pj] at h
  | succ n ih0 =>
    intro h
    obtain ⟨w, t, rfl⟩ : ∃ w' t, w = w' ++ [t] := ⟨w.dropLast, w.getLast (fun e => by rw [e] at hn; cases hn), (List.dropLast_concat_getLast _).symm⟩
    have ih := @ih0 w (by simp at hn; exact hn)
    rw [Pj_append] at h
    by_cases h1 : lineI t = k
    · rw [Pj_own h1, Pj_nil] at h
      simp at h; subst h
      exact ⟨w, [], by simp, fun t ht => by simp at ht, h1⟩
    · by_cases hc : crC b.c (lineI t) k = true
      · rw [Pj_cross h1 hc, Pj_nil] at h
        simp at h; exact absurd h.symm h0
      · rw [Pj_skip h1 (by simpa using hc), Pj_nil, List.append_nil] at h
        obtain ⟨u, v, rfl, h2, h3⟩ := ih h
        refine ⟨u, v ++ [t], by simp, fun x hx => ?_, h3⟩
        rcases List.mem_append.1 hx with hx | hx
        · exact h2 x hx
        · simp at hx; subst hx
          exact canB_iff.2 ⟨by rw [h3]; exact h1, by rw [h3]; simpa using hc⟩

/-- The stroke back of s, that can be brought to the end. -/
def Ends (b : Bch) (w : List Int) (s : Int) : Prop := ∃ u v, w = u ++ -s :: v ∧ ∀ t ∈ v, canB b t s = true

theorem und_Pj {w : List Int} {s : Int} (hs : St8 s) : undR (Pj b w) s = true ↔ Ends b w s := by
  unfold undR
  simp only [decide_eq_true_eq]
  constructor
  · intro h
    obtain ⟨u, v, h1, h2, _⟩ := last_free hs.neg.1 h
    exact ⟨u, v, h1, fun t ht => by rw [← canB_neg hs.1]; exact h2 t ht⟩
  · rintro ⟨u, v, rfl, h⟩
    have e : lineI (-s) = (lineI s).toNat := by rw [lineI_neg hs.1, toNat_line hs]
    rw [Pj_append, Pj_own e, Pj_free_own hs h]
    simp

theorem lay_undo {u v : List Int} {s : Int} (hs : St8 s) (h : ∀ t ∈ v, canB b t s = true) (k : Nat) : layR b (Pj b (u ++ -s :: v)) s k = Pj b (u ++ v) k := by
  have hu : undR (Pj b (u ++ -s :: v)) s = true := (und_Pj hs).2 ⟨u, v, rfl, h⟩
  have el := lineI_neg hs.1
  unfold layR
  rw [hu, Pj_append, Pj_append]
  by_cases h1 : lineI s = k
  · rw [if_neg (by rintro ⟨h, _⟩; exact h h1.symm), if_pos rfl, Pj_own (by rw [el]; exact h1)]
    have hv := Pj_free_own hs h
    have e : (lineI s).toNat = k := by omega
    rw [e] at hv
    rw [hv]; simp
  · by_cases hc : crC b.c (lineI s) k = true
    · rw [if_neg (by rintro ⟨_, h⟩; rw [hc] at h; cases h), if_pos rfl, Pj_cross (by rw [el]; exact h1) (by rw [el]; exact hc)]
      obtain ⟨m, hm⟩ := Pj_free_cross hc h
      rw [hm]
      have : (0 : Int) :: List.replicate m 0 = List.replicate m 0 ++ [0] := (List.replicate_succ' (n := m) (a := (0 : Int))) ▸ rfl
      rw [this, ← List.append_assoc, List.dropLast_concat]
    · rw [if_pos ⟨fun e => h1 e.symm, by simpa using hc⟩, Pj_skip (by rw [el]; exact h1) (by rw [el]; simpa using hc)]

theorem lay_push {w : List Int} {s : Int} (h : undR (Pj b w) s = false) (k : Nat) : layR b (Pj b w) s k = Pj b (w ++ [s]) k := by
  unfold layR
  rw [h, Pj_append]
  by_cases h1 : lineI s = k
  · rw [if_neg (by rintro ⟨h, _⟩; exact h h1.symm), if_neg (by simp), if_pos h1.symm, Pj_own h1]; rfl
  · by_cases hc : crC b.c (lineI s) k = true
    · rw [if_neg (by rintro ⟨_, h⟩; rw [hc] at h; cases h), if_neg (by simp), if_neg (fun e => h1 e.symm), Pj_cross h1 hc]; rfl
    · rw [if_pos ⟨fun e => h1 e.symm, by simpa using hc⟩, Pj_skip h1 (by simpa using hc), Pj_nil, List.append_nil]

end Go.AM

/- THE PLAIN LAW, PART 2: piles do not see moves; the short form of the code is that of the specification. Own work. -/
set_option linter.unusedSimpArgs false
set_option linter.unusedVariables false
namespace Go.AM

variable {b : Bch}

/-- The same rows. -/
def Eq8 (R R' : Nat → List Int) : Prop := ∀ k, k < 8 → R k = R' k
theorem Eq8.refl (R : Nat → List Int) : Eq8 R R := fun _ _ => rfl
theorem Eq8.symm {R R' : Nat → List Int} (h : Eq8 R R') : Eq8 R' R := fun k hk => (h k hk).symm
theorem Eq8.trans {R R' R'' : Nat → List Int} (h : Eq8 R R') (h' : Eq8 R' R'') : Eq8 R R'' := fun k hk => (h k hk).trans (h' k hk)

theorem und_congr {R R' : Nat → List Int} (h : Eq8 R R') {s : Int} (hs : St8 s) : undR R s = undR R' s := by unfold undR; rw [h _ (toNat_lt hs)]
theorem lay_congr {R R' : Nat → List Int} (h : Eq8 R R') {s : Int} (hs : St8 s) : Eq8 (layR b R s) (layR b R' s) := fun k hk => by
  unfold layR; rw [und_congr h hs, h k hk]
theorem fold_congr : ∀ {l : List Int} {R R' : Nat → List Int}, S8 l → Eq8 R R' → Eq8 (l.foldl (layR b) R) (l.foldl (layR b) R')
  | [], R, R', _, h => h
  | s :: l, R, R', hl, h => fold_congr (l := l) (fun x hx => hl x (by simp [hx])) (lay_congr h (hl s (by simp)))

theorem S8.append {u v : List Int} (h : S8 u) (h' : S8 v) : S8 (u ++ v) := fun s hs => by
  rcases List.mem_append.1 hs with hs | hs
  · exact h s hs
  · exact h' s hs
theorem S8.left {u v : List Int} (h : S8 (u ++ v)) : S8 u := fun s hs => h s (List.mem_append_left _ hs)
theorem S8.right {u v : List Int} (h : S8 (u ++ v)) : S8 v := fun s hs => h s (List.mem_append_right _ hs)
theorem S8.one {s : Int} (h : St8 s) : S8 [s] := fun x hx => by simp at hx; subst hx; exact h

/-! ### Lists of what lies on a pile -/
def cutB (b : Bch) (s : Int) : List Int → Option (List Int)
  | [] => none
  | t :: r => match cutB b s r with
    | some r' => some (t :: r')
    | none => if t = -s ∧ (r.all fun x => canB b x s) = true then some r else none

theorem cutB_some {s : Int} : ∀ {w w' : List Int}, cutB b s w = some w' → ∃ u v, w = u ++ -s :: v ∧ w' = u ++ v ∧ ∀ t ∈ v, canB b t s = true
  | [], w', h => by cases h
  | t :: r, w', h => by
    simp only [cutB] at h
    split at h
    · rename_i r' hr
      cases h
      obtain ⟨u, v, h1, h2, h3⟩ := cutB_some hr
      exact ⟨t :: u, v, by rw [h1]; rfl, by rw [h2]; rfl, h3⟩
    · split at h
      · rename_i hc
        cases h
        exact ⟨[], r, by rw [hc.1]; rfl, rfl, List.all_eq_true.1 hc.2⟩
      · cases h

theorem cutB_none {s : Int} {w : List Int} (h : cutB b s w = none) : ¬ Ends b w s := by
  rintro ⟨u, v, rfl, hv⟩
  induction u with
  | nil =>
    simp only [List.nil_append, cutB] at h
    split at h
    · cases h
    · have hv' : (v.all fun x => canB b x s) = true := List.all_eq_true.2 hv
      simp [hv'] at h
  | cons t u ih =>
    simp only [List.cons_append, cutB] at h
    split at h
    · cases h
    · rename_i hc; exact ih hc

def push (b : Bch) (w : List Int) (s : Int) : List Int := match cutB b s w with
  | some w' => w'
  | none => w ++ [s]
def nf (b : Bch) (l : List Int) : List Int := l.foldl (push b) []

theorem push_S8 {w : List Int} {s : Int} (hw : S8 w) (hs : St8 s) : S8 (push b w s) := by
  unfold push
  split
  · rename_i w' h
    obtain ⟨u, v, rfl, rfl, _⟩ := cutB_some h
    exact hw.left.append fun x hx => hw x (by simp [hx])
  · exact hw.append (.one hs)

theorem lay_Pj {w : List Int} {s : Int} (hs : St8 s) (k : Nat) : layR b (Pj b w) s k = Pj b (push b w s) k := by
  unfold push
  split
  · rename_i w' h
    obtain ⟨u, v, rfl, rfl, h3⟩ := cutB_some h
    exact lay_undo hs h3 k
  · rename_i h
    exact lay_push (by
      have := cutB_none h
      cases hu : undR (Pj b w) s with
      | false => rfl
      | true => exact absurd ((und_Pj hs).1 hu) this) k

theorem fold_nf : ∀ {l w : List Int}, S8 l → S8 w → Eq8 (l.foldl (layR b) (Pj b w)) (Pj b (l.foldl (push b) w)) ∧ S8 (l.foldl (push b) w)
  | [], w, _, hw => ⟨.refl _, hw⟩
  | s :: l, w, hl, hw => by
    have hs := hl s (by simp)
    have hl' : S8 l := fun x hx => hl x (by simp [hx])
    obtain ⟨h1, h2⟩ := fold_nf (l := l) (w := push b w s) hl' (push_S8 hw hs)
    exact ⟨(fold_congr hl' (fun k _ => lay_Pj hs k)).trans h1, h2⟩

theorem pile_nf {l : List Int} (hl : S8 l) : Eq8 (pileF b l) (Pj b (nf b l)) := by
  have := (fold_nf (b := b) (w := []) hl (fun x hx => by simp at hx)).1
  exact this
theorem nf_S8 {l : List Int} (hl : S8 l) : S8 (nf b l) := (fold_nf (b := b) (w := []) hl (fun x hx => by simp at hx)).2

theorem pileNe {l : List Int} (hl : S8 l) : PileNe b l := by
  intro i h hu k hk hc
  have ht : S8 (l.take i) := fun x hx => hl x (List.mem_of_mem_take hx)
  have hs := hl l[i] (List.getElem_mem h)
  have e := pile_nf (b := b) ht
  rw [und_congr e hs, und_Pj hs] at hu
  obtain ⟨u, v, h1, _⟩ := hu
  rw [e k hk, h1]
  refine cross_ne ?_
  rw [lineI_neg hs.1]; exact hc

/-! ### Shortest lists -/
/-- No stroke with its stroke back right behind it. -/
def NoAdj (l : List Int) : Prop := ∀ p x q, l = p ++ x :: -x :: q → x = 0
theorem NoAdj.init {l m : List Int} (h : NoAdj (l ++ m)) : NoAdj l := fun p x q e => h p x (q ++ m) (by rw [e]; simp)
theorem NoAdj.dropLast {l : List Int} (h : NoAdj l) : NoAdj l.dropLast := by
  cases l with
  | nil => exact h
  | cons x r =>
    have := List.dropLast_concat_getLast (l := x :: r) (by simp)
    rw [← this] at h
    exact h.init
theorem NoAdj.snoc {l : List Int} {v : Int} (h : NoAdj l) (hv : ∀ y, l.getLast? = some y → v = -y → y = 0) : NoAdj (l ++ [v]) := by
  intro p x q e
  rcases List.eq_nil_or_concat q with rfl | ⟨q', y, rfl⟩
  · have e' : l ++ [v] = (p ++ [x]) ++ [-x] := by rw [e]; simp
    obtain ⟨h1, h2⟩ := List.append_inj' e' rfl
    simp at h2
    exact hv x (by rw [h1]; simp) h2
  · have e' : l ++ [v] = (p ++ x :: -x :: q') ++ [y] := by rw [e]; simp
    obtain ⟨h1, _⟩ := List.append_inj' e' rfl
    exact h p x q' h1

/-- Rows of a list that is shortest. -/
def Red8 (R : Nat → List Int) : Prop := ∀ k, k < 8 → NoAdj (R k)
theorem Red8.congr {R R' : Nat → List Int} (h : Red8 R) (e : Eq8 R R') : Red8 R' := fun k hk => by rw [← e k hk]; exact h k hk

theorem lay_red {R : Nat → List Int} {s : Int} (hs : St8 s) (h : Red8 R) : Red8 (layR b R s) := by
  intro k hk
  unfold layR
  split
  · exact h k hk
  · split
    · exact (h k hk).dropLast
    · rename_i hu
      split
      · rename_i he
        refine (h k hk).snoc fun y hy e => ?_
        exfalso
        apply hu
        unfold undR
        have : (lineI s).toNat = k := by omega
        rw [this, hy]
        simp; omega
      · exact (h k hk).snoc fun y _ e => by omega

theorem pile_red {l : List Int} (hl : S8 l) : Red8 (pileF b l) := by
  have : ∀ (l : List Int) (R : Nat → List Int), S8 l → Red8 R → Red8 (l.foldl (layR b) R) := fun l => by
    induction l with
    | nil => intro R _ h; exact h
    | cons s l ih => intro R hl h; exact ih _ (fun x hx => hl x (by simp [hx])) (lay_red (hl s (by simp)) h)
  exact this l _ hl (fun k _ p x q e => by cases p <;> cases e)

/-- A stroke laid and its stroke back. -/
theorem lay_back {w : List Int} {s : Int} (hw : S8 w) (hs : St8 s) (hr : Red8 (Pj b w)) : Eq8 (layR b (layR b (Pj b w) s) (-s)) (Pj b w) := by
  intro k hk
  cases hu : undR (Pj b w) s with
  | true =>
    obtain ⟨u, v, rfl, hv⟩ := (und_Pj hs).1 hu
    have hns : undR (Pj b (u ++ v)) (-s) = false := by
      cases h : undR (Pj b (u ++ v)) (-s) with
      | false => rfl
      | true =>
        exfalso
        have hl : (lineI (-s)).toNat = (lineI s).toNat := by rw [lineI_neg hs.1]
        unfold undR at h
        rw [hl, Pj_append, Pj_free_own hs hv, List.append_nil] at h
        simp only [decide_eq_true_eq, Int.neg_neg] at h
        have hrow := hr (lineI s).toNat (toNat_lt hs)
        rw [Pj_append, Pj_own (by rw [lineI_neg hs.1, toNat_line hs]), Pj_free_own hs hv] at hrow
        obtain ⟨p, hp⟩ : ∃ p, Pj b u (lineI s).toNat = p ++ [s] := by
          rw [List.getLast?_eq_some_iff] at h; exact h
        have := hrow p s [] (by rw [hp]; simp)
        exact hs.1 this
    have e1 : Eq8 (layR b (Pj b (u ++ -s :: v)) s) (Pj b (u ++ v)) := fun k _ => lay_undo hs hv k
    rw [lay_congr e1 hs.neg k hk, lay_push hns, List.append_assoc]
    rw [Pj_append u (v ++ [-s]), Pj_pass hs.neg (fun t ht => by rw [canB_neg hs.1]; exact hv t ht), ← Pj_append]
  | false =>
    have e1 : Eq8 (layR b (Pj b w) s) (Pj b (w ++ [s])) := fun k _ => lay_push hu k
    rw [lay_congr e1 hs.neg k hk]
    have := lay_undo (b := b) (u := w) (v := []) hs.neg (fun t ht => by simp at ht) k
    rw [Int.neg_neg, List.append_nil] at this
    exact this

theorem free_rows {s t : Int} (ht : St8 t) (h : canB b s t = true) : ((lineI t).toNat : Int) ≠ lineI s ∧ crC b.c (lineI s) ((lineI t).toNat : Int) = false := by
  obtain ⟨h1, h2⟩ := canB_iff.1 h
  rw [toNat_line ht]
  exact ⟨fun e => h1 e.symm, h2⟩

theorem lay_skip {R : Nat → List Int} {s : Int} {k : Nat} (h : (k : Int) ≠ lineI s ∧ crC b.c (lineI s) k = false) : layR b R s k = R k := by unfold layR; rw [if_pos h]

theorem lay_dep {R R' : Nat → List Int} {s : Int} {k : Nat} (h : R k = R' k) (hu : undR R s = undR R' s) : layR b R s k = layR b R' s k := by unfold layR; rw [h, hu]

/-- Strokes that can be exchanged, laid in either order. -/
theorem lay_comm {w : List Int} {s t : Int} (hw : S8 w) (hs : St8 s) (ht : St8 t) (h : canB b s t = true) : Eq8 (layR b (layR b (Pj b w) s) t) (layR b (layR b (Pj b w) t) s) := by
  intro k hk
  have h' : canB b t s = true := by rw [canB_comm]; exact h
  have u1 : undR (layR b (Pj b w) s) t = undR (Pj b w) t := by unfold undR; rw [lay_skip (free_rows ht h)]
  have u2 : undR (layR b (Pj b w) t) s = undR (Pj b w) s := by unfold undR; rw [lay_skip (free_rows hs h')]
  by_cases a1 : (k : Int) ≠ lineI s ∧ crC b.c (lineI s) k = false
  · rw [lay_skip (R := layR b (Pj b w) t) a1]
    exact lay_dep (lay_skip a1) u1
  by_cases a2 : (k : Int) ≠ lineI t ∧ crC b.c (lineI t) k = false
  · rw [lay_skip (R := layR b (Pj b w) s) a2]
    exact (lay_dep (lay_skip a2) u2).symm
  -- a row that both cross
  obtain ⟨c1, c2⟩ := canB_iff.1 h
  have k1 : (k : Int) ≠ lineI s := fun e => a2 ⟨fun e' => c1 (e.symm.trans e'), by rw [e, crC_comm]; exact c2⟩
  have k2 : (k : Int) ≠ lineI t := fun e => a1 ⟨fun e' => c1 (e'.symm.trans e), by rw [e]; exact c2⟩
  have x1 : crC b.c (lineI s) k = true := by cases hc : crC b.c (lineI s) k with | true => rfl | false => exact absurd ⟨k1, hc⟩ a1
  have x2 : crC b.c (lineI t) k = true := by cases hc : crC b.c (lineI t) k with | true => rfl | false => exact absurd ⟨k2, hc⟩ a2
  have form : ∀ (R : Nat → List Int) (x : Int), (k : Int) ≠ lineI x → crC b.c (lineI x) k = true → layR b R x k = if undR R x = true then (R k).dropLast else R k ++ [0] := fun R x hx hc => by
    unfold layR
    rw [if_neg (by rintro ⟨_, h⟩; rw [hc] at h; cases h), if_neg hx]
  have zero : ∀ x, St8 x → (k : Int) ≠ lineI x → crC b.c (lineI x) k = true → undR (Pj b w) x = true → (Pj b w k).dropLast ++ [0] = Pj b w k := fun x hx hne hc hu => by
    obtain ⟨u, v, rfl, hv⟩ := (und_Pj hx).1 hu
    obtain ⟨m, hm⟩ := Pj_free_cross hc hv
    have el := lineI_neg hx.1
    rw [Pj_append, Pj_cross (by rw [el]; exact fun e => hne e.symm) (by rw [el]; exact hc), hm]
    have : (0 : Int) :: List.replicate m 0 = List.replicate m 0 ++ [0] := (List.replicate_succ' (n := m) (a := (0 : Int))) ▸ rfl
    rw [this, ← List.append_assoc, List.dropLast_concat]
  rw [form (layR b (Pj b w) s) t k2 x2, form (Pj b w) s k1 x1, u1, form (layR b (Pj b w) t) s k1 x1, form (Pj b w) t k2 x2, u2]
  cases hu1 : undR (Pj b w) s <;> cases hu2 : undR (Pj b w) t <;> simp
  · rw [zero t ht k2 x2 hu2]
  · rw [zero s hs k1 x1 hu1]

theorem pile_append (l m : List Int) : pileF b (l ++ m) = m.foldl (layR b) (pileF b l) := by simp [pileF, List.foldl_append]

/-- Piles do not see exchanges. -/
theorem pile_swap {u v : List Int} {s t : Int} (hu : S8 u) (hs : St8 s) (ht : St8 t) (hv : S8 v) (h : canB b s t = true) : Eq8 (pileF b (u ++ s :: t :: v)) (pileF b (u ++ t :: s :: v)) := by
  rw [pile_append, pile_append]
  refine fold_congr (l := v) hv ?_
  have e := pile_nf (b := b) hu
  refine ((lay_congr (lay_congr e hs) ht).trans (lay_comm (nf_S8 hu) hs ht h)).trans (lay_congr (lay_congr e.symm ht) hs)

/-- .. nor a stroke and its stroke back. -/
theorem pile_back {u v : List Int} {s : Int} (hu : S8 u) (hs : St8 s) (hv : S8 v) : Eq8 (pileF b (u ++ s :: -s :: v)) (pileF b (u ++ v)) := by
  rw [pile_append, pile_append]
  refine fold_congr (l := v) hv ?_
  have e := pile_nf (b := b) hu
  have hr : Red8 (Pj b (nf b u)) := (pile_red hu).congr e
  exact ((lay_congr (lay_congr e hs) hs.neg).trans (lay_back (nf_S8 hu) hs hr)).trans e.symm

theorem pile_pass {s : Int} (hs : St8 s) : ∀ {u v z : List Int}, S8 u → S8 v → S8 z → (∀ t ∈ v, canB b t s = true) → Eq8 (pileF b (u ++ (v ++ s :: z))) (pileF b (u ++ s :: (v ++ z)))
  | u, [], z, _, _, _, _ => .refl _
  | u, t :: v, z, hu, hv, hz, h => by
    have ht := hv t (by simp)
    have hv' : S8 v := fun x hx => hv x (by simp [hx])
    have h1 := pile_pass hs (u := u ++ [t]) (v := v) (z := z) (hu.append (.one ht)) hv' hz (fun x hx => h x (by simp [hx]))
    simp only [List.append_assoc, List.cons_append, List.nil_append] at h1 ⊢
    refine h1.trans (pile_swap hu ht hs (hv'.append hz) (h t (by simp)))

theorem pile_pair {u v z : List Int} {s : Int} (hu : S8 u) (hs : St8 s) (hv : S8 v) (hz : S8 z) (h : ∀ t ∈ v, canB b t s = true) : Eq8 (pileF b (u ++ s :: (v ++ -s :: z))) (pileF b (u ++ (v ++ z))) := by
  have h1 := pile_pass hs.neg (u := u ++ [s]) (v := v) (z := z) (hu.append (.one hs)) hv hz (fun t ht => by rw [canB_neg hs.1]; exact h t ht)
  simp only [List.append_assoc, List.cons_append, List.nil_append] at h1
  exact h1.trans (pile_back hu hs (hv.append hz))

/-- A shortest list's pile is what its strokes leave. -/
theorem pile_of_red : ∀ {w : List Int}, S8 w → Red8 (Pj b w) → Eq8 (pileF b w) (Pj b w) := by
  intro w
  induction hn : w.length generalizing w with
  | zero => intro _ _; rw [List.eq_nil_of_length_eq_zero hn]; exact .refl _
  | succ n ih0 =>
    intro hw hr
    obtain ⟨w, t, rfl⟩ : ∃ w' t, w = w' ++ [t] := ⟨w.dropLast, w.getLast (fun e => by rw [e] at hn; cases hn), (List.dropLast_concat_getLast _).symm⟩
    have ht : St8 t := hw t (by simp)
    have hr' : Red8 (Pj b w) := fun k hk => by have := hr k hk; rw [Pj_append] at this; exact this.init
    have ih := @ih0 w (by simp at hn; exact hn) hw.left hr'
    rw [pile_append]
    have hu : undR (Pj b w) t = false := by
      cases h : undR (Pj b w) t with
      | false => rfl
      | true =>
        exfalso
        unfold undR at h
        simp only [decide_eq_true_eq] at h
        rw [List.getLast?_eq_some_iff] at h
        obtain ⟨p, hp⟩ := h
        have hrow := hr (lineI t).toNat (toNat_lt ht)
        rw [Pj_append, hp, Pj_own (toNat_line ht).symm, Pj_nil] at hrow
        have := hrow p (-t) [] (by simp)
        have := ht.1
        omega
    exact (lay_congr ih ht).trans fun k _ => lay_push hu k

end Go.AM

/- THE PLAIN LAW, PART 3: the specification's shortest lists; which stroke comes first. Own work. -/
set_option linter.unusedSimpArgs false
set_option linter.unusedVariables false
namespace Go.AM

variable {b : Bch}

theorem reach_split {s : Int} : ∀ {r : List Int} {k : Nat}, reach b s r = some k → ∃ v z, r = v ++ -s :: z ∧ v.length = k ∧ ∀ t ∈ v, canB b t s = true
  | [], k, h => by cases h
  | x :: r, k, h => by
    simp only [reach] at h
    split at h
    · rename_i e; cases h; exact ⟨[], r, by rw [e]; rfl, rfl, fun t ht => by simp at ht⟩
    · split at h
      · rename_i hc
        simp only [Option.map_eq_some_iff] at h
        obtain ⟨j, hj, rfl⟩ := h
        obtain ⟨v, z, rfl, h2, h3⟩ := reach_split hj
        refine ⟨x :: v, z, rfl, by simp [h2], fun t ht => ?_⟩
        rcases List.mem_cons.1 ht with rfl | ht
        · rw [canB_comm]; exact hc
        · exact h3 t ht
      · cases h

theorem undo_split : ∀ {l : List Int} {i k : Nat}, undo b l = some (i, k) → ∃ u s v z, l = u ++ s :: (v ++ -s :: z) ∧ u.length = i ∧ k = i + 1 + v.length ∧ ∀ t ∈ v, canB b t s = true
  | [], i, k, h => by cases h
  | s :: r, i, k, h => by
    simp only [undo] at h
    split at h
    · rename_i j hj
      cases h
      obtain ⟨v, z, rfl, h2, h3⟩ := reach_split hj
      exact ⟨[], s, v, z, rfl, rfl, by omega, h3⟩
    · simp only [Option.map_eq_some_iff] at h
      obtain ⟨⟨i', k'⟩, h', e⟩ := h
      cases e
      obtain ⟨u, x, v, z, rfl, h2, h3, h4⟩ := undo_split h'
      exact ⟨s :: u, x, v, z, rfl, by simp [h2], by omega, h4⟩

theorem erase_split {u v z : List Int} {s t : Int} : ((u ++ s :: (v ++ t :: z)).eraseIdx (u.length + 1 + v.length)).eraseIdx u.length = u ++ (v ++ z) := by
  have e1 : (u ++ s :: (v ++ t :: z)).eraseIdx (u.length + 1 + v.length) = u ++ s :: (v ++ z) := by
    rw [List.eraseIdx_append_of_length_le (by omega)]
    have : u.length + 1 + v.length - u.length = v.length + 1 := by omega
    rw [this, List.eraseIdx_cons_succ, List.eraseIdx_append_of_length_le (by omega)]
    simp
  rw [e1, List.eraseIdx_append_of_length_le (by omega)]
  simp

theorem reach_none {s : Int} {z : List Int} : ∀ {v : List Int}, reach b s (v ++ -s :: z) = none → (∀ t ∈ v, canB b t s = true) → False
  | [], h, _ => by simp [reach] at h
  | y :: v, h, hv => by
    simp only [List.cons_append, reach] at h
    split at h
    · cases h
    · rw [if_pos (by rw [canB_comm]; exact hv y (by simp))] at h
      rw [Option.map_eq_none_iff] at h
      exact reach_none h fun t ht => hv t (by simp [ht])

theorem undo_none {s : Int} {v z : List Int} (hv : ∀ t ∈ v, canB b t s = true) : ∀ {u : List Int}, undo b (u ++ s :: (v ++ -s :: z)) = none → False
  | [], h => by
    simp only [List.nil_append, undo] at h
    split at h
    · cases h
    · rename_i hr; exact reach_none hr hv
  | x :: u, h => by
    simp only [List.cons_append, undo] at h
    split at h
    · cases h
    · rw [Option.map_eq_none_iff] at h
      exact undo_none hv h

/-- A list in which nothing is undone leaves rows in which nothing is. -/
theorem red8_of_undo {l : List Int} (hl : S8 l) (h : undo b l = none) : Red8 (Pj b l) := by
  intro k hk p x q e
  by_cases h0 : x = 0
  · exact h0
  exfalso
  have e' : l.filterMap (Pj1 b k) = p ++ (x :: -x :: q) := e
  rw [List.filterMap_eq_append_iff] at e'
  obtain ⟨l1, l2, rfl, h1, h2⟩ := e'
  obtain ⟨u, v, rfl, h3, h4⟩ := head_free h0 h2
  have h5 : Pj b (u ++ x :: v) k = x :: -x :: q := h2
  have hx : St8 x := hl x (by simp)
  have hu : Pj b u k = [] := by
    have : (lineI x).toNat = k := by omega
    rw [← this]; exact Pj_free_own hx h3
  rw [Pj_append, hu, Pj_own h4] at h5
  simp at h5
  obtain ⟨v1, z, rfl, h6, _⟩ := head_free (show -x ≠ 0 by omega) h5
  refine undo_none (b := b) (s := x) (v := v1) (z := z) (fun t ht => by rw [← canB_neg h0]; exact h6 t ht) (u := l1 ++ u) ?_
  rw [← h]; simp

theorem redF_pile : ∀ (n : Nat) {l : List Int}, S8 l → l.length ≤ n → Eq8 (pileF b l) (pileF b (redF b n l)) ∧ undo b (redF b n l) = none ∧ S8 (redF b n l)
  | 0, l, hl, hn => by
    have : l = [] := List.eq_nil_of_length_eq_zero (by omega)
    subst this; exact ⟨.refl _, rfl, hl⟩
  | n + 1, l, hl, hn => by
    simp only [redF]
    split
    · rename_i i k hu
      obtain ⟨u, s, v, z, rfl, rfl, rfl, h4⟩ := undo_split hu
      rw [erase_split]
      have hs : St8 s := hl s (by simp)
      have hu8 : S8 u := hl.left
      have hv8 : S8 v := fun x hx => hl x (by simp [hx])
      have hz8 : S8 z := fun x hx => hl x (by simp [hx])
      obtain ⟨h5, h6, h7⟩ := redF_pile n (l := u ++ (v ++ z)) (hu8.append (hv8.append hz8)) (by simp at hn ⊢; omega)
      exact ⟨(pile_pair hu8 hs hv8 hz8 h4).trans h5, h6, h7⟩
    · rename_i hu; exact ⟨.refl _, hu, hl⟩

/-- The pile of a list is what its shortest list leaves. -/
theorem pile_red_eq {l : List Int} (hl : S8 l) : Eq8 (pileF b l) (Pj b (red b l)) ∧ S8 (red b l) ∧ Red8 (Pj b (red b l)) := by
  obtain ⟨h1, h2, h3⟩ := redF_pile (b := b) l.length hl (Nat.le_refl _)
  have h4 := red8_of_undo h3 h2
  exact ⟨h1.trans (pile_of_red h3 h4), h3, h4⟩

/-! ### The least of those that can be first -/
theorem key_inj {s t : Int} (hs : s ≠ 0) (ht : t ≠ 0) (h : keyR s = keyR t) : s = t := by
  unfold keyR lineI at h
  (repeat' split at h) <;> omega

theorem leastC_spec {l : List Int} (hl : l ≠ []) : leastC l ∈ l ∧ ∀ y ∈ l, keyR (leastC l) ≤ keyR y := by
  obtain ⟨x, r, rfl⟩ : ∃ x r, l = x :: r := by cases l with | nil => exact absurd rfl hl | cons x r => exact ⟨x, r, rfl⟩
  have : ∀ (r : List Int) (x : Int), r.foldl bestC x ∈ x :: r ∧ ∀ y ∈ x :: r, keyR (r.foldl bestC x) ≤ keyR y := fun r => by
    induction r with
    | nil => intro x; simp
    | cons a r ih =>
      intro x
      obtain ⟨h1, h2⟩ := ih (bestC x a)
      simp only [List.foldl_cons]
      have hb : bestC x a = x ∧ keyR x ≤ keyR a ∨ bestC x a = a ∧ keyR a < keyR x := by unfold bestC; split <;> simp <;> omega
      rcases hb with ⟨hb, hk⟩ | ⟨hb, hk⟩
      · rw [hb] at h1 h2 ⊢
        refine ⟨?_, fun y hy => ?_⟩
        · rcases List.mem_cons.1 h1 with h | h
          · rw [h]; simp
          · simp [h]
        · rcases List.mem_cons.1 hy with rfl | hy
          · exact h2 _ (by simp)
          · rcases List.mem_cons.1 hy with rfl | hy
            · exact Int.le_trans (h2 x (by simp)) hk
            · exact h2 y (by simp [hy])
      · rw [hb] at h1 h2 ⊢
        refine ⟨?_, fun y hy => ?_⟩
        · rcases List.mem_cons.1 h1 with h | h
          · rw [h]; simp
          · simp [h]
        · rcases List.mem_cons.1 hy with rfl | hy
          · have := h2 a (by simp); omega
          · rcases List.mem_cons.1 hy with rfl | hy
            · exact h2 _ (by simp)
            · exact h2 y (by simp [hy])
  exact this r x

theorem freeB_iff {w : List Int} {i : Nat} (h : i < w.length) : freeB b w i = true ↔ ∀ t ∈ w.take i, canB b t w[i] = true := by
  unfold freeB freeTo
  rw [List.all_eq_true]
  constructor
  · intro ha t ht
    obtain ⟨k, hk, rfl⟩ := List.getElem_of_mem ht
    have hk' := hk
    rw [List.length_take] at hk'
    have := ha k (List.mem_range.2 (by omega))
    rw [List.getElem_take]
    simpa [h, show k < w.length by omega] using this
  · intro ha k hk
    have hk := List.mem_range.1 hk
    have hkl : k < w.length := by omega
    have e : (w.take i)[k]'(by rw [List.length_take]; omega) = w[k] := List.getElem_take ..
    have := ha w[k] (by rw [← e]; exact List.getElem_mem _)
    simpa [h, hkl] using this

theorem firstI_spec {w : List Int} : ∀ n, 0 < n → n ≤ w.length → ∃ j : Nat, firstI b w n = j ∧ j < n ∧ freeB b w j = true ∧ ∀ i, i < n → freeB b w i = true → keyR (w.getD j 0) ≤ keyR (w.getD i 0)
  | 0, h, _ => by omega
  | n + 1, _, hn => by
    rw [firstI_succ]
    by_cases h0 : n = 0
    · subst h0
      refine ⟨0, by simp [bestStep, firstI, freeB, freeTo], by omega, by simp [freeB, freeTo], fun i hi _ => ?_⟩
      have : i = 0 := by omega
      subst this; exact Int.le_refl _
    · obtain ⟨j, h1, h2, h3, h4⟩ := firstI_spec (w := w) n (by omega) (by omega)
      unfold bestStep
      rw [h1]
      split
      · rename_i hc
        obtain ⟨c1, c2⟩ := hc
        have c3 : keyR (w.getD n 0) < keyR (w.getD j 0) := by
          rcases c2 with c2 | c2
          · omega
          · simpa using c2
        refine ⟨n, rfl, by omega, c1, fun i hi hf => ?_⟩
        by_cases e : i = n
        · subst e; exact Int.le_refl _
        · have := h4 i (by omega) hf; omega
      · rename_i hc
        refine ⟨j, rfl, by omega, h3, fun i hi hf => ?_⟩
        by_cases e : i = n
        · subst e
          have : ¬ keyR (w.getD i 0) < keyR (w.getD j 0) := fun h => hc ⟨hf, .inr (by simpa using h)⟩
          omega
        · exact h4 i (by omega) hf

/-- One step towards the short form. -/
theorem form_step {w : List Int} (hw : S8 w) (hne : w ≠ []) : ∃ j : Nat, ∃ hj : j < w.length, firstI b w w.length = j ∧ fsR (Pj b w) ≠ [] ∧ leastC (fsR (Pj b w)) = w[j] ∧ (∀ k, takeR b (Pj b w) w[j] k = Pj b (w.eraseIdx j) k) ∧
    ∀ k : Nat, ((k : Int) = lineI w[j] ∨ crC b.c (lineI w[j]) k = true) → Pj b w k ≠ [] := by
  obtain ⟨j, h1, h2, h3, h4⟩ := firstI_spec (b := b) (w := w) w.length (List.length_pos_iff.2 hne) (Nat.le_refl _)
  have hf := (freeB_iff h2).1 h3
  have split : w = w.take j ++ w[j] :: w.drop (j + 1) := by rw [← List.drop_eq_getElem_cons h2, List.take_append_drop]
  have hmem : w[j] ∈ fsR (Pj b w) := (fs_Pj hw).2 ⟨w.take j, w.drop (j + 1), split, hf⟩
  have hne' : fsR (Pj b w) ≠ [] := fun e => by rw [e] at hmem; simp at hmem
  obtain ⟨g1, g2⟩ := leastC_spec hne'
  have hs : St8 w[j] := hw _ (List.getElem_mem h2)
  refine ⟨j, h2, h1, hne', ?_, fun k => ?_, fun k hk => ?_⟩
  · obtain ⟨u, v, e, hu⟩ := (fs_Pj hw).1 g1
    have hlt : u.length < w.length := by rw [e]; simp
    have eu : w[u.length] = leastC (fsR (Pj b w)) := by
      have : w[u.length]? = some (leastC (fsR (Pj b w))) := by
        conv => lhs; rw [e]
        simp
      rw [List.getElem?_eq_getElem hlt] at this
      exact Option.some.inj this
    have hfu : freeB b w u.length = true := by
      rw [freeB_iff hlt, eu]
      intro t ht
      have : w.take u.length = u := by rw [e]; simp
      rw [this] at ht
      exact hu t ht
    have k1 := h4 u.length hlt hfu
    have k2 := g2 _ hmem
    have e1 : w.getD j 0 = w[j] := by simp [h2]
    have e2 : w.getD u.length 0 = leastC (fsR (Pj b w)) := by simp [hlt, eu]
    rw [e1, e2] at k1
    have hl : St8 (leastC (fsR (Pj b w))) := by rw [← eu]; exact hw _ (List.getElem_mem hlt)
    exact key_inj hl.1 hs.1 (by omega)
  · have := take_Pj (b := b) (u := w.take j) (v := w.drop (j + 1)) hs hf k
    rw [← split] at this
    rw [this, List.eraseIdx_eq_take_drop_succ]
  · rw [split]; exact cross_ne hk

theorem fs_nil {w : List Int} (hw : S8 w) (h : fsR (Pj b w) = []) : w = [] := by
  by_cases hne : w = []
  · exact hne
  · obtain ⟨_, _, _, h1, _⟩ := form_step (b := b) hw hne
    exact absurd h h1

end Go.AM

/- SHORT FORMS, as the code makes them. Own work. -/
set_option linter.unusedSimpArgs false
set_option linter.unusedVariables false
namespace Go.AM
open Go.RowKit Go.Proofs

/-- A variable holds a list that grew by append. -/
def AccR (hp : List HObj) (x : AV) (l : List Int) : Prop := (x = .sl true 0 [] ∧ l = []) ∨ ∃ id, x = .ms id 0 l.length 1 ∧ l ≠ [] ∧ nthH hp id = some (.cells (l.map fun n => I n))
theorem AccR.row {hp x l} (h : AccR hp x l) : RowIs hp x l := by
  rcases h with h | ⟨id, rfl, _, h⟩
  · exact .inl h
  · exact .inr ⟨id, 0, _, rfl, h, by simp, by simp [view]; rw [List.take_of_length_le (by simp)]⟩
theorem AccR.mono {hp H x l} (h : AccR hp x l) (hk : ∀ i, rid x = some i → nthH H i = nthH hp i) : AccR H x l := by
  rcases h with h | ⟨id, rfl, h1, h2⟩
  · exact .inl h
  · exact .inr ⟨id, rfl, h1, (hk id rfl).trans h2⟩
theorem AccR.out {hp x l} (h : AccR hp x l) : Out (Ls l.isEmpty l) x hp := by
  rcases h with ⟨rfl, rfl⟩ | ⟨id, rfl, h1, h2⟩
  · exact ⟨[], rfl⟩
  · have e : l.isEmpty = false := by simpa using h1
    rw [e]; exact out_ls h2 rfl

/-- The strokes that can be first, taken down one after another. -/
def FsJ (b : Bch) (f : Bool) (p : Nat) (rs : List AV) (w : List Int) (x : AV) (acc : List Int) (a7 id : Nat) (j : Nat) (G : List HObj) : Prop :=
  PLr G p (TB f b) rs (Pj b w) ∧ AccR G x acc ∧ (∃ y, nthH G a7 = some (.cells [y]) ∧ AccR G y ((fsR (Pj b w)).take j) ∧ ∀ i, rid y = some i → id + 2 ≤ i) ∧ nthH G id = some (.lp .ready (id + 1)) ∧ id + 2 ≤ G.length

theorem own_lt {H p T rs R i} (h : PLr H p T rs R) (ho : Own p rs i) : i < H.length := by
  rcases ho with rfl | ⟨k, hk, hr⟩
  · exact nthH_lt h.obj
  · exact (h.row k hk).lt hr

theorem fsTo_len (R : Nat → List Int) : ∀ k, (fsTo R k).length ≤ k
  | 0 => by simp [fsTo]
  | k + 1 => by
    have := fsTo_len R k
    have h1 : (headS (R k)).length ≤ 1 := by unfold headS; (repeat' split) <;> simp
    simp only [fsTo, List.length_append]; omega
theorem fsR_len (R : Nat → List Int) : (fsR R).length ≤ 8 := fsTo_len R 8

theorem rf_of {P : Program} {E : HE} {g : Opd} {ps ks : List Nat} {x y : AC} {fr : List (Nat × AV)} {hp : List HObj} {Q : Exit → St → Prop} {K0 : List HObj → Prop}
    (h1 : E.R (evF (get fr) g) hp (fun xs hp' K => hpf hp' hp.length = some (.lp .ready (hp.length + 1)) ∧ xs.length = ps.length ∧
          AWP P E x { fr := putPs ps xs fr, hp := hp' } (Exit.th (fun st1 => hpf st1.hp hp.length = some (.lp .ready (hp.length + 1)) ∧
            AWP P E y { fr := st1.fr, hp := setL st1.hp hp.length (.lp .busy (hp.length + 1)) } (RoundQ hp.length K)) (fun _ _ => False))) K0)
    (h2 : ∀ hp', K0 hp' → RfEnd hp.length fr ks Q hp') : AWP P E (.rf g ps x y ks) ⟨fr, hp⟩ Q := ⟨K0, h1, h2⟩

theorem hpf_nthH (hp : List HObj) (i : Nat) : hpf hp i = nthH hp i := (nthH_eq hp i).symm
theorem rfEnd_ready {id : Nat} {fr : List (Nat × AV)} {ks : List Nat} {Q : Exit → St → Prop} {hp : List HObj} {m : Nat} (h : nthH hp id = some (.lp .ready m)) (hq : Q .normal (St.keep { fr := fr, hp := hp.set id .gone } ks)) : RfEnd id fr ks Q hp := by
  simp only [RfEnd, hpf_nthH, h]
  have := nthH_lt h
  simp only [setL, this, if_true]
  exact hq

/-- A stroke put down: the round's body. -/
theorem fs_body {b : Bch} {f : Bool} {p : Nat} {rs : List AV} {w : List Int} {x : AV} {acc : List Int} {a7 id j : Nat} {G : List HObj} (hw : w.length ≤ 1000000) (h : FsJ b f p rs w x acc a7 id j G) (hj : j < (fsR (Pj b w)).length) (hp : p < a7) (ha : a7 < id)
    (ho : ∀ i, Own p rs i → i < a7) (hx : ∀ i, rid x = some i → i < a7) {y : AV} (hy : nthH G a7 = some (.cells [y])) (hry : AccR G y ((fsR (Pj b w)).take j)) (hyi : ∀ i, rid y = some i → id + 2 ≤ i) {H1 : List HObj}
    (w1 : ∀ i, i < G.length → i ≠ id → rid y ≠ some i → nthH H1 i = nthH G i) (w2 : G.length < H1.length) (w3 : nthH H1 G.length = some (.cells (((fsR (Pj b w)).take j ++ [(fsR (Pj b w))[j]]).map fun n => I n))) :
    FsJ b f p rs w x acc a7 id (j + 1) ((H1.set a7 (.cells [.ms G.length 0 (j + 1) 1])).set id (.lp .ready (id + 1))) := by
  obtain ⟨f1, f2, _, f4, f5⟩ := h
  have keep : ∀ i, i < a7 → nthH ((H1.set a7 (.cells [.ms G.length 0 (j + 1) 1])).set id (.lp .ready (id + 1))) i = nthH G i := fun i hi => by
    rw [nthH_set_ne (by omega), nthH_set_ne (by omega)]
    exact w1 i (by omega) (by omega) (fun e => by have := hyi i e; omega)
  have ht : ((fsR (Pj b w)).take j ++ [(fsR (Pj b w))[j]]) = (fsR (Pj b w)).take (j + 1) := by rw [List.take_add_one]; simp [hj]
  have hl : ((fsR (Pj b w)).take (j + 1)).length = j + 1 := by rw [List.length_take]; omega
  refine ⟨f1.mono fun i hi => keep i (ho i hi), f2.mono fun i hi => keep i (hx i hi), ⟨.ms G.length 0 (j + 1) 1, ?_, ?_, fun i hi => ?_⟩, nthH_set_same (by simp; omega), by simp; omega⟩
  · rw [nthH_set_ne (by omega)]; exact nthH_set_same (by omega)
  · refine .inr ⟨G.length, by rw [hl], fun e => ?_, ?_⟩
    · rw [e] at hl; simp at hl
    · rw [nthH_set_ne (by omega), nthH_set_ne (by omega), ← ht]; exact w3
  · cases hi; exact f5

theorem form_c (f g : Bool) (b : Bch) (l : List Int) (hs : S8 l) (hl : l.length ≤ 1000000) : PureOK Try.prog 60 [.ptr (TB f b) 0, Ls g l] (Ls (form b l).isEmpty (form b l)) := by
  refine pure_of (walk Try.func60 form60 res60 (by show 2 ≤ _; decide) ?_)
  simp (disch := omega) [G60, wrap_id]
  refine pile_w f g b l hs hl (pileNe hs) fun H rs hP _ _ => ?_
  obtain ⟨r1, r2, r3⟩ := pile_red_eq (b := b) hs
  have hP := hP.congr r1
  simp (disch := omega) [wrap_id]
  refine loop_eq (fun q : List Int × List AV × AV × List HObj × List Int => ⟨[(4, .sl true 0 []), (5, .ref 0 0), (6, q.2.2.1)], q.2.2.2.1⟩)
    (fun q => PLr q.2.2.2.1 0 (TB f b) q.2.1 (Pj b q.1) ∧ S8 q.1 ∧ AccR q.2.2.2.1 q.2.2.1 q.2.2.2.2 ∧ (∀ i, rid q.2.2.1 = some i → ¬ Own 0 q.2.1 i) ∧ q.1.length + q.2.2.2.2.length ≤ 1000000 ∧ form b l = q.2.2.2.2 ++ formF b q.1.length q.1)
    (fun q => q.1.length) (red b l, rs, .sl true 0 [], H, []) ⟨hP, r2, .inl ⟨rfl, rfl⟩, fun i h => (by cases h), by have := redF_len b l.length l; simp [red]; omega, rfl⟩ rfl ?_
  rintro ⟨w, rs, x, H, acc⟩ ⟨c1, c2, c3, c4, c5, c6⟩
  simp only at c1 c2 c3 c4 c5 c6
  simp (disch := omega) [wrap_id]
  refine fronts_w ?_
  simp (disch := omega) [wrap_id]
  have hid : (H ++ [HObj.cells [AV.sl true 0 []], HObj.cells [AV.ref 0 0]]).length = H.length + 2 := by simp
  have hpl : 0 < H.length := nthH_lt c1.obj
  have c5' : w.length ≤ 1000000 := by omega
  have ho : ∀ i, Own 0 rs i → i < H.length := fun i hi => own_lt c1 hi
  have hx : ∀ i, rid x = some i → i < H.length := fun i hi => c3.row.lt hi
  have front : ∀ (i : Nat) (l : List HObj), i < H.length → nthH (H ++ l) i = nthH H i := fun i l hi => nthH_front hi
  refine rf_of (K0 := FsJ b f 0 rs w x acc H.length (H.length + 2) (fsR (Pj b w)).length) (fronts_R (f := f) (b := b) (p := 0) (rs := rs) (R := Pj b w) (J := FsJ b f 0 rs w x acc H.length (H.length + 2)) (c1.mono fun i hi => front i _ (ho i hi)) ?_ ?_ (fun j G h => h.1) ?_) ?_
  · rw [nthH_eq, List.getElem?_append_right (by omega)]; simp
  · rw [hid]
    refine ⟨c1.mono fun i hi => by rw [List.append_assoc]; exact front i _ (ho i hi), c3.mono fun i hi => by rw [List.append_assoc]; exact front i _ (hx i hi), ⟨.sl true 0 [], ?_, .inl ⟨rfl, rfl⟩, fun i hi => (by cases hi)⟩, ?_, by simp⟩
    · rw [List.append_assoc, nthH_eq, List.getElem?_append_right (by omega)]; simp
    · rw [List.append_assoc, nthH_eq, List.getElem?_append_right (by omega)]; simp
  · intro j G hj hJ
    have hJ' := hJ
    obtain ⟨f1, f2, ⟨y, f3, f4, f5⟩, f6, f7⟩ := hJ
    rw [hid]
    refine ⟨by rw [hpf_nthH]; exact f6, rfl, ?_⟩
    have ga : nthH (G.set (H.length + 2) (HObj.lp LpSt.busy (H.length + 2 + 1))) H.length = some (.cells [y]) := by rw [nthH_set_ne (by omega)]; exact f3
    have gl : H.length + 2 < G.length := by omega
    have gy : AccR (G.set (H.length + 2) (HObj.lp LpSt.busy (H.length + 2 + 1))) y ((fsR (Pj b w)).take j) := f4.mono fun i hi => nthH_set_ne (by have := f5 i hi; omega)
    simp (disch := omega) [wrap_id, putPs, hpf_nthH, f6, gl, ga]
    refine bsl_of rfl rfl ?_
    simp (disch := omega) [wrap_id, zrep]
    have hjl : ((fsR (Pj b w)).take j).length = j := by rw [List.length_take]; omega
    have h8 := fsR_len (Pj b w)
    refine app_row gy.row (by rw [hjl]; omega) fun ws w1 w2 w3 => ?_
    generalize hH1 : writeL (G.set (H.length + 2) (HObj.lp LpSt.busy (H.length + 2 + 1))) ws = H1 at w1 w2 w3
    simp only [List.length_set] at w1 w2 w3
    have w1' : ∀ i, i < G.length → i ≠ H.length + 2 → rid y ≠ some i → nthH H1 i = nthH G i := fun i hi hne hr => by rw [w1 i hi hr, nthH_set_ne (Ne.symm hne)]
    have a1 : nthH H1 H.length = some (.cells [y]) := by rw [w1' H.length (by omega) (by omega) (fun e => by have := f5 _ e; omega)]; exact f3
    have a2 : nthH H1 (H.length + 2) = some (.lp .busy (H.length + 2 + 1)) := by rw [w1 (H.length + 2) gl (fun e => by have := f5 _ e; omega)]; exact nthH_set_same gl
    have a3 : H.length < H1.length := by omega
    have a4 : H.length + 2 < H1.length := by omega
    simp (disch := omega) [wrap_id, hH1, a1, a3]
    refine ⟨?_, rfl, ?_⟩
    · rw [hpf_nthH, nthH_set_ne (by omega)]; exact a2
    · have := fs_body (by omega) hJ' hj (p := 0) hpl (by omega) ho hx f3 f4 f5 w1' w2 w3
      have e : setL (H1.set H.length (HObj.cells [AV.ms G.length 0 ((List.take j (fsR (Pj b w))).length + 1) 1])) (H.length + 2) (.lp .ready (H.length + 2 + 1)) = (H1.set H.length (.cells [.ms G.length 0 (j + 1) 1])).set (H.length + 2) (.lp .ready (H.length + 2 + 1)) := by
        rw [hjl]; simp only [setL, List.length_set]; rw [if_pos a4]
      rw [hjl] at e
      simpa [e, a4] using this
  · rintro G ⟨f1, f2, ⟨y, f3, f4, f5⟩, f6, f7⟩
    rw [hid]
    rw [List.take_length] at f4
    refine rfEnd_ready f6 ?_
    have gp : PLr (G.set (H.length + 2) .gone) 0 (TB f b) rs (Pj b w) := f1.mono fun i hi => nthH_set_ne (by have := ho i hi; omega)
    have gx : AccR (G.set (H.length + 2) .gone) x acc := f2.mono fun i hi => nthH_set_ne (by have := hx i hi; omega)
    have gy : AccR (G.set (H.length + 2) .gone) y (fsR (Pj b w)) := f4.mono fun i hi => nthH_set_ne (by have := f5 i hi; omega)
    have ga : nthH (G.set (H.length + 2) .gone) H.length = some (.cells [y]) := by rw [nthH_set_ne (by omega)]; exact f3
    generalize G.set (H.length + 2) HObj.gone = G2 at gp gx gy ga
    simp (disch := omega) [wrap_id, ga, len_row gy.row]
    by_cases hw0 : w = []
    · subst hw0
      have e0 : fsR (Pj b []) = [] := rfl
      simp (disch := omega) [wrap_id, e0]
      have e1 : form b l = acc := by rw [c6]; simp [formF]
      rw [e1]; exact gx.out
    · obtain ⟨j, hj, g1, g2, g3, g4, g5⟩ := form_step (b := b) c2 hw0
      have hsj : St8 w[j] := c2 _ (List.getElem_mem hj)
      have hfs : ∀ s ∈ fsR (Pj b w), St8 s := fun s hs' => by
        obtain ⟨u, v, e, _⟩ := (fs_Pj c2).1 hs'
        exact c2 s (by rw [e]; simp)
      have hl0 : (((fsR (Pj b w)).length : Int) == 0) = false := by
        rw [beq_eq_false_iff_ne]
        have := List.length_pos_iff.2 g2
        omega
      rcases gy with ⟨_, e⟩ | ⟨iy, rfl, _, gy⟩
      · exact absurd e g2
      simp (disch := omega) [wrap_id, hl0, ga]
      have h8 := fsR_len (Pj b w)
      refine least_w (by omega) hfs g2 gy ?_
      rw [g3]
      simp (disch := omega) [wrap_id]
      refine take_w f b w[j] hsj gp (fun k _ => g5 k) fun H3 rs3 q1 q2 q3 q4 => ?_
      have q1 := q1.congr fun k _ => g4 k
      have gx3 : AccR H3 x acc := gx.mono fun i hi => q2.2 i (gx.row.lt hi) (c4 i hi)
      simp (disch := omega) [wrap_id]
      refine bsl_of rfl rfl ?_
      simp (disch := omega) [wrap_id, zrep]
      refine app_row gx3.row (by omega) fun ws w1 w2 w3 => ?_
      simp (disch := omega) [wrap_id]
      have x3 : ∀ i, rid x = some i → ¬ Own 0 rs3 i := fun i hi hown => by
        rcases q3 i hown with h | h
        · exact c4 i hi h
        · have := gx.row.lt hi; omega
      have hlen : (w.eraseIdx j).length = w.length - 1 := by rw [List.length_eraseIdx, if_pos hj]
      refine next_eq (w.eraseIdx j, rs3, .ms H3.length 0 (acc.length + 1) 1, writeL H3 ws, acc ++ [w[j]]) ⟨q1.mono fun i hi => w1 i (own_lt q1 hi) (fun e => x3 i e hi), fun s hs' => c2 s (List.mem_of_mem_eraseIdx hs'),
        .inr ⟨H3.length, by simp, by simp, w3⟩, fun i hi hown => ?_, by simp only [List.length_append, List.length_singleton]; omega, ?_⟩ (by simp only; omega) rfl
      · cases hi
        have := own_lt q1 hown
        omega
      · simp only
        rw [c6, formF_step b w (List.length_pos_iff.2 hw0), g1, hlen]
        simp [hj]
end Go.AM

/- WHAT THE CODE ANSWERS, PART 1: open, Short, Same. Own work. -/
set_option linter.unusedSimpArgs false
set_option linter.unusedVariables false
namespace Go.AM
open Go.RowKit Go.Proofs

theorem eqs_ok (f g : Bool) (l m : List Int) (hl : l.length ≤ 1000000) (hm : m.length ≤ 1000000) : PureOK Try.prog 61 [Ls f l, Ls g m] (B (decide (l = m))) := by
  refine pure_of (walk Try.func61 form61 res61 (by show 2 ≤ _; decide) ?_)
  simp (disch := omega) [G61, wrap_id]
  refine c_split (fun h => ?_) (fun h => ?_)
  · simp at h; simp (disch := omega) [wrap_id, h]
    intro e; subst e; exact h rfl
  · simp at h; simp (disch := omega) [wrap_id, h]
    refine loop_eq (fun i : Nat => ⟨[(0, Ls f l), (1, Ls g m), (12, I m.length), (13, I i)], []⟩) (fun i => i ≤ l.length ∧ l.take i = m.take i) (fun i => l.length - i) 0 ⟨by omega, rfl⟩ (by simp) ?_
    intro i ⟨hi, he⟩
    simp (disch := omega) [wrap_id]
    refine c_split (fun h => ?_) (fun h => ?_)
    · simp at h
      have h2 : i < l.length := by omega
      simp (disch := omega) [wrap_id, cells_ls, h, h2]
      refine c_split (fun h3 => ?_) (fun h3 => ?_)
      · simp at h3; simp (disch := omega) [wrap_id]
        intro e; subst e; exact h3 rfl
      · simp at h3; simp (disch := omega) [wrap_id]
        refine next_eq (i + 1) ⟨by omega, ?_⟩ (by omega) (by simp)
        rw [List.take_add_one, List.take_add_one, he]; simp [h, h2, h3]
    · simp at h; simp (disch := omega) [wrap_id]
      have e1 : l.take i = l := List.take_of_length_le (by omega)
      have e2 : m.take i = m := List.take_of_length_le (by omega)
      rw [← e1, he, e2]

/-- The first error of lists. -/
def chkLs (b : Bch) : List (Bool × List Int) → Int
  | [] => 0
  | p :: r => if chkL b p.2 ≠ 0 then chkL b p.2 else chkLs b r
abbrev LLs (g : Bool) (ls : List (Bool × List Int)) : AV := .sl g ls.length (ls.map fun p => Ls p.1 p.2)
theorem chkLs_bad {b : Bch} : ∀ {ls : List (Bool × List Int)} {i : Nat} (h : i < ls.length), (∀ k (hk : k < ls.length), k < i → chkL b ls[k].2 = 0) → chkL b ls[i].2 ≠ 0 → chkLs b ls = chkL b ls[i].2
  | p :: r, 0, h, _, hb => by simp [chkLs]; intro e; exact absurd e hb
  | p :: r, i + 1, h, hz, hb => by
    have h0 := hz 0 (by simp) (by omega)
    simp only [List.getElem_cons_zero] at h0
    simp only [chkLs, h0, ne_eq, not_true_eq_false, if_false, List.getElem_cons_succ]
    exact chkLs_bad (by simpa using h) (fun k hk hki => by have := hz (k + 1) (by simpa using hk) (by omega); simpa using this) (by simpa using hb)
theorem chkLs_ok {b : Bch} : ∀ {ls : List (Bool × List Int)}, (∀ k (hk : k < ls.length), chkL b ls[k].2 = 0) → chkLs b ls = 0
  | [], _ => rfl
  | p :: r, h => by
    have h0 := h 0 (by simp)
    simp only [List.getElem_cons_zero] at h0
    simp only [chkLs, h0, ne_eq, not_true_eq_false, if_false]
    exact chkLs_ok fun k hk => by have := h (k + 1) (by simpa using hk); simpa using this

theorem chkL_B {b : Bch} {l : List Int} (h : chkL b l = 0) : chkB b = 0 := by
  unfold chkL at h
  split at h
  · rename_i hb; exact absurd h hb
  · rename_i hb; simpa using hb
theorem chkL_S8 {b : Bch} {l : List Int} (h : chkL b l = 0) : S8 l ∧ l.length ≤ 60 := by
  have hb := chkL_B h
  unfold chkL at h
  rw [if_neg (by simp [hb])] at h
  split at h
  · cases h
  · split at h
    · rename_i hs
      exact ⟨fun s hs' => st8_of hb (List.all_eq_true.1 hs s hs'), by omega⟩
    · cases h

def openAV (f : Bool) (b : Bch) (e : Int) : AV := .tup [if e = 0 then .ptr (TB f b) 0 else .v (.pointer none), I e]

theorem open_ok (f g : Bool) (b : Bch) (ls : List (Bool × List Int)) (hb : b.c.length ≤ 1000000) (hne : ls ≠ []) (hn : ls.length ≤ 1000000) (hl : ∀ p ∈ ls, p.2.length ≤ 1000000) : PureOK Try.prog 59 [Bn f b, LLs g ls] (openAV f b (chkLs b ls)) := by
  refine pure_of (walk Try.func59 form59 res59 (by show 2 ≤ _; decide) ?_)
  simp (disch := omega) [G59, wrap_id]
  refine loop_eq (fun i : Nat => ⟨[(2, .ref 0 0), (9, LLs g ls), (10, I ls.length), (11, I i)], [.cells [I b.L, Ps f b.c]]⟩) (fun i => i ≤ ls.length ∧ ∀ k (hk : k < ls.length), k < i → chkL b ls[k].2 = 0) (fun i => ls.length - i) 0 ⟨by omega, fun k _ h => by omega⟩ rfl ?_
  intro i ⟨hi, hz⟩
  simp (disch := omega) [wrap_id]
  refine c_split (fun h => ?_) (fun h => ?_)
  · simp at h
    have e0 : nthA (ls.map fun p => Ls p.1 p.2) i = some (Ls ls[i].1 ls[i].2) := by rw [nthA_eq]; simp [h]
    simp (disch := omega) [wrap_id, h, e0]
    refine callW_pure rfl (list_ok f ls[i].1 b ls[i].2 hb (hl _ (List.getElem_mem h))) ?_
    simp (disch := omega) [wrap_id]
    by_cases hc : chkL b ls[i].2 = 0
    · simp (disch := omega) [wrap_id, hc]
      refine next_eq (i + 1) ⟨by omega, fun k hk hki => ?_⟩ (by omega) (by simp)
      by_cases e : k = i
      · subst e; exact hc
      · exact hz k hk (by omega)
    · have e := chkLs_bad h hz hc
      have hc' : (chkL b ls[i].2 != 0) = true := by simpa using hc
      simp (disch := omega) [wrap_id, hc']
      rw [e]
      refine out_of (is := []) ?_
      unfold openAV
      rw [if_neg hc]
      rfl
  · simp at h
    have e := chkLs_ok (b := b) (ls := ls) fun k hk => hz k hk (by omega)
    have hb0 : chkB b = 0 := chkL_B (hz 0 (List.length_pos_iff.2 hne) (by have := List.length_pos_iff.2 hne; omega))
    simp (disch := omega) [wrap_id]
    refine callW_pure rfl (newTable_ok f b hb0) ?_
    simp (disch := omega) [wrap_id]
    rw [e]
    refine out_of (is := []) ?_
    rfl

theorem chkLs1 {b : Bch} {g : Bool} {l : List Int} : chkLs b [(g, l)] = chkL b l := by simp only [chkLs]; split <;> simp_all
theorem chkLs2 {b : Bch} {g h : Bool} {l m : List Int} : chkLs b [(g, l), (h, m)] = twoR b l m := by simp only [chkLs, twoR]; split <;> simp_all
theorem open1_ok (f g h : Bool) (b : Bch) (l : List Int) (hb : b.c.length ≤ 1000000) (hl : l.length ≤ 1000000) : PureOK Try.prog 59 [Bn f b, .sl g 1 [Ls h l]] (openAV f b (chkL b l)) := by
  have := open_ok f g b [(h, l)] hb (by simp) (by simp) (by simpa using hl)
  rw [chkLs1] at this
  exact this
theorem open2_ok (f g h k : Bool) (b : Bch) (l m : List Int) (hb : b.c.length ≤ 1000000) (hl : l.length ≤ 1000000) (hm : m.length ≤ 1000000) : PureOK Try.prog 59 [Bn f b, .sl g 2 [Ls h l, Ls k m]] (openAV f b (twoR b l m)) := by
  have := open_ok f g b [(h, l), (k, m)] hb (by simp) (by simp) (by simpa using ⟨hl, hm⟩)
  rw [chkLs2] at this
  exact this

theorem cpy_of {P : Program} {F : Nat → AV} {hp : List HObj} {K : AV → List (Nat × HObj) → Prop} {d sz : Nat} {x y : Opd} {id off n m : Nat} {cs ys : List AV} (hx : evF F x = .ms id off n sz) (hy : elems (hpf hp) sz (evF F y) = some (m, ys)) (hpc : ((ys.take (Nat.min m n * sz)).all AV.isPC) = true)
    (hcs : nthH hp id = some (.cells cs)) (hl : off + n * sz ≤ cs.length) (k : K (I (Nat.min m n : Nat)) [(id, .cells (splice cs off (ys.take (Nat.min m n * sz))))]) : (AOp.cpy d sz x y).wp P F hp K := by
  refine ⟨_, _, ?_, k⟩
  simp only [AOp.sem, hx]
  exact ⟨m, ys, cs, hy, hpc, by rw [hpf_nthH]; exact hcs, trivial, hl, rfl, rfl⟩

theorem zrep_one : ∀ (n : Nat) (x : AV), zrep n [x] = List.replicate n x
  | 0, _ => rfl
  | n + 1, x => by simp [zrep, zrep_one n x, List.replicate_succ]

theorem is_pc_ls (l : List Int) : ((l.map fun n => I n).all AV.isPC) = true := by
  rw [List.all_eq_true]; intro x hx
  obtain ⟨n, _, rfl⟩ := List.mem_map.1 hx
  rfl

theorem short_ok (f g : Bool) (b : Bch) (l : List Int) (hb : b.c.length ≤ 1000000) (hl : l.length ≤ 1000000) : PureOK Try.prog 24 [Bn f b, Ls g l] (.tup [Ls (decide (chkL b l ≠ 0)) (shortR b l), I (chkL b l)]) := by
  refine pure_of (walk Try.func24 form24 res24 (by show 2 ≤ _; decide) ?_)
  simp (disch := omega) [G24, wrap_id]
  refine bsl_of rfl rfl ?_
  simp (disch := omega) [wrap_id, zrep]
  refine callW_pure rfl (open1_ok f true g b l hb hl) ?_
  by_cases hc : chkL b l = 0
  · obtain ⟨hs, hlen⟩ := chkL_S8 hc
    simp (disch := omega) [wrap_id, openAV, hc]
    refine callW_pure rfl (form_c f g b l hs hl) ?_
    simp (disch := omega) [wrap_id]
    have hfl := form_len b l
    refine ⟨(form b l).length, rfl, rfl, by omega, by omega, rfl, ?_⟩
    simp (disch := omega) [wrap_id, zrep_one]
    have emin : (form b l).length.min (form b l).length = (form b l).length := Nat.min_self _
    refine cpy_of (sz := 1) (n := (form b l).length) (m := (form b l).length) (ys := (form b l).map fun n => I n) rfl ?_ ?_ rfl (by simp) ?_
    · simp [elems]
    · rw [emin, Nat.mul_one, List.take_of_length_le (by simp)]; exact is_pc_ls _
    · rw [emin, Nat.mul_one, List.take_of_length_le (by simp)]
      have e1 : splice (List.replicate (form b l).length (I 0)) 0 ((form b l).map fun n => I n) = (form b l).map fun n => I n := by
        simp [splice]
      rw [e1]
      simp (disch := omega) [wrap_id]
      have es : shortR b l = form b l := by simp [shortR, hc]
      rw [es]
      refine out_of (is := [1]) ?_
      have hh : hpf [HObj.cells [I b.L, Ps f b.c], HObj.cells ((form b l).map fun n => I n)] 1 = some (.cells ((form b l).map fun n => I n)) := rfl
      simp only [purify, purifyL, purify1, hh]
      rw [if_pos ⟨by simp, ls_isPure _⟩]
      simp [view]
      rw [List.take_of_length_le (by simp)]
  · have hc' : (chkL b l != 0) = true := by simpa using hc
    simp (disch := omega) [wrap_id, openAV, hc, hc']
    have : shortR b l = [] := by simp [shortR, hc]
    rw [this]
    refine out_of (is := []) ?_
    rfl

theorem two_S8 {b : Bch} {l m : List Int} (h : twoR b l m = 0) : chkL b l = 0 ∧ chkL b m = 0 := by
  unfold twoR at h
  split at h
  · rename_i hc; exact absurd h hc
  · rename_i hc; exact ⟨by simpa using hc, h⟩

theorem same_ok (f g h : Bool) (b : Bch) (l m : List Int) (hb : b.c.length ≤ 1000000) (hl : l.length ≤ 1000000) (hm : m.length ≤ 1000000) : PureOK Try.prog 27 [Bn f b, Ls g l, Ls h m] (I (sameR b l m)) := by
  refine pure_of (walk Try.func27 form27 res27 (by show 3 ≤ _; decide) ?_)
  simp (disch := omega) [G27, wrap_id]
  refine bsl_of (ys := [Ls g l, Ls h m]) rfl rfl ?_
  simp (disch := omega) [wrap_id, zrep]
  refine callW_pure rfl (open2_ok f true g h b l m hb hl hm) ?_
  by_cases hc : twoR b l m = 0
  · obtain ⟨h1, h2⟩ := two_S8 hc
    obtain ⟨s1, l1⟩ := chkL_S8 h1
    obtain ⟨s2, l2⟩ := chkL_S8 h2
    have f1 := form_len b l
    have f2 := form_len b m
    simp (disch := omega) [wrap_id, openAV, hc]
    refine callW_pure rfl (form_c f g b l s1 hl) ?_
    simp (disch := omega) [wrap_id]
    refine callW_pure rfl (form_c f h b m s2 hm) ?_
    simp (disch := omega) [wrap_id]
    refine callW_pure rfl (eqs_ok _ _ _ _ (by omega) (by omega)) ?_
    by_cases he : form b l = form b m
    · simp (disch := omega) [wrap_id, he]
      simp [sameR, hc, he]
    · simp (disch := omega) [wrap_id, he]
      simp [sameR, hc, he]
  · have hc' : (twoR b l m != 0) = true := by simpa using hc
    simp (disch := omega) [wrap_id, openAV, hc, hc']
    simp [sameR, hc]

end Go.AM
