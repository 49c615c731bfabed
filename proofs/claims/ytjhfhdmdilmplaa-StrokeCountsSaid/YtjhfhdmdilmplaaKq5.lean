/-
  CONTRACTS, PART 1: strokes as numbers, comparisons of lists. Own work.
  CONTRACTS, PART 2: benches and lists. Own work.
  CONTRACTS, PART 3: lists of strokes. Own work.
  CONTRACTS, PART 4: short forms as the specification makes them. Own work.
  CONTRACTS, PART 5: strokes that undo one another. Own work.
  CONTRACTS, PART 6: shortest lists, and which stroke comes first. Own work.
  CONTRACTS, PART 7: the stroke that comes first; short forms. Own work.
  CONTRACTS, PART 8: lists that grow; short forms. Own work.
  CONTRACTS, PART 9: the short form as the specification makes it. Own work.
  CONTRACTS, PART 10: what the specification answers. Own work.
  CONTRACTS, PART 11: which strokes can be first. Own work.
  CONTRACTS, PART 12: which strokes can be first: the function. Own work.
  ARGUMENTS OF THE STROKE LAYER, read. Own work.
-/
import Derived.Test.YtjhfhdmdilmplaaKq4
import Derived.ChangeKeysEq
import Derived.Laws.StructEq

/- CONTRACTS, PART 1: strokes as numbers, comparisons of lists. Own work. -/
set_option linter.unusedSimpArgs false
set_option linter.unusedVariables false
namespace Go.AM
open Go.RowKit Go.Proofs

/-- A list of numbers. -/
abbrev Ls (f : Bool) (l : List Int) : AV := .sl f l.length (l.map fun n => I n)

theorem line_ok (n : Int) (h : -1000000 ≤ n ∧ n ≤ 1000000) : PureOK Try.prog 100 [I n] (I (max n (-n) - 1)) := by
  refine pure_of (walk Try.func100 form100 res100 (by show 1 ≤ _; decide) ?_)
  simp (disch := omega) [G100, wrap_id]
  

theorem key_ok (n : Int) (h : -1000000 ≤ n ∧ n ≤ 1000000) : PureOK Try.prog 84 [I n] (I (if n < 0 then -2 * n - 1 else 2 * n - 2)) := by
  refine pure_of (walk Try.func84 form84 res84 (by show 1 ≤ _; decide) ?_)
  simp (disch := omega) [G84, wrap_id]
  refine c_split (fun h => ?_) (fun h => ?_)
  · simp at h; simp (disch := omega) [wrap_id, h]
  · simp at h; simp (disch := omega) [wrap_id]; omega

theorem equal_ok (f g : Bool) (l m : List Int) (hl : l.length ≤ 1000000) (hm : m.length ≤ 1000000) : PureOK Try.prog 26 [Ls f l, Ls g m] (B (decide (l = m))) := by
  refine pure_of (walk Try.func26 form26 res26 (by show 2 ≤ _; decide) ?_)
  simp (disch := omega) [G26, wrap_id]
  refine c_split (fun h => ?_) (fun h => ?_)
  · simp at h; simp (disch := omega) [wrap_id, h]
    intro e; subst e; exact h rfl
  · simp at h; simp (disch := omega) [wrap_id, h]
    refine loop_eq (fun i : Nat => ⟨[(0, Ls f l), (1, Ls g m), (5, I i)], []⟩) (fun i => i ≤ l.length ∧ l.take i = m.take i) (fun i => l.length - i) 0 ⟨by omega, rfl⟩ rfl ?_
    intro i ⟨hi, he⟩
    simp (disch := omega) [wrap_id]
    refine c_split (fun h => ?_) (fun h => ?_)
    · simp at h
      have h2 : i < m.length := by omega
      simp (disch := omega) [wrap_id, cells_ls, h, h2]
      refine c_split (fun h3 => ?_) (fun h3 => ?_)
      · simp at h3; simp (disch := omega) [wrap_id]
        intro e; subst e; exact h3 rfl
      · simp at h3; simp (disch := omega) [wrap_id]
        refine next_eq (i + 1) ⟨by omega, ?_⟩ (by omega) (by simp)
        rw [List.take_add_one, List.take_add_one, he]; simp [h, h2, h3]
    · simp at h; simp (disch := omega) [wrap_id]
      have e1 : l.take i = l := List.take_of_length_le h
      have e2 : m.take i = m := List.take_of_length_le (by omega)
      rw [← e1, he, e2]

/-- The index of the first one, or -1. -/
def idxI {α : Type} (p : α → Bool) (l : List α) : Int := match l.findIdx? p with
  | some k => k
  | none => -1

theorem idxI_some {α : Type} {p : α → Bool} {l : List α} {i : Nat} (h : i < l.length) (hp : p l[i] = true) (hn : ∀ k (hk : k < l.length), k < i → p l[k] = false) : idxI p l = i := by
  have : l.findIdx? p = some i := List.findIdx?_eq_some_iff_getElem.2 ⟨h, hp, fun j hj => by simpa using hn j (by omega) hj⟩
  simp [idxI, this]
theorem idxI_none {α : Type} {p : α → Bool} {l : List α} (hn : ∀ k (hk : k < l.length), p l[k] = false) : idxI p l = -1 := by
  have : l.findIdx? p = none := List.findIdx?_eq_none_iff.2 fun x hx => by
    obtain ⟨k, hk, rfl⟩ := List.getElem_of_mem hx
    exact hn k hk
  simp [idxI, this]
theorem idxI_any {α : Type} (p : α → Bool) (l : List α) : decide (idxI p l ≥ 0) = l.any p := by
  cases h : l.findIdx? p with
  | some k =>
    have h1 : idxI p l = k := by simp [idxI, h]
    obtain ⟨hk, h2, _⟩ := List.findIdx?_eq_some_iff_getElem.1 h
    rw [h1]
    have : l.any p = true := List.any_eq_true.2 ⟨l[k], List.getElem_mem hk, h2⟩
    rw [this]; simp
  | none =>
    have h1 : idxI p l = -1 := by simp [idxI, h]
    have : l.any p = false := by
      rw [List.any_eq_false]; intro x hx
      have := List.findIdx?_eq_none_iff.1 h x hx
      simp [this]
    rw [h1, this]; rfl

theorem within1_w (x lo hi : Int) (a b : Nat) (hp : List HObj) (ha : nthH hp a = some (.cells [I lo])) (hb : nthH hp b = some (.cells [I hi])) (K : AV → List HObj → Prop) (hK : K (B (decide (x < lo) || decide (x > hi))) hp) :
    CallW Try.prog 88 [I x, .ref a 0, .ref b 0] hp K := by
  refine walk Try.func88 form88 res88 (by show 3 ≤ _; decide) ?_
  simp [G88, ha, hb]
  refine gd_split (fun h => ?_) (fun h => ?_)
  · simp at h; simp [ha, hb, h] at hK ⊢; exact hK
  · simp at h; simp [ha, hb, show ¬ x < lo by omega] at hK ⊢; exact hK

theorem indexFunc_w (f : Bool) (l : List Int) (hl : l.length ≤ 1000000) (lo hi : Int) (a b : Nat) (hp : List HObj) (ha : nthH hp a = some (.cells [I lo])) (hb : nthH hp b = some (.cells [I hi])) (K : AV → List HObj → Prop)
    (hK : K (I (idxI (fun x => decide (x < lo) || decide (x > hi)) l)) hp) :
    CallW Try.prog 104 [Ls f l, .fn (.func 88) [] [.ref a 0, .ref b 0]] hp K := by
  refine walk Try.func104 form104 res104 (by show 2 ≤ _; decide) ?_
  simp [G104]
  refine loop_eq (fun i : Nat => ⟨[(0, Ls f l), (1, .fn (.func 88) [] [.ref a 0, .ref b 0]), (7, I l.length), (8, I i)], hp⟩) (fun i => i ≤ l.length ∧ ∀ k (h : k < l.length), k < i → ¬ (l[k] < lo ∨ l[k] > hi)) (fun i => l.length - i) 0 ⟨by omega, fun k _ h => by omega⟩ rfl ?_
  intro i ⟨hi1, hi2⟩
  simp (disch := omega) [wrap_id]
  refine c_split (fun h => ?_) (fun h => ?_)
  · simp at h
    simp (disch := omega) [wrap_id, cells_ls, h]
    refine ⟨by kernel_rfl, within1_w _ _ _ _ _ _ ha hb _ ?_⟩
    simp
    refine c_split (fun h3 => ?_) (fun h3 => ?_)
    · simp
      rw [idxI_some h (by simpa using h3) (fun k hk hk' => by simpa using hi2 k hk hk')] at hK
      exact hK
    · simp (disch := omega) [wrap_id]
      simp at h3
      refine next_eq (i + 1) ⟨by omega, fun k hk hk' => ?_⟩ (by omega) (by simp)
      by_cases e : k = i
      · subst e; exact h3
      · have := hi2 k hk (by omega); omega
  · simp at h
    simp
    rw [idxI_none (fun k hk => by have := hi2 k hk (by omega); simpa using this)] at hK
    exact hK

theorem containsFunc_w (f : Bool) (l : List Int) (hl : l.length ≤ 1000000) (lo hi : Int) (a b : Nat) (hp : List HObj) (ha : nthH hp a = some (.cells [I lo])) (hb : nthH hp b = some (.cells [I hi])) (K : AV → List HObj → Prop)
    (hK : K (B (l.any fun x => decide (x < lo) || decide (x > hi))) hp) :
    CallW Try.prog 87 [Ls f l, .fn (.func 88) [] [.ref a 0, .ref b 0]] hp K := by
  refine walk Try.func87 form87 res87 (by show 2 ≤ _; decide) ?_
  simp [G87]
  refine indexFunc_w f l hl lo hi a b hp ha hb _ ?_
  simp
  rw [← idxI_any] at hK
  exact hK

/-- Whether all numbers are from one to another one. -/
def allIn (lo hi : Int) (l : List Int) : Bool := l.all fun x => decide (lo ≤ x) && decide (x ≤ hi)

theorem allIn_any (lo hi : Int) (l : List Int) : allIn lo hi l = !(l.any fun x => decide (x < lo) || decide (hi < x)) := by
  induction l with
  | nil => rfl
  | cons x l ih =>
    simp only [allIn, List.all_cons, List.any_cons] at ih ⊢
    rw [ih]
    by_cases h1 : lo ≤ x
    · by_cases h2 : x ≤ hi
      · simp [h1, h2, show ¬ x < lo by omega, show ¬ hi < x by omega]
      · simp [h1, h2, show hi < x by omega]
    · simp [h1, show x < lo by omega]

theorem within_ok (lo hi : Int) (f : Bool) (l : List Int) (hl : l.length ≤ 1000000) : PureOK Try.prog 56 [I lo, I hi, Ls f l] (B (allIn lo hi l)) := by
  refine pure_of (walk Try.func56 form56 res56 (by show 3 ≤ _; decide) ?_)
  simp [G56]
  refine containsFunc_w f l hl lo hi 0 1 _ rfl rfl _ ?_
  simp
  exact allIn_any lo hi l

theorem index_ok (f : Bool) (l : List Int) (hl : l.length ≤ 1000000) (v : Int) : PureOK Try.prog 90 [Ls f l, I v] (I (idxI (fun x => v == x) l)) := by
  refine pure_of (walk Try.func90 form90 res90 (by show 2 ≤ _; decide) ?_)
  simp [G90]
  refine loop_eq (fun i : Nat => ⟨[(0, Ls f l), (1, I v), (7, I l.length), (8, I i)], []⟩) (fun i => i ≤ l.length ∧ ∀ k (h : k < l.length), k < i → v ≠ l[k]) (fun i => l.length - i) 0 ⟨by omega, fun k _ h => by omega⟩ rfl ?_
  intro i ⟨hi1, hi2⟩
  simp (disch := omega) [wrap_id]
  refine c_split (fun h => ?_) (fun h => ?_)
  · simp at h
    simp (disch := omega) [wrap_id, cells_ls, h]
    refine c_split (fun h3 => ?_) (fun h3 => ?_)
    · simp
      rw [idxI_some h (by simpa using h3) (fun k hk hk' => by simpa using hi2 k hk hk')]
    · simp (disch := omega) [wrap_id]
      simp at h3
      refine next_eq (i + 1) ⟨by omega, fun k hk hk' => ?_⟩ (by omega) (by simp)
      by_cases e : k = i
      · subst e; exact h3
      · exact hi2 k hk (by omega)
  · simp at h
    simp
    rw [idxI_none (fun k hk => by have := hi2 k hk (by omega); simpa using this)]

theorem idxI_mem {α : Type} [BEq α] [LawfulBEq α] (l : List α) (v : α) : 0 ≤ idxI (fun x => v == x) l ↔ v ∈ l := by
  have := idxI_any (fun x => v == x) l
  constructor
  · intro h
    have h2 : l.any (fun x => v == x) = true := by rw [← this]; simpa using h
    obtain ⟨x, hx, e⟩ := List.any_eq_true.1 h2
    have := LawfulBEq.eq_of_beq e
    rw [this]; exact hx
  · intro h
    have h2 : l.any (fun x => v == x) = true := List.any_eq_true.2 ⟨v, h, by simp⟩
    rw [h2] at this
    simpa using this

theorem contains_ok (f : Bool) (l : List Int) (hl : l.length ≤ 1000000) (v : Int) : PureOK Try.prog 58 [Ls f l, I v] (B (l.contains v)) := by
  refine pure_of (walk Try.func58 form58 res58 (by show 2 ≤ _; decide) ?_)
  simp [G58]
  refine callW_pure rfl (index_ok f l hl v) ?_
  simp
  exact (idxI_mem l v).symm

/-- Pairs of numbers, laid flat. -/
def flat2 (c : List (Int × Int)) : List AV := c.flatMap fun p => [I p.1, I p.2]
abbrev Ps (f : Bool) (c : List (Int × Int)) : AV := .sl f c.length (flat2 c)
abbrev Pr (p : Int × Int) : AV := .agg [I p.1, I p.2]

theorem flat2_len (c : List (Int × Int)) : (flat2 c).length = c.length * 2 := by
  induction c with
  | nil => rfl
  | cons p c ih => simp [flat2] at ih ⊢; omega

theorem flat2_drop (c : List (Int × Int)) (i : Nat) : (flat2 c).drop (i * 2) = flat2 (c.drop i) := by
  induction i generalizing c with
  | zero => simp
  | succ i ih =>
    cases c with
    | nil => simp [flat2]
    | cons p c =>
      have : (i + 1) * 2 = i * 2 + 1 + 1 := by omega
      rw [this]
      simp only [List.drop_succ_cons]
      rw [← ih c]
      rfl

theorem flat2_take (c : List (Int × Int)) (i : Nat) : (flat2 c).take (i * 2) = flat2 (c.take i) := by
  induction i generalizing c with
  | zero => simp [flat2]
  | succ i ih =>
    cases c with
    | nil => simp [flat2]
    | cons p c =>
      have : (i + 1) * 2 = i * 2 + 1 + 1 := by omega
      rw [this]
      show _ :: _ :: List.take (i * 2) (flat2 c) = _
      rw [ih c]
      rfl

theorem flat2_view {c : List (Int × Int)} {i : Nat} (h : i < c.length) : ((flat2 c).drop (i * 2)).take 2 = [I c[i].1, I c[i].2] := by
  rw [flat2_drop, List.drop_eq_getElem_cons h]
  rfl

theorem cells_pair {c : List (Int × Int)} {i : Nat} {K : AV → List (Nat × HObj) → Prop} (h : i < c.length) : CellsW (flat2 c) (i * 2) 2 true K = K (Pr (c.getD i (0, 0))) [] := by
  have := flat2_len c
  simp only [CellsW, view, flat2_view h]
  simp [h]
  intro _; omega

theorem bing_pair {neg : Bool} {p q : Int × Int} {K : AV → List (Nat × HObj) → Prop} : EqkW neg (true, [.int, .int]) (Pr p) (Pr q) K = K (B (neg != decide (p = q))) [] := eqk_pair

theorem bing_pair2 {neg : Bool} {a b c d : Int} {K : AV → List (Nat × HObj) → Prop} : EqkW neg (true, [.int, .int]) (.agg [I a, I b]) (.agg [I c, I d]) K = K (B (neg != decide ((a, b) = (c, d)))) [] := eqk_pair

end Go.AM

/- CONTRACTS, PART 2: benches and lists. Own work. -/
set_option linter.unusedSimpArgs false
set_option linter.unusedVariables false
namespace Go.AM
open Go.RowKit Go.Proofs

theorem indexP_ok (f : Bool) (l : List (Int × Int)) (hl : l.length ≤ 1000000) (v : Int × Int) : PureOK Try.prog 89 [Ps f l, Pr v] (I (idxI (fun x => v == x) l)) := by
  refine pure_of (walk Try.func89 form89 res89 (by show 2 ≤ _; decide) ?_)
  simp [G89]
  refine loop_eq (fun i : Nat => ⟨[(0, Ps f l), (3, .ref 0 0), (7, I l.length), (8, I i)], [.cells [I v.1, I v.2]]⟩) (fun i => i ≤ l.length ∧ ∀ k (h : k < l.length), k < i → v ≠ l[k]) (fun i => l.length - i) 0 ⟨by omega, fun k _ h => by omega⟩ rfl ?_
  intro i ⟨hi1, hi2⟩
  simp (disch := omega) [wrap_id]
  refine c_split (fun h => ?_) (fun h => ?_)
  · simp at h
    simp (disch := omega) [wrap_id, cells_pair, flat2_len, h, bing_pair]
    refine c_split (fun h3 => ?_) (fun h3 => ?_)
    · simp
      rw [idxI_some h (by simpa using h3) (fun k hk hk' => by simpa using hi2 k hk hk')]
    · simp (disch := omega) [wrap_id]
      simp at h3
      refine next_eq (i + 1) ⟨by omega, fun k hk hk' => ?_⟩ (by omega) (by simp)
      by_cases e : k = i
      · subst e; exact h3
      · exact hi2 k hk (by omega)
  · simp at h
    simp
    rw [idxI_none (fun k hk => by have := hi2 k hk (by omega); simpa using this)]

theorem containsP_ok (f : Bool) (l : List (Int × Int)) (hl : l.length ≤ 1000000) (v : Int × Int) : PureOK Try.prog 57 [Ps f l, Pr v] (B (l.contains v)) := by
  refine pure_of (walk Try.func57 form57 res57 (by show 2 ≤ _; decide) ?_)
  simp [G57]
  refine callW_pure rfl (indexP_ok f l hl v) ?_
  simp
  exact (idxI_mem l v).symm

/-- A bench. -/
structure Bch where
  L : Int
  c : List (Int × Int)

abbrev Bn (f : Bool) (b : Bch) : AV := .agg [I b.L, Ps f b.c]

/-- Whether the pair at an index may stand there. -/
def pairB (b : Bch) (i : Nat) : Bool := decide (0 ≤ (b.c.getD i (0, 0)).1) && decide ((b.c.getD i (0, 0)).1 < (b.c.getD i (0, 0)).2) && decide ((b.c.getD i (0, 0)).2 < b.L) && !(b.c.take i).contains (b.c.getD i (0, 0))

def chkB (b : Bch) : Int := if b.L < 1 ∨ b.L > 8 ∨ b.c.length > 28 then 6 else if (List.range b.c.length).all (pairB b) then 0 else 2

theorem range_all {n : Nat} {p : Nat → Bool} : (List.range n).all p = true ↔ ∀ k, k < n → p k = true := by simp [List.all_eq_true]

theorem isStroke_ok (f : Bool) (b : Bch) (hb : -1000000 ≤ b.L ∧ b.L ≤ 1000000) (n : Int) : PureOK Try.prog 51 [Bn f b, I n] (B ((decide (1 ≤ n) && decide (n ≤ b.L)) || (decide (n ≤ -1) && decide (-b.L ≤ n)))) := by
  refine pure_of (walk Try.func51 form51 res51 (by show 2 ≤ _; decide) ?_)
  by_cases h1 : 1 ≤ n <;> by_cases h2 : n ≤ b.L <;> by_cases h3 : n ≤ -1 <;> by_cases h4 : -b.L ≤ n <;> simp (disch := omega) [G51, wrap_id, h1, h2, h3, h4]

theorem refLine_ok (n : Int) (h : -1000000 ≤ n ∧ n ≤ 1000000) : PureOK Try.prog 86 [I n] (I (if n < 0 then -1 - n else n - 1)) := by
  refine pure_of (walk Try.func86 form86 res86 (by show 1 ≤ _; decide) ?_)
  by_cases h1 : n < 0 <;> simp (disch := omega) [G86, wrap_id, h1]

def lineI (n : Int) : Int := if n < 0 then -1 - n else n - 1
def canB (b : Bch) (x y : Int) : Bool := !(lineI x == lineI y) && !(b.c.contains (min (lineI x) (lineI y), max (lineI x) (lineI y)))

theorem refCan_ok (f : Bool) (b : Bch) (hb : b.c.length ≤ 1000000) (x y : Int) (hx : -1000000 ≤ x ∧ x ≤ 1000000) (hy : -1000000 ≤ y ∧ y ≤ 1000000) : PureOK Try.prog 52 [Bn f b, I x, I y] (B (canB b x y)) := by
  refine pure_of (walk Try.func52 form52 res52 (by show 3 ≤ _; decide) ?_)
  simp (disch := omega) [G52, wrap_id]
  refine callW_pure rfl (refLine_ok x hx) ?_
  simp (disch := omega) [wrap_id]
  refine callW_pure rfl (refLine_ok y hy) ?_
  simp (disch := omega) [wrap_id]
  rw [show (if x < 0 then -1 - x else x - 1) = lineI x from rfl, show (if y < 0 then -1 - y else y - 1) = lineI y from rfl]
  refine c_split (fun hne => ?_) (fun hne => ?_)
  · simp at hne
    simp [canB, hne]
  · simp at hne
    simp
    refine loop_eq (fun i : Nat => ⟨[(3, .ref 0 0), (7, I (lineI x)), (8, I (lineI y)), (9, I i)], [.cells [I b.L, Ps f b.c]]⟩) (fun i => i ≤ b.c.length ∧ ∀ k (h : k < b.c.length), k < i → b.c[k] ≠ (min (lineI x) (lineI y), max (lineI x) (lineI y))) (fun i => b.c.length - i) 0 ⟨by omega, fun k _ h => by omega⟩ rfl ?_
    intro i ⟨hi1, hi2⟩
    simp (disch := omega) [wrap_id]
    refine c_split (fun h => ?_) (fun h => ?_)
    · simp at h
      simp (disch := omega) [wrap_id, cells_pair, flat2_len, h, bing_pair2, placeF]
      refine c_split (fun h3 => ?_) (fun h3 => ?_)
      · simp at h3
        simp [canB]
        intro _
        rw [← h3.1, ← h3.2]; exact List.getElem_mem h
      · simp (disch := omega) [wrap_id]
        simp at h3
        refine next_eq (i + 1) ⟨by omega, fun k hk hk' => ?_⟩ (by omega) (by simp)
        by_cases e : k = i
        · subst e; intro e; rw [e] at h3; simp at h3
        · exact hi2 k hk (by omega)
    · simp at h
      simp [canB, hne]
      intro hm
      obtain ⟨k, hk, e⟩ := List.getElem_of_mem hm
      exact hi2 k hk (by omega) e

theorem pairB_def {b : Bch} {i : Nat} (h : i < b.c.length) : pairB b i = (decide (0 ≤ b.c[i].1) && decide (b.c[i].1 < b.c[i].2) && decide (b.c[i].2 < b.L) && !(b.c.take i).contains b.c[i]) := by
  have : b.c.getD i (0, 0) = b.c[i] := by simp [h]
  simp only [pairB, this]

theorem not_take {c : List (Int × Int)} {i : Nat} (h : i < c.length) (hn : ∀ m (hm : m < c.length), m < i → c[m] ≠ c[i]) : (c.take i).contains c[i] = false := by
  simp only [List.contains_eq_mem, decide_eq_false_iff_not]
  intro hm
  obtain ⟨k, hk, e⟩ := List.getElem_of_mem hm
  have hk2 := hk
  rw [List.length_take] at hk2
  rw [List.getElem_take] at e
  exact hn k (by omega) (by omega) e

theorem in_take {c : List (Int × Int)} {i k : Nat} (h : i < c.length) (hk : k < i) (e : c[k] = c[i]) : (c.take i).contains c[i] = true := by
  simp only [List.contains_eq_mem, decide_eq_true_eq]
  rw [← e]
  have : (c.take i)[k]'(by simp; omega) = c[k] := by rw [List.getElem_take]
  rw [← this]; exact List.getElem_mem _

theorem chkB_bad {b : Bch} {i : Nat} (h1 : ¬ b.L < 1) (h2 : ¬ 8 < b.L) (h3 : ¬ 28 < b.c.length) (h : i < b.c.length) (hb : pairB b i = false) : chkB b = 2 := by
  simp only [chkB]
  rw [if_neg (by omega), if_neg]
  intro ha
  have := range_all.1 ha i h
  rw [hb] at this; cases this

theorem refBench_ok (f : Bool) (b : Bch) (hb : b.c.length ≤ 1000000) : PureOK Try.prog 21 [Bn f b] (I (chkB b)) := by
  refine pure_of (walk Try.func21 form21 res21 (by show 1 ≤ _; decide) ?_)
  by_cases h1 : b.L < 1
  · simp (disch := omega) [G21, wrap_id, h1, chkB]
  by_cases h2 : 8 < b.L
  · simp (disch := omega) [G21, wrap_id, h1, h2, chkB]
  by_cases h3 : (28 : Int) < b.c.length
  · have h3' : 28 < b.c.length := by omega
    simp (disch := omega) [G21, wrap_id, h1, h2, h3, h3', chkB]
  have h3' : ¬ 28 < b.c.length := by omega
  simp (disch := omega) [G21, wrap_id, h1, h2, h3]
  refine loop_eq (fun p : Nat × List HObj => ⟨[(1, .ref 0 0), (3, I p.1)], .cells [I b.L, Ps f b.c] :: p.2⟩) (fun p => p.1 ≤ b.c.length ∧ ∀ k, k < p.1 → pairB b k = true) (fun p => b.c.length - p.1) (0, []) ⟨by simp, fun k h => by simp at h⟩ rfl ?_
  rintro ⟨i, junk⟩ ⟨hi1, hi2⟩
  simp at hi1 hi2
  simp (disch := omega) [wrap_id]
  refine c_split (fun h => ?_) (fun h => ?_)
  · simp at h
    simp (disch := omega) [wrap_id, cells_pair, flat2_len, h]
    have gd : (b.c.getD i (0, 0)) = b.c[i] := by simp [h]
    by_cases a1 : b.c[i].1 < 0
    · simp (disch := omega) [wrap_id, a1]
      exact (chkB_bad h1 h2 h3' h (by rw [pairB_def h]; simp; omega))
    by_cases a2 : b.c[i].2 ≤ b.c[i].1
    · simp (disch := omega) [wrap_id, a1, a2]
      exact (chkB_bad h1 h2 h3' h (by rw [pairB_def h]; simp; omega))
    by_cases a3 : b.L ≤ b.c[i].2
    · simp (disch := omega) [wrap_id, a1, a2, a3]
      exact (chkB_bad h1 h2 h3' h (by rw [pairB_def h]; simp; omega))
    simp (disch := omega) [wrap_id, a1, a2, a3]
    refine loop_eq (fun k : Nat => ⟨[(1, .ref 0 0), (3, I i), (4, .ref (junk.length + 1) 0), (5, I k)], .cells [I b.L, Ps f b.c] :: (junk ++ [.cells [I b.c[i].1, I b.c[i].2]])⟩) (fun k => k ≤ i ∧ ∀ m (hm : m < b.c.length), m < k → b.c[m] ≠ b.c[i]) (fun k => i - k) 0 ⟨by omega, fun k _ h => by omega⟩ rfl ?_
    intro k ⟨hk1, hk2⟩
    simp (disch := omega) [wrap_id]
    refine c_split (fun hk => ?_) (fun hk => ?_)
    · simp at hk
      have hk' : k < b.c.length := by omega
      simp (disch := omega) [wrap_id, cells_pair, flat2_len, h, hk', bing_pair2]
      refine c_split (fun e => ?_) (fun e => ?_)
      · have e' : b.c[k] = b.c[i] := by simpa [Prod.ext_iff] using e
        simp (disch := omega) [wrap_id]
        exact (chkB_bad h1 h2 h3' h (by rw [pairB_def h, in_take h hk e']; simp))
      · have e' : b.c[k] ≠ b.c[i] := by intro e'; rw [e'] at e; simp at e
        simp (disch := omega) [wrap_id]
        refine next_eq (k + 1) ⟨by omega, fun m hm hm' => ?_⟩ (by omega) (by simp)
        by_cases e2 : m = k
        · subst e2; exact e'
        · exact hk2 m hm (by omega)
    · simp at hk
      simp (disch := omega) [wrap_id]
      refine next_eq (i + 1, junk ++ [.cells [I b.c[i].1, I b.c[i].2]]) ⟨by simp; omega, fun m hm => ?_⟩ (by simp; omega) (by simp)
      simp at hm
      by_cases e2 : m = i
      · subst e2
        have hki : k = m := by omega
        subst hki
        rw [pairB_def h, not_take h (fun m hm hm' => hk2 m hm hm')]
        simp; omega
      · exact hi2 m (by omega)
  · simp at h
    simp [chkB, h1, h2, h3']
    intro k hk
    exact hi2 k (by omega)

theorem containsP_n (f : Bool) {n : Nat} (l : List (Int × Int)) (hn : n = l.length) (hl : l.length ≤ 1000000) (v : Int × Int) : PureOK Try.prog 57 [.sl f n (flat2 l), Pr v] (B (l.contains v)) := by
  subst hn; exact containsP_ok f l hl v

theorem bench_ok (f : Bool) (b : Bch) (hb : b.c.length ≤ 1000000) : PureOK Try.prog 20 [Bn f b] (I (chkB b)) := by
  refine pure_of (walk Try.func20 form20 res20 (by show 1 ≤ _; decide) ?_)
  simp (disch := omega) [G20, wrap_id]
  refine bsl_of rfl rfl ?_
  simp (disch := omega) [wrap_id, zrep]
  refine callW_pure rfl (within_ok 1 8 true [b.L] (by simp)) ?_
  simp (disch := omega) [wrap_id, allIn]
  by_cases h1 : b.L < 1
  · simp (disch := omega) [wrap_id, chkB, h1, show ¬ 1 ≤ b.L by omega]
  by_cases h2 : 8 < b.L
  · simp (disch := omega) [wrap_id, chkB, h1, h2, show 1 ≤ b.L by omega, show ¬ b.L ≤ 8 by omega]
  have h1' : 1 ≤ b.L := by omega
  have h2' : b.L ≤ 8 := by omega
  by_cases h3 : (28 : Int) < b.c.length
  · have h3' : 28 < b.c.length := by omega
    simp (disch := omega) [wrap_id, h1', h2', h3, h3', chkB]
  have h3' : ¬ 28 < b.c.length := by omega
  simp (disch := omega) [wrap_id, h1', h2', h3]
  refine loop_eq (fun p : Nat × List HObj => ⟨[(1, .ref 0 0), (17, Ps f b.c), (18, I b.c.length), (19, I p.1)], .cells [I b.L, Ps f b.c] :: p.2⟩) (fun p => p.1 ≤ b.c.length ∧ ∀ k, k < p.1 → pairB b k = true) (fun p => b.c.length - p.1) (0, []) ⟨by simp, fun k h => by simp at h⟩ rfl ?_
  rintro ⟨i, junk⟩ ⟨hi1, hi2⟩
  simp at hi1 hi2
  simp (disch := omega) [wrap_id]
  refine c_split (fun h => ?_) (fun h => ?_)
  · simp at h
    simp (disch := omega) [wrap_id, cells_pair, flat2_len, h]
    refine bsl_of rfl rfl ?_
    simp (disch := omega) [wrap_id, zrep]
    refine pureW_of rfl (within_ok 0 (b.L - 1) true [b.c[i].1, b.c[i].2] (by simp)) ?_
    simp (disch := omega) [wrap_id, allIn]
    by_cases hA : 0 ≤ b.c[i].1 ∧ b.c[i].1 ≤ b.L - 1 ∧ 0 ≤ b.c[i].2 ∧ b.c[i].2 ≤ b.L - 1
    · obtain ⟨g1, g2, g3, g4⟩ := hA
      by_cases a2 : b.c[i].2 ≤ b.c[i].1
      · simp (disch := omega) [wrap_id, g1, g2, g3, g4, a2]
        exact chkB_bad h1 h2 h3' h (by rw [pairB_def h]; simp; omega)
      simp (disch := omega) [wrap_id, g1, g2, g3, g4, a2, flat2_take, flat2_len, show i ≤ b.c.length by omega]
      refine pureW_of rfl (containsP_n _ (b.c.take i) (by simp; omega) (by simp; omega) (b.c[i].1, b.c[i].2)) ?_
      simp (disch := omega) [wrap_id]
      have pe : (b.c[i].1, b.c[i].2) = b.c[i] := rfl
      refine c_split (fun e => ?_) (fun e => ?_)
      · simp (disch := omega) [wrap_id]
        exact chkB_bad h1 h2 h3' h (by rw [pairB_def h]; simp at e ⊢; intros; exact e)
      · simp (disch := omega) [wrap_id]
        refine next_eq (i + 1, junk ++ [.cells [I b.c[i].1, I b.c[i].2]]) ⟨by simp; omega, fun m hm => ?_⟩ (by simp; omega) (by simp)
        simp at hm
        by_cases e2 : m = i
        · subst e2
          rw [pairB_def h]
          simp at e ⊢
          exact ⟨⟨⟨by omega, by omega⟩, by omega⟩, e⟩
        · exact hi2 m (by omega)
    · have e : (!decide (0 ≤ b.c[i].1) || !decide (b.c[i].1 ≤ b.L - 1) || (!decide (0 ≤ b.c[i].2) || !decide (b.c[i].2 ≤ b.L - 1))) = true := by
        simp; omega
      simp only [e]
      simp (disch := omega) [wrap_id]
      exact chkB_bad h1 h2 h3' h (by rw [pairB_def h]; simp; omega)
  · simp at h
    simp [chkB, h1, h2, h3']
    intro k hk
    exact hi2 k (by omega)

end Go.AM

/- CONTRACTS, PART 3: lists of strokes. Own work. -/
set_option linter.unusedSimpArgs false
set_option linter.unusedVariables false
namespace Go.AM
open Go.RowKit Go.Proofs

def strokeB (b : Bch) (n : Int) : Bool := (decide (1 ≤ n) && decide (n ≤ b.L)) || (decide (n ≤ -1) && decide (-b.L ≤ n))

def chkL (b : Bch) (l : List Int) : Int := if chkB b ≠ 0 then chkB b else if 60 < l.length then 6 else if l.all (strokeB b) then 0 else 3

theorem chkB_zero {b : Bch} (h : chkB b = 0) : 1 ≤ b.L ∧ b.L ≤ 8 ∧ b.c.length ≤ 28 := by
  simp only [chkB] at h
  split at h
  · omega
  · omega

theorem all_stroke (b : Bch) (l : List Int) : l.all (strokeB b) = (allIn (-b.L) b.L l && !l.contains 0) := by
  induction l with
  | nil => rfl
  | cons x l ih =>
    simp only [allIn, List.all_cons, List.contains_cons] at ih ⊢
    rw [ih]
    by_cases h0 : x = 0
    · subst h0; simp [strokeB]
    · have e : strokeB b x = (decide (-b.L ≤ x) && decide (x ≤ b.L)) := by
        rw [Bool.eq_iff_iff]; simp [strokeB]; omega
      have h0' : ((0 : Int) == x) = false := by simp; omega
      rw [e, h0']
      simp [Bool.and_assoc, Bool.and_left_comm]

theorem list_ok (f g : Bool) (b : Bch) (l : List Int) (hb : b.c.length ≤ 1000000) (hl : l.length ≤ 1000000) : PureOK Try.prog 22 [Bn f b, Ls g l] (I (chkL b l)) := by
  refine pure_of (walk Try.func22 form22 res22 (by show 2 ≤ _; decide) ?_)
  simp (disch := omega) [G22, wrap_id]
  refine callW_pure rfl (bench_ok f b hb) ?_
  simp (disch := omega) [wrap_id]
  refine c_split (fun h0 => ?_) (fun h0 => ?_)
  · simp at h0
    simp [chkL, h0]
  simp at h0
  obtain ⟨k1, k2, k3⟩ := chkB_zero h0
  simp (disch := omega) [wrap_id]
  refine c_split (fun h1 => ?_) (fun h1 => ?_)
  · simp at h1
    have h1' : 60 < l.length := by omega
    simp [chkL, h0, h1']
  simp at h1
  have h1' : ¬ 60 < l.length := by omega
  simp (disch := omega) [wrap_id]
  refine callW_pure rfl (within_ok (-b.L) b.L g l hl) ?_
  simp (disch := omega) [wrap_id]
  cases ha : allIn (-b.L) b.L l with
  | false =>
    simp (disch := omega) [wrap_id]
    simp [chkL, h0, h1', all_stroke, ha]
  | true =>
    simp (disch := omega) [wrap_id]
    refine callW_pure rfl (contains_ok g l hl 0) ?_
    simp (disch := omega) [wrap_id]
    refine c_split (fun h2 => ?_) (fun h2 => ?_)
    · simp at h2
      simp [chkL, h0, h1', all_stroke, ha, h2]
    · simp at h2
      simp [chkL, h0, h1', all_stroke, ha, h2]

theorem refList_ok (f g : Bool) (b : Bch) (l : List Int) (hb : b.c.length ≤ 1000000) (hl : l.length ≤ 1000000) : PureOK Try.prog 23 [Bn f b, Ls g l] (I (chkL b l)) := by
  refine pure_of (walk Try.func23 form23 res23 (by show 2 ≤ _; decide) ?_)
  simp (disch := omega) [G23, wrap_id]
  refine callW_pure rfl (refBench_ok f b hb) ?_
  simp (disch := omega) [wrap_id]
  refine c_split (fun h0 => ?_) (fun h0 => ?_)
  · simp at h0
    simp (disch := omega) [wrap_id]
    refine callW_pure rfl (refBench_ok f b hb) ?_
    simp [chkL, h0]
  simp at h0
  obtain ⟨k1, k2, k3⟩ := chkB_zero h0
  simp (disch := omega) [wrap_id]
  refine c_split (fun h1 => ?_) (fun h1 => ?_)
  · simp at h1
    have h1' : 60 < l.length := by omega
    simp [chkL, h0, h1']
  simp at h1
  have h1' : ¬ 60 < l.length := by omega
  simp (disch := omega) [wrap_id]
  refine loop_eq (fun i : Nat => ⟨[(1, Ls g l), (2, .ref 0 0), (5, I i)], [.cells [I b.L, Ps f b.c]]⟩) (fun i => i ≤ l.length ∧ ∀ k (h : k < l.length), k < i → strokeB b l[k] = true) (fun i => l.length - i) 0 ⟨by omega, fun k _ h => by omega⟩ rfl ?_
  intro i ⟨hi1, hi2⟩
  simp (disch := omega) [wrap_id]
  refine c_split (fun h => ?_) (fun h => ?_)
  · simp at h
    simp (disch := omega) [wrap_id, cells_ls, h]
    refine pureW_of rfl (isStroke_ok f b (by omega) l[i]) ?_
    rw [show ((decide (1 ≤ l[i]) && decide (l[i] ≤ b.L)) || (decide (l[i] ≤ -1) && decide (-b.L ≤ l[i]))) = strokeB b l[i] from rfl]
    simp (disch := omega) [wrap_id]
    refine c_split (fun h2 => ?_) (fun h2 => ?_)
    · simp at h2
      simp (disch := omega) [wrap_id]
      have : l.all (strokeB b) = false := by
        rw [List.all_eq_false]; exact ⟨l[i], List.getElem_mem h, by simp [h2]⟩
      simp only [chkL, h0, h1', this]; simp
    · simp at h2
      simp (disch := omega) [wrap_id]
      refine next_eq (i + 1) ⟨by omega, fun k hk hk' => ?_⟩ (by omega) (by simp)
      by_cases e : k = i
      · subst e; exact h2
      · exact hi2 k hk (by omega)
  · simp at h
    simp (disch := omega) [wrap_id]
    have : l.all (strokeB b) = true := by
      rw [List.all_eq_true]
      intro x hx
      obtain ⟨k, hk, rfl⟩ := List.getElem_of_mem hx
      exact hi2 k hk (by omega)
    simp only [chkL, h0, h1', this]; simp

end Go.AM

/- CONTRACTS, PART 4: short forms as the specification makes them. Own work. -/
set_option linter.unusedSimpArgs false
set_option linter.unusedVariables false
namespace Go.AM
open Go.RowKit Go.Proofs

@[simp high] theorem ls_isPC (l : List Int) : (l.map fun n => I n).all AV.isPC = true := by simp [List.all_eq_true]
@[simp high] theorem ls_isPure (l : List Int) : (l.map fun n => I n).all AV.isPure = true := by simp [List.all_eq_true]

theorem out_ls {id n : Nat} {l : List Int} {hp : List HObj} (h : nthH hp id = some (.cells (l.map fun n => I n))) (hn : n = l.length) : Out (Ls false l) (.ms id 0 n 1) hp := by
  subst hn
  rw [nthH_eq] at h
  refine out_of (is := [id]) ?_
  simp only [purify, purify1, hpf, h]
  rw [if_pos ⟨by simp, ls_isPure l⟩]
  simp only [view, List.drop_zero, Nat.mul_one]
  rw [List.take_of_length_le (by simp)]

theorem two_ok (f g h : Bool) (b : Bch) (l m : List Int) (hb : b.c.length ≤ 1000000) (hl : l.length ≤ 1000000) (hm : m.length ≤ 1000000) :
    PureOK Try.prog 62 [Bn f b, Ls g l, Ls h m] (I (if chkL b l ≠ 0 then chkL b l else chkL b m)) := by
  refine pure_of (walk Try.func62 form62 res62 (by show 3 ≤ _; decide) ?_)
  simp (disch := omega) [G62, wrap_id]
  refine callW_pure rfl (refList_ok f g b l hb hl) ?_
  simp (disch := omega) [wrap_id]
  refine c_split (fun h0 => ?_) (fun h0 => ?_)
  · simp at h0
    simp (disch := omega) [wrap_id]
    refine callW_pure rfl (refList_ok f g b l hb hl) ?_
    simp [h0]
  · simp at h0
    simp (disch := omega) [wrap_id]
    refine callW_pure rfl (refList_ok f h b m hb hm) ?_
    simp [h0]

/-- Whether a stroke and its stroke back can be brought beside each other: how far from i on the strokes can be exchanged with that at i. -/
theorem int_neg_ok (n : Int) (h : -1000000 ≤ n ∧ n ≤ 1000000) : IntKind.i64.wrap (0 - n) = -n := by rw [wrap_id (by omega)]; omega

theorem without_ok (f : Bool) (l : List Int) (hl : l.length ≤ 1000000) (i : Nat) (hi : i < l.length) : PureOK Try.prog 74 [Ls f l, I i] (Ls false (l.eraseIdx i)) := by
  refine pure_of (walk Try.func74 form74 res74 (by show 2 ≤ _; decide) ?_)
  simp (disch := omega) [G74, wrap_id]
  refine bsl_of rfl rfl ?_
  simp (disch := omega) [wrap_id, zrep, ← List.map_take, ← List.map_drop, ← List.map_append]
  refine ⟨by omega, ⟨by omega, by omega⟩, by omega, ⟨by omega, by omega⟩, ?_⟩
  have e : List.take i (List.take i l) ++ List.take (l.length - (i + 1)) (List.drop (i + 1) l) = l.eraseIdx i := by
    rw [List.eraseIdx_eq_take_drop_succ, List.take_take, Nat.min_self, List.take_of_length_le (l := List.drop (i + 1) l) (by simp)]
  rw [e]
  exact out_ls (by simp) (by rw [List.length_eraseIdx]; simp [hi]; omega)

end Go.AM

/- CONTRACTS, PART 5: strokes that undo one another. Own work. -/
set_option linter.unusedSimpArgs false
set_option linter.unusedVariables false
namespace Go.AM
open Go.RowKit Go.Proofs

/-- How far on the stroke back of s stands, if it can be brought to s. -/
def reach (b : Bch) (s : Int) : List Int → Option Nat
  | [] => none
  | x :: r => if x = -s then some 0 else if canB b s x = true then (reach b s r).map (· + 1) else none

/-- The first pair that can be undone. -/
def undo (b : Bch) : List Int → Option (Nat × Nat)
  | [] => none
  | s :: r => match reach b s r with
    | some k => some (0, k + 1)
    | none => (undo b r).map fun p => (p.1 + 1, p.2 + 1)

def uI : Option (Nat × Nat) → Int
  | some p => p.1
  | none => -1
def uK : Option (Nat × Nat) → Int
  | some p => p.2
  | none => -1
abbrev undoAV (o : Option (Nat × Nat)) : AV := .tup [I (uI o), I (uK o)]

/-- All numbers small. -/
def Small (l : List Int) : Prop := ∀ x ∈ l, -1000000 ≤ x ∧ x ≤ 1000000

theorem Small.at {l : List Int} (h : Small l) {i : Nat} (hi : i < l.length) : -1000000 ≤ l[i] ∧ l[i] ≤ 1000000 := h _ (List.getElem_mem hi)

theorem undone_ok (f g : Bool) (b : Bch) (l : List Int) (hb : b.c.length ≤ 1000000) (hl : l.length ≤ 1000000) (hs : Small l) : PureOK Try.prog 101 [Bn f b, Ls g l] (undoAV (undo b l)) := by
  refine pure_of (walk Try.func101 form101 res101 (by show 2 ≤ _; decide) ?_)
  simp (disch := omega) [G101, wrap_id]
  refine loop_eq (fun i : Nat => ⟨[(1, Ls g l), (2, .ref 0 0), (6, I i)], [.cells [I b.L, Ps f b.c]]⟩) (fun i => i ≤ l.length ∧ undo b l = (undo b (l.drop i)).map fun p => (p.1 + i, p.2 + i)) (fun i => l.length - i) 0 ⟨by omega, by simp⟩ rfl ?_
  intro i ⟨hi1, hi2⟩
  simp (disch := omega) [wrap_id]
  refine c_split (fun h => ?_) (fun h => ?_)
  · simp at h
    have hsi := hs.at h
    simp (disch := omega) [wrap_id]
    refine loop_eq (fun k : Nat => ⟨[(1, Ls g l), (2, .ref 0 0), (6, I i), (7, I k)], [.cells [I b.L, Ps f b.c]]⟩) (fun k => i + 1 ≤ k ∧ k ≤ l.length ∧ reach b l[i] (l.drop (i + 1)) = (reach b l[i] (l.drop k)).map (· + (k - (i + 1)))) (fun k => l.length - k) (i + 1) ⟨by omega, by omega, by simp⟩ (by simp) ?_
    intro k ⟨hk1, hk2, hk3⟩
    simp (disch := omega) [wrap_id]
    have fail : reach b l[i] (l.drop k) = none → undo b l = (undo b (l.drop (i + 1))).map fun p => (p.1 + (i + 1), p.2 + (i + 1)) := fun hn => by
      rw [hi2, List.drop_eq_getElem_cons h]
      simp only [undo, hk3, hn, Option.map_none]
      rw [Option.map_map]
      congr 1
      funext p
      simp only [Function.comp]
      congr 1 <;> omega
    by_cases hk : k < l.length
    · have hsk := hs.at hk
      by_cases hx : l[k] = -l[i]
      · simp (disch := omega) [wrap_id, cells_ls, h, hk, hx]
        have e : undo b l = some (i, k) := by
          rw [hi2, List.drop_eq_getElem_cons h]
          simp only [undo, hk3]
          rw [List.drop_eq_getElem_cons hk]
          simp only [reach, if_pos hx, Option.map_some]
          have : 0 + (k - (i + 1)) + 1 + i = k := by omega
          rw [this, Nat.zero_add]
        rw [e]
        exact ⟨[], rfl⟩
      · have hx' : (l[k] == -l[i]) = false := by simpa using hx
        simp (disch := omega) [wrap_id, cells_ls, h, hk, hx']
        refine pureW_of rfl (refCan_ok f b hb l[i] l[k] hsi hsk) ?_
        simp (disch := omega) [wrap_id, cells_ls, h, hk, hx']
        cases hc : canB b l[i] l[k] with
        | true =>
          simp (disch := omega) [wrap_id, cells_ls, h, hk, hx']
          refine next_eq (k + 1) ⟨by omega, by omega, ?_⟩ (by omega) (by simp)
          rw [hk3, List.drop_eq_getElem_cons hk]
          simp only [reach]
          rw [if_neg hx, if_pos hc, Option.map_map]
          congr 1
          funext p
          simp only [Function.comp]
          omega
        | false =>
          simp (disch := omega) [wrap_id, cells_ls, h, hk, hx']
          refine next_eq (i + 1) ⟨by omega, fail ?_⟩ (by omega) (by simp)
          rw [List.drop_eq_getElem_cons hk]
          simp only [reach]
          rw [if_neg hx, if_neg (by simp [hc])]
    · simp (disch := omega) [wrap_id, hk]
      refine next_eq (i + 1) ⟨by omega, fail ?_⟩ (by omega) (by simp)
      rw [List.drop_of_length_le (by omega)]
      rfl
  · simp at h
    have e : l.drop i = [] := List.drop_of_length_le h
    rw [hi2, e]
    simp [undo, undoAV]
    exact ⟨[], rfl⟩

end Go.AM

/- CONTRACTS, PART 6: shortest lists, and which stroke comes first. Own work. -/
set_option linter.unusedSimpArgs false
set_option linter.unusedVariables false
namespace Go.AM
open Go.RowKit Go.Proofs

theorem purifyAll2 {hp : Hp} {a x a' y : AV} {i1 i2 : List Nat} (h1 : purify hp a = some (a', i1)) (h2 : purify hp x = some (y, i2)) : purifyAll hp [a, x] = some ([a', y], i1 ++ i2) := by
  simp [purifyAll, h1, h2]

/-- A variable holds a list, by value or as a made one, and not the object 0. -/
def Holds (hp : List HObj) (x : AV) (l : List Int) : Prop := ∃ ids, purify (hpf hp) x = some (Ls false l, ids) ∧ 0 ∉ ids

theorem nthH_gones {hp : List HObj} {ids : List Nat} (h : ∀ i ∈ ids, i < hp.length) (h0 : 0 ∉ ids) : nthH (writeL hp (gones ids)) 0 = nthH hp 0 := by
  have h1 : ∀ p ∈ gones ids, p.1 ≤ hp.length := fun p hp' => by
    simp only [gones, List.mem_map] at hp'
    obtain ⟨i, hi, rfl⟩ := hp'
    exact Nat.le_of_lt (h i hi)
  have h2 := congrFun (hpf_write h1) 0
  rw [write_gones, if_neg h0] at h2
  rw [nthH_eq, nthH_eq]
  exact h2

/-- A shortest list. -/
def redF (b : Bch) : Nat → List Int → List Int
  | 0, l => l
  | n + 1, l => match undo b l with
    | some (i, k) => redF b n ((l.eraseIdx k).eraseIdx i)
    | none => l
def red (b : Bch) (l : List Int) : List Int := redF b l.length l

theorem reach_lt {b : Bch} {s : Int} : ∀ {l : List Int} {k}, reach b s l = some k → k < l.length
  | [], k, h => by cases h
  | x :: r, k, h => by
    simp only [reach] at h
    split at h
    · cases h; simp
    · split at h
      · simp only [Option.map_eq_some_iff] at h
        obtain ⟨j, hj, rfl⟩ := h
        have := reach_lt hj
        simp; omega
      · cases h

theorem undo_lt {b : Bch} : ∀ {l : List Int} {i k}, undo b l = some (i, k) → i < k ∧ k < l.length
  | [], i, k, h => by cases h
  | s :: r, i, k, h => by
    simp only [undo] at h
    split at h
    · rename_i j hj
      cases h
      have := reach_lt hj
      simp; omega
    · simp only [Option.map_eq_some_iff] at h
      obtain ⟨⟨i', k'⟩, h', e⟩ := h
      cases e
      have := undo_lt h'
      simp; omega

theorem redF_more (b : Bch) : ∀ (n m : Nat) (l : List Int), l.length ≤ n → l.length ≤ m → redF b n l = redF b m l
  | 0, m, l, h, _ => by
    have : l = [] := List.eq_nil_of_length_eq_zero (by omega)
    subst this
    cases m <;> rfl
  | n + 1, 0, l, _, h => by
    have : l = [] := List.eq_nil_of_length_eq_zero (by omega)
    subst this; rfl
  | n + 1, m + 1, l, h1, h2 => by
    simp only [redF]
    split
    · rename_i i k hu
      have := undo_lt hu
      refine redF_more b n m _ ?_ ?_
      · rw [List.length_eraseIdx, List.length_eraseIdx]; (repeat' split) <;> omega
      · rw [List.length_eraseIdx, List.length_eraseIdx]; (repeat' split) <;> omega
    · rfl

theorem Small.erase {l : List Int} (h : Small l) (i : Nat) : Small (l.eraseIdx i) := fun x hx => h x (List.mem_of_mem_eraseIdx hx)

theorem reduced_ok (f g : Bool) (b : Bch) (l : List Int) (hb : b.c.length ≤ 1000000) (hl : l.length ≤ 1000000) (hs : Small l) : PureOK Try.prog 77 [Bn f b, Ls g l] (Ls false (red b l)) := by
  refine pure_of (walk Try.func77 form77 res77 (by show 2 ≤ _; decide) ?_)
  simp (disch := omega) [G77, wrap_id]
  refine bsl_of rfl rfl ?_
  simp (disch := omega) [wrap_id, zrep]
  refine ⟨⟨by omega, by omega⟩, ?_⟩
  have hp1 : purify (hpf [.cells [I b.L, Ps f b.c], .cells (l.map fun n => I n)]) (.ms 1 0 l.length 1) = some (Ls false l, [1]) := by
    have e : hpf [.cells [I b.L, Ps f b.c], .cells (l.map fun n => I n)] 1 = some (.cells (l.map fun n => I n)) := rfl
    simp only [purify, purify1, e]
    rw [if_pos ⟨by simp, ls_isPure l⟩]
    simp only [view, List.drop_zero, Nat.mul_one]
    rw [List.take_of_length_le (by simp)]
  refine callW_pure (purifyAll2 rfl hp1) (undone_ok f false b l hb hl hs) ?_
  simp (disch := omega) [wrap_id]
  refine loop_eq (fun p : AV × List HObj × List Int => ⟨[(2, .ref 0 0), (5, p.1), (6, I (uI (undo b p.2.2))), (7, I (uK (undo b p.2.2)))], p.2.1⟩)
    (fun p => nthH p.2.1 0 = some (.cells [I b.L, Ps f b.c]) ∧ Holds p.2.1 p.1 p.2.2 ∧ p.2.2.length ≤ 1000000 ∧ Small p.2.2 ∧ red b l = red b p.2.2) (fun p => p.2.2.length)
    (.ms 1 0 l.length 1, [.cells [I b.L, Ps f b.c], .cells (l.map fun n => I n)], l) ⟨rfl, ⟨[1], hp1, by simp⟩, hl, hs, rfl⟩ rfl ?_
  rintro ⟨x, hp, m⟩ ⟨c1, ⟨ids, c2, c3⟩, c4, c5, c6⟩
  simp only at c1 c2 c3 c4 c5 c6
  have hlt : ∀ i ∈ ids, i < hp.length := fun i hi => by
    obtain ⟨cs, hcs⟩ := purify_ids c2 i hi
    exact hpf_lt hcs
  simp (disch := omega) [wrap_id]
  cases hu : undo b m with
  | none =>
    simp [uI]
    have e : red b m = m := by
      unfold red
      cases hm : m.length with
      | zero => rfl
      | succ n => simp only [redF, hu]
    rw [c6, e]
    exact out_of c2
  | some q =>
    obtain ⟨i, k⟩ := q
    obtain ⟨u1, u2⟩ := undo_lt hu
    simp (disch := omega) [uI, uK, wrap_id]
    refine callW_pure (purifyAll2 c2 rfl) (without_ok false m c4 k u2) ?_
    simp (disch := omega) [wrap_id]
    refine callW_pure rfl (without_ok false (m.eraseIdx k) (by rw [List.length_eraseIdx]; split <;> omega) i (by rw [List.length_eraseIdx]; split <;> omega)) ?_
    have hm1 : ((m.eraseIdx k).eraseIdx i).length + 2 = m.length := by rw [List.length_eraseIdx, List.length_eraseIdx]; (repeat' split) <;> omega
    simp (disch := omega) [wrap_id, nthH_gones hlt c3, c1]
    refine callW_pure rfl (undone_ok f false b ((m.eraseIdx k).eraseIdx i) hb (by omega) ((c5.erase k).erase i)) ?_
    simp (disch := omega) [wrap_id]
    refine next_eq (Ls false ((m.eraseIdx k).eraseIdx i), writeL hp (gones ids), (m.eraseIdx k).eraseIdx i) ⟨by rw [nthH_gones hlt c3]; exact c1, ⟨[], rfl, by simp⟩, by simp only; omega, (c5.erase k).erase i, ?_⟩ (by simp only; omega) rfl
    rw [c6]
    unfold red
    have e : m.length = (m.length - 1) + 1 := by omega
    rw [e]
    simp only [redF, hu]
    exact redF_more b _ _ _ (by omega) (by omega)

end Go.AM

/- CONTRACTS, PART 7: the stroke that comes first; short forms. Own work. -/
set_option linter.unusedSimpArgs false
set_option linter.unusedVariables false
namespace Go.AM
open Go.RowKit Go.Proofs

def keyR (n : Int) : Int := if n < 0 then 2 * lineI n + 1 else 2 * lineI n

theorem refKey_ok (n : Int) (h : -1000000 ≤ n ∧ n ≤ 1000000) : PureOK Try.prog 99 [I n] (I (keyR n)) := by
  refine pure_of (walk Try.func99 form99 res99 (by show 1 ≤ _; decide) ?_)
  simp (disch := omega) [G99, wrap_id]
  by_cases h1 : n < 0
  · simp (disch := omega) [wrap_id, h1]
    refine callW_pure rfl (refLine_ok n h) ?_
    simp (disch := omega) [wrap_id, h1, keyR, lineI]
  · simp (disch := omega) [wrap_id, h1]
    refine callW_pure rfl (refLine_ok n h) ?_
    simp (disch := omega) [wrap_id, h1, keyR, lineI]

/-- Whether a stroke of a list can be brought to its front. -/
def freeTo (b : Bch) (l : List Int) (i k : Nat) : Bool := (List.range k).all fun k => canB b (l.getD k 0) (l.getD i 0)
def freeB (b : Bch) (l : List Int) (i : Nat) : Bool := freeTo b l i i
theorem freeTo_zero (b : Bch) (l : List Int) (i : Nat) : freeTo b l i 0 = true := rfl
theorem freeTo_succ {b : Bch} {l : List Int} {i k : Nat} (hi : i < l.length) (hk : k < l.length) : freeTo b l i (k + 1) = (freeTo b l i k && canB b l[k] l[i]) := by
  simp [freeTo, List.range_succ, List.all_append, hi, hk]

def bestStep (b : Bch) (l : List Int) (best : Int) (i : Nat) : Int :=
  if freeB b l i = true ∧ (best < 0 ∨ keyR (l.getD i 0) < keyR (l.getD best.toNat 0)) then i else best

def firstI (b : Bch) (l : List Int) (n : Nat) : Int := (List.range n).foldl (bestStep b l) (-1)

theorem firstI_succ (b : Bch) (l : List Int) (n : Nat) : firstI b l (n + 1) = bestStep b l (firstI b l n) n := by
  simp [firstI, List.range_succ]

theorem firstI_lt (b : Bch) (l : List Int) : ∀ n, -1 ≤ firstI b l n ∧ firstI b l n < n
  | 0 => by simp [firstI]
  | n + 1 => by
    rw [firstI_succ]
    have := firstI_lt b l n
    unfold bestStep
    split <;> omega

theorem range_all_succ {p : Nat → Bool} (n : Nat) : (List.range (n + 1)).all p = ((List.range n).all p && p n) := by
  simp [List.range_succ, List.all_append]

theorem first_ok (f g : Bool) (b : Bch) (l : List Int) (hb : b.c.length ≤ 1000000) (hl : l.length ≤ 1000000) (hs : Small l) : PureOK Try.prog 78 [Bn f b, Ls g l] (I (firstI b l l.length)) := by
  refine pure_of (walk Try.func78 form78 res78 (by show 2 ≤ _; decide) ?_)
  simp (disch := omega) [G78, wrap_id]
  refine loop_eq (fun i : Nat => ⟨[(1, Ls g l), (2, .ref 0 0), (5, I (firstI b l i)), (6, I i)], [.cells [I b.L, Ps f b.c]]⟩) (fun i => i ≤ l.length) (fun i => l.length - i) 0 (by omega) rfl ?_
  intro i hi
  simp (disch := omega) [wrap_id]
  by_cases h : i < l.length
  · simp (disch := omega) [wrap_id, h]
    refine loop_eq (fun k : Nat => ⟨[(1, Ls g l), (2, .ref 0 0), (5, I (firstI b l i)), (6, I i), (7, B (freeTo b l i k)), (8, I k)], [.cells [I b.L, Ps f b.c]]⟩) (fun k => k ≤ i) (fun k => i - k) 0 (by omega) rfl ?_
    intro k hk
    simp (disch := omega) [wrap_id]
    by_cases hk1 : k < i
    · have hk2 : k < l.length := by omega
      simp (disch := omega) [wrap_id, hk1]
      cases hf : freeTo b l i k with
      | false =>
        simp (disch := omega) [wrap_id]
        exact next_eq (k + 1) (by omega) (by omega) (by simp [freeTo_succ h hk2, hf])
      | true =>
        simp (disch := omega) [wrap_id, cells_ls, h, hk2]
        refine pureW_of rfl (refCan_ok f b hb l[k] l[i] (hs.at hk2) (hs.at h)) ?_
        simp (disch := omega) [wrap_id]
        exact next_eq (k + 1) (by omega) (by omega) (by simp [freeTo_succ h hk2, hf])
    · have hki : k = i := by omega
      subst hki
      simp (disch := omega) [wrap_id]
      have hb1 := firstI_lt b l k
      have hstep : firstI b l (k + 1) = bestStep b l (firstI b l k) k := firstI_succ b l k
      have hsk := hs.at h
      cases hf : freeTo b l k k with
      | false =>
        simp (disch := omega) [wrap_id]
        exact next_eq (k + 1) (by omega) (by omega) (by simp [hstep, bestStep, freeB, hf])
      | true =>
        by_cases hn : firstI b l k < 0
        · simp (disch := omega) [wrap_id, hn]
          exact next_eq (k + 1) (by omega) (by omega) (by simp [hstep, bestStep, freeB, hf, hn])
        · have hj : (firstI b l k).toNat < l.length := by omega
          have hsj := hs.at hj
          simp (disch := omega) [wrap_id, hn, cells_ls, h, hj]
          refine pureW_of rfl (refKey_ok l[k] hsk) ?_
          simp (disch := omega) [wrap_id, hn, cells_ls, h, hj]
          refine ⟨by omega, ?_⟩
          refine pureW_of rfl (refKey_ok _ hsj) ?_
          simp (disch := omega) [wrap_id]
          refine c_split (fun e => ?_) (fun e => ?_)
          · simp at e
            simp (disch := omega) [wrap_id]
            exact next_eq (k + 1) (by omega) (by omega) (by simp [hstep, bestStep, freeB, hf, hn, h, hj, e])
          · simp at e
            simp (disch := omega) [wrap_id]
            exact next_eq (k + 1) (by omega) (by omega) (by
              have : ¬ keyR l[k] < keyR l[(firstI b l k).toNat] := by omega
              simp [hstep, bestStep, freeB, hf, hn, h, hj, this])
  · have e : i = l.length := by omega
    subst e
    simp

end Go.AM

/- CONTRACTS, PART 8: lists that grow; short forms. Own work. -/
set_option linter.unusedSimpArgs false
set_option linter.unusedVariables false
namespace Go.AM
open Go.RowKit Go.Proofs

/-- A variable holds a list that grows: none yet, or a made one, not at 0. -/
def Acc (hp : List HObj) (x : AV) (acc : List Int) : Prop := (x = .sl true 0 [] ∧ acc = []) ∨ ∃ id, x = .ms id 0 acc.length 1 ∧ 0 < id ∧ acc ≠ [] ∧ nthH hp id = some (.cells (acc.map fun n => I n))

theorem nthH_writeL {hp : List HObj} {ws : List (Nat × HObj)} (h : ∀ p ∈ ws, p.1 ≤ hp.length) (i : Nat) : nthH (writeL hp ws) i = Hp.write (hpf hp) ws i := by
  rw [nthH_eq]; exact congrFun (hpf_write h) i

theorem app_acc {hp : List HObj} {x : AV} {acc : List Int} {v : Int} {K : AV → List (Nat × HObj) → Prop} (hA : Acc hp x acc) (h0 : 0 < hp.length) (hl : acc.length ≤ 1000000)
    (hK : ∀ ws, nthH (writeL hp ws) 0 = nthH hp 0 → 0 < (writeL hp ws).length → Acc (writeL hp ws) (.ms hp.length 0 (acc.length + 1) 1) (acc ++ [v]) → K (.ms hp.length 0 (acc.length + 1) 1) ws) :
    AppW hp 1 8 x (.sl true 1 [I v]) K := by
  have pos : ∀ ws, 0 < (writeL hp ws).length := fun ws => Nat.lt_of_lt_of_le h0 (writeL_len ws hp)
  rcases hA with ⟨rfl, rfl⟩ | ⟨id, rfl, hid, hne, hc⟩
  · rw [app_sl]
    refine ⟨by simp, ?_⟩
    refine hK _ ?_ (pos _) (.inr ⟨hp.length, by simp, h0, by simp, ?_⟩)
    · rw [nthH_writeL (by simp), nthH_eq]
      simp only [Hp.write]
      rw [Hp.set_other _ _ (by omega)]; rfl
    · rw [nthH_writeL (by simp)]
      simp [Hp.write, Hp.set_same]
  · have hlt : id < hp.length := by rw [nthH_eq] at hc; exact hpf_lt hc
    rw [app_ms, hc, appr_some]
    refine ⟨by simp; omega, ?_⟩
    refine hK _ ?_ (pos _) (.inr ⟨hp.length, by simp, h0, by simp, ?_⟩)
    · rw [nthH_writeL (by simp; omega), nthH_eq]
      simp only [Hp.write]
      rw [Hp.set_other _ _ (by omega), Hp.set_other _ _ (by omega)]; rfl
    · rw [nthH_writeL (by simp; omega)]
      simp [Hp.write, Hp.set_same]
      rw [List.take_of_length_le (by simp)]

/-- Nothing said of spare room. -/
def weak1 : AV → AV
  | .sl _ n cs => .sl false n cs
  | x => x
def weak : AV → AV
  | .tup vs => .tup (vs.map weak1)
  | .agg vs => .agg (vs.map weak1)
  | x => weak1 x

theorem weak1_rep {w g p x v} (h : Rep w g p x v) : Rep w g p (weak1 x) v := by
  cases x with
  | sl f n cs =>
    cases h with
    | sl _ _ _ _ a cap vs hn hf hc hr => exact .sl _ false n cs a cap vs hn (fun e => by cases e) hc hr
  | _ => exact h

theorem weak_rep {w g p x v} (h : Rep w g p x v) : Rep w g p (weak x) v := by
  cases x with
  | tup us =>
    cases h with
    | tup _ _ vs hl hr => exact .tup _ _ vs (by simp [hl]) (fun i hi => by simpa using weak1_rep (hr i (by simpa using hi)))
  | agg us =>
    cases h with
    | agg _ _ vs hl hr => exact .agg _ _ vs (by simp [hl]) (fun i hi => by simpa using weak1_rep (hr i (by simpa using hi)))
  | _ => exact weak1_rep h

theorem pure_weak {P : Program} {f : FuncId} {xs : List AV} {r : AV} (h : PureOK P f xs r) : PureOK P f xs (weak r) := fun ro n w g vs h1 h2 h3 =>
  (h ro n w g vs h1 h2 h3).mono fun e w' ⟨v, g', e1, e2, e3⟩ => ⟨v, g', e1, weak_rep e2, e3⟩

/-- Taking out the first ones, again and again. -/
def formF (b : Bch) : Nat → List Int → List Int
  | 0, _ => []
  | n + 1, l => match l with
    | [] => []
    | x :: r => (x :: r).getD (firstI b (x :: r) (r.length + 1)).toNat 0 :: formF b n ((x :: r).eraseIdx (firstI b (x :: r) (r.length + 1)).toNat)
def form (b : Bch) (l : List Int) : List Int := formF b (red b l).length (red b l)

end Go.AM

/- CONTRACTS, PART 9: the short form as the specification makes it. Own work. -/
set_option linter.unusedSimpArgs false
set_option linter.unusedVariables false
namespace Go.AM
open Go.RowKit Go.Proofs

theorem redF_len (b : Bch) : ∀ (n : Nat) (l : List Int), (redF b n l).length ≤ l.length
  | 0, l => Nat.le_refl _
  | n + 1, l => by
    simp only [redF]
    split
    · refine Nat.le_trans (redF_len b n _) ?_
      rw [List.length_eraseIdx, List.length_eraseIdx]; (repeat' split) <;> omega
    · exact Nat.le_refl _

theorem redF_small (b : Bch) : ∀ (n : Nat) (l : List Int), Small l → Small (redF b n l)
  | 0, l, h => h
  | n + 1, l, h => by
    simp only [redF]
    split
    · exact redF_small b n _ ((h.erase _).erase _)
    · exact h

theorem firstI_pos (b : Bch) (l : List Int) : ∀ n, 0 < n → 0 ≤ firstI b l n
  | 0, h => by omega
  | n + 1, _ => by
    rw [firstI_succ]
    by_cases h : n = 0
    · subst h; simp [bestStep, firstI, freeB, freeTo]
    · have := firstI_pos b l n (by omega)
      unfold bestStep
      split <;> omega

theorem formF_step (b : Bch) (l : List Int) (h : 0 < l.length) : formF b l.length l = l.getD (firstI b l l.length).toNat 0 :: formF b (l.length - 1) (l.eraseIdx (firstI b l l.length).toNat) := by
  cases l with
  | nil => simp at h
  | cons x r => rfl

theorem form_ok (f g : Bool) (b : Bch) (l : List Int) (hb : b.c.length ≤ 1000000) (hl : l.length ≤ 1000) (hs : Small l) : PureOK Try.prog 40 [Bn f b, Ls g l] (Ls (form b l).isEmpty (form b l)) := by
  refine pure_of (walk Try.func40 form40 res40 (by show 2 ≤ _; decide) ?_)
  simp (disch := omega) [G40, wrap_id]
  refine callW_pure rfl (reduced_ok f g b l hb (by omega) hs) ?_
  simp (disch := omega) [wrap_id]
  have hr1 := redF_len b l.length l
  refine loop_eq (fun p : List Int × AV × List HObj × List Int => ⟨[(2, .ref 0 0), (5, Ls false p.1), (6, p.2.1)], p.2.2.1⟩)
    (fun p => nthH p.2.2.1 0 = some (.cells [I b.L, Ps f b.c]) ∧ 0 < p.2.2.1.length ∧ Acc p.2.2.1 p.2.1 p.2.2.2 ∧ p.1.length + p.2.2.2.length ≤ 1000 ∧ Small p.1 ∧ form b l = p.2.2.2 ++ formF b p.1.length p.1) (fun p => p.1.length)
    (red b l, .sl true 0 [], [.cells [I b.L, Ps f b.c]], []) ⟨rfl, by simp, .inl ⟨rfl, rfl⟩, by simp [red]; omega, redF_small b _ _ hs, rfl⟩ rfl ?_
  rintro ⟨m, x, hp, acc⟩ ⟨c1, c2, c3, c4, c5, c6⟩
  simp only at c1 c2 c3 c4 c5 c6
  simp (disch := omega) [wrap_id]
  refine c_split (fun h => ?_) (fun h => ?_)
  · simp at h
    have hj1 := firstI_lt b m m.length
    have hj2 := firstI_pos b m m.length h
    obtain ⟨j, hj⟩ : ∃ j : Nat, firstI b m m.length = j := ⟨(firstI b m m.length).toNat, by omega⟩
    have hjl : j < m.length := by omega
    simp (disch := omega) [wrap_id, c1]
    refine callW_pure rfl (first_ok f false b m hb (by omega) c5) ?_
    rw [hj]
    simp (disch := omega) [wrap_id, cells_ls, hjl]
    refine bsl_of rfl rfl ?_
    simp (disch := omega) [wrap_id, zrep]
    refine app_acc c3 c2 (by omega) fun ws h0 hp' hA => ?_
    simp (disch := omega) [wrap_id]
    refine callW_pure rfl (without_ok false m (by omega) j hjl) ?_
    simp (disch := omega) [wrap_id]
    have hm1 : (m.eraseIdx j).length = m.length - 1 := by rw [List.length_eraseIdx, if_pos hjl]
    refine next_eq (m.eraseIdx j, .ms hp.length 0 (acc.length + 1) 1, writeL hp ws, acc ++ [m[j]]) ⟨by rw [h0]; exact c1, hp', hA, by simp only [List.length_append, List.length_singleton]; omega, c5.erase j, ?_⟩ (by simp only; omega) rfl
    simp only
    rw [c6, formF_step b m h, hj, hm1]
    simp [hjl]
  · simp at h
    subst h
    simp
    have e : form b l = acc := by rw [c6]; simp [formF]
    rw [e]
    rcases c3 with ⟨rfl, rfl⟩ | ⟨id, rfl, hid, hne, hc⟩
    · exact ⟨[], rfl⟩
    · have e2 : acc.isEmpty = false := by simpa using hne
      rw [e2]
      exact out_ls hc rfl

end Go.AM

/- CONTRACTS, PART 10: what the specification answers. Own work. -/
set_option linter.unusedSimpArgs false
set_option linter.unusedVariables false
namespace Go.AM
open Go.RowKit Go.Proofs

theorem chkL_zero {b : Bch} {l : List Int} (h : chkL b l = 0) : chkB b = 0 ∧ l.length ≤ 60 ∧ ∀ x ∈ l, strokeB b x = true := by
  simp only [chkL] at h
  split at h
  · rename_i h1; exact absurd h h1
  · rename_i h1
    split at h
    · omega
    · split at h
      · rename_i h2 h3; exact ⟨by simpa using h1, by omega, List.all_eq_true.1 h3⟩
      · omega

theorem strokeB_abs {b : Bch} (hb : chkB b = 0) {x : Int} (h : strokeB b x = true) : -8 ≤ x ∧ x ≤ 8 ∧ x ≠ 0 := by
  obtain ⟨k1, k2, _⟩ := chkB_zero hb
  simp [strokeB] at h
  omega

theorem chkL_small {b : Bch} {l : List Int} (h : chkL b l = 0) : Small l := fun x hx => by
  obtain ⟨h1, _, h3⟩ := chkL_zero h
  have := strokeB_abs h1 (h3 x hx)
  omega

def shortR (b : Bch) (l : List Int) : List Int := if chkL b l ≠ 0 then [] else form b l

theorem refShort_ok (f g : Bool) (b : Bch) (l : List Int) (hb : b.c.length ≤ 1000000) (hl : l.length ≤ 1000000) : PureOK Try.prog 25 [Bn f b, Ls g l] (.tup [Ls (shortR b l).isEmpty (shortR b l), I (chkL b l)]) := by
  refine pure_of (walk Try.func25 form25 res25 (by show 2 ≤ _; decide) ?_)
  simp (disch := omega) [G25, wrap_id]
  refine callW_pure rfl (refList_ok f g b l hb hl) ?_
  simp (disch := omega) [wrap_id]
  refine c_split (fun h0 => ?_) (fun h0 => ?_)
  · simp at h0
    simp (disch := omega) [wrap_id]
    refine callW_pure rfl (refList_ok f g b l hb hl) ?_
    simp [shortR, h0]
    exact ⟨[], rfl⟩
  · simp at h0
    simp (disch := omega) [wrap_id]
    obtain ⟨k1, k2, k3⟩ := chkL_zero h0
    refine callW_pure rfl (form_ok f g b l hb (by omega) (chkL_small h0)) ?_
    simp [shortR, h0]
    exact ⟨[], rfl⟩

def twoR (b : Bch) (l m : List Int) : Int := if chkL b l ≠ 0 then chkL b l else chkL b m
def sameR (b : Bch) (l m : List Int) : Int := if twoR b l m ≠ 0 then twoR b l m else if form b l = form b m then 0 else 18

theorem twoR_zero {b : Bch} {l m : List Int} (h : twoR b l m = 0) : chkL b l = 0 ∧ chkL b m = 0 := by
  simp only [twoR] at h
  split at h
  · rename_i h1; exact absurd h h1
  · rename_i h1; exact ⟨by simpa using h1, h⟩

theorem form_len (b : Bch) (l : List Int) : (form b l).length ≤ l.length := by
  have : ∀ (n : Nat) (l : List Int), (formF b n l).length ≤ n := fun n => by
    induction n with
    | zero => intro l; simp [formF]
    | succ n ih =>
      intro l
      cases l with
      | nil => simp [formF]
      | cons x r => simp only [formF, List.length_cons]; have := ih ((x :: r).eraseIdx (firstI b (x :: r) (r.length + 1)).toNat); omega
  exact Nat.le_trans (this _ _) (redF_len b _ _)

theorem refSame_ok (f g h : Bool) (b : Bch) (l m : List Int) (hb : b.c.length ≤ 1000000) (hl : l.length ≤ 1000000) (hm : m.length ≤ 1000000) : PureOK Try.prog 28 [Bn f b, Ls g l, Ls h m] (I (sameR b l m)) := by
  refine pure_of (walk Try.func28 form28 res28 (by show 3 ≤ _; decide) ?_)
  simp (disch := omega) [G28, wrap_id]
  refine callW_pure rfl (two_ok f g h b l m hb hl hm) ?_
  rw [show (if chkL b l ≠ 0 then chkL b l else chkL b m) = twoR b l m from rfl]
  simp (disch := omega) [wrap_id]
  refine c_split (fun h0 => ?_) (fun h0 => ?_)
  · simp at h0
    simp (disch := omega) [wrap_id]
    refine callW_pure rfl (two_ok f g h b l m hb hl hm) ?_
    rw [show (if chkL b l ≠ 0 then chkL b l else chkL b m) = twoR b l m from rfl]
    simp [sameR, h0]
  · simp at h0
    obtain ⟨z1, z2⟩ := twoR_zero h0
    obtain ⟨_, a2, _⟩ := chkL_zero z1
    obtain ⟨_, b2, _⟩ := chkL_zero z2
    have f1 := form_len b l
    have f2 := form_len b m
    simp (disch := omega) [wrap_id]
    refine pureW_of rfl (form_ok f g b l hb (by omega) (chkL_small z1)) ?_
    simp (disch := omega) [wrap_id]
    refine pureW_of rfl (form_ok f h b m hb (by omega) (chkL_small z2)) ?_
    simp (disch := omega) [wrap_id]
    refine pureW_of rfl (equal_ok _ _ (form b l) (form b m) (by omega) (by omega)) ?_
    simp (disch := omega) [wrap_id]
    refine c_split (fun e => ?_) (fun e => ?_)
    · simp at e
      simp (disch := omega) [wrap_id, sameR, h0, e]
    · simp at e
      simp (disch := omega) [wrap_id, sameR, h0, e]

end Go.AM

/- CONTRACTS, PART 11: which strokes can be first. Own work. -/
set_option linter.unusedSimpArgs false
set_option linter.unusedVariables false
namespace Go.AM
open Go.RowKit Go.Proofs

/-- A stroke brought from behind to its place in the order. -/
def insK (v : Int) (l : List Int) : Nat → List Int
  | 0 => v :: l
  | k + 1 => if keyR v < keyR (l.getD k 0) then insK v l k else l.take (k + 1) ++ v :: l.drop (k + 1)
def insR (l : List Int) (v : Int) : List Int := insK v l l.length

def firstsTo (b : Bch) (l : List Int) : Nat → List Int
  | 0 => []
  | i + 1 => if freeB b l i = true then insR (firstsTo b l i) (l.getD i 0) else firstsTo b l i
def firstsR (b : Bch) (l : List Int) : List Int := firstsTo b l l.length

theorem splice_ls {l : List Int} {k : Nat} {v : Int} (h : k < l.length) : splice (l.map fun n => I n) k [I v] = (l.set k v).map fun n => I n := by
  simp only [splice, List.length_singleton]
  rw [List.set_eq_take_append_cons_drop, if_pos h]
  simp [List.map_take, List.map_drop]

theorem insK_len (v : Int) (l : List Int) : ∀ k, k ≤ l.length → (insK v l k).length = l.length + 1
  | 0, _ => by simp [insK]
  | k + 1, h => by
    simp only [insK]
    split
    · exact insK_len v l k (by omega)
    · simp; omega

theorem nthH_set_same {hp : List HObj} {id : Nat} {o : HObj} (h : id < hp.length) : nthH (hp.set id o) id = some o := by
  rw [nthH_eq, List.getElem?_set_self h]
theorem nthH_set_ne {hp : List HObj} {id j : Nat} {o : HObj} (h : id ≠ j) : nthH (hp.set id o) j = nthH hp j := by
  rw [nthH_eq, nthH_eq, List.getElem?_set_ne h]

/-- One step of a stroke towards the front, in the cells. -/
theorem ins_swap {l : List Int} {v : Int} {k : Nat} (h : k < l.length) :
    ((l.take (k + 1) ++ v :: l.drop (k + 1)).set (k + 1) (l.getD k 0)).set k v = l.take k ++ v :: l.drop k := by
  apply List.ext_getElem
  · simp; omega
  · intro i h1 h2
    simp only [List.length_set, List.length_append, List.length_take, List.length_cons, List.length_drop] at h1
    by_cases e1 : i = k
    · subst e1
      rw [List.getElem_set_self, List.getElem_append_right (by simp; omega)]
      simp [Nat.min_eq_left (Nat.le_of_lt h)]
    · rw [List.getElem_set_ne (fun e => e1 e.symm)]
      by_cases e2 : i = k + 1
      · subst e2
        rw [List.getElem_set_self, List.getElem_append_right (by simp; omega)]
        have : k + 1 - (l.take k).length = 1 := by simp; omega
        simp only [this]
        simp [h]
      · rw [List.getElem_set_ne (fun e => e2 e.symm)]
        by_cases e3 : i < k
        · rw [List.getElem_append_left (by simp; omega), List.getElem_append_left (by simp; omega)]
          simp
        · rw [List.getElem_append_right (by simp; omega), List.getElem_append_right (by simp; omega)]
          obtain ⟨d, rfl⟩ : ∃ d, i = k + 2 + d := ⟨i - (k + 2), by omega⟩
          have a1 : k + 2 + d - (l.take (k + 1)).length = d + 1 := by simp; omega
          have a2 : k + 2 + d - (l.take k).length = d + 1 + 1 := by simp; omega
          simp only [a1, a2, List.getElem_cons_succ, List.getElem_drop]
          congr 1; omega

end Go.AM

/- CONTRACTS, PART 12: which strokes can be first: the function. Own work. -/
set_option linter.unusedSimpArgs false
set_option linter.unusedVariables false
namespace Go.AM
open Go.RowKit Go.Proofs

theorem firstsTo_len (b : Bch) (l : List Int) : ∀ i, (firstsTo b l i).length ≤ i
  | 0 => by simp [firstsTo]
  | i + 1 => by
    have := firstsTo_len b l i
    simp only [firstsTo]
    split
    · rw [insR, insK_len _ _ _ (Nat.le_refl _)]; omega
    · omega

theorem insK_mem {v : Int} {l : List Int} {x : Int} : ∀ k, x ∈ insK v l k → x = v ∨ x ∈ l
  | 0, h => by simpa [insK] using h
  | k + 1, h => by
    simp only [insK] at h
    split at h
    · exact insK_mem k h
    · rcases List.mem_append.1 h with h | h
      · exact .inr (List.mem_of_mem_take h)
      · rcases List.mem_cons.1 h with h | h
        · exact .inl h
        · exact .inr (List.mem_of_mem_drop h)

theorem firstsTo_small {b : Bch} {l : List Int} (hs : Small l) : ∀ i, i ≤ l.length → Small (firstsTo b l i)
  | 0, _ => by intro x hx; simp [firstsTo] at hx
  | i + 1, h => by
    have ih := firstsTo_small (b := b) hs i (by omega)
    simp only [firstsTo]
    split
    · intro x hx
      rcases insK_mem _ hx with e | h'
      · rw [e]
        have hi : i < l.length := by omega
        have : l.getD i 0 = l[i] := by simp [hi]
        rw [this]; exact hs.at hi
      · exact ih x h'
    · exact ih

theorem firsts_ok (f g : Bool) (b : Bch) (l : List Int) (hb : b.c.length ≤ 1000000) (hl : l.length ≤ 1000) (hs : Small l) : PureOK Try.prog 72 [Bn f b, Ls g l] (Ls (firstsR b l).isEmpty (firstsR b l)) := by
  refine pure_of (walk Try.func72 form72 res72 (by show 2 ≤ _; decide) ?_)
  simp (disch := omega) [G72, wrap_id]
  refine loop_eq (fun p : Nat × AV × List HObj => ⟨[(1, Ls g l), (2, .ref 0 0), (5, p.2.1), (6, I p.1)], p.2.2⟩)
    (fun p => p.1 ≤ l.length ∧ nthH p.2.2 0 = some (.cells [I b.L, Ps f b.c]) ∧ 0 < p.2.2.length ∧ Acc p.2.2 p.2.1 (firstsTo b l p.1)) (fun p => l.length - p.1)
    (0, .sl true 0 [], [.cells [I b.L, Ps f b.c]]) ⟨by simp, rfl, by simp, .inl ⟨rfl, rfl⟩⟩ rfl ?_
  rintro ⟨i, x, hp⟩ ⟨c0, c1, c2, c3⟩
  simp only at c0 c1 c2 c3
  simp (disch := omega) [wrap_id]
  by_cases h : i < l.length
  · simp (disch := omega) [wrap_id, h]
    refine loop_eq (fun k : Nat => ⟨[(1, Ls g l), (2, .ref 0 0), (5, x), (6, I i), (7, B (freeTo b l i k)), (8, I k)], hp⟩) (fun k => k ≤ i) (fun k => i - k) 0 (by omega) rfl ?_
    intro k hk
    simp (disch := omega) [wrap_id]
    by_cases hk1 : k < i
    · have hk2 : k < l.length := by omega
      simp (disch := omega) [wrap_id, hk1]
      cases hf : freeTo b l i k with
      | false =>
        simp (disch := omega) [wrap_id]
        exact next_eq (k + 1) (by omega) (by omega) (by simp [freeTo_succ h hk2, hf])
      | true =>
        simp (disch := omega) [wrap_id, cells_ls, h, hk2, c1]
        refine pureW_of rfl (refCan_ok f b hb l[k] l[i] (hs.at hk2) (hs.at h)) ?_
        simp (disch := omega) [wrap_id]
        exact next_eq (k + 1) (by omega) (by omega) (by simp [freeTo_succ h hk2, hf])
    · have hki : k = i := by omega
      subst hki
      simp (disch := omega) [wrap_id]
      have hlen := firstsTo_len b l k
      cases hf : freeTo b l k k with
      | false =>
        simp (disch := omega) [wrap_id]
        have e : firstsTo b l (k + 1) = firstsTo b l k := by simp [firstsTo, freeB, hf]
        exact next_eq (k + 1, x, hp) ⟨by simp only; omega, c1, c2, by simp only [e]; exact c3⟩ (by simp only; omega) (by simp)
      | true =>
        simp (disch := omega) [wrap_id, cells_ls, h]
        refine bsl_of rfl rfl ?_
        simp (disch := omega) [wrap_id, zrep]
        refine app_acc c3 c2 (by omega) fun ws h0 hp' hA => ?_
        simp (disch := omega) [wrap_id]
        rcases hA with ⟨e, _⟩ | ⟨id, e, hid, _, hA⟩
        · cases e
        injection e with e1 _ _ _
        subst e1
        have hidl : hp.length < (writeL hp ws).length := by rw [nthH_eq] at hA; exact hpf_lt hA
        generalize hH : writeL hp ws = H at *
        generalize hAcc : firstsTo b l k = acc at *
        generalize hid' : hp.length = id at *
        refine loop_eq (fun p : Nat × List HObj => ⟨[(1, Ls g l), (2, .ref 0 0), (5, .ms id 0 (acc.length + 1) 1), (6, I k), (9, I p.1)], p.2⟩)
          (fun p => p.1 ≤ acc.length ∧ nthH p.2 0 = some (.cells [I b.L, Ps f b.c]) ∧ id < p.2.length ∧ nthH p.2 id = some (.cells ((acc.take p.1 ++ l[k] :: acc.drop p.1).map fun n => I n)) ∧ insK l[k] acc p.1 = insR acc l[k]) (fun p => p.1)
          (acc.length, H) ⟨by simp, by rw [h0]; exact c1, hidl, by simpa using hA, rfl⟩ (by simp) ?_
        rintro ⟨j, H'⟩ ⟨d1, d2, d3, d4, d5⟩
        simp only at d1 d2 d3 d4 d5
        simp (disch := omega) [wrap_id]
        have done : insR acc l[k] = acc.take j ++ l[k] :: acc.drop j → Next (fun p : Nat × AV × List HObj => (⟨[(1, Ls g l), (2, .ref 0 0), (5, p.2.1), (6, I p.1)], p.2.2⟩ : St))
            (fun p => p.1 ≤ l.length ∧ nthH p.2.2 0 = some (.cells [I b.L, Ps f b.c]) ∧ 0 < p.2.2.length ∧ Acc p.2.2 p.2.1 (firstsTo b l p.1)) (fun p => l.length - p.1) (k, x, hp)
            ⟨[(1, Ls g l), (2, .ref 0 0), (5, .ms id 0 (acc.length + 1) 1), (6, I ((k : Int) + 1))], H'⟩ := fun e => by
          have e2 : firstsTo b l (k + 1) = insR acc l[k] := by simp [firstsTo, freeB, hf, hAcc, h]
          have e3 : (insR acc l[k]).length = acc.length + 1 := insK_len _ _ _ (Nat.le_refl _)
          refine next_eq (k + 1, .ms id 0 (acc.length + 1) 1, H') ⟨by simp only; omega, d2, by simp only; omega, .inr ⟨id, by simp only [e2, e3], hid, ?_, ?_⟩⟩ (by simp only; omega) (by simp)
          · simp only [e2]; intro e4; rw [e4] at e3; simp at e3
          · simp only [e2]; rw [e]; exact d4
        cases j with
        | zero =>
          simp (disch := omega) [wrap_id]
          exact done (by rw [← d5]; simp [insK])
        | succ j =>
          obtain ⟨arr, harr⟩ : ∃ arr, arr = acc.take (j + 1) ++ l[k] :: acc.drop (j + 1) := ⟨_, rfl⟩
          rw [← harr] at d4 done
          have ha1 : arr.length = acc.length + 1 := by rw [harr]; simp; omega
          have hj1 : j + 1 < arr.length := by omega
          have hj0 : j < arr.length := by omega
          have ha2 : arr[j + 1] = l[k] := by
            simp only [harr]; rw [List.getElem_append_right (by simp; omega)]
            have : j + 1 - (acc.take (j + 1)).length = 0 := by simp; omega
            simp only [this, List.getElem_cons_zero]
          have ha3 : arr[j] = acc[j] := by
            simp only [harr]; rw [List.getElem_append_left (by simp; omega)]; simp
          simp (disch := omega) [wrap_id, d4, cells_ls, ha1, ha2, ha3, hj1, hj0]
          have hsa : Small acc := by rw [← hAcc]; exact firstsTo_small hs k c0
          have hja : j < acc.length := by omega
          refine ⟨by omega, pureW_of rfl (refKey_ok l[k] (hs.at h)) ?_⟩
          simp (disch := omega) [wrap_id, d4, cells_ls, ha1, ha2, ha3, hj1, hj0]
          refine ⟨by omega, pureW_of rfl (refKey_ok acc[j] (hsa.at hja)) ?_⟩
          simp (disch := omega) [wrap_id]
          refine c_split (fun e => ?_) (fun e => ?_)
          · simp at e
            have sp : ∀ (m : List Int) (q : Nat) (y : Int), q < m.length → List.take q (m.map fun n => I n) ++ I y :: List.drop (q + 1) (m.map fun n => I n) = (m.set q y).map fun n => I n := fun m q y hq => by
              have := splice_ls (v := y) hq
              simpa [splice] using this
            simp (disch := omega) [wrap_id, d4, cells_ls, ha1, ha2, ha3, hj1, hj0, d3, sp, nthH_set_same]
            refine ⟨by omega, ⟨by omega, hja⟩, by omega, by omega, by omega, ?_⟩
            have e1 : acc.getD j 0 = acc[j] := by simp [hja]
            refine next_eq (j, _) ⟨by simp only; omega, ?_, ?_, ?_, ?_⟩ (by simp) (by simp; rfl)
            · simp only; rw [nthH_set_ne (by omega)]; exact d2
            · simp only [List.length_set]; exact d3
            · simp only
              rw [nthH_set_same d3]
              have := ins_swap (v := l[k]) hja
              rw [e1, ← harr] at this
              have mk : (List.map (fun n => I n) arr).set (j + 1) (I acc[j]) = (arr.set (j + 1) acc[j]).map fun n => I n := by rw [List.map_set]
              rw [mk, sp _ j l[k] (by simp; omega), this]
              simp
            · simp only
              rw [← d5]
              simp only [insK]
              rw [e1, if_pos e]
          · simp at e
            simp (disch := omega) [wrap_id]
            refine done ?_
            rw [harr, ← d5]
            simp only [insK]
            have e1 : acc.getD j 0 = acc[j] := by simp [hja]
            rw [e1, if_neg (by omega)]
  · have e : i = l.length := by omega
    subst e
    simp
    rcases c3 with ⟨rfl, e⟩ | ⟨id, rfl, hid, hne, hc⟩
    · rw [firstsR, e]; exact ⟨[], rfl⟩
    · have e2 : (firstsTo b l l.length).isEmpty = false := by simpa using hne
      rw [firstsR, e2]
      exact out_ls hc rfl

end Go.AM

/- ARGUMENTS OF THE STROKE LAYER, read. Own work. -/
set_option linter.unusedSimpArgs false
set_option linter.unusedVariables false
namespace Go.AM
open Go.RowKit Go.Proofs

def In64 (n : Int) : Prop := -9223372036854775808 ≤ n ∧ n ≤ 9223372036854775807
theorem in64_of {n : Int} (h : (Lit.int .i64 n).wf = true) : In64 n := by
  simp [Lit.wf, IntKind.min, IntKind.max, IntKind.signed, IntKind.bits] at h
  exact ⟨by omega, by omega⟩
theorem in8_of {n : Int} (h : (Lit.int .u8 n).wf = true) : 0 ≤ n ∧ n ≤ 255 := by
  simp [Lit.wf, IntKind.min, IntKind.max, IntKind.signed, IntKind.bits] at h
  omega

variable {w : World}

theorem rd3 : Rd Try.prog w 3 fun xs => ∃ n, xs = [I n] ∧ In64 n := rd_mono (rd_int Try.underlying3 (by kernel_rfl)) fun xs ⟨n, h1, h2⟩ => ⟨n, h1, in64_of h2⟩
theorem rd5 : Rd Try.prog w 5 fun xs => ∃ n, xs = [.v (.int .u8 n)] ∧ 0 ≤ n ∧ n ≤ 255 := rd_mono (rd_int Try.underlying5 (by kernel_rfl)) fun xs ⟨n, h1, h2⟩ => ⟨n, h1, in8_of h2⟩

theorem ints_of : ∀ {els : List (List AV)}, (∀ x ∈ els, x.length = 1 ∧ ∃ n, x = [I n] ∧ In64 n) → ∃ l : List Int, l.length = els.length ∧ els.flatten = l.map (fun n => I n) ∧ ∀ n ∈ l, In64 n
  | [], _ => ⟨[], rfl, rfl, fun n h => by simp at h⟩
  | x :: els, h => by
    obtain ⟨l, h1, h2, h3⟩ := ints_of (els := els) (fun y hy => h y (by simp [hy]))
    obtain ⟨_, n, rfl, hn⟩ := h x (by simp)
    exact ⟨n :: l, by simp [h1], by simp [h2], fun m hm => by
      rcases List.mem_cons.1 hm with rfl | hm
      · exact hn
      · exact h3 m hm⟩

theorem rd25 : Rd Try.prog w 25 fun xs => ∃ l : List Int, xs = [Ls false l] ∧ l.length ≤ 9223372036854775807 ∧ ∀ n ∈ l, In64 n :=
  rd_mono (rd_slice Try.underlying25 (by kernel_rfl) (sz := 1) (by kernel_rfl) (by omega) rd3) fun xs ⟨els, h1, h2, h3⟩ => by
    obtain ⟨l, k1, k2, k3⟩ := ints_of h1
    refine ⟨l, ?_, ?_, k3⟩
    · rw [h2, k2, ← k1]
    · rw [k1]; simpa [maxLen] using h3

theorem rd66 : Rd Try.prog w 66 fun xs => ∃ p : Int × Int, xs = [I p.1, I p.2] ∧ In64 p.1 ∧ In64 p.2 :=
  rd_mono (rd_array Try.underlying66 (sz := 1) (by kernel_rfl) (by kernel_rfl) (by omega) rd3) fun xs ⟨els, h0, h1, h2⟩ => by
    match els, h0 with
    | [a, b], _ =>
      obtain ⟨_, m, rfl, hm⟩ := h1 a (by simp)
      obtain ⟨_, n, rfl, hn⟩ := h1 b (by simp)
      exact ⟨(m, n), by simp [h2], hm, hn⟩

theorem pairs_of : ∀ {els : List (List AV)}, (∀ x ∈ els, x.length = 2 ∧ ∃ p : Int × Int, x = [I p.1, I p.2] ∧ In64 p.1 ∧ In64 p.2) → ∃ c : List (Int × Int), c.length = els.length ∧ els.flatten = flat2 c ∧ ∀ p ∈ c, In64 p.1 ∧ In64 p.2
  | [], _ => ⟨[], rfl, rfl, fun n h => by simp at h⟩
  | x :: els, h => by
    obtain ⟨l, h1, h2, h3⟩ := pairs_of (els := els) (fun y hy => h y (by simp [hy]))
    obtain ⟨_, n, rfl, hn⟩ := h x (by simp)
    exact ⟨n :: l, by simp [h1], by rw [List.flatten_cons, h2]; rfl, fun m hm => by
      rcases List.mem_cons.1 hm with rfl | hm
      · exact hn
      · exact h3 m hm⟩

theorem rd22 : Rd Try.prog w 22 fun xs => ∃ c : List (Int × Int), xs = [Ps false c] ∧ c.length ≤ 9223372036854775807 ∧ ∀ p ∈ c, In64 p.1 ∧ In64 p.2 :=
  rd_mono (rd_slice Try.underlying22 (by kernel_rfl) (sz := 2) (by kernel_rfl) (by omega) rd66) fun xs ⟨els, h1, h2, h3⟩ => by
    obtain ⟨l, k1, k2, k3⟩ := pairs_of h1
    refine ⟨l, ?_, ?_, k3⟩
    · rw [h2, k2, ← k1]
    · rw [k1]; simpa [maxLen] using h3

/-- A bench as it came in. -/
structure BOK (b : Bch) : Prop where
  L : In64 b.L
  len : b.c.length ≤ 9223372036854775807
  c : ∀ p ∈ b.c, In64 p.1 ∧ In64 p.2

theorem rd24 : Rd Try.prog w 24 fun xs => ∃ b : Bch, xs = [I b.L, Ps false b.c] ∧ BOK b :=
  rd_mono (rd_struct2 Try.underlying24 (c0 := 1) (c1 := 1) (by kernel_rfl) rfl rfl (by kernel_rfl) (by kernel_rfl) rd3 rd22) fun xs ⟨a0, a1, _, _, h, ⟨n, h1, h2⟩, ⟨c, h3, h4, h5⟩⟩ => ⟨⟨n, c⟩, by rw [h, h1, h3]; rfl, h2, h4, h5⟩

/-- A list as it came in. -/
def LOK (l : List Int) : Prop := l.length ≤ 9223372036854775807 ∧ ∀ n ∈ l, In64 n

/-- Moves, laid flat. -/
abbrev Mv := Int × Int × Int
def flat3 (c : List Mv) : List AV := c.flatMap fun p => [I p.1, I p.2.1, I p.2.2]
abbrev Ms (f : Bool) (c : List Mv) : AV := .sl f c.length (flat3 c)
def MOK (c : List Mv) : Prop := c.length ≤ 9223372036854775807 ∧ ∀ p ∈ c, In64 p.1 ∧ In64 p.2.1 ∧ In64 p.2.2

theorem rd70 : Rd Try.prog w 70 fun xs => ∃ p : Mv, xs = [I p.1, I p.2.1, I p.2.2] ∧ In64 p.1 ∧ In64 p.2.1 ∧ In64 p.2.2 :=
  rd_mono (rd_struct3 Try.underlying70 (c0 := 1) (c1 := 1) (c2 := 1) (by kernel_rfl) rfl rfl rfl (by kernel_rfl) (by kernel_rfl) (by kernel_rfl) rd3 rd3 rd3) fun xs ⟨a0, a1, a2, _, _, _, h, ⟨n, h1, h2⟩, ⟨m, h3, h4⟩, ⟨k, h5, h6⟩⟩ => ⟨(n, m, k), by rw [h, h1, h3, h5]; rfl, h2, h4, h6⟩

theorem moves_of : ∀ {els : List (List AV)}, (∀ x ∈ els, x.length = 3 ∧ ∃ p : Mv, x = [I p.1, I p.2.1, I p.2.2] ∧ In64 p.1 ∧ In64 p.2.1 ∧ In64 p.2.2) → ∃ c : List Mv, c.length = els.length ∧ els.flatten = flat3 c ∧ ∀ p ∈ c, In64 p.1 ∧ In64 p.2.1 ∧ In64 p.2.2
  | [], _ => ⟨[], rfl, rfl, fun n h => by simp at h⟩
  | x :: els, h => by
    obtain ⟨l, h1, h2, h3⟩ := moves_of (els := els) (fun y hy => h y (by simp [hy]))
    obtain ⟨_, n, rfl, hn⟩ := h x (by simp)
    exact ⟨n :: l, by simp [h1], by rw [List.flatten_cons, h2]; rfl, fun m hm => by
      rcases List.mem_cons.1 hm with rfl | hm
      · exact hn
      · exact h3 m hm⟩

theorem rd37 : Rd Try.prog w 37 fun xs => ∃ c : List Mv, xs = [Ms false c] ∧ MOK c :=
  rd_mono (rd_slice Try.underlying37 (by kernel_rfl) (sz := 3) (by kernel_rfl) (by omega) rd70) fun xs ⟨els, h1, h2, h3⟩ => by
    obtain ⟨l, k1, k2, k3⟩ := moves_of h1
    refine ⟨l, ?_, ?_, k3⟩
    · rw [h2, k2, ← k1]
    · rw [k1]; simpa [maxLen] using h3

/-- Numbers of one byte. -/
abbrev U (n : Int) : AV := .v (.int .u8 n)
abbrev Us (f : Bool) (l : List Int) : AV := .sl f l.length (l.map fun n => U n)
def UOK (l : List Int) : Prop := l.length ≤ 9223372036854775807 ∧ ∀ n ∈ l, 0 ≤ n ∧ n ≤ 255

theorem bytes_of : ∀ {els : List (List AV)}, (∀ x ∈ els, x.length = 1 ∧ ∃ n, x = [U n] ∧ 0 ≤ n ∧ n ≤ 255) → ∃ l : List Int, l.length = els.length ∧ els.flatten = l.map (fun n => U n) ∧ ∀ n ∈ l, 0 ≤ n ∧ n ≤ 255
  | [], _ => ⟨[], rfl, rfl, fun n h => by simp at h⟩
  | x :: els, h => by
    obtain ⟨l, h1, h2, h3⟩ := bytes_of (els := els) (fun y hy => h y (by simp [hy]))
    obtain ⟨_, n, rfl, hn⟩ := h x (by simp)
    exact ⟨n :: l, by simp [h1], by simp [h2], fun m hm => by
      rcases List.mem_cons.1 hm with rfl | hm
      · exact hn
      · exact h3 m hm⟩

theorem rd52 : Rd Try.prog w 52 fun xs => ∃ l : List Int, xs = [Us false l] ∧ UOK l :=
  rd_mono (rd_slice Try.underlying52 (by kernel_rfl) (sz := 1) (by kernel_rfl) (by omega) rd5) fun xs ⟨els, h1, h2, h3⟩ => by
    obtain ⟨l, k1, k2, k3⟩ := bytes_of h1
    refine ⟨l, ?_, ?_, k3⟩
    · rw [h2, k2, ← k1]
    · rw [k1]; simpa [maxLen] using h3

theorem rd65 : Rd Try.prog w 65 fun xs => ∃ m n : Int, xs = [U m, U n] ∧ (0 ≤ m ∧ m ≤ 255) ∧ 0 ≤ n ∧ n ≤ 255 :=
  rd_mono (rd_array Try.underlying65 (sz := 1) (by kernel_rfl) (by kernel_rfl) (by omega) rd5) fun xs ⟨els, h0, h1, h2⟩ => by
    match els, h0 with
    | [a, b], _ =>
      obtain ⟨_, m, rfl, hm⟩ := h1 a (by simp)
      obtain ⟨_, n, rfl, hn⟩ := h1 b (by simp)
      exact ⟨m, n, by simp [h2], hm, hn⟩

end Go.AM
