/-
  THE THEORY OF MOVES, PART 5: what two lists can begin with. Own work.
  WHAT THE CODE ANSWERS, PART 10: both, and Common, of the specification; front. Own work.
  WHAT THE CODE ANSWERS, PART 11: Common, of the specification. Own work.
  WHAT THE CODE ANSWERS, PART 12: front; Common. Own work.
-/
import Derived.Test.YtjhfhdmdilmplaaKq11

/- THE THEORY OF MOVES, PART 5: what two lists can begin with. Own work. -/
set_option linter.unusedSimpArgs false
set_option linter.unusedVariables false
namespace Go.AM
open Go.RowKit Go.Proofs

variable {b : Bch}

def Srt (l : List Int) : Prop := l.Pairwise fun x y => keyR x ≤ keyR y

theorem insK_memI {v : Int} {l : List Int} {x : Int} : ∀ k, x ∈ insK v l k ↔ x = v ∨ x ∈ l
  | 0 => by simp [insK]
  | k + 1 => by
    simp only [insK]
    split
    · exact insK_memI k
    · rw [List.mem_append, List.mem_cons]
      conv => rhs; rw [← List.take_append_drop (k + 1) l, List.mem_append]
      constructor
      · rintro (h | h | h)
        · exact .inr (.inl h)
        · exact .inl h
        · exact .inr (.inr h)
      · rintro (h | h | h)
        · exact .inr (.inl h)
        · exact .inl h
        · exact .inr (.inr h)
theorem insK_srt {v : Int} {l : List Int} (hl : Srt l) : ∀ k, k ≤ l.length → (∀ x ∈ l.drop k, keyR v < keyR x) → Srt (insK v l k)
  | 0, _, h => List.pairwise_cons.2 ⟨fun x hx => by have := h x hx; omega, hl⟩
  | k + 1, hk, h => by
    have hk' : k < l.length := by omega
    have gd : l.getD k 0 = l[k] := by simp [hk']
    simp only [insK]
    split
    · rename_i hv
      rw [gd] at hv
      refine insK_srt hl k (by omega) fun x hx => ?_
      rw [List.drop_eq_getElem_cons hk'] at hx
      rcases List.mem_cons.1 hx with rfl | hx
      · exact hv
      · exact h x hx
    · rename_i hv
      rw [gd] at hv
      have sp : l = l.take (k + 1) ++ l.drop (k + 1) := (List.take_append_drop _ _).symm
      have hl' := hl
      rw [sp] at hl'
      obtain ⟨s1, s2, s3⟩ := List.pairwise_append.1 hl'
      have tk : l.take (k + 1) = l.take k ++ [l[k]] := List.take_succ_eq_append_getElem hk'
      have le : ∀ x ∈ l.take (k + 1), keyR x ≤ keyR v := fun x hx => by
        have s1' := s1
        rw [tk] at hx s1'
        obtain ⟨_, _, t3⟩ := List.pairwise_append.1 s1'
        rcases List.mem_append.1 hx with hx | hx
        · have := t3 x hx l[k] (by simp); omega
        · simp at hx; subst hx; omega
      refine List.pairwise_append.2 ⟨s1, List.pairwise_cons.2 ⟨fun x hx => by have := h x hx; omega, s2⟩, fun x hx y hy => ?_⟩
      rcases List.mem_cons.1 hy with rfl | hy
      · exact le x hx
      · exact s3 x hx y hy

theorem firstsTo_srt (l : List Int) : ∀ i, Srt (firstsTo b l i)
  | 0 => List.Pairwise.nil
  | i + 1 => by
    simp only [firstsTo]
    split
    · exact insK_srt (firstsTo_srt l i) _ (Nat.le_refl _) (fun x hx => by simp at hx)
    · exact firstsTo_srt l i
theorem firstsTo_mem {l : List Int} {s : Int} : ∀ i, s ∈ firstsTo b l i ↔ ∃ j, j < i ∧ freeB b l j = true ∧ l.getD j 0 = s
  | 0 => by simp [firstsTo]
  | i + 1 => by
    simp only [firstsTo]
    split
    · rename_i hf
      rw [insR, insK_memI, firstsTo_mem i]
      constructor
      · rintro (rfl | ⟨j, h1, h2, h3⟩)
        · exact ⟨i, by omega, hf, rfl⟩
        · exact ⟨j, by omega, h2, h3⟩
      · rintro ⟨j, h1, h2, h3⟩
        by_cases e : j = i
        · subst e; exact .inl h3.symm
        · exact .inr ⟨j, by omega, h2, h3⟩
    · rename_i hf
      rw [firstsTo_mem i]
      constructor
      · rintro ⟨j, h1, h2, h3⟩; exact ⟨j, by omega, h2, h3⟩
      · rintro ⟨j, h1, h2, h3⟩
        refine ⟨j, ?_, h2, h3⟩
        by_cases e : j = i
        · subst e; exact absurd h2 hf
        · omega
theorem firsts_mem {l : List Int} {s : Int} : s ∈ firstsR b l ↔ Free b l s := by
  unfold firstsR
  rw [firstsTo_mem]
  constructor
  · rintro ⟨j, h1, h2, h3⟩
    have gd : l.getD j 0 = l[j] := by simp [h1]
    rw [gd] at h3
    subst h3
    refine ⟨l.take j, l.drop (j + 1), ?_, (freeB_iff h1).1 h2⟩
    rw [← List.drop_eq_getElem_cons h1, List.take_append_drop]
  · rintro ⟨u, v, rfl, h⟩
    have hl : u.length < (u ++ s :: v).length := by simp
    have e : (u ++ s :: v)[u.length] = s := by simp
    refine ⟨u.length, hl, (freeB_iff hl).2 ?_, by simp⟩
    rw [e]; simpa using h

/-- A stroke is in front of a list. -/
def inFr (b : Bch) (y : List Int) (s : Int) : Bool := decide ((Pj b y (lineI s).toNat).head? = some s)
theorem inFr_iff {y : List Int} {s : Int} (hs : St8 s) : inFr b y s = true ↔ Free b y s := by
  unfold inFr
  rw [decide_eq_true_eq]
  constructor
  · intro h
    obtain ⟨r, hr⟩ : ∃ r, Pj b y (lineI s).toNat = s :: r := by
      cases hp : Pj b y (lineI s).toNat with
      | nil => rw [hp] at h; cases h
      | cons t r => rw [hp] at h; simp at h; subst h; exact ⟨r, rfl⟩
    obtain ⟨u, v, h1, h2, _⟩ := head_free hs.1 hr
    exact ⟨u, v, h1, h2⟩
  · rintro ⟨u, v, rfl, h⟩
    rw [Pj_append, Pj_free_own hs h, List.nil_append, Pj_own (toNat_line hs).symm]
    rfl

/-- The strokes with which both lists can begin. -/
def cms (b : Bch) (x y : List Int) : List Int := (fsR (Pj b x)).filter (inFr b y)
theorem cms_mem {x y : List Int} (hx : S8 x) {s : Int} : s ∈ cms b x y ↔ Free b x s ∧ Free b y s := by
  unfold cms
  rw [List.mem_filter, fs_Pj hx]
  constructor
  · rintro ⟨h1, h2⟩
    obtain ⟨u, v, e, _⟩ := h1
    exact ⟨⟨u, v, e, by assumption⟩, (inFr_iff (hx s (by rw [e]; simp))).1 h2⟩
  · rintro ⟨h1, h2⟩
    obtain ⟨u, v, e, h3⟩ := h1
    exact ⟨⟨u, v, e, h3⟩, (inFr_iff (hx s (by rw [e]; simp))).2 h2⟩

/-- A free stroke stands where it is found first. -/
theorem free_split {x : List Int} {s : Int} (h : Free b x s) : ∃ u v, x = u ++ s :: v ∧ (∀ t ∈ u, canB b t s = true) ∧ s ∉ u ∧ x.idxOf s = u.length ∧ x.erase s = u ++ v ∧ x.eraseIdx u.length = u ++ v := by
  obtain ⟨u, v, rfl, h⟩ := h
  have hn : s ∉ u := fun hs => by have := h s hs; rw [canB_self] at this; cases this
  refine ⟨u, v, rfl, h, hn, ?_, ?_, ?_⟩
  · rw [List.idxOf_append]; simp [hn]
  · rw [List.erase_append_right _ hn]; simp
  · rw [List.eraseIdx_append_of_length_le (Nat.le_refl _)]; simp

/-- The common beginning, stroke by stroke. -/
def cmnF (b : Bch) : Nat → List Int → List Int → List Int
  | 0, _, _ => []
  | n + 1, x, y => if cms b x y = [] then [] else leastC (cms b x y) :: cmnF b n (x.erase (leastC (cms b x y))) (y.erase (leastC (cms b x y)))

theorem cms_least {x y : List Int} (hx : S8 x) (h : cms b x y ≠ []) : Free b x (leastC (cms b x y)) ∧ Free b y (leastC (cms b x y)) ∧ St8 (leastC (cms b x y)) ∧ ∀ s, Free b x s → Free b y s → keyR (leastC (cms b x y)) ≤ keyR s := by
  obtain ⟨h1, h2⟩ := leastC_spec h
  obtain ⟨h3, h4⟩ := (cms_mem hx).1 h1
  refine ⟨h3, h4, ?_, fun s g1 g2 => h2 s ((cms_mem hx).2 ⟨g1, g2⟩)⟩
  obtain ⟨u, v, e, _⟩ := h3
  generalize leastC (cms b x y) = s at e ⊢
  exact hx s (by rw [e]; simp)

end Go.AM

/- WHAT THE CODE ANSWERS, PART 10: both, and Common, of the specification; front. Own work. -/
set_option linter.unusedSimpArgs false
set_option linter.unusedVariables false
namespace Go.AM
open Go.RowKit Go.Proofs

theorem hideK' {P : Program} {E : HE} {c : AC} {st : St} {K : Exit → St → Prop} (h : ∀ K', K' = K → AWP P E c st K') : AWP P E c st K := h K rfl

theorem le_drop {fr fr' : List (Nat × AV)} {hp : List HObj} (h : ∀ t, get fr' t = get fr t ∨ get fr' t = .any) : St.le ⟨fr, hp⟩ ⟨fr', hp⟩ := by
  rintro N a w g ⟨h1, hF, hok⟩
  refine ⟨g, ⟨h1, fun t => ?_, hok⟩, .refl _ _ _⟩
  show Rep _ _ _ (get fr' t) _
  rcases h t with e | e
  · rw [e]; exact hF t
  · rw [e]; exact .any _ _

/-- Where both lists have the least stroke with which both can begin. -/
def bothR (b : Bch) (x y : List Int) : Int × Int := if cms b x y = [] then (-1, -1) else ((x.idxOf (leastC (cms b x y)) : Nat), (y.idxOf (leastC (cms b x y)) : Nat))

theorem firstsR_len {b : Bch} {l : List Int} : (firstsR b l).length ≤ l.length := by
  have : ∀ i, (firstsTo b l i).length ≤ i := fun i => by
    induction i with
    | zero => simp [firstsTo]
    | succ i ih =>
      simp only [firstsTo]
      split
      · rw [insR, insK_len _ _ _ (Nat.le_refl _)]; omega
      · omega
  exact this _

/-- The first of the strokes in order that both can begin with is the least. -/
theorem both_first {b : Bch} {x y : List Int} (hx : S8 x) {n : Nat} (hn : n < (firstsR b x).length) (h1 : (firstsR b x)[n] ∈ firstsR b y) (h2 : ∀ k (hk : k < (firstsR b x).length), k < n → (firstsR b x)[k] ∉ firstsR b y) :
    cms b x y ≠ [] ∧ leastC (cms b x y) = (firstsR b x)[n] := by
  have f1 : Free b x (firstsR b x)[n] := firsts_mem.1 (List.getElem_mem hn)
  have f2 : Free b y (firstsR b x)[n] := firsts_mem.1 h1
  have hm : (firstsR b x)[n] ∈ cms b x y := (cms_mem hx).2 ⟨f1, f2⟩
  have hne : cms b x y ≠ [] := fun e => by rw [e] at hm; cases hm
  obtain ⟨g1, g2, g3, g4⟩ := cms_least hx hne
  refine ⟨hne, ?_⟩
  have s8 : St8 (firstsR b x)[n] := by
    obtain ⟨u, v, e, _⟩ := f1
    generalize (firstsR b x)[n] = s at e ⊢
    exact hx s (by rw [e]; simp)
  have le := g4 _ f1 f2
  obtain ⟨k, hk, e⟩ := List.getElem_of_mem (firsts_mem.2 g1)
  have kn : ¬ k < n := fun hkn => h2 k hk hkn (by rw [e]; exact firsts_mem.2 g2)
  have srt : Srt (firstsR b x) := firstsTo_srt x x.length
  by_cases ekn : k = n
  · subst ekn; exact e.symm
  · have := List.pairwise_iff_getElem.1 srt n k hn hk (by omega)
    rw [e] at this
    exact key_inj g3.1 s8.1 (by omega)
theorem both_none {b : Bch} {x y : List Int} (hx : S8 x) (h : ∀ k (hk : k < (firstsR b x).length), (firstsR b x)[k] ∉ firstsR b y) : cms b x y = [] := by
  cases hc : cms b x y with
  | nil => rfl
  | cons s r =>
    exfalso
    have hm : s ∈ cms b x y := by rw [hc]; simp
    obtain ⟨f1, f2⟩ := (cms_mem hx).1 hm
    obtain ⟨k, hk, e⟩ := List.getElem_of_mem (firsts_mem.2 f1)
    exact h k hk (by rw [e]; exact firsts_mem.2 f2)

theorem idx_facts {s : Int} : ∀ {x : List Int}, s ∈ x → ∃ h : x.idxOf s < x.length, x[x.idxOf s] = s ∧ ∀ i (hi : i < x.length), i < x.idxOf s → x[i] ≠ s
  | t :: x, hs => by
    by_cases e : t = s
    · subst e
      refine ⟨by simp, by simp, fun i hi h => by simp at h⟩
    · have hx : s ∈ x := by
        rcases List.mem_cons.1 hs with h | h
        · exact absurd h.symm e
        · exact h
      obtain ⟨h1, h2, h3⟩ := idx_facts hx
      have ei : (t :: x).idxOf s = x.idxOf s + 1 := by
        rw [List.idxOf_cons]
        have : (t == s) = false := by simpa using e
        rw [this]; rfl
      refine ⟨by rw [ei]; simp; omega, ?_, fun i hi h => ?_⟩
      · simp only [ei, List.getElem_cons_succ]; exact h2
      · rw [ei] at h
        cases i with
        | zero => simpa using e
        | succ i => simp only [List.getElem_cons_succ]; exact h3 i (by simp at hi; omega) (by omega)

theorem both_ok (f g h : Bool) (b : Bch) (x y : List Int) (hb : b.c.length ≤ 1000000) (hx : x.length ≤ 1000) (hy : y.length ≤ 1000) (sx : S8 x) (sy : S8 y) : PureOK Try.prog 85 [Bn f b, Ls g x, Ls h y] (.tup [I (bothR b x y).1, I (bothR b x y).2]) := by
  refine pure_of (walk Try.func85 form85 res85 (by show 3 ≤ _; decide) ?_)
  simp (disch := omega) [G85, wrap_id]
  refine pureW_of rfl (firsts_ok f g b x hb hx sx.small) ?_
  simp (disch := omega) [wrap_id]
  refine pureW_of rfl (firsts_ok f h b y hb hy sy.small) ?_
  simp (disch := omega) [wrap_id]
  have lp := firstsR_len (b := b) (l := x)
  have lq := firstsR_len (b := b) (l := y)
  have bf := fun n hn h1 h2 => both_first (b := b) (x := x) (y := y) sx (n := n) hn h1 h2
  have bn := both_none (b := b) (x := x) (y := y) sx
  have mx : ∀ s ∈ firstsR b x, s ∈ x := fun s hs => by obtain ⟨u, v, e, _⟩ := firsts_mem.1 hs; rw [e]; simp
  have my : ∀ s ∈ firstsR b y, s ∈ y := fun s hs => by obtain ⟨u, v, e, _⟩ := firsts_mem.1 hs; rw [e]; simp
  generalize hpe : (firstsR b x).isEmpty = ep
  generalize hqe : (firstsR b y).isEmpty = eq
  generalize firstsR b x = p at *
  generalize firstsR b y = q at *
  refine loop_eq (fun n : Nat => ⟨[(1, Ls g x), (2, Ls h y), (8, Ls ep p), (9, Ls eq q), (10, I (n : Int))], [.cells [I b.L, Ps f b.c]]⟩)
    (fun n => n ≤ p.length ∧ ∀ k (hk : k < p.length), k < n → p[k] ∉ q) (fun n => p.length - n) 0 ⟨Nat.zero_le _, fun k hk h => by omega⟩ rfl ?_
  rintro n ⟨c1, c2⟩
  refine hideK' fun K0 hK0 => ?_
  simp (disch := omega) [wrap_id]
  refine c_split (fun hn => ?_) (fun hn => ?_)
  · have hn : n < p.length := by simp at hn; omega
    have nx : ((n : Int) + 1) = ((n + 1 : Nat) : Int) := by omega
    simp (disch := omega) [wrap_id]
    refine loop_eq (fun m : Nat => ⟨[(1, Ls g x), (2, Ls h y), (8, Ls ep p), (9, Ls eq q), (10, I (n : Int)), (11, I (m : Int))], [.cells [I b.L, Ps f b.c]]⟩)
      (fun m => m ≤ q.length ∧ ∀ k (hk : k < q.length), k < m → q[k] ≠ p[n]) (fun m => q.length - m) 0 ⟨Nat.zero_le _, fun k hk h => by omega⟩ rfl ?_
    rintro m ⟨d1, d2⟩
    refine hideK' fun K1 hK1 => ?_
    simp (disch := omega) [wrap_id]
    refine c_split (fun hm => ?_) (fun hm => ?_)
    · have hm : m < q.length := by simp at hm; omega
      have mx1 : ((m : Int) + 1) = ((m + 1 : Nat) : Int) := by omega
      simp (disch := omega) [wrap_id, cells_ls, hn, hm]
      cases heq : p[n] == q[m] with
      | false =>
        simp (disch := omega) [wrap_id]
        rw [hK1]
        refine next_eq (m + 1) ⟨by omega, fun k hk hkm => ?_⟩ (by omega) (by simp only [mx1])
        by_cases e : k = m
        · subst e; intro h; rw [h] at heq; simp at heq
        · exact d2 k hk (by omega)
      | true =>
        have hpq : p[n] = q[m] := by simpa using heq
        obtain ⟨r1, r2⟩ := bf n hn (by rw [hpq]; exact List.getElem_mem hm) c2
        have e1 : bothR b x y = (((x.idxOf p[n] : Nat) : Int), ((y.idxOf p[n] : Nat) : Int)) := by unfold bothR; rw [if_neg r1, r2]
        obtain ⟨i1, i2, i3⟩ := idx_facts (mx _ (List.getElem_mem hn))
        obtain ⟨j1, j2, j3⟩ := idx_facts (my p[n] (by rw [hpq]; exact List.getElem_mem hm))
        rw [hK1, hK0, e1]
        clear hK1 hK0 bf bn d2 c2
        generalize x.idxOf p[n] = I1 at *
        generalize y.idxOf p[n] = J1 at *
        simp (disch := omega) [wrap_id]
        refine loop_eq (fun i : Nat => ⟨[(1, Ls g x), (2, Ls h y), (8, Ls ep p), (10, I (n : Int)), (12, I (i : Int)), (13, I 0)], [.cells [I b.L, Ps f b.c]]⟩) (fun i => i ≤ I1) (fun i => I1 - i) 0 (Nat.zero_le _) rfl ?_
        intro i hi
        refine hideK' fun K2 hK2 => ?_
        have il : i < x.length := by omega
        simp (disch := omega) [wrap_id, cells_ls, hn, il]
        by_cases hii : i = I1
        · have hx1 : x[i] = p[n] := by subst hii; exact i2
          have hx2 : (x[i] != p[n]) = false := by simp [hx1]
          rw [hx2]
          subst hii
          subst hK2
          simp (disch := omega) [wrap_id]
          refine loop_of (fun j : Nat => ⟨[(2, Ls h y), (8, Ls ep p), (10, I (n : Int)), (12, I (i : Int)), (13, I (j : Int))], [.cells [I b.L, Ps f b.c]]⟩) (fun j => j ≤ J1) (fun j => J1 - j) 0 (Nat.zero_le _) (le_drop fun t => by simp only [get_cons, get_nil]; (repeat' split) <;> first | (exfalso; omega) | exact .inl rfl | exact .inr rfl) ?_
          intro j hj
          refine hideK' fun K3 hK3 => ?_
          have jl : j < y.length := by omega
          simp (disch := omega) [wrap_id, cells_ls, hn, jl]
          by_cases hjj : j = J1
          · have hy1 : y[j] = p[n] := by subst hjj; exact j2
            have hy2 : (y[j] != p[n]) = false := by simp [hy1]
            rw [hy2]
            subst hjj
            subst hK3
            simp (disch := omega) [wrap_id]
            exact out_of (is := []) rfl
          · have hy2 : (y[j] != p[n]) = true := by simpa using j3 j jl (by omega)
            rw [hy2]
            have nx : ((j : Int) + 1) = ((j + 1 : Nat) : Int) := by omega
            simp (disch := omega) [wrap_id]
            rw [hK3]
            exact next_eq (j + 1) (by omega) (by omega) (by simp only [nx])
        · have hx2 : (x[i] != p[n]) = true := by simpa using i3 i il (by omega)
          rw [hx2]
          have nx : ((i : Int) + 1) = ((i + 1 : Nat) : Int) := by omega
          simp (disch := omega) [wrap_id]
          rw [hK2]
          exact next_eq (i + 1) (by omega) (by omega) (by simp only [nx])
    · have hm : m = q.length := by simp at hm; omega
      subst hm
      subst hK1
      simp (disch := omega) [wrap_id]
      rw [hK0]
      refine next_eq (n + 1) ⟨by omega, fun k hk hkn => ?_⟩ (by omega) (by simp only [nx])
      by_cases e : k = n
      · subst e
        intro hmem
        obtain ⟨j, hj, e⟩ := List.getElem_of_mem hmem
        exact d2 j hj hj e
      · exact c2 k hk (by omega)
  · have hn : n = p.length := by simp at hn; omega
    subst hn
    subst hK0
    have e0 := bn fun k hk => c2 k hk hk
    have e1 : bothR b x y = (-1, -1) := by unfold bothR; rw [if_pos e0]
    rw [e1]
    simp (disch := omega) [wrap_id]
    exact out_of (is := []) rfl

end Go.AM

/- WHAT THE CODE ANSWERS, PART 11: Common, of the specification. Own work. -/
set_option linter.unusedSimpArgs false
set_option linter.unusedVariables false
namespace Go.AM
open Go.RowKit Go.Proofs

def comF (b : Bch) (x y : List Int) : List Int := cmnF b x.length x y
def commonR (b : Bch) (l m : List Int) : List Int := if twoR b l m ≠ 0 then [] else form b (comF b (form b l) (form b m))

theorem comF_nil {b : Bch} {x y : List Int} (h : cms b x y = []) : comF b x y = [] := by
  unfold comF; cases x.length with
  | zero => rfl
  | succ n => simp only [cmnF]; rw [if_pos h]
theorem comF_cons {b : Bch} {x y : List Int} (hx : S8 x) (h : cms b x y ≠ []) : comF b x y = leastC (cms b x y) :: comF b (x.erase (leastC (cms b x y))) (y.erase (leastC (cms b x y))) := by
  obtain ⟨h1, _, _, _⟩ := cms_least hx h
  obtain ⟨u, v, e, _⟩ := h1
  have hm : leastC (cms b x y) ∈ x := by
    generalize leastC (cms b x y) = s at e ⊢
    rw [e]; simp
  have hl := List.length_erase_of_mem hm
  have hp := List.length_pos_of_mem hm
  unfold comF
  obtain ⟨n, hn⟩ : ∃ n, x.length = n + 1 := ⟨x.length - 1, by omega⟩
  rw [hl, hn]
  simp only [cmnF]
  rw [if_neg h]
  rfl

theorem refCommon_ok (f g h : Bool) (b : Bch) (l m : List Int) (hb : b.c.length ≤ 1000000) (hl : l.length ≤ 1000000) (hm : m.length ≤ 1000000) : PureOK Try.prog 46 [Bn f b, Ls g l, Ls h m] (.tup [Ls (commonR b l m).isEmpty (commonR b l m), I (twoR b l m)]) := by
  refine pure_of (walk Try.func46 form46 res46 (by show 3 ≤ _; decide) ?_)
  simp (disch := omega) [G46, wrap_id]
  refine callW_pure rfl (two_ok f g h b l m hb hl hm) ?_
  rw [show (if chkL b l ≠ 0 then chkL b l else chkL b m) = twoR b l m from rfl]
  by_cases hc : twoR b l m = 0
  · obtain ⟨h1, h2⟩ := two_S8 hc
    obtain ⟨s1, l1⟩ := chkL_S8 h1
    obtain ⟨s2, l2⟩ := chkL_S8 h2
    have e : commonR b l m = form b (comF b (form b l) (form b m)) := by unfold commonR; rw [if_neg (by simp [hc])]
    rw [e, hc]
    simp (disch := omega) [wrap_id]
    refine pureW_of rfl (form_ok f g b l hb (by omega) s1.small) ?_
    simp (disch := omega) [wrap_id]
    refine pureW_of rfl (form_ok f h b m hb (by omega) s2.small) ?_
    simp (disch := omega) [wrap_id]
    have x1 := form_len b l
    have x2 := form_len b m
    refine loop_eq (fun q : List Int × List Int × Bool × Bool × AV × List Int × List HObj => ⟨[(3, .ref 0 0), (8, Ls q.2.2.1 q.1), (9, Ls q.2.2.2.1 q.2.1), (10, q.2.2.2.2.1)], q.2.2.2.2.2.2⟩)
      (fun q => nthH q.2.2.2.2.2.2 0 = some (.cells [I b.L, Ps f b.c]) ∧ AccR q.2.2.2.2.2.2 q.2.2.2.2.1 q.2.2.2.2.2.1 ∧ rid q.2.2.2.2.1 ≠ some 0 ∧ S8 q.1 ∧ S8 q.2.1 ∧ S8 q.2.2.2.2.2.1 ∧ q.1.length + q.2.2.2.2.2.1.length ≤ 60 ∧ q.2.1.length ≤ 60 ∧ comF b (form b l) (form b m) = q.2.2.2.2.2.1 ++ comF b q.1 q.2.1)
      (fun q => q.1.length) (form b l, form b m, (form b l).isEmpty, (form b m).isEmpty, .sl true 0 [], [], [.cells [I b.L, Ps f b.c]])
      ⟨rfl, .inl ⟨rfl, rfl⟩, by simp [rid], form_S8 s1, form_S8 s2, S8.nil, by simp only [List.length_nil]; omega, by simp only; omega, rfl⟩ rfl ?_
    rintro ⟨x, y, fx, fy, a, out, H⟩ ⟨c1, c2, c3, c4, c5, c6, c7, c8, c9⟩
    simp only at c1 c2 c3 c4 c5 c6 c7 c8 c9 ⊢
    refine hideK' fun K0 hK0 => ?_
    have H0 := nthH_lt c1
    simp (disch := omega) [wrap_id, c1]
    refine callW_pure rfl (both_ok f fx fy b x y hb (by omega) (by omega) c4 c5) ?_
    by_cases hn : cms b x y = []
    · have e1 : bothR b x y = (-1, -1) := by unfold bothR; rw [if_pos hn]
      rw [comF_nil hn, List.append_nil] at c9
      rw [e1]
      obtain ⟨fa, ia, pa, hia⟩ := c2.pur
      simp (disch := omega) [wrap_id, c1]
      refine callW_pure (purifyAll2 bn_pur pa) (form_ok f fa b out hb (by omega) c6.small) ?_
      subst hK0
      rw [c9]
      simp (disch := omega) [wrap_id]
      exact out_of (is := []) rfl
    · obtain ⟨g1, g2, g3, g4⟩ := cms_least c4 hn
      have e1 : bothR b x y = (((x.idxOf (leastC (cms b x y)) : Nat) : Int), ((y.idxOf (leastC (cms b x y)) : Nat) : Int)) := by unfold bothR; rw [if_neg hn]
      rw [comF_cons c4 hn] at c9
      rw [e1]
      generalize leastC (cms b x y) = s at *
      obtain ⟨u, v, ex, _, _, ix, ax, bx⟩ := free_split g1
      obtain ⟨u', v', ey, _, _, iy, ay, byy⟩ := free_split g2
      have hu : u.length < x.length := by rw [ex]; simp
      have hu' : u'.length < y.length := by rw [ey]; simp
      have xs : x[u.length] = s := by simp [ex]
      rw [ix, iy]
      rw [← ax] at bx
      rw [← ay] at byy
      have nneg : ¬ (u.length : Int) < 0 := by omega
      simp (disch := omega) [wrap_id, cells_ls, hu, nneg, xs]
      refine bsl_of (ys := [I s]) rfl rfl ?_
      simp (disch := omega) [wrap_id, zrep, place]
      refine app_rowL (g := true) (m := [s]) c2.row (by omega) (by simp) fun ws w1 w2 w3 w4 => ?_
      simp (disch := omega) [wrap_id]
      refine callW_pure rfl (without_ok fx x (by omega) u.length hu) ?_
      simp (disch := omega) [wrap_id]
      refine callW_pure rfl (without_ok fy y (by omega) u'.length hu') ?_
      simp (disch := omega) [wrap_id]
      rw [bx, byy, hK0]
      have d0 := w1 0 H0 c3
      have lx : (x.erase s).length + 1 = x.length := by rw [ax, ex]; simp; omega
      have ly : (y.erase s).length + 1 = y.length := by rw [ay, ey]; simp; omega
      refine next_eq (x.erase s, y.erase s, false, false, .ms H.length 0 (out.length + 1) 1, out ++ [s], writeL H ws) ⟨d0.trans c1, .inr ⟨H.length, by simp, by simp, w3⟩, fun e => by simp [rid] at e; rw [e] at H0; simp at H0, fun z hz => c4 z (List.mem_of_mem_erase hz), fun z hz => c5 z (List.mem_of_mem_erase hz), c6.append (S8.one g3), by simp only [List.length_append, List.length_singleton]; omega, by simp only; omega, ?_⟩ (by simp only; omega) rfl
      simp only [List.append_assoc, List.singleton_append]
      exact c9
  · have hc' : (twoR b l m != 0) = true := by simpa using hc
    simp (disch := omega) [wrap_id, hc, hc']
    refine callW_pure rfl (two_ok f g h b l m hb hl hm) ?_
    rw [show (if chkL b l ≠ 0 then chkL b l else chkL b m) = twoR b l m from rfl]
    simp (disch := omega) [wrap_id, hc, hc']
    have e : commonR b l m = [] := by unfold commonR; rw [if_pos hc]
    rw [e]
    exact out_of (is := []) rfl

end Go.AM

/- WHAT THE CODE ANSWERS, PART 12: front; Common. Own work. -/
set_option linter.unusedSimpArgs false
set_option linter.unusedVariables false
namespace Go.AM
open Go.RowKit Go.Proofs

theorem front_w {f : Bool} {b : Bch} (s : Int) (hs : St8 s) {hp : List HObj} {p : Nat} {rs : List AV} {R : Nat → List Int} (hP : PLr hp p (TB f b) rs R) {K : AV → List HObj → Prop}
    (hK : K (B (decide ((R (lineI s).toNat).head? = some s))) hp) : CallW Try.prog 82 [.ref p 0, I s] hp K := by
  refine walk Try.func82 form82 res82 (by show 2 ≤ _; decide) ?_
  have ho := hP.obj
  have hlen := hP.len
  have hl := hs.line
  obtain ⟨a, ha⟩ : ∃ a : Nat, lineI s = a := ⟨(lineI s).toNat, by omega⟩
  have hta : (lineI s).toNat = a := by omega
  have har : a < rs.length := by omega
  have hr := hP.row a har
  obtain ⟨p1, p2, p3⟩ := hs
  rw [hta] at hK
  simp (disch := omega) [G82, wrap_id]
  refine pureW_of rfl (line_ok s (by omega)) ?_
  rw [line_eq, ha]
  simp (disch := omega) [wrap_id, ho, cells_row, har]
  refine ⟨by omega, ?_⟩
  rw [len_row hr]
  cases hR : R a with
  | nil =>
    rw [hR] at hK
    simp (disch := omega) [wrap_id]
    simpa using hK
  | cons t r =>
    rw [hR] at hK hr
    obtain ⟨id, off, cs, e1, e2, e3, e4⟩ := row_ne hr (by simp)
    have e5 : 0 < (t :: r).length := by simp
    have cv := fun {K : AV → List (Nat × HObj) → Prop} => cells_view (K := K) e4 e5
    simp only [Nat.add_zero, List.getElem_cons_zero] at cv
    have pos : 0 < (t :: r).length := by simp
    rw [e1]
    generalize (t :: r).length = n at *
    have c0 : nthA cs off = some (I t) := by
      have h0 := congrArg (fun l : List AV => l[0]?) e4
      simp only [view, List.map_cons, List.getElem?_cons_zero] at h0
      rw [List.getElem?_take, if_pos pos, List.getElem?_drop, Nat.add_zero] at h0
      rw [nthA_eq]; exact h0
    simp (disch := omega) [wrap_id, pos, e2, c0]
    have eb : (t == s) = decide (t = s) := by by_cases h : t = s <;> simp [h]
    rw [eb]
    simpa using hK

/-- The strokes that both can begin with, taken down one after another. -/
def CmJ (b : Bch) (H : List HObj) (w v : List Int) (a13 id : Nat) (j : Nat) (G : List HObj) : Prop :=
  (∀ i, i < a13 → nthH G i = nthH H i) ∧ (∃ y, nthH G a13 = some (.cells [y]) ∧ AccR G y (((fsR (Pj b w)).take j).filter (inFr b v)) ∧ ∀ i, rid y = some i → id + 2 ≤ i) ∧ nthH G id = some (.lp .ready (id + 1)) ∧ id + 2 ≤ G.length

theorem pile_form {b : Bch} {l : List Int} (hl : S8 l) : Eq8 (pileF b l) (Pj b (form b l)) :=
  (pile_red_eq hl).1.trans ((formF_sim _ (pile_red_eq hl).2.1 rfl).2.2).symm

set_option maxHeartbeats 1000000 in
theorem common_ok (f g h : Bool) (b : Bch) (l m : List Int) (hb : b.c.length ≤ 1000000) (hl : l.length ≤ 1000000) (hm : m.length ≤ 1000000) : PureOK Try.prog 45 [Bn f b, Ls g l, Ls h m] (.tup [Ls (commonR b l m).isEmpty (commonR b l m), I (twoR b l m)]) := by
  refine pure_of (walk Try.func45 form45 res45 (by show 3 ≤ _; decide) ?_)
  simp (disch := omega) [G45, wrap_id]
  refine bsl_of (ys := [Ls g l, Ls h m]) rfl rfl ?_
  simp (disch := omega) [wrap_id, zrep]
  refine callW_pure rfl (open2_ok f true g h b l m hb hl hm) ?_
  by_cases hc : twoR b l m = 0
  · obtain ⟨h1, h2⟩ := two_S8 hc
    obtain ⟨s1, l1⟩ := chkL_S8 h1
    obtain ⟨s2, l2⟩ := chkL_S8 h2
    have e : commonR b l m = form b (comF b (form b l) (form b m)) := by unfold commonR; rw [if_neg (by simp [hc])]
    rw [e, hc]
    have x1 := form_len b l
    have x2 := form_len b m
    simp (disch := omega) [wrap_id, openAV]
    refine pile_w f g b l s1 hl (pileNe s1) fun H1 rs1 P1 u1 u2 => ?_
    simp (disch := omega) [wrap_id]
    refine pile_w f h b m s2 hm (pileNe s2) fun H2 rs2 P2 u3 u4 => ?_
    have H1l : 1 < H1.length := nthH_lt P1.obj
    have H2l : H1.length < H2.length := nthH_lt P2.obj
    have P1 : PLr H1 1 (TB f b) rs1 (Pj b (form b l)) := P1.congr (pile_form s1)
    have P2 := P2.congr (pile_form s2)
    have o1 : ∀ i, Own 1 rs1 i → i < H1.length := fun i hi => own_lt P1 hi
    have o2 : ∀ i, Own H1.length rs2 i → i < H2.length := fun i hi => own_lt P2 hi
    have P1' : PLr H2 1 (TB f b) rs1 (Pj b (form b l)) := P1.mono fun i hi => u3 i (o1 i hi)
    simp (disch := omega) [wrap_id]
    generalize hp2 : H1.length = p2 at *
    generalize ha11 : H2.length = a11 at *
    have h0 : nthH (H2 ++ [HObj.cells [AV.ref p2 0]]) a11 = some (.cells [.ref p2 0]) := by rw [← ha11]; exact nthH_end
    have front : ∀ i, i < a11 → nthH (H2 ++ [HObj.cells [AV.ref p2 0]]) i = nthH H2 i := fun i hi => nthH_front (by omega)
    refine loop_eq (fun q : List Int × List Int × List AV × List AV × AV × List Int × List HObj => ⟨[(6, .sl true 0 []), (7, I 0), (8, .ptr (TB f b) 0), (10, .ref 1 0), (11, .ref a11 0), (12, q.2.2.2.2.1)], q.2.2.2.2.2.2⟩)
      (fun q => PLr q.2.2.2.2.2.2 1 (TB f b) q.2.2.1 (Pj b q.1) ∧ PLr q.2.2.2.2.2.2 p2 (TB f b) q.2.2.2.1 (Pj b q.2.1) ∧ nthH q.2.2.2.2.2.2 a11 = some (.cells [.ref p2 0]) ∧ AccR q.2.2.2.2.2.2 q.2.2.2.2.1 q.2.2.2.2.2.1 ∧
        (∀ i, Own 1 q.2.2.1 i → ¬ Own p2 q.2.2.2.1 i) ∧ ¬ Own 1 q.2.2.1 a11 ∧ ¬ Own p2 q.2.2.2.1 a11 ∧ (∀ i, rid q.2.2.2.2.1 = some i → ¬ Own 1 q.2.2.1 i ∧ ¬ Own p2 q.2.2.2.1 i ∧ i ≠ a11) ∧
        S8 q.1 ∧ S8 q.2.1 ∧ S8 q.2.2.2.2.2.1 ∧ q.1.length + q.2.2.2.2.2.1.length ≤ 60 ∧ comF b (form b l) (form b m) = q.2.2.2.2.2.1 ++ comF b q.1 q.2.1)
      (fun q => q.1.length) (form b l, form b m, rs1, rs2, .sl true 0 [], [], H2 ++ [HObj.cells [AV.ref p2 0]])
      ⟨P1'.mono fun i hi => front i (by have := o1 i hi; omega), P2.mono fun i hi => front i (o2 i hi), h0, .inl ⟨rfl, rfl⟩, fun i h1 h2 => by have := o1 i h1; have := u4 i h2; omega, fun h => by have := o1 _ h; omega, fun h => by have := o2 _ h; omega, fun i h => by simp [rid] at h,
        form_S8 s1, form_S8 s2, S8.nil, by simp only [List.length_nil]; omega, rfl⟩ rfl ?_
    rintro ⟨w, v, rs, rt, x, acc, H⟩ ⟨c1, c2, c3, c4, c5, c6, c7, c8, c9, d1, d2, d3, d4⟩
    simp only at c1 c2 c3 c4 c5 c6 c7 c8 c9 d1 d2 d3 d4 ⊢
    refine hideK' fun K0 hK0 => ?_
    have a11l := nthH_lt c3
    simp (disch := omega) [wrap_id]
    refine fronts_w ?_
    simp (disch := omega) [wrap_id]
    have hid : (H ++ [HObj.cells [AV.sl true 0 []], HObj.cells [AV.ref 1 0]]).length = H.length + 2 := by simp
    have ho : ∀ i, Own 1 rs i → i < H.length := fun i hi => own_lt c1 hi
    have ho2 : ∀ i, Own p2 rt i → i < H.length := fun i hi => own_lt c2 hi
    have hx : ∀ i, rid x = some i → i < H.length := fun i hi => c4.row.lt hi
    have front : ∀ (i : Nat) (l : List HObj), i < H.length → nthH (H ++ l) i = nthH H i := fun i l hi => nthH_front hi
    refine rf_of (K0 := CmJ b H w v H.length (H.length + 2) (fsR (Pj b w)).length) (fronts_R (f := f) (b := b) (p := 1) (rs := rs) (R := Pj b w) (J := CmJ b H w v H.length (H.length + 2)) (c1.mono fun i hi => front i _ (ho i hi)) ?_ ?_ (fun j G h => c1.mono fun i hi => h.1 i (ho i hi)) ?_) ?_
    · rw [nthH_eq, List.getElem?_append_right (by omega)]; simp
    · rw [hid]
      refine ⟨fun i hi => by rw [List.append_assoc]; exact front i _ hi, ⟨.sl true 0 [], ?_, .inl ⟨rfl, rfl⟩, fun i hi => (by cases hi)⟩, ?_, by simp⟩
      · rw [List.append_assoc, nthH_eq, List.getElem?_append_right (by omega)]; simp
      · rw [List.append_assoc, nthH_eq, List.getElem?_append_right (by omega)]; simp
    · intro j G hj hJ
      obtain ⟨f1, ⟨y, f3, f4, f5⟩, f6, f7⟩ := hJ
      rw [hid]
      refine ⟨by rw [hpf_nthH]; exact f6, rfl, ?_⟩
      have gl : H.length + 2 < G.length := by omega
      have kb : ∀ i, i < H.length → nthH (G.set (H.length + 2) (HObj.lp LpSt.busy (H.length + 2 + 1))) i = nthH H i := fun i hi => by rw [nthH_set_ne (by omega)]; exact f1 i hi
      have ga : nthH (G.set (H.length + 2) (HObj.lp LpSt.busy (H.length + 2 + 1))) H.length = some (.cells [y]) := by rw [nthH_set_ne (by omega)]; exact f3
      have gy : AccR (G.set (H.length + 2) (HObj.lp LpSt.busy (H.length + 2 + 1))) y (((fsR (Pj b w)).take j).filter (inFr b v)) := f4.mono fun i hi => nthH_set_ne (by have := f5 i hi; omega)
      have g11 := (kb a11 a11l).trans c3
      have g2 : PLr (G.set (H.length + 2) (HObj.lp LpSt.busy (H.length + 2 + 1))) p2 (TB f b) rt (Pj b v) := c2.mono fun i hi => kb i (ho2 i hi)
      have gid : nthH (G.set (H.length + 2) (HObj.lp LpSt.busy (H.length + 2 + 1))) (H.length + 2) = some (.lp .busy (H.length + 2 + 1)) := nthH_set_same gl
      have gll : (G.set (H.length + 2) (HObj.lp LpSt.busy (H.length + 2 + 1))).length = G.length := by simp
      have s8 : St8 (fsR (Pj b w))[j] := by
        have hm : (fsR (Pj b w))[j] ∈ fsR (Pj b w) := List.getElem_mem hj
        obtain ⟨u, z, e, _⟩ := (fs_Pj c9).1 hm
        generalize (fsR (Pj b w))[j] = s at e ⊢
        exact c9 s (by rw [e]; simp)
      have tk : (fsR (Pj b w)).take (j + 1) = (fsR (Pj b w)).take j ++ [(fsR (Pj b w))[j]] := List.take_succ_eq_append_getElem hj
      have h8 := fsR_len (Pj b w)
      have hjl : (((fsR (Pj b w)).take j).filter (inFr b v)).length ≤ j := by
        have := List.length_filter_le (inFr b v) ((fsR (Pj b w)).take j)
        simp only [List.length_take] at this; omega
      have fin : inFr b v (fsR (Pj b w))[j] = decide ((Pj b v (lineI (fsR (Pj b w))[j]).toNat).head? = some (fsR (Pj b w))[j]) := rfl
      simp (disch := omega) [wrap_id, putPs, hpf_nthH, f6, gl, g11]
      generalize G.set (H.length + 2) (HObj.lp LpSt.busy (H.length + 2 + 1)) = Gb at *
      generalize hs : (fsR (Pj b w))[j] = s at *
      refine front_w s s8 g2 ?_
      rw [← fin]
      cases hin : inFr b v s with
      | true =>
        have tf : ((fsR (Pj b w)).take (j + 1)).filter (inFr b v) = ((fsR (Pj b w)).take j).filter (inFr b v) ++ [s] := by rw [tk, List.filter_append]; simp [hin]
        simp (disch := omega) [wrap_id, ga]
        refine bsl_of (ys := [I s]) rfl rfl ?_
        simp (disch := omega) [wrap_id, zrep]
        refine app_row gy.row (by omega) fun ws w1 w2 w3 => ?_
        generalize hH1 : writeL Gb ws = Hn at w1 w2 w3
        have w1' : ∀ i, i < G.length → rid y ≠ some i → nthH Hn i = nthH Gb i := fun i hi hr => w1 i (by omega) hr
        have a1 : nthH Hn H.length = some (.cells [y]) := by rw [w1' H.length (by omega) (fun e => by have := f5 _ e; omega)]; exact ga
        have a2 : nthH Hn (H.length + 2) = some (.lp .busy (H.length + 2 + 1)) := by rw [w1' (H.length + 2) gl (fun e => by have := f5 _ e; omega)]; exact gid
        have a3 : H.length < Hn.length := by omega
        have a4 : H.length + 2 < Hn.length := by omega
        simp (disch := omega) [wrap_id, hH1, a1, a3]
        refine ⟨?_, rfl, ?_⟩
        · rw [hpf_nthH, nthH_set_ne (by omega)]; exact a2
        · simp only [setL, List.length_set]
          rw [if_pos a4]
          refine ⟨fun i hi => ?_, ⟨_, by rw [nthH_set_ne (by omega)]; exact nthH_set_same a3, ?_, fun i hi => ?_⟩, nthH_set_same (by simp; omega), by simp; omega⟩
          · rw [nthH_set_ne (by omega), nthH_set_ne (by omega), w1' i (by omega) (fun e => by have := f5 _ e; omega)]; exact kb i hi
          · rw [tf]
            refine .inr ⟨Gb.length, by simp, by simp, ?_⟩
            rw [nthH_set_ne (by omega), nthH_set_ne (by omega)]; exact w3
          · cases hi; omega
      | false =>
        have tf : ((fsR (Pj b w)).take (j + 1)).filter (inFr b v) = ((fsR (Pj b w)).take j).filter (inFr b v) := by rw [tk, List.filter_append]; simp [hin]
        simp (disch := omega) [wrap_id]
        refine ⟨?_, rfl, ?_⟩
        · rw [hpf_nthH]; exact gid
        · have a4 : H.length + 2 < Gb.length := by omega
          simp only [setL]
          rw [if_pos a4]
          refine ⟨fun i hi => by rw [nthH_set_ne (by omega)]; exact kb i hi, ⟨y, by rw [nthH_set_ne (by omega)]; exact ga, ?_, f5⟩, nthH_set_same (by omega), by simp; omega⟩
          rw [tf]
          exact gy.mono fun i hi => nthH_set_ne (by have := f5 i hi; omega)
    · rintro G ⟨f1, ⟨y, f3, f4, f5⟩, f6, f7⟩
      rw [hid]
      rw [List.take_length] at f4
      refine rfEnd_ready f6 ?_
      have kb : ∀ i, i < H.length → nthH (G.set (H.length + 2) .gone) i = nthH H i := fun i hi => by rw [nthH_set_ne (by omega)]; exact f1 i hi
      have gy : AccR (G.set (H.length + 2) .gone) y (cms b w v) := f4.mono fun i hi => nthH_set_ne (by have := f5 i hi; omega)
      have ga : nthH (G.set (H.length + 2) .gone) H.length = some (.cells [y]) := by rw [nthH_set_ne (by omega)]; exact f3
      have glen : H.length + 2 ≤ (G.set (H.length + 2) HObj.gone).length := by simp; omega
      generalize G.set (H.length + 2) HObj.gone = G2 at kb gy ga glen
      have q1 : PLr G2 1 (TB f b) rs (Pj b w) := c1.mono fun i hi => kb i (ho i hi)
      have q2 : PLr G2 p2 (TB f b) rt (Pj b v) := c2.mono fun i hi => kb i (ho2 i hi)
      have q11 : nthH G2 a11 = some (.cells [.ref p2 0]) := (kb a11 a11l).trans c3
      have qx : AccR G2 x acc := c4.mono fun i hi => kb i (hx i hi)
      simp (disch := omega) [wrap_id, ga, len_row gy.row]
      by_cases hw0 : cms b w v = []
      · rw [comF_nil hw0, List.append_nil] at d4
        obtain ⟨fa, ia, pa, hia⟩ := qx.pur
        simp (disch := omega) [wrap_id, hw0]
        refine callW_pure (purifyAll2 (a := .ptr (TB f b) 0) rfl pa) (form_c f fa b acc d2 (by omega)) ?_
        subst hK0
        rw [d4]
        simp (disch := omega) [wrap_id]
        exact out_of (is := []) rfl
      · obtain ⟨g1, g2, g3, g4⟩ := cms_least c9 hw0
        rw [comF_cons c9 hw0] at d4
        have hfs : ∀ s ∈ cms b w v, St8 s := fun s hs' => by
          obtain ⟨⟨u, z, e, _⟩, _⟩ := (cms_mem c9).1 hs'
          exact c9 s (by rw [e]; simp)
        have cl : (cms b w v).length ≤ 8 := Nat.le_trans (List.length_filter_le ..) (fsR_len _)
        have hl0 : (((cms b w v).length : Int) == 0) = false := by
          rw [beq_eq_false_iff_ne]
          have := List.length_pos_iff.2 hw0
          omega
        rcases gy with ⟨_, e⟩ | ⟨iy, rfl, _, gy⟩
        · exact absurd e hw0
        simp (disch := omega) [wrap_id, hl0, ga]
        refine least_w (by omega) hfs hw0 gy ?_
        generalize leastC (cms b w v) = s at *
        obtain ⟨u, z, ex, eu, _, ix, ax, bx⟩ := free_split g1
        obtain ⟨u', z', ey, eu', _, iy', ay, byy⟩ := free_split g2
        simp (disch := omega) [wrap_id]
        refine take_w f b s g3 q1 (fun k _ hk => by rw [ex]; exact cross_ne hk) fun H3 rs3 r1 r2 r3 r4 => ?_
        have o3 : ∀ i, Own 1 rs3 i → Own 1 rs i := fun i hi => by
          rcases r3 i hi with h | h
          · exact h
          · have := own_lt r1 hi; omega
        have r1 : PLr H3 1 (TB f b) rs3 (Pj b (w.erase s)) := r1.congr fun k _ => by rw [ax, ex]; exact take_Pj g3 eu k
        have k3 : ∀ i, i < G2.length → ¬ Own 1 rs i → nthH H3 i = nthH G2 i := r2.2
        have lt2 : ∀ {i : Nat}, i < H.length → i < G2.length := fun h => by omega
        have q2 : PLr H3 p2 (TB f b) rt (Pj b v) := q2.mono fun i hi => k3 i (lt2 (ho2 i hi)) (fun h => c5 i h hi)
        have q11 : nthH H3 a11 = some (.cells [.ref p2 0]) := (k3 a11 (lt2 a11l) c6).trans q11
        have qx : AccR H3 x acc := qx.mono fun i hi => k3 i (lt2 (hx i hi)) (c8 i hi).1
        simp (disch := omega) [wrap_id, q11]
        refine take_w f b s g3 q2 (fun k _ hk => by rw [ey]; exact cross_ne hk) fun H4 rs4 t1 t2 t3 t4 => ?_
        have o4 : ∀ i, Own p2 rs4 i → Own p2 rt i := fun i hi => by
          rcases t3 i hi with h | h
          · exact h
          · have := own_lt t1 hi; omega
        have t1 : PLr H4 p2 (TB f b) rs4 (Pj b (v.erase s)) := t1.congr fun k _ => by rw [ay, ey]; exact take_Pj g3 eu' k
        have k4 : ∀ i, i < H3.length → ¬ Own p2 rt i → nthH H4 i = nthH H3 i := t2.2
        have lt3 : ∀ {i : Nat}, i < H.length → i < H3.length := fun h => by omega
        have q1 : PLr H4 1 (TB f b) rs3 (Pj b (w.erase s)) := r1.mono fun i hi => k4 i (lt3 (ho i (o3 i hi))) (fun h => c5 i (o3 i hi) h)
        have q11 : nthH H4 a11 = some (.cells [.ref p2 0]) := (k4 a11 (lt3 a11l) c7).trans q11
        have qx : AccR H4 x acc := qx.mono fun i hi => k4 i (lt3 (hx i hi)) (c8 i hi).2.1
        simp (disch := omega) [wrap_id]
        refine bsl_of (ys := [I s]) rfl rfl ?_
        simp (disch := omega) [wrap_id, zrep]
        refine app_row qx.row (by omega) fun ws w1 w2 w3 => ?_
        simp (disch := omega) [wrap_id]
        have lx : (w.erase s).length + 1 = w.length := by rw [ax, ex]; simp; omega
        have h4 : ∀ {i : Nat}, i < H.length → i < H4.length := fun h => by omega
        rw [hK0]
        refine next_eq (w.erase s, v.erase s, rs3, rs4, .ms H4.length 0 (acc.length + 1) 1, acc ++ [s], writeL H4 ws)
          ⟨q1.mono fun i hi => w1 i (h4 (ho i (o3 i hi))) (fun e => (c8 i e).1 (o3 i hi)), t1.mono fun i hi => w1 i (h4 (ho2 i (o4 i hi))) (fun e => (c8 i e).2.1 (o4 i hi)), (w1 a11 (h4 a11l) (fun e => (c8 _ e).2.2 rfl)).trans q11,
            .inr ⟨H4.length, by simp, by simp, w3⟩, fun i hi hj => c5 i (o3 i hi) (o4 i hj), fun h => c6 (o3 _ h), fun h => c7 (o4 _ h), fun i hi => ?_, fun t ht => c9 t (List.mem_of_mem_erase ht), fun t ht => d1 t (List.mem_of_mem_erase ht),
            d2.append (S8.one g3), by simp only [List.length_append, List.length_singleton]; omega, ?_⟩ (by simp only; omega) rfl
        · cases hi
          exact ⟨fun h => by have := h4 (ho _ (o3 _ h)); omega, fun h => by have := h4 (ho2 _ (o4 _ h)); omega, fun h => by have := h4 a11l; omega⟩
        · simp only [List.append_assoc, List.singleton_append]
          exact d4
  · have hc' : (twoR b l m != 0) = true := by simpa using hc
    simp (disch := omega) [wrap_id, openAV, hc, hc']
    have e : commonR b l m = [] := by unfold commonR; rw [if_pos hc]
    rw [e]
    refine out_of (is := []) ?_
    rfl

end Go.AM
