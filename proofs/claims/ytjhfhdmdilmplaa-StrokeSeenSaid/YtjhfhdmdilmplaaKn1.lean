/-
  LAWS: StrokeSeen. Own work.
-/
import Derived.Test.YtjhfhdmdilmplaaKm12

/- LAWS: StrokeSeen. Own work. -/
set_option linter.unusedSimpArgs false
set_option linter.unusedVariables false
namespace Go.AM
open Go.RowKit Go.Proofs

theorem cells_lls {ll : List (List Int)} {j sz} {K : AV → List (Nat × HObj) → Prop} (h : j < ll.length) : CellsW (ll.map fun l => Ls false l) j sz false K = K (Ls false ll[j]) [] := by
  simp [CellsW, h]

theorem hideK {P : Program} {E : HE} {c : AC} {st : St} {K : Exit → St → Prop} (h : ∀ K', K' = K → AWP P E c st K') : AWP P E c st K := h K rfl

/-- Alike along two lines. -/
def Alk (b : Bch) (l q : List Int) (x y : Nat) : Prop := sameR b (thr l x y) (thr q x y) = 0

theorem thr_len (l : List Int) (x y : Int) : (thr l x y).length ≤ l.length := List.length_filter_le ..
theorem chkL_thr {b : Bch} {l : List Int} {x y : Int} (h : chkL b l = 0) : chkL b (thr l x y) = 0 := by
  have h1 := thr_len l x y
  have := (chkL_S8 h).2
  exact chkL_sub h (by omega) fun s hs => thr_mem hs

theorem seen_all {b : Bch} {l q : List Int} (hl : chkL b l = 0) (hq : chkL b q = 0) (h : sameR b l q = 0) (x y : Nat) : Alk b l q x y :=
  (sameR_pat (chkL_thr hl) (chkL_thr hq)).2 (thr_pat ((sameR_pat hl hq).1 h))
theorem seen_same {b : Bch} {l q : List Int} (hl : chkL b l = 0) (hq : chkL b q = 0) (pl : ∀ s ∈ l, ¬ s < 0) (pq : ∀ s ∈ q, ¬ s < 0) (h : ∀ x y : Nat, x ≤ y → (y : Int) < b.L → Alk b l q x y) : sameR b l q = 0 := by
  have sl := (chkL_S8 hl).1
  have sq := (chkL_S8 hq).1
  have bd : ∀ {l : List Int}, chkL b l = 0 → ∀ s ∈ l, s ≤ b.L := fun h s hs => by
    have := (chkL0.1 h).2.2 s hs
    obtain ⟨L1, _, _⟩ := chkB_zero (chkL0.1 h).1
    unfold strokeB at this; simp at this; omega
  refine (sameR_pat hl hq).2 (seen_conv l.length (Nat.le_refl _) sl sq (fun s hs => by have := pl s hs; have := (sl s hs).1; omega) (fun s hs => by have := pq s hs; have := (sq s hs).1; omega) (bd hl) (bd hq) fun x y x1 x2 y1 y2 => ?_)
  obtain ⟨x, rfl⟩ : ∃ n : Nat, x = n := ⟨x.toNat, by omega⟩
  obtain ⟨y, rfl⟩ : ∃ n : Nat, y = n := ⟨y.toNat, by omega⟩
  by_cases hxy : x ≤ y
  · exact (sameR_pat (chkL_thr hl) (chkL_thr hq)).1 (h x y hxy y2)
  · rw [thr_swap l, thr_swap q]
    exact (sameR_pat (chkL_thr hl) (chkL_thr hq)).1 (h y x (by omega) x2)

set_option maxHeartbeats 2000000 in
theorem law12 (b : Bch) (l m u : List Int) (hb : BOK b) (hl : l.length ≤ 9223372036854775807 ∧ ∀ n ∈ l, In64 n) (hm : m.length ≤ 9223372036854775807 ∧ ∀ n ∈ m, In64 n) (hu : UOK u) : PureOK Try.prog 12 [Bn false b, Ls false l, Ls false m, Us false u] (B true) := by
  refine pure_of (walk Try.func12 form12 res12 (by show 4 ≤ _; decide) ?_)
  simp (disch := omega) [G12, wrap_id]
  refine callW_pure rfl (fine_ok false false b l hb.len hl.1) ?_
  cases h1 : fineB b l with
  | false =>
    simp (disch := omega) [wrap_id]
    exact callW_pure rfl works_ok (by simp)
  | true =>
  simp (disch := omega) [wrap_id]
  refine callW_pure rfl (fine_ok false false b m hb.len hm.1) ?_
  cases h2 : fineB b m with
  | false =>
    simp (disch := omega) [wrap_id]
    exact callW_pure rfl works_ok (by simp)
  | true =>
  obtain ⟨b1, l1, c1⟩ := fine_iff.1 h1
  obtain ⟨_, m1, c2⟩ := fine_iff.1 h2
  have sl := (chkL_S8 c1).1
  have sm := (chkL_S8 c2).1
  have ul := hu.1
  by_cases q1 : 40 < l.length
  · have q1' : (40 : Int) < l.length := by omega
    simp (disch := omega) [wrap_id, q1']
    exact callW_pure rfl works_ok (by simp)
  by_cases q2 : 40 < m.length
  · have q1' : ¬ (40 : Int) < l.length := by omega
    have q2' : (40 : Int) < m.length := by omega
    simp (disch := omega) [wrap_id, q1', q2']
    exact callW_pure rfl works_ok (by simp)
  by_cases q3 : 60 < u.length
  · have q1' : ¬ (40 : Int) < l.length := by omega
    have q2' : ¬ (40 : Int) < m.length := by omega
    have q3' : (60 : Int) < u.length := by omega
    simp (disch := omega) [wrap_id, q1', q2', q3']
    exact callW_pure rfl works_ok (by simp)
  have q1' : ¬ (40 : Int) < l.length := by omega
  have q2' : ¬ (40 : Int) < m.length := by omega
  have q3' : ¬ (60 : Int) < u.length := by omega
  simp (disch := omega) [wrap_id, q1', q2', q3']
  refine callW_pure rfl (moved_ok false false false b l u c1 ⟨by omega, hu.2⟩) ?_
  obtain ⟨p1, p2⟩ := moved_pat (u := u) c1
  generalize movedR b u l [] = mv at *
  obtain ⟨now, out⟩ := mv
  simp only at p1 p2
  simp (disch := omega) [wrap_id]
  refine bsl_of (ys := [Ls false now, Ls false m]) rfl rfl ?_
  simp (disch := omega) [wrap_id, zrep, place]
  have hll : [Ls false now, Ls false m] = [now, m].map fun l => Ls false l := rfl
  rw [hll]
  have lc : ∀ i (h : i < [now, m].length), chkL b [now, m][i] = 0 ∧ ([now, m][i]).length ≤ 60 := fun i h => by
    match i, h with
    | 0, _ => exact ⟨p2, (chkL_S8 p2).2⟩
    | 1, _ => exact ⟨c2, (chkL_S8 c2).2⟩
  have l0 : ∀ (h : 0 < [now, m].length), sameR b l ([now, m][0]) = 0 := fun _ => (sameR_pat c1 p2).2 p1
  have l2 : [now, m].length = 2 := rfl
  generalize [now, m] = ll at lc l0 l2 ⊢
  obtain ⟨k1, k2, k3⟩ := chkL0.1 c1
  obtain ⟨L1, L2, L3⟩ := chkB_zero k1
  have bL := hb.len
  refine loop_eq (fun i : Nat => ⟨[(1, Ls false l), (4, .ref 0 0), (11, .sl true 2 (ll.map fun l => Ls false l)), (12, I (i : Int))], [.cells [I b.L, Ps false b.c]]⟩) (fun i => i ≤ 2) (fun i => 2 - i) 0 (by omega) rfl ?_
  intro i hi
  refine hideK fun K0 hK0 => ?_
  simp (disch := omega) [wrap_id]
  refine c_split (fun hc => ?_) (fun hc => ?_)
  · have i2 : i < 2 := by simp at hc; omega
    have il : i < ll.length := by omega
    obtain ⟨q1, q2⟩ := lc i il
    have q0 : i = 0 → sameR b l ll[i] = 0 := fun e => by subst e; exact l0 il
    simp (disch := omega) [wrap_id, cells_lls, il]
    refine ⟨by omega, by omega, ?_⟩
    refine pureW_of rfl (same_ok false false false b l ll[i] (by omega) (by omega) (by omega)) ?_
    generalize hq : ll[i] = q at q1 q2 q0 ⊢
    have sv := sameR_val c1 q1
    have sa := fun h x y => seen_all (b := b) c1 q1 h x y
    have ss := seen_same (b := b) c1 q1
    have gate : (sameR b l q != 0) = true → ((i : Int) == 0) = false ∧ (sameR b l q != 18) = false := fun h => by
      have hn : sameR b l q ≠ 0 := by simpa using h
      refine ⟨?_, by rcases sv with h | h <;> simp_all⟩
      have : i ≠ 0 := fun e => hn (q0 e)
      simp; omega
    have small_l := (chkL_S8 c1).1.small
    have small_q := (chkL_S8 q1).1.small
    generalize hs : sameR b l q = s at sv sa ss gate ⊢
    have tl := thr_len l
    have tq := thr_len q
    rcases sv with hv | hv
    all_goals first
      | have e1 : (s != 0) = false := by simp [hv]
        have e2 : (s == 0) = true := by simp [hv]
        simp (disch := omega) [wrap_id, e1, e2]
      | have e1 : (s != 0) = true := by simp [hv]
        have e2 : (s == 0) = false := by simp [hv]
        have e3 := (gate (by simp [hv])).1
        have e4 := (gate (by simp [hv])).2
        simp (disch := omega) [wrap_id, e1, e2, e3, e4]
    all_goals
      refine loop_eq (fun p : Nat × Bool => ⟨[(1, Ls false l), (4, .ref 0 0), (11, .sl true 2 (ll.map fun l => Ls false l)), (12, I (i : Int)), (13, I s), (14, B p.2), (15, B false), (16, I (p.1 : Int))], [.cells [I b.L, Ps false b.c]]⟩)
        (fun p => (p.1 : Int) ≤ b.L ∧ (p.2 = true → ∀ x' y' : Nat, x' < p.1 → x' ≤ y' → (y' : Int) < b.L → Alk b l q x' y') ∧ (p.2 = false → ∃ x' y' : Nat, ¬ Alk b l q x' y')) (fun p => (b.L - p.1).toNat) (0, true) ⟨by simp only; omega, fun _ x' y' h => by simp at h, fun h => by cases h⟩ rfl ?_
      rintro ⟨x, A⟩ ⟨a1, a2, a3⟩
      simp only at a1 a2 a3 ⊢
      refine hideK fun K1 hK1 => ?_
      simp (disch := omega) [wrap_id]
      refine c_split (fun hx => ?_) (fun hx => ?_)
      · have xL : (x : Int) < b.L := by simpa using hx
        simp (disch := omega) [wrap_id]
        refine loop_eq (fun p : Nat × Bool => ⟨[(1, Ls false l), (4, .ref 0 0), (11, .sl true 2 (ll.map fun l => Ls false l)), (12, I (i : Int)), (13, I s), (14, B p.2), (15, B false), (16, I (x : Int)), (17, I (p.1 : Int))], [.cells [I b.L, Ps false b.c]]⟩)
          (fun p => x ≤ p.1 ∧ (p.1 : Int) ≤ b.L ∧ (p.2 = true → (∀ x' y' : Nat, x' < x → x' ≤ y' → (y' : Int) < b.L → Alk b l q x' y') ∧ ∀ y' : Nat, x ≤ y' → y' < p.1 → Alk b l q x y') ∧ (p.2 = false → ∃ x' y' : Nat, ¬ Alk b l q x' y')) (fun p => (b.L - p.1).toNat) (x, A) ⟨Nat.le_refl _, a1, fun h => ⟨a2 h, fun y' h1 h2 => by simp only at h2; omega⟩, a3⟩ rfl ?_
        rintro ⟨y, A2⟩ ⟨b1, b2, b3, b4⟩
        simp only at b1 b2 b3 b4 ⊢
        refine hideK fun K2 hK2 => ?_
        simp (disch := omega) [wrap_id]
        refine c_split (fun hy => ?_) (fun hy => ?_)
        · have yL : (y : Int) < b.L := by simpa using hy
          have tl' := tl x y
          have tq' := tq x y
          simp (disch := omega) [wrap_id]
          refine pureW_of rfl (through_ok false l x y (by omega) small_l) ?_
          simp (disch := omega) [wrap_id, cells_lls, il]
          refine ⟨by omega, by omega, ?_⟩
          refine pureW_of rfl (through_ok false ll[i] x y (by rw [hq]; omega) (by rw [hq]; exact small_q)) ?_
          simp (disch := omega) [wrap_id, hq]
          refine pureW_of rfl (same_ok false _ _ b (thr l x y) (thr q x y) (by omega) (by omega) (by omega)) ?_
          have ev := sameR_val (b := b) (chkL_thr (x := x) (y := y) c1) (chkL_thr (x := x) (y := y) q1)
          have ea : Alk b l q x y ↔ sameR b (thr l x y) (thr q x y) = 0 := Iff.rfl
          have nx : ((y : Int) + 1) = ((y + 1 : Nat) : Int) := by omega
          generalize sameR b (thr l x y) (thr q x y) = e at ev ea ⊢
          have ok : ∀ A3 : Bool, (A3 = true → A2 = true ∧ e = 0) → (A3 = false → A2 = false ∨ e ≠ 0) →
              x ≤ y + 1 ∧ ((y + 1 : Nat) : Int) ≤ b.L ∧ (A3 = true → (∀ x' y' : Nat, x' < x → x' ≤ y' → (y' : Int) < b.L → Alk b l q x' y') ∧ ∀ y' : Nat, x ≤ y' → y' < y + 1 → Alk b l q x y') ∧ (A3 = false → ∃ x' y' : Nat, ¬ Alk b l q x' y') := fun A3 h3 h4 => by
            refine ⟨by omega, by omega, fun h => ?_, fun h => ?_⟩
            · obtain ⟨h5, h6⟩ := h3 h
              refine ⟨(b3 h5).1, fun y' g1 g2 => ?_⟩
              by_cases hyy : y' = y
              · subst hyy; exact ea.2 h6
              · exact (b3 h5).2 y' g1 (by omega)
            · rcases h4 h with h5 | h5
              · exact b4 h5
              · exact ⟨x, y, fun h => h5 (ea.1 h)⟩
          rcases ev with hv2 | hv2
          · have f1 : (e != 0) = false := by simp [hv2]
            have f2 : (e == 0) = true := by simp [hv2]
            cases A2 with
            | true =>
              simp (disch := omega) [wrap_id, f1, f2]
              rw [hK2]
              exact next_eq (y + 1, true) (ok true (fun _ => ⟨rfl, hv2⟩) (fun h => by cases h)) (by simp only; omega) (by simp only [nx])
            | false =>
              simp (disch := omega) [wrap_id, f1, f2]
              rw [hK2]
              exact next_eq (y + 1, false) (ok false (fun h => by cases h) (fun _ => .inl rfl)) (by simp only; omega) (by simp only [nx])
          · have f1 : (e != 0) = true := by simp [hv2]
            have f2 : (e == 0) = false := by simp [hv2]
            have f3 : (e != 18) = false := by simp [hv2]
            have e0 : e ≠ 0 := by omega
            cases A2 with
            | true =>
              simp (disch := omega) [wrap_id, f1, f2, f3]
              rw [hK2]
              exact next_eq (y + 1, false) (ok false (fun h => by cases h) (fun _ => .inr e0)) (by simp only; omega) (by simp only [nx])
            | false =>
              simp (disch := omega) [wrap_id, f1, f2, f3]
              rw [hK2]
              exact next_eq (y + 1, false) (ok false (fun h => by cases h) (fun _ => .inl rfl)) (by simp only; omega) (by simp only [nx])
        · have yL : (y : Int) = b.L := by simp at hy; omega
          have nx : ((x : Int) + 1) = ((x + 1 : Nat) : Int) := by omega
          subst hK2
          simp (disch := omega) [wrap_id]
          rw [hK1]
          refine next_eq (x + 1, A2) ⟨by simp only; omega, fun h x' y' g1 g2 g3 => ?_, b4⟩ (by simp only; omega) (by simp only [nx])
          simp only at g1
          by_cases hxx : x' = x
          · subst hxx; exact (b3 h).2 y' g2 (by omega)
          · exact (b3 h).1 x' y' (by omega) g2 g3
      · have xL : (x : Int) = b.L := by simp at hx; omega
        subst hK1
        simp (disch := omega) [wrap_id]
        refine loop_eq (fun p : Nat × Bool => ⟨[(1, Ls false l), (4, .ref 0 0), (11, .sl true 2 (ll.map fun l => Ls false l)), (12, I (i : Int)), (13, I s), (14, B A), (15, B p.2), (19, I (p.1 : Int))], [.cells [I b.L, Ps false b.c]]⟩)
          (fun p => p.1 ≤ l.length ∧ (p.2 = false → ∀ s ∈ l.take p.1, ¬ s < 0)) (fun p => l.length - p.1) (0, false) ⟨Nat.zero_le _, fun _ s hs => by simp at hs⟩ rfl ?_
        rintro ⟨j, Bk⟩ ⟨d1, d2⟩
        simp only at d1 d2 ⊢
        refine hideK fun K3 hK3 => ?_
        simp (disch := omega) [wrap_id]
        refine c_split (fun hj => ?_) (fun hj => ?_)
        · have jl : j < l.length := by simp at hj; omega
          have nx : ((j : Int) + 1) = ((j + 1 : Nat) : Int) := by omega
          have tk : ∀ s ∈ l.take (j + 1), s ∈ l.take j ∨ s = l[j] := fun s hs => by
            rw [List.take_succ_eq_append_getElem jl, List.mem_append, List.mem_singleton] at hs; exact hs
          cases Bk with
          | true =>
            simp (disch := omega) [wrap_id, cells_ls, jl]
            rw [hK3]
            exact next_eq (j + 1, true) ⟨by simp only; omega, fun h => by cases h⟩ (by simp only; omega) (by simp only [nx])
          | false =>
            simp (disch := omega) [wrap_id, cells_ls, jl]
            rw [hK3]
            refine next_eq (j + 1, decide (l[j] < 0)) ⟨by simp only; omega, fun h s hs => ?_⟩ (by simp only; omega) (by simp only [nx])
            rcases tk s hs with h1 | rfl
            · exact d2 rfl s h1
            · exact of_decide_eq_false h
        · have jl : j = l.length := by simp at hj; omega
          subst jl
          rw [List.take_of_length_le (Nat.le_refl _)] at d2
          subst hK3
          simp (disch := omega) [wrap_id]
          refine loop_eq (fun p : Nat × Bool => ⟨[(1, Ls false l), (4, .ref 0 0), (11, .sl true 2 (ll.map fun l => Ls false l)), (12, I (i : Int)), (13, I s), (14, B A), (15, B p.2), (20, I (p.1 : Int))], [.cells [I b.L, Ps false b.c]]⟩)
            (fun p => p.1 ≤ q.length ∧ (p.2 = false → Bk = false ∧ ∀ s ∈ q.take p.1, ¬ s < 0)) (fun p => q.length - p.1) (0, Bk) ⟨Nat.zero_le _, fun h => ⟨h, fun s hs => by simp at hs⟩⟩ rfl ?_
          rintro ⟨j, Bk2⟩ ⟨d3, d4⟩
          simp only at d3 d4 ⊢
          refine hideK fun K4 hK4 => ?_
          simp (disch := omega) [wrap_id, cells_lls, il]
          refine ⟨by omega, by omega, ?_⟩
          rw [hq]
          refine c_split (fun hj => ?_) (fun hj => ?_)
          · have jl : j < q.length := by simp at hj; omega
            have nx : ((j : Int) + 1) = ((j + 1 : Nat) : Int) := by omega
            have tk : ∀ s ∈ q.take (j + 1), s ∈ q.take j ∨ s = q[j] := fun s hs => by
              rw [List.take_succ_eq_append_getElem jl, List.mem_append, List.mem_singleton] at hs; exact hs
            cases Bk2 with
            | true =>
              simp (disch := omega) [wrap_id, cells_ls, jl]
              rw [hK4]
              exact next_eq (j + 1, true) ⟨by simp only; omega, fun h => by cases h⟩ (by simp only; omega) (by simp only [nx])
            | false =>
              simp (disch := omega) [wrap_id, cells_lls, il, hq, cells_ls, jl]
              refine ⟨by omega, by omega, ?_⟩
              rw [hK4]
              refine next_eq (j + 1, decide (q[j] < 0)) ⟨by simp only; omega, fun h => ⟨(d4 rfl).1, fun s hs => ?_⟩⟩ (by simp only; omega) (by simp only [nx])
              rcases tk s hs with h1 | rfl
              · exact (d4 rfl).2 s h1
              · exact of_decide_eq_false h
          · have jl : j = q.length := by simp at hj; omega
            subst jl
            rw [List.take_of_length_le (Nat.le_refl _)] at d4
            subst hK4
            simp (disch := omega) [wrap_id]
            have fA : A = false → s ≠ 0 := fun h h0 => by
              obtain ⟨x', y', h3⟩ := a3 h
              exact h3 (sa h0 x' y')
            have fB : A = true → Bk2 = false → s = 0 := fun h h0 => ss (d2 (d4 h0).1) (d4 h0).2 fun x' y' g1 g2 => a2 h x' y' (by omega) g1 g2
            have nx : ((i : Int) + 1) = ((i + 1 : Nat) : Int) := by omega
            first
              | have hv' : s = 0 := hv
                cases A with
                | false => exact absurd hv' (fA rfl)
                | true =>
                  cases Bk2 <;>
                  · simp (disch := omega) [wrap_id, e1, e2]
                    rw [hK0]
                    exact next_eq (i + 1) (by omega) (by omega) (by simp only [nx])
              | have hv' : s = 18 := hv
                have s0 : s ≠ 0 := by omega
                cases A with
                | false =>
                  cases Bk2 <;>
                  · simp (disch := omega) [wrap_id, e1, e2]
                    rw [hK0]
                    exact next_eq (i + 1) (by omega) (by omega) (by simp only [nx])
                | true =>
                  cases Bk2 with
                  | false => exact absurd (fB rfl rfl) s0
                  | true =>
                    simp (disch := omega) [wrap_id, e1, e2]
                    rw [hK0]
                    exact next_eq (i + 1) (by omega) (by omega) (by simp only [nx])
  · have hi : i = 2 := by simp at hc; omega
    subst hi
    subst hK0
    simp (disch := omega) [wrap_id]
    exact callW_pure rfl works_ok (by simp)

end Go.AM
