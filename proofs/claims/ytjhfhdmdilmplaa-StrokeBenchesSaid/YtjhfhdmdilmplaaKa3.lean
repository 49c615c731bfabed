/-
  THE ABSTRACT MACHINE, PART 17d: functions. Own work.
  THE ABSTRACT MACHINE, PART 18: carried out step by step, by rewriting. Own work.
  ARGUMENTS READ AS DATA: what came in, as abstract values; a law as a row. Own work.
  SLICES OF UNKNOWN CAPACITY: slices.Delete and slices.Insert, for any program and elements of one cell. Own work.
  THE COMPILED FORMS of functions of the program, each held against its body by the kernel. Own work (printed by a program of this claim).
  CONTRACTS, PART 1: strokes as numbers, comparisons of lists. Own work.
  CONTRACTS, PART 2: benches and lists. Own work.
  CONTRACTS, PART 3: lists of strokes. Own work.
  THE COMPILED FORMS of functions of the program, each held against its body by the kernel. Own work (printed by a program of this claim).
  CONTRACTS, PART 4: short forms as the specification makes them. Own work.
  CONTRACTS, PART 5: strokes that undo one another. Own work.
  CONTRACTS, PART 6: shortest lists, and which stroke comes first. Own work.
  CONTRACTS, PART 7: the stroke that comes first; short forms. Own work.
  CONTRACTS, PART 8: lists that grow; short forms. Own work.
-/
import Derived.Test.YtjhfhdmdilmplaaKa2
import Derived.WalkKit
import Derived.ProofKit
import Derived.OpenShut
import Derived.ChangeOld
import Derived.Below
import Derived.Deep.Slices
import Derived.Test.YtjhfhdmdilmplaaProg
import Derived.ChangeKeysEq
import Derived.Laws.StructEq

/- THE ABSTRACT MACHINE, PART 17d: functions. Own work. -/
set_option linter.unusedSimpArgs false
set_option linter.unusedVariables false
namespace Go.AM
open Go.RowKit

section
variable {P : Program} {E : HE} {N : Nat} {ro : Option Nat} {n : Nat}

/-- The arguments as a frame. -/
def argFr : Nat → List AV → List (Nat × AV)
  | _, [] => []
  | k, x :: xs => (k, x) :: argFr (k + 1) xs

theorem argFr_get : ∀ (xs : List AV) (k t : Nat), get (argFr k xs) t = if k ≤ t then xs.getD (t - k) .any else .any
  | [], k, t => by simp [argFr, get]
  | x :: xs, k, t => by
    simp only [argFr, get]
    split
    · rename_i e; subst e; simp
    · rename_i e
      rw [argFr_get xs (k + 1) t]
      by_cases h : k + 1 ≤ t
      · rw [if_pos h, if_pos (by omega)]
        obtain ⟨d, rfl⟩ : ∃ d, t = k + 1 + d := ⟨t - (k + 1), by omega⟩
        rw [show k + 1 + d - (k + 1) = d by omega, show k + 1 + d - k = d + 1 by omega]
        rfl
      · rw [if_neg h, if_neg (by omega)]

def resTmps : List ResultVar → Option (List Nat)
  | [] => some []
  | .tmp t :: r => (resTmps r).map (t :: ·)
  | _ => none

def resAV (ts : List Nat) (fr : List (Nat × AV)) : AV := match ts with
  | [t] => get fr t
  | _ => .tup (ts.map (get fr))

def resV (ts : List Nat) (tmps : Array Value) : Value := match ts with
  | [t] => tmps.getD t undef
  | _ => .tuple (ts.map fun t => tmps.getD t undef).toArray


/-! ### Results, in temporaries and in cells -/
abbrev RC := List (Nat × Option (Bool × Nat))

def resCs (P : Program) : List ResultVar → Option RC
  | [] => some []
  | .tmp t :: r => (resCs P r).map ((t, none) :: ·)
  | .cell a t :: r => match tInfo P t, resCs P r with
    | some i, some l => some ((a, some i) :: l)
    | _, _ => none

def resC (hp : Hp) (fr : List (Nat × AV)) : RC → List AV → Prop
  | [], [] => True
  | (t, none) :: r, x :: xs => x = get fr t ∧ resC hp fr r xs
  | (a, some (agg, sz)) :: r, x :: xs => semLd hp x [] agg sz (get fr a) ∧ resC hp fr r xs
  | _, _ => False

def tupOf : List AV → AV
  | [x] => x
  | xs => .tup xs

theorem run_resC {hp g w} (hok : HeapOK hp g w) {fr : List (Nat × AV)} {a : Act} (hF : FrOK w g (get fr) a) : ∀ {rs : List ResultVar} {rc : RC} {xs : List AV} (f : ResultVar → Sem Value),
    (∀ t, f (.tmp t) = pure (a.tmps.getD t undef)) → (∀ b t, f (.cell b t) = (do loadVar t (← asAddr (a.tmps.getD b undef)))) → resCs P rs = some rc → resC hp fr rc xs →
    ∃ vs : List Value, (rs.mapM f).run P w = .ok vs w ∧ vs.length = xs.length ∧ ∀ i (h : i < xs.length), Rep w g false xs[i] (vs.getD i undef)
  | [], rc, xs, f, h1, h2, h, hx => by
    simp [resCs] at h; subst h
    cases xs with
    | nil => exact ⟨[], rfl, rfl, fun i hi => by simp at hi⟩
    | cons _ _ => exact hx.elim
  | .tmp t :: rs, rc, xs, f, h1, h2, h, hx => by
    simp only [resCs, Option.map_eq_some_iff] at h
    obtain ⟨l, h', rfl⟩ := h
    cases xs with
    | nil => exact hx.elim
    | cons x xs =>
      obtain ⟨rfl, hx⟩ := hx
      obtain ⟨vs, k1, k2, k3⟩ := run_resC hok hF f h1 h2 h' hx
      refine ⟨a.tmps.getD t undef :: vs, ?_, by simp [k2], fun i hi => ?_⟩
      · rw [List.mapM_cons, h1]
        simp only [Sem.run_bind, Sem.run_pure, Result.andThen_ok, k1]
      · cases i with
        | zero => exact hF t
        | succ i => simpa using k3 i (by simpa using hi)
  | .cell b t :: rs, rc, xs, f, h1, h2, h, hx => by
    simp only [resCs] at h
    split at h
    · rename_i i l hi hl
      cases h
      obtain ⟨agg, sz⟩ := i
      cases xs with
      | nil => exact hx.elim
      | cons x xs =>
        obtain ⟨hld, hx⟩ := hx
        obtain ⟨vs, k1, k2, k3⟩ := run_resC hok hF f h1 h2 hl hx
        have e1 := hF b
        have main : ∃ v, ((do loadVar t (← asAddr (a.tmps.getD b undef)) : Sem Value)).run P w = .ok v w ∧ Rep w g false x v := by
          simp only [semLd] at hld
          split at hld
          · rename_i cs off hu
            rw [hu] at e1
            obtain ⟨c, q, hv, hrow⟩ := row_of_ptr e1
            obtain ⟨v, j1, j2⟩ := run_loadVar hi hrow hld.2
            exact ⟨v, by rw [hv]; simp [asAddr, j1], j2⟩
          · rename_i id off hu
            split at hld
            · rename_i cs hid
              rw [hu] at e1
              obtain ⟨c, q, hv, hrow, _⟩ := row_of_ref e1 hok hid
              obtain ⟨v, j1, j2⟩ := run_loadVar hi hrow hld.2
              exact ⟨v, by rw [hv]; simp [asAddr, j1], j2⟩
            · exact hld.elim
          · exact hld.elim
        obtain ⟨v, m1, m2⟩ := main
        refine ⟨v :: vs, ?_, by simp [k2], fun i hi => ?_⟩
        · rw [List.mapM_cons, h2]
          simp only [Sem.run_bind, Result.andThen_ok] at m1 ⊢
          rw [m1]
          simp only [Result.andThen_ok, k1, Sem.run_pure]
        · cases i with
          | zero => exact m2
          | succ i => simpa using k3 i (by simpa using hi)
    · cases h

theorem run_resultsC {hp g w} (hok : HeapOK hp g w) {fr : List (Nat × AV)} {a : Act} (hF : FrOK w g (get fr) a) {fn : Func} {rc : RC} {xs : List AV} (h : resCs P fn.results.toList = some rc) (hx : resC hp fr rc xs) :
    ∃ v, (results fn a.tmps).run P w = .ok v w ∧ Rep w g false (tupOf xs) v := by
  simp only [results]
  rw [Array.mapM_eq_mapM_toList]
  simp only [Sem.run_bind, Sem.run_pure, map_eq_pure_bind]
  obtain ⟨vs, k1, k2, k3⟩ := run_resC hok hF (fun x => match x with | .tmp t => pure (a.tmps.getD t undef) | .cell b t => do loadVar t (← asAddr (a.tmps.getD b undef))) (fun _ => rfl) (fun _ _ => rfl) h hx
  have gen : xs.length ≠ 1 → ∃ v, (Result.ok (if h : vs.toArray.size = 1 then vs.toArray[0] else Value.tuple vs.toArray) w : Result Value) = .ok v w ∧ Rep w g false (.tup xs) v := fun hne => by
    refine ⟨.tuple vs.toArray, ?_, .tup _ _ _ k2 k3⟩
    have : ¬ vs.toArray.size = 1 := by simp; omega
    rw [dif_neg this]
  have key : ∃ v, (Result.ok (if h : vs.toArray.size = 1 then vs.toArray[0] else Value.tuple vs.toArray) w : Result Value) = .ok v w ∧ Rep w g false (tupOf xs) v := by
    match xs, k2, k3, gen with
    | [], k2, k3, gen => exact gen (by simp)
    | [x], k2, k3, _ =>
      obtain ⟨v, rfl⟩ : ∃ v, vs = [v] := by
        cases vs with
        | nil => simp at k2
        | cons v vs => cases vs with
          | nil => exact ⟨v, rfl⟩
          | cons _ _ => simp at k2
      exact ⟨v, by simp, k3 0 (by simp)⟩
    | x :: y :: xs, k2, k3, gen => exact gen (by simp)
  obtain ⟨v, h1, h2⟩ := key
  refine ⟨v, ?_, h2⟩
  refine (congrArg (fun r => Result.andThen (Result.andThen r (fun a w' => Result.ok a.toArray w')) (fun (a : Array Value) w' => Result.ok (if h : a.size = 1 then a[0] else Value.tuple a) w')) k1).trans ?_
  simp only [Result.andThen_ok, Sem.run_pure]
  exact h1

/-- What is to hold of a function's results, in temporaries and in cells. -/
def RetC (rc : RC) (K : AV → List HObj → Prop) : Exit → St → Prop
  | .normal, st | .ret, st => ∃ xs, resC (hpf st.hp) st.fr rc xs ∧ K (tupOf xs) st.hp
  | _, _ => False

theorem leaves_marks {fn : Func} {tmps : Array Value} {R : Ending → World → Prop} : ∀ (ms : List Nat) (w : World), ms.Nodup → (∀ D ∈ ms, w.heap[D]? = some (.deferred (some []))) →
    (∃ v, (results fn tmps).run P (ms.foldl (fun w D => w.putObj D (.deferred none)) w) = .ok v (ms.foldl (fun w D => w.putObj D (.deferred none)) w) ∧ R (.returned v) (ms.foldl (fun w D => w.putObj D (.deferred none)) w)) →
    LeavesInM (W ro) n P fn tmps R (ms.map mark) .returning w
  | [], w, hn, hD, h => h
  | D :: ms, w, hn, hD, h => by
    refine ⟨by simp, .inl ⟨D, _, rfl, run_takeDeferred (hD D (by simp)), ?_⟩⟩
    rw [List.nodup_cons] at hn
    exact leaves_marks ms _ hn.2 (fun D' hD' => (World.putObj_heap_other (fun e => hn.1 (by rw [← e]; exact hD'))).trans (hD D' (by simp [hD']))) h

theorem take_marks {hp0 g0 w0 hp g} : ∀ (ms : List Nat) (w : World), ms.Nodup → (∀ D ∈ ms, w0.heap.size ≤ D ∧ w.heap[D]? = some (.deferred (some [])) ∧ ¬ Live hp g D) → HeapOK hp g w → Upd hp0 g0 w0 hp g w →
    HeapOK hp g (ms.foldl (fun w D => w.putObj D (.deferred none)) w) ∧ Upd hp0 g0 w0 hp g (ms.foldl (fun w D => w.putObj D (.deferred none)) w) ∧ Trans w g (ms.foldl (fun w D => w.putObj D (.deferred none)) w) g
  | [], w, hn, hD, h, u => ⟨h, u, .refl _ _⟩
  | D :: ms, w, hn, hD, h, u => by
    rw [List.nodup_cons] at hn
    obtain ⟨k1, k2, k3⟩ := hD D (by simp)
    obtain ⟨h1, u1, t1⟩ := take_mark h u k2 k3 k1
    obtain ⟨h2, u2, t2⟩ := take_marks ms _ hn.2 (fun D' hD' => by
      obtain ⟨q1, q2, q3⟩ := hD D' (by simp [hD'])
      exact ⟨q1, (World.putObj_heap_other (fun e => hn.1 (by rw [← e]; exact hD'))).trans q2, q3⟩) h1 u1
    exact ⟨h2, u2, t1.trans t2⟩

/-- A function, from a world and a ghost on. -/
theorem callG_of {w1 : World} {g1 : G} (hY : YS P E w1 g1) (hR : RS P E) {f : FuncId} {fn : Func} {c : Code} {ac : AC} {rc : RC} {xs : List AV} {hp : List HObj} {K : AV → List HObj → Prop} (hf : P.funcs[f]? = some fn) (hb : fn.body = some c) (hc : Fits P fn.ntmps c ac)
    (hr : resCs P fn.results.toList = some rc) (hl : xs.length ≤ fn.ntmps) (h : AWP P E ac { fr := argFr 0 xs, hp := hp } (RetC rc K)) : CallG P w1 g1 f xs hp K := by
  intro ro n w g vs hok htr hvs hrep
  have go : CallsIn (W none) n P f vs w fun e w' => ∃ v r hp' g', e = .returned v ∧ K r hp' ∧ Rep w' g' false r v ∧ HeapOK (hpf hp') g' w' ∧ Upd (hpf hp) g w (hpf hp') g' w' := by
    refine callsIn_of_wp_marks hf hb trivial (fits_sound hY hR hc (.inl rfl) h htr (g := g) ?_ ?_) rfl
    · refine ⟨by simp [hvs]; omega, fun t => ?_, hok⟩
      show Rep w g false (get (argFr 0 xs) t) _
      rw [argFr_get]
      simp only [Nat.zero_le, if_true, Nat.sub_zero]
      by_cases ht : t < xs.length
      · have e1 : xs.getD t .any = xs[t] := by simp [ht]
        rw [e1]
        have := hrep t ht
        simp only [Array.getD_eq_getD_getElem?] at this ⊢
        rw [Array.getElem?_append_left (by omega)]
        exact this
      · have e1 : xs.getD t .any = .any := by simp [Nat.le_of_not_lt ht]
        rw [e1]; exact .any _ _
    · intro e st' a' w' g' hq hs hu hd
      obtain ⟨ms, d1, d2, d3⟩ := hd
      simp only [List.append_nil] at d1
      have fin : (∃ xs, resC (hpf st'.hp) st'.fr rc xs ∧ K (tupOf xs) st'.hp) → LeavesInM (W none) n P fn a'.tmps (fun e w' => ∃ v r hp' g', e = .returned v ∧ K r hp' ∧ Rep w' g' false r v ∧ HeapOK (hpf hp') g' w' ∧ Upd (hpf hp) g w (hpf hp') g' w') a'.defers .returning w' := fun ⟨ys, hy, hK⟩ => by
        rw [d1]
        obtain ⟨k1, k2, k3⟩ := take_marks ms w' d2 d3 hs.2.2 hu
        refine leaves_marks ms w' d2 (fun D hD => (d3 D hD).2.1) ?_
        obtain ⟨v, j1, j2⟩ := run_resultsC (P := P) k1 (fun i => (hs.2.1 i).mono k3) hr hy
        exact ⟨v, j1, v, _, _, g', rfl, hK, j2, k1, k2⟩
      cases e with
      | normal => exact fin hq
      | ret => exact fin hq
      | _ => exact hq.elim
  exact go

/-- No rounds here. -/
def noY : Nat → List AV → List HObj → (AV → List HObj → Prop) → Prop := fun _ _ _ _ => False
def noR : AV → List HObj → (List AV → List HObj → (AV → List HObj → Prop) → Prop) → (List HObj → Prop) → Prop := fun _ _ _ _ => False

/-- A function's compiled form. -/
def formOf (P : Program) (fn : Func) (ts : List Nat) : Option AC := fn.body.map fun c => (ann ts (comp P fn.ntmps c) [] ts).1

/-- The functions that are ranged over, by their own compiled forms. -/
def R1 (P : Program) : AV → List HObj → (List AV → List HObj → (AV → List HObj → Prop) → Prop) → (List HObj → Prop) → Prop := fun v hp H K0 =>
  ∃ f caps fn ac ts rc, v = .fn (.func f) [] caps ∧ funOK P f = true ∧ P.funcs[f]? = some fn ∧ formOf P fn ts = some ac ∧ resCs P fn.results.toList = some rc ∧ caps.length + 1 ≤ fn.ntmps ∧
    AWP P ⟨fun id xs hp' K => id = hp.length ∧ H xs hp' K, noR⟩ ac { fr := argFr 0 (.yl hp.length :: caps), hp := hp ++ [.lp .ready (hp.length + 1), .gone] } (RetC rc fun _ hp' => K0 hp')

/-- The machine of all functions. -/
def E1 (P : Program) : HE := ⟨noY, R1 P⟩

theorem rs_none {Y} : RS P ⟨Y, noR⟩ := fun _ _ _ _ h => h.elim

theorem rs_E1 : RS P (E1 P) := by
  rintro v hp H K0 ⟨f, caps, fn, ac, ts, rc, rfl, hfun, hf, hc, hr, hl, h⟩
  refine ⟨f, caps, rfl, hfun, fun w1 g1 hH => ?_⟩
  simp only [formOf, Option.map_eq_some_iff] at hc
  obtain ⟨c, hb, rfl⟩ := hc
  exact callG_of (E := ⟨fun id xs hp' K => id = hp.length ∧ H xs hp' K, noR⟩) (fun id xs hp' K ⟨e, hh⟩ => by subst e; exact hH xs hp' K hh) rs_none hf hb (ann_fits (comp_fits c)) hr (by simp; omega) h

theorem ys_E1 {w1 g1} : YS P (E1 P) w1 g1 := fun _ _ _ _ h => h.elim

theorem callW_of {f : FuncId} {fn : Func} {ac : AC} {ts : List Nat} {rc : RC} {xs : List AV} {hp : List HObj} {K : AV → List HObj → Prop} (hf : P.funcs[f]? = some fn) (hc : formOf P fn ts = some ac)
    (hr : resCs P fn.results.toList = some rc) (hl : xs.length ≤ fn.ntmps) (h : AWP P (E1 P) ac { fr := argFr 0 xs, hp := hp } (RetC rc K)) : CallW P f xs hp K := by
  simp only [formOf, Option.map_eq_some_iff] at hc
  obtain ⟨c, hb, rfl⟩ := hc
  exact fun ro n w g vs hok hvs hrep => callG_of (E := E1 P) (w1 := w) (g1 := g) ys_E1 rs_E1 hf hb (ann_fits (comp_fits c)) hr hl h ro n w g vs hok (.refl _ _) hvs hrep

theorem resTmps_C : ∀ {rs : List ResultVar} {ts : List Nat}, resTmps rs = some ts → resCs P rs = some (ts.map (·, none))
  | [], ts, h => by simp [resTmps] at h; subst h; rfl
  | .tmp t :: r, ts, h => by
    simp only [resTmps, Option.map_eq_some_iff] at h
    obtain ⟨ts', h', rfl⟩ := h
    simp [resCs, resTmps_C h']
  | .cell a t :: r, ts, h => by cases h

theorem resC_tmps {hp : Hp} {fr : List (Nat × AV)} : ∀ (ts : List Nat) (xs : List AV), resC hp fr (ts.map (·, none)) xs ↔ xs = ts.map (get fr)
  | [], [] => by simp [resC]
  | [], x :: xs => by simp [resC]
  | t :: ts, [] => by simp [resC]
  | t :: ts, x :: xs => by simp [resC, resC_tmps ts xs]

theorem resAV_tup (ts : List Nat) (fr : List (Nat × AV)) : tupOf (ts.map (get fr)) = resAV ts fr := by
  match ts with
  | [] => rfl
  | [t] => rfl
  | t :: u :: r => rfl

/-- What is to hold of a function's results. -/
def RetQ (ts : List Nat) (K : AV → List HObj → Prop) : Exit → St → Prop
  | .normal, st | .ret, st => K (resAV ts st.fr) st.hp
  | _, _ => False

theorem retC_tmps {ts : List Nat} {K : AV → List HObj → Prop} : RetC (ts.map (·, none)) K = RetQ ts K := by
  have key : ∀ st : St, (∃ xs, resC (hpf st.hp) st.fr (ts.map (·, none)) xs ∧ K (tupOf xs) st.hp) = K (resAV ts st.fr) st.hp := fun st => propext ⟨fun ⟨xs, h1, h2⟩ => by
    rw [resC_tmps] at h1; subst h1; rw [resAV_tup] at h2; exact h2, fun h => ⟨_, (resC_tmps _ _).2 rfl, by rw [resAV_tup]; exact h⟩⟩
  funext e st
  cases e <;> first | exact key st | rfl

theorem callW_form {f : FuncId} {fn : Func} {ac : AC} {ts : List Nat} {xs : List AV} {hp : List HObj} {K : AV → List HObj → Prop} (hf : P.funcs[f]? = some fn) (hc : formOf P fn ts = some ac) (hr : resTmps fn.results.toList = some ts)
    (hl : xs.length ≤ fn.ntmps) (h : AWP P (E1 P) ac { fr := argFr 0 xs, hp := hp } (RetQ ts K)) : CallW P f xs hp K :=
  callW_of hf hc (resTmps_C hr) hl (by rw [retC_tmps]; exact h)

/-- The ghost of nobody's objects. -/
def G.bare (g : G) : G := { S := g.S, ρ := fun _ => none }

theorem HeapOK.bare {hp g w} (h : HeapOK hp g w) : HeapOK (fun _ => none) g.bare w :=
  ⟨fun _ _ => rfl, fun _ _ h => (by cases h), fun _ _ _ _ _ _ _ h => (by cases h), h.ex⟩

theorem Upd.bare {g w hp' g' w'} (h0 : HeapOK (fun _ => none) g w) (h : Upd (fun _ => none) g w hp' g' w') : Upd (fun _ => none) g w (fun _ => none) g'.bare w' :=
  ⟨⟨h.tr.S, h.tr.cell, fun id l hl => (by rw [h0.dom id rfl] at hl; cases hl), h.tr.shp, h.tr.os, h.tr.tape, h.tr.output, h.tr.size⟩, fun c ⟨_, _, _, h, _⟩ => (by cases h), h.S, h.keep⟩

theorem Rep.bare {w g v x} (h : Rep w g true x v) : Rep w g.bare true x v := by
  generalize hp : true = p at h
  induction h with
  | v p x => exact .v _ x
  | any p x => exact .any _ x
  | sl p full n cs a cap vs hn hf hc hr ih => exact .sl _ full n cs a cap vs hn hf hc (fun i h => ih i h rfl)
  | agg p cs vs hl hr ih => exact .agg _ cs vs hl (fun i h => ih i h hp)
  | tup p cs vs hl hr ih => exact .tup _ cs vs hl (fun i h => ih i h hp)
  | ptr p cs off b o vs hc hr ih => exact .ptr _ cs off b o vs hc (fun i h => ih i h rfl)
  | ref => cases hp
  | ms => cases hp
  | msz => cases hp
  | fn p f as bs xs ys hl hl' hr hr' ih ih' => exact .fn _ f as bs xs ys hl hl' (fun i h => ih i h hp) (fun i h => ih' i h hp)
  | mp => cases hp
  | mc => cases hp
  | mcz => cases hp
  | yl => cases hp

/-- What goes out of a pure function. -/
def Out (r : AV) (x : AV) (hp : List HObj) : Prop := ∃ is, purify (hpf hp) x = some (r, is)

/-- A pure function. -/
theorem pure_of {f : FuncId} {xs : List AV} {r : AV} (h : CallW P f xs [] (Out r)) : PureOK P f xs r := by
  intro ro n w g vs hok hvs hrep
  have e0 : hpf [] = fun _ => none := by funext i; simp [hpf]
  refine (h ro n w g vs (by rw [e0]; exact hok) hvs (fun i hi => (hrep i hi).of)).mono ?_
  rintro e w' ⟨v, x, hp', g', rfl, ⟨is, hpur⟩, hx, hok', hu⟩
  rw [e0] at hu
  have q := purify_rep hok' (ids := is) hpur (fun i hi => hi) hx
  obtain ⟨k1, k2⟩ := hok'.giveAll is (purify_ids hpur)
  exact ⟨v, _, rfl, q.bare, k1.bare, (hu.trans k2).bare hok⟩


end
end Go.AM

/- THE ABSTRACT MACHINE, PART 18: carried out step by step, by rewriting. Own work. -/
set_option linter.unusedSimpArgs false
set_option linter.unusedVariables false
namespace Go.AM
open Go.RowKit

def PureW (P : Program) (f : FuncId) (xs : List AV) (hp : List HObj) (K : AV → List (Nat × HObj) → Prop) : Prop :=
  ∃ ys ids, purifyAll (hpf hp) xs = some (ys, ids) ∧ ((∃ r, PureOK P f ys r ∧ K r (bif r.scalar then [] else gones ids)) ∨ ∃ m sz cs, MadeOK P f ys m sz cs ∧ K (.ms hp.length 0 m sz) (gones ids ++ [(hp.length, .cells cs)]))

/-- One operation, from the inside out. -/
def AOp.wp (P : Program) (o : AOp) (F : Nat → AV) (hp : List HObj) (K : AV → List (Nat × HObj) → Prop) : Prop :=
  ∃ r ws, o.sem P (evF F) (hpf hp) hp.length r ws ∧ K r ws

def contA (P : Program) (E : HE) (os : List AOp) (d : Option Nat) (fr : List (Nat × AV)) (hp : List HObj) (K : St → Prop) (r : AV) (ws : List (Nat × HObj)) : Prop := aops P E os ⟨frPut fr d r, writeL hp ws⟩ K
def contC (P : Program) (E : HE) (os : List AOp) (d : Nat) (fr : List (Nat × AV)) (K : St → Prop) (r : AV) (hp : List HObj) : Prop := aops P E os ⟨(d, r) :: fr, hp⟩ K
def contD (P : Program) (os : List AOp) (d : Option Nat) (fr : List (Nat × AV)) (hp : List HObj) (tr : Tr) (ft : List Nat) (K : St → Tr → Prop) (r : AV) (ws : List (Nat × HObj)) : Prop :=
  dops P os ⟨frPut fr d r, writeL hp ws⟩ (tr ++ [(ft, ws.map (·.1))]) K

section
variable {P : Program} {E : HE} {fr : List (Nat × AV)} {hp : List HObj} {F : Nat → AV} {os : List AOp} {KS : St → Prop} {KD : St → Tr → Prop} {tr : Tr} {K : AV → List (Nat × HObj) → Prop}

theorem gones_nil : gones [] = [] := rfl
theorem gones_cons {i is} : gones (i :: is) = (i, .gone) :: gones is := rfl
theorem get_cons {k t x} : get ((k, x) :: fr) t = if k = t then x else get fr t := rfl
theorem get_nil {t} : get [] t = .any := rfl
theorem ev_t {t} : evF F (.t t) = F t := rfl
theorem ev_k {x} : evF F (.k x) = x := rfl
theorem x_contA {d : Option Nat} {r ws} : contA P E os d fr hp KS r ws = aops P E os ⟨frPut fr d r, writeL hp ws⟩ KS := rfl
theorem x_contC {d : Nat} {r hp} : contC P E os d fr KS r hp = aops P E os ⟨(d, r) :: fr, hp⟩ KS := rfl
theorem x_contD {d : Option Nat} {ft r ws} : contD P os d fr hp tr ft KD r ws = dops P os ⟨frPut fr d r, writeL hp ws⟩ (tr ++ [(ft, ws.map (·.1))]) KD := rfl
theorem x_nil : aops P E [] ⟨fr, hp⟩ KS = KS ⟨fr, hp⟩ := rfl
theorem x_dnil : dops P [] ⟨fr, hp⟩ tr KD = KD ⟨fr, hp⟩ tr := rfl
theorem x_call {d f args} : aops P E (.call d f args :: os) ⟨fr, hp⟩ KS = CallW P f (args.map (evF (get fr))) hp (contC P E os d fr KS) := rfl
def CallvW (P : Program) (E : HE) (x : AV) (args : List AV) (hp : List HObj) (KC : AV → List HObj → Prop) : Prop := match x with
  | .fn (.func f) first caps => funOK P f = true ∧ CallW P f (first ++ args ++ caps) hp KC
  | .yl id => ∃ K0, E.Y id args hp K0 ∧ ∀ r hp', K0 r hp' → KC r hp'
  | _ => False
theorem x_callv {d x args} : aops P E (.callv d x args :: os) ⟨fr, hp⟩ KS = CallvW P E (evF (get fr) x) (args.map (evF (get fr))) hp (contC P E os d fr KS) := by
  simp only [aops, aop, CallvW]
  generalize evF (get fr) x = u
  cases u with
  | fn f as bs => cases f <;> rfl
  | _ => rfl
theorem cv_fn {f first caps args} {KC : AV → List HObj → Prop} : CallvW P E (.fn (.func f) first caps) args hp KC = (funOK P f = true ∧ CallW P f (first ++ args ++ caps) hp KC) := rfl
theorem cv_yl {id args} {KC : AV → List HObj → Prop} : CallvW P E (.yl id) args hp KC = ∃ K0, E.Y id args hp K0 ∧ ∀ r hp', K0 r hp' → KC r hp' := rfl
theorem x_dcons {o : AOp} : dops P (o :: os) ⟨fr, hp⟩ tr KD = o.wp P (get fr) hp (contD P os o.dst fr hp tr (o.foot (get fr)) KD) := rfl
theorem dx_mv {a0 a1} : dops P (.mv a0 a1 :: os) ⟨fr, hp⟩ tr KD = (AOp.mv a0 a1).wp P (get fr) hp (contD P os (some a0) fr hp tr ([]) KD) := rfl
theorem dx_pick {a0 a1 a2 a3} : dops P (.pick a0 a1 a2 a3 :: os) ⟨fr, hp⟩ tr KD = (AOp.pick a0 a1 a2 a3).wp P (get fr) hp (contD P os (some a0) fr hp tr ([]) KD) := rfl
theorem dx_bin {a0 a1 a2 a3} : dops P (.bin a0 a1 a2 a3 :: os) ⟨fr, hp⟩ tr KD = (AOp.bin a0 a1 a2 a3).wp P (get fr) hp (contD P os (some a0) fr hp tr ([]) KD) := rfl
theorem dx_bing {a0 a1 a2 a3 a4} : dops P (.bing a0 a1 a2 a3 a4 :: os) ⟨fr, hp⟩ tr KD = (AOp.bing a0 a1 a2 a3 a4).wp P (get fr) hp (contD P os (some a0) fr hp tr ([]) KD) := rfl
theorem dx_un {a0 a1 a2} : dops P (.un a0 a1 a2 :: os) ⟨fr, hp⟩ tr KD = (AOp.un a0 a1 a2).wp P (get fr) hp (contD P os (some a0) fr hp tr ([]) KD) := rfl
theorem dx_ext {a0 a1 a2} : dops P (.ext a0 a1 a2 :: os) ⟨fr, hp⟩ tr KD = (AOp.ext a0 a1 a2).wp P (get fr) hp (contD P os (some a0) fr hp tr ([]) KD) := rfl
theorem dx_ld {a0 a1 a2 a3} : dops P (.ld a0 a1 a2 a3 :: os) ⟨fr, hp⟩ tr KD = (AOp.ld a0 a1 a2 a3).wp P (get fr) hp (contD P os (some a0) fr hp tr ((evF (get fr) a3).ids) KD) := by simp [dops, AOp.wp, contD, AOp.foot, AOp.heapy, AOp.opds, AOp.dst, St.step]
theorem dx_st {a0 a1 a2} : dops P (.st a0 a1 a2 :: os) ⟨fr, hp⟩ tr KD = (AOp.st a0 a1 a2).wp P (get fr) hp (contD P os none fr hp tr ((evF (get fr) a1).ids ++ (evF (get fr) a2).ids) KD) := by simp [dops, AOp.wp, contD, AOp.foot, AOp.heapy, AOp.opds, AOp.dst, St.step]
theorem dx_box {a0 a1 a2} : dops P (.box a0 a1 a2 :: os) ⟨fr, hp⟩ tr KD = (AOp.box a0 a1 a2).wp P (get fr) hp (contD P os (some a0) fr hp tr ([]) KD) := rfl
theorem dx_al {a0 a1} : dops P (.al a0 a1 :: os) ⟨fr, hp⟩ tr KD = (AOp.al a0 a1).wp P (get fr) hp (contD P os (some a0) fr hp tr ([]) KD) := rfl
theorem dx_bsl {a0 a1 a2 a3 a4} : dops P (.bsl a0 a1 a2 a3 a4 :: os) ⟨fr, hp⟩ tr KD = (AOp.bsl a0 a1 a2 a3 a4).wp P (get fr) hp (contD P os (some a0) fr hp tr ((a4.map (·.2)).flatMap fun x => (evF (get fr) x).ids) KD) := rfl
theorem dx_bld {a0 a1 a2} : dops P (.bld a0 a1 a2 :: os) ⟨fr, hp⟩ tr KD = (AOp.bld a0 a1 a2).wp P (get fr) hp (contD P os (some a0) fr hp tr ([]) KD) := rfl
theorem dx_fa {a0 a1 a2} : dops P (.fa a0 a1 a2 :: os) ⟨fr, hp⟩ tr KD = (AOp.fa a0 a1 a2).wp P (get fr) hp (contD P os (some a0) fr hp tr ([]) KD) := rfl
theorem dx_fld {a0 a1 a2 a3 a4} : dops P (.fld a0 a1 a2 a3 a4 :: os) ⟨fr, hp⟩ tr KD = (AOp.fld a0 a1 a2 a3 a4).wp P (get fr) hp (contD P os (some a0) fr hp tr ([]) KD) := rfl
theorem dx_ia {a0 a1 a2 a3} : dops P (.ia a0 a1 a2 a3 :: os) ⟨fr, hp⟩ tr KD = (AOp.ia a0 a1 a2 a3).wp P (get fr) hp (contD P os (some a0) fr hp tr ([]) KD) := rfl
theorem dx_iaa {a0 a1 a2 a3 a4} : dops P (.iaa a0 a1 a2 a3 a4 :: os) ⟨fr, hp⟩ tr KD = (AOp.iaa a0 a1 a2 a3 a4).wp P (get fr) hp (contD P os (some a0) fr hp tr ([]) KD) := rfl
theorem dx_idx {a0 a1 a2 a3 a4 a5} : dops P (.idx a0 a1 a2 a3 a4 a5 :: os) ⟨fr, hp⟩ tr KD = (AOp.idx a0 a1 a2 a3 a4 a5).wp P (get fr) hp (contD P os (some a0) fr hp tr ([]) KD) := rfl
theorem dx_ids {a0 a1 a2} : dops P (.ids a0 a1 a2 :: os) ⟨fr, hp⟩ tr KD = (AOp.ids a0 a1 a2).wp P (get fr) hp (contD P os (some a0) fr hp tr ([]) KD) := rfl
theorem dx_len {a0 a1} : dops P (.len a0 a1 :: os) ⟨fr, hp⟩ tr KD = (AOp.len a0 a1).wp P (get fr) hp (contD P os (some a0) fr hp tr ([]) KD) := rfl
theorem dx_lns {a0 a1} : dops P (.lns a0 a1 :: os) ⟨fr, hp⟩ tr KD = (AOp.lns a0 a1).wp P (get fr) hp (contD P os (some a0) fr hp tr ([]) KD) := rfl
theorem dx_lnm {a0 a1} : dops P (.lnm a0 a1 :: os) ⟨fr, hp⟩ tr KD = (AOp.lnm a0 a1).wp P (get fr) hp (contD P os (some a0) fr hp tr ((evF (get fr) a1).ids) KD) := by simp [dops, AOp.wp, contD, AOp.foot, AOp.heapy, AOp.opds, AOp.dst, St.step]
theorem dx_slc {a0 a1 a2 a3 a4 a5} : dops P (.slc a0 a1 a2 a3 a4 a5 :: os) ⟨fr, hp⟩ tr KD = (AOp.slc a0 a1 a2 a3 a4 a5).wp P (get fr) hp (contD P os (some a0) fr hp tr ([]) KD) := rfl
theorem dx_sls {a0 a1 a2 a3} : dops P (.sls a0 a1 a2 a3 :: os) ⟨fr, hp⟩ tr KD = (AOp.sls a0 a1 a2 a3).wp P (get fr) hp (contD P os (some a0) fr hp tr ([]) KD) := rfl
theorem dx_app {a0 a1 a2 a3 a4} : dops P (.app a0 a1 a2 a3 a4 :: os) ⟨fr, hp⟩ tr KD = (AOp.app a0 a1 a2 a3 a4).wp P (get fr) hp (contD P os (some a0) fr hp tr ((evF (get fr) a3).ids ++ (evF (get fr) a4).ids) KD) := by simp [dops, AOp.wp, contD, AOp.foot, AOp.heapy, AOp.opds, AOp.dst, St.step]
theorem dx_cpy {a0 a1 a2 a3} : dops P (.cpy a0 a1 a2 a3 :: os) ⟨fr, hp⟩ tr KD = (AOp.cpy a0 a1 a2 a3).wp P (get fr) hp (contD P os (some a0) fr hp tr ((evF (get fr) a2).ids ++ (evF (get fr) a3).ids) KD) := by simp [dops, AOp.wp, contD, AOp.foot, AOp.heapy, AOp.opds, AOp.dst, St.step]
theorem dx_mks {a0 a1 a2 a3 a4 a5} : dops P (.mks a0 a1 a2 a3 a4 a5 :: os) ⟨fr, hp⟩ tr KD = (AOp.mks a0 a1 a2 a3 a4 a5).wp P (get fr) hp (contD P os (some a0) fr hp tr ([]) KD) := rfl
theorem dx_cnv {a0 a1 a2} : dops P (.cnv a0 a1 a2 :: os) ⟨fr, hp⟩ tr KD = (AOp.cnv a0 a1 a2).wp P (get fr) hp (contD P os (some a0) fr hp tr ([]) KD) := rfl
theorem dx_mx {a0 a1 a2 a3} : dops P (.mx a0 a1 a2 a3 :: os) ⟨fr, hp⟩ tr KD = (AOp.mx a0 a1 a2 a3).wp P (get fr) hp (contD P os (some a0) fr hp tr ([]) KD) := rfl
theorem dx_nilc {a0 a1} : dops P (.nilc a0 a1 :: os) ⟨fr, hp⟩ tr KD = (AOp.nilc a0 a1).wp P (get fr) hp (contD P os (some a0) fr hp tr ([]) KD) := rfl
theorem dx_mkf {a0 a1 a2 a3} : dops P (.mkf a0 a1 a2 a3 :: os) ⟨fr, hp⟩ tr KD = (AOp.mkf a0 a1 a2 a3).wp P (get fr) hp (contD P os (some a0) fr hp tr ([]) KD) := rfl
theorem dx_call {a0 a1 a2} : dops P (.call a0 a1 a2 :: os) ⟨fr, hp⟩ tr KD = (AOp.call a0 a1 a2).wp P (get fr) hp (contD P os (some a0) fr hp tr (a2.flatMap fun x => (evF (get fr) x).ids) KD) := rfl
theorem ids_v {x} : (AV.v x).ids = [] := rfl
theorem ids_sl {a b c} : (AV.sl a b c).ids = [] := rfl
theorem ids_ptr {a b} : (AV.ptr a b).ids = [] := rfl
theorem ids_ref {a b} : (AV.ref a b).ids = [a] := rfl
theorem ids_ms {a b c d} : (AV.ms a b c d).ids = [a] := rfl
theorem ids_mp {a} : (AV.mp a).ids = [a] := rfl
theorem ids_any : AV.any.ids = [] := rfl
theorem ids_fn {a b c} : (AV.fn a b c).ids = [] := rfl
theorem ids_agg {cs} : (AV.agg cs).ids = cs.flatMap AV.ids1 := rfl
theorem ids_tup {cs} : (AV.tup cs).ids = cs.flatMap AV.ids1 := rfl
theorem ids1_v {x} : (AV.v x).ids1 = [] := rfl
theorem ids1_sl {a b c} : (AV.sl a b c).ids1 = [] := rfl
theorem ids1_ptr {a b} : (AV.ptr a b).ids1 = [] := rfl
theorem ids1_ref {a b} : (AV.ref a b).ids1 = [a] := rfl
theorem ids1_ms {a b c d} : (AV.ms a b c d).ids1 = [a] := rfl
theorem ids1_mp {a} : (AV.mp a).ids1 = [a] := rfl
theorem ids1_any : AV.any.ids1 = [] := rfl
theorem ids1_fn {a b c} : (AV.fn a b c).ids1 = [] := rfl
theorem x_wcall {d f args} : (AOp.call d f args).wp P F hp K = PureW P f (args.map (evF F)) hp K := by
  apply propext
  constructor
  · rintro ⟨r, ws, ⟨ys, ids, h1, h2⟩, h3⟩
    rcases h2 with ⟨h2, rfl⟩ | ⟨m, sz, cs, h2, rfl, rfl⟩
    · exact ⟨ys, ids, h1, .inl ⟨r, h2, h3⟩⟩
    · exact ⟨ys, ids, h1, .inr ⟨m, sz, cs, h2, h3⟩⟩
  · rintro ⟨ys, ids, h1, h2⟩
    rcases h2 with ⟨r, h2, h3⟩ | ⟨m, sz, cs, h2, h3⟩
    · exact ⟨r, _, ⟨ys, ids, h1, .inl ⟨h2, rfl⟩⟩, h3⟩
    · exact ⟨_, _, ⟨ys, ids, h1, .inr ⟨m, sz, cs, h2, rfl, rfl⟩⟩, h3⟩

/-- Every operation but the calls. -/
def AOp.calls : AOp → Bool
  | .call .. | .callv .. => true
  | _ => false

theorem xo_mv {a0 a1} : aops P E (.mv a0 a1 :: os) ⟨fr, hp⟩ KS = (AOp.mv a0 a1).wp P (get fr) hp (contA P E os (some a0) fr hp KS) := rfl
theorem xo_pick {a0 a1 a2 a3} : aops P E (.pick a0 a1 a2 a3 :: os) ⟨fr, hp⟩ KS = (AOp.pick a0 a1 a2 a3).wp P (get fr) hp (contA P E os (some a0) fr hp KS) := rfl
theorem xo_bin {a0 a1 a2 a3} : aops P E (.bin a0 a1 a2 a3 :: os) ⟨fr, hp⟩ KS = (AOp.bin a0 a1 a2 a3).wp P (get fr) hp (contA P E os (some a0) fr hp KS) := rfl
theorem xo_bing {a0 a1 a2 a3 a4} : aops P E (.bing a0 a1 a2 a3 a4 :: os) ⟨fr, hp⟩ KS = (AOp.bing a0 a1 a2 a3 a4).wp P (get fr) hp (contA P E os (some a0) fr hp KS) := rfl
theorem xo_un {a0 a1 a2} : aops P E (.un a0 a1 a2 :: os) ⟨fr, hp⟩ KS = (AOp.un a0 a1 a2).wp P (get fr) hp (contA P E os (some a0) fr hp KS) := rfl
theorem xo_ext {a0 a1 a2} : aops P E (.ext a0 a1 a2 :: os) ⟨fr, hp⟩ KS = (AOp.ext a0 a1 a2).wp P (get fr) hp (contA P E os (some a0) fr hp KS) := rfl
theorem xo_ld {a0 a1 a2 a3} : aops P E (.ld a0 a1 a2 a3 :: os) ⟨fr, hp⟩ KS = (AOp.ld a0 a1 a2 a3).wp P (get fr) hp (contA P E os (some a0) fr hp KS) := rfl
theorem xo_st {a0 a1 a2} : aops P E (.st a0 a1 a2 :: os) ⟨fr, hp⟩ KS = (AOp.st a0 a1 a2).wp P (get fr) hp (contA P E os none fr hp KS) := rfl
theorem xo_box {a0 a1 a2} : aops P E (.box a0 a1 a2 :: os) ⟨fr, hp⟩ KS = (AOp.box a0 a1 a2).wp P (get fr) hp (contA P E os (some a0) fr hp KS) := rfl
theorem xo_al {a0 a1} : aops P E (.al a0 a1 :: os) ⟨fr, hp⟩ KS = (AOp.al a0 a1).wp P (get fr) hp (contA P E os (some a0) fr hp KS) := rfl
theorem xo_bsl {a0 a1 a2 a3 a4} : aops P E (.bsl a0 a1 a2 a3 a4 :: os) ⟨fr, hp⟩ KS = (AOp.bsl a0 a1 a2 a3 a4).wp P (get fr) hp (contA P E os (some a0) fr hp KS) := rfl
theorem xo_bld {a0 a1 a2} : aops P E (.bld a0 a1 a2 :: os) ⟨fr, hp⟩ KS = (AOp.bld a0 a1 a2).wp P (get fr) hp (contA P E os (some a0) fr hp KS) := rfl
theorem xo_fa {a0 a1 a2} : aops P E (.fa a0 a1 a2 :: os) ⟨fr, hp⟩ KS = (AOp.fa a0 a1 a2).wp P (get fr) hp (contA P E os (some a0) fr hp KS) := rfl
theorem xo_fld {a0 a1 a2 a3 a4} : aops P E (.fld a0 a1 a2 a3 a4 :: os) ⟨fr, hp⟩ KS = (AOp.fld a0 a1 a2 a3 a4).wp P (get fr) hp (contA P E os (some a0) fr hp KS) := rfl
theorem xo_ia {a0 a1 a2 a3} : aops P E (.ia a0 a1 a2 a3 :: os) ⟨fr, hp⟩ KS = (AOp.ia a0 a1 a2 a3).wp P (get fr) hp (contA P E os (some a0) fr hp KS) := rfl
theorem xo_iaa {a0 a1 a2 a3 a4} : aops P E (.iaa a0 a1 a2 a3 a4 :: os) ⟨fr, hp⟩ KS = (AOp.iaa a0 a1 a2 a3 a4).wp P (get fr) hp (contA P E os (some a0) fr hp KS) := rfl
theorem xo_idx {a0 a1 a2 a3 a4 a5} : aops P E (.idx a0 a1 a2 a3 a4 a5 :: os) ⟨fr, hp⟩ KS = (AOp.idx a0 a1 a2 a3 a4 a5).wp P (get fr) hp (contA P E os (some a0) fr hp KS) := rfl
theorem xo_ids {a0 a1 a2} : aops P E (.ids a0 a1 a2 :: os) ⟨fr, hp⟩ KS = (AOp.ids a0 a1 a2).wp P (get fr) hp (contA P E os (some a0) fr hp KS) := rfl
theorem xo_len {a0 a1} : aops P E (.len a0 a1 :: os) ⟨fr, hp⟩ KS = (AOp.len a0 a1).wp P (get fr) hp (contA P E os (some a0) fr hp KS) := rfl
theorem xo_lns {a0 a1} : aops P E (.lns a0 a1 :: os) ⟨fr, hp⟩ KS = (AOp.lns a0 a1).wp P (get fr) hp (contA P E os (some a0) fr hp KS) := rfl
theorem xo_lnm {a0 a1} : aops P E (.lnm a0 a1 :: os) ⟨fr, hp⟩ KS = (AOp.lnm a0 a1).wp P (get fr) hp (contA P E os (some a0) fr hp KS) := rfl
theorem xo_slc {a0 a1 a2 a3 a4 a5} : aops P E (.slc a0 a1 a2 a3 a4 a5 :: os) ⟨fr, hp⟩ KS = (AOp.slc a0 a1 a2 a3 a4 a5).wp P (get fr) hp (contA P E os (some a0) fr hp KS) := rfl
theorem xo_sls {a0 a1 a2 a3} : aops P E (.sls a0 a1 a2 a3 :: os) ⟨fr, hp⟩ KS = (AOp.sls a0 a1 a2 a3).wp P (get fr) hp (contA P E os (some a0) fr hp KS) := rfl
theorem xo_app {a0 a1 a2 a3 a4} : aops P E (.app a0 a1 a2 a3 a4 :: os) ⟨fr, hp⟩ KS = (AOp.app a0 a1 a2 a3 a4).wp P (get fr) hp (contA P E os (some a0) fr hp KS) := rfl
theorem xo_cpy {a0 a1 a2 a3} : aops P E (.cpy a0 a1 a2 a3 :: os) ⟨fr, hp⟩ KS = (AOp.cpy a0 a1 a2 a3).wp P (get fr) hp (contA P E os (some a0) fr hp KS) := rfl
theorem xo_mks {a0 a1 a2 a3 a4 a5} : aops P E (.mks a0 a1 a2 a3 a4 a5 :: os) ⟨fr, hp⟩ KS = (AOp.mks a0 a1 a2 a3 a4 a5).wp P (get fr) hp (contA P E os (some a0) fr hp KS) := rfl
theorem xo_cnv {a0 a1 a2} : aops P E (.cnv a0 a1 a2 :: os) ⟨fr, hp⟩ KS = (AOp.cnv a0 a1 a2).wp P (get fr) hp (contA P E os (some a0) fr hp KS) := rfl
theorem xo_mx {a0 a1 a2 a3} : aops P E (.mx a0 a1 a2 a3 :: os) ⟨fr, hp⟩ KS = (AOp.mx a0 a1 a2 a3).wp P (get fr) hp (contA P E os (some a0) fr hp KS) := rfl
theorem xo_nilc {a0 a1} : aops P E (.nilc a0 a1 :: os) ⟨fr, hp⟩ KS = (AOp.nilc a0 a1).wp P (get fr) hp (contA P E os (some a0) fr hp KS) := rfl
theorem xo_mkf {a0 a1 a2 a3} : aops P E (.mkf a0 a1 a2 a3 :: os) ⟨fr, hp⟩ KS = (AOp.mkf a0 a1 a2 a3).wp P (get fr) hp (contA P E os (some a0) fr hp KS) := rfl

theorem ex_two {α β : Type} {a : α} {b : β} {K : α → β → Prop} {p : Prop} : (∃ r ws, (p ∧ r = a ∧ ws = b) ∧ K r ws) = (p ∧ K a b) :=
  propext ⟨fun ⟨_, _, ⟨h, e1, e2⟩, k⟩ => ⟨h, by subst e1; subst e2; exact k⟩, fun ⟨h, k⟩ => ⟨a, b, ⟨h, rfl, rfl⟩, k⟩⟩
theorem ex_one {α β : Type} {a : α} {b : β} {K : α → β → Prop} : (∃ r ws, (r = a ∧ ws = b) ∧ K r ws) = K a b :=
  propext ⟨fun ⟨_, _, ⟨e1, e2⟩, k⟩ => by subst e1; subst e2; exact k, fun k => ⟨a, b, ⟨rfl, rfl⟩, k⟩⟩

theorem ex_z {α β γ : Type} {p : γ → Prop} {f : γ → α} {b : β} {K : α → β → Prop} : (∃ r ws, (∃ z, p z ∧ r = f z ∧ ws = b) ∧ K r ws) = ∃ z, p z ∧ K (f z) b :=
  propext ⟨fun ⟨_, _, ⟨z, h, e1, e2⟩, k⟩ => ⟨z, h, by subst e1; subst e2; exact k⟩, fun ⟨z, h, k⟩ => ⟨_, _, ⟨z, h, rfl, rfl⟩, k⟩⟩
theorem ex_f {α β : Type} {K : α → β → Prop} : (∃ r ws, False ∧ K r ws) = False := by simp

theorem w_mv {d x} : (AOp.mv d x).wp P F hp K = K (evF F x) [] := ex_one
def PickW (c a b : AV) (K : AV → List (Nat × HObj) → Prop) : Prop := match c with
  | .v (.bool t) => K (bif t then a else b) []
  | _ => False
theorem w_pick {d c a b} : (AOp.pick d c a b).wp P F hp K = PickW (evF F c) (evF F a) (evF F b) K := by
  unfold AOp.wp; simp only [AOp.sem]
  generalize evF F c = u
  cases u with
  | v x => cases x <;> first | exact ex_one | exact ex_f
  | _ => exact ex_f
theorem w_pickB {t a b} : PickW (B t) a b K = K (bif t then a else b) [] := rfl
def BinW (op : BinOp) (x y : AV) (K : AV → List (Nat × HObj) → Prop) : Prop := match x, y with
  | .v a, .v b => ∃ z, binV op a b = some z ∧ K (.v z) []
  | _, _ => False
theorem w_bin {d op x y} : (AOp.bin d op x y).wp P F hp K = BinW op (evF F x) (evF F y) K := by
  unfold AOp.wp; simp only [AOp.sem]
  generalize evF F x = u
  generalize evF F y = v
  cases u <;> cases v <;> first | exact ex_z | exact ex_f
theorem bin_of {op a b z} (h : binV op a b = some z) : BinW op (.v a) (.v b) K = K (.v z) [] := by
  unfold BinW; simp only [h, Option.some.injEq, exists_eq_left']
theorem b_add {k : IntKind} {a b : Int} : BinW .add (.v (.int k a)) (.v (.int k b)) K = K (.v (.int k (k.wrap (a + b)))) [] := bin_of (by simp [binV])
theorem b_sub {k : IntKind} {a b : Int} : BinW .sub (.v (.int k a)) (.v (.int k b)) K = K (.v (.int k (k.wrap (a - b)))) [] := bin_of (by simp [binV])
theorem b_mul {k : IntKind} {a b : Int} : BinW .mul (.v (.int k a)) (.v (.int k b)) K = K (.v (.int k (k.wrap (a * b)))) [] := bin_of (by simp [binV])
theorem b_quo {k : IntKind} {a b : Int} (h : b ≠ 0) : BinW .quo (.v (.int k a)) (.v (.int k b)) K = K (.v (.int k (k.wrap (a.tdiv b)))) [] := bin_of (by simp [binV, h])
theorem b_rem {k : IntKind} {a b : Int} (h : b ≠ 0) : BinW .rem (.v (.int k a)) (.v (.int k b)) K = K (.v (.int k (a.tmod b))) [] := bin_of (by simp [binV, h])
theorem b_and {k : IntKind} {a b : Int} : BinW .and (.v (.int k a)) (.v (.int k b)) K = K (.v (.int k (k.wrap (BitVec.ofInt k.bits a &&& BitVec.ofInt k.bits b).toNat))) [] := bin_of (by simp [binV])
theorem b_or {k : IntKind} {a b : Int} : BinW .or (.v (.int k a)) (.v (.int k b)) K = K (.v (.int k (k.wrap (BitVec.ofInt k.bits a ||| BitVec.ofInt k.bits b).toNat))) [] := bin_of (by simp [binV])
theorem b_xor {k : IntKind} {a b : Int} : BinW .xor (.v (.int k a)) (.v (.int k b)) K = K (.v (.int k (k.wrap (BitVec.ofInt k.bits a ^^^ BitVec.ofInt k.bits b).toNat))) [] := bin_of (by simp [binV])
theorem b_shl {k k' : IntKind} {a b : Int} (h : 0 ≤ b) : BinW .shl (.v (.int k a)) (.v (.int k' b)) K = K (.v (.int k (k.wrap (a * 2 ^ (min b.toNat k.bits))))) [] := bin_of (by simp [binV]; omega)
theorem b_shr {k k' : IntKind} {a b : Int} (h : 0 ≤ b) : BinW .shr (.v (.int k a)) (.v (.int k' b)) K = K (.v (.int k (a.fdiv (2 ^ (min b.toNat k.bits))))) [] := bin_of (by simp [binV]; omega)
theorem b_eql {k : IntKind} {a b : Int} : BinW .eql (.v (.int k a)) (.v (.int k b)) K = K (B (a == b)) [] := bin_of (by simp [binV])
theorem b_neq {k : IntKind} {a b : Int} : BinW .neq (.v (.int k a)) (.v (.int k b)) K = K (B (a != b)) [] := bin_of (by simp [binV])
theorem b_lss {k : IntKind} {a b : Int} : BinW .lss (.v (.int k a)) (.v (.int k b)) K = K (B (decide (a < b))) [] := bin_of (by simp [binV])
theorem b_leq {k : IntKind} {a b : Int} : BinW .leq (.v (.int k a)) (.v (.int k b)) K = K (B (decide (a ≤ b))) [] := bin_of (by simp [binV])
theorem b_gtr {k : IntKind} {a b : Int} : BinW .gtr (.v (.int k a)) (.v (.int k b)) K = K (B (decide (a > b))) [] := bin_of (by simp [binV])
theorem b_geq {k : IntKind} {a b : Int} : BinW .geq (.v (.int k a)) (.v (.int k b)) K = K (B (decide (a ≥ b))) [] := bin_of (by simp [binV])
def BingW (P : Program) (op : BinOp) (ty : TypeId) (x y : AV) (K : AV → List (Nat × HObj) → Prop) : Prop :=
  ∃ a b z, x.val = some a ∧ y.val = some b ∧ (∀ w, (binOp op ty a b).run P w = .ok z w) ∧ (∀ p q w, (eqGuard op ty p q a b).run P w = .ok () w) ∧ K (.v z) []
theorem w_bing {d op ty x y} : (AOp.bing d op ty x y).wp P F hp K = BingW P op ty (evF F x) (evF F y) K := by
  apply propext
  constructor
  · rintro ⟨r, ws, ⟨a, b, z, h1, h2, h3, h4, rfl, rfl⟩, k⟩; exact ⟨a, b, z, h1, h2, h3, h4, k⟩
  · rintro ⟨a, b, z, h1, h2, h3, h4, k⟩; exact ⟨_, _, ⟨a, b, z, h1, h2, h3, h4, rfl, rfl⟩, k⟩
theorem bing_of {op ty x y a b z} (w0 : World) (hx : x.val = some a) (hy : y.val = some b) (h1 : ∀ w, (binOp op ty a b).run P w = .ok z w) (h2 : ∀ p q w, (eqGuard op ty p q a b).run P w = .ok () w) : BingW P op ty x y K = K (.v z) [] := by
  apply propext
  constructor
  · rintro ⟨a', b', z', e1, e2, e3, e4, k⟩
    rw [hx] at e1; rw [hy] at e2
    cases e1; cases e2
    have := (h1 w0).symm.trans (e3 w0)
    cases this
    exact k
  · intro k; exact ⟨a, b, z, hx, hy, h1, h2, k⟩
def UnW (op : UnOp) (x : AV) (K : AV → List (Nat × HObj) → Prop) : Prop := match x with
  | .v a => ∃ z, unV op a = some z ∧ K (.v z) []
  | _ => False
theorem w_un {d op x} : (AOp.un d op x).wp P F hp K = UnW op (evF F x) K := by
  unfold AOp.wp; simp only [AOp.sem]
  generalize evF F x = u
  cases u <;> first | exact ex_z | exact ex_f
theorem u_neg {k : IntKind} {a : Int} : UnW .neg (.v (.int k a)) K = K (.v (.int k (k.wrap (0 - a)))) [] := by unfold UnW; simp [unV]
theorem u_not {b : Bool} : UnW .not (B b) K = K (B !b) [] := by unfold UnW; simp [unV]
def ExtW (x : AV) (i : Nat) (K : AV → List (Nat × HObj) → Prop) : Prop := match x with
  | .tup vs => ∃ y, vs[i]? = some y ∧ K y []
  | _ => False
theorem w_ext {d x i} : (AOp.ext d x i).wp P F hp K = ExtW (evF F x) i K := by
  unfold AOp.wp; simp only [AOp.sem]
  generalize evF F x = u
  cases u <;> first | exact ex_z | exact ex_f
def nthA : List AV → Nat → Option AV
  | [], _ => none
  | a :: l, n => if n = 0 then some a else nthA l (n - 1)
theorem nthA_eq : ∀ (l : List AV) (n : Nat), nthA l n = l[n]?
  | [], n => by simp [nthA]
  | a :: l, 0 => by simp [nthA]
  | a :: l, n + 1 => by simp [nthA, nthA_eq l n]
theorem nthA_cons {a : AV} {l : List AV} {n} : nthA (a :: l) n = if n = 0 then some a else nthA l (n - 1) := rfl
def OneW (o : Option AV) (K : AV → List (Nat × HObj) → Prop) : Prop := match o with
  | some y => K y []
  | none => False
theorem one_some {y : AV} : OneW (some y) K = K y [] := rfl
theorem one_ex {o : Option AV} : (∃ y, o = some y ∧ K y []) = OneW o K := by
  cases o <;> simp [OneW]
theorem e_tup {vs : List AV} {i} : ExtW (.tup vs) i K = OneW (nthA vs i) K := by rw [nthA_eq]; exact one_ex
/-- Loads. -/
def CellsW (cs : List AV) (off sz : Nat) (agg : Bool) (K : AV → List (Nat × HObj) → Prop) : Prop := match agg with
  | true => off + sz ≤ cs.length ∧ K (.agg (view cs off sz)) []
  | false => ∃ y, cs[off]? = some y ∧ K y []
theorem cells_agg {cs : List AV} {off sz} : CellsW cs off sz true K = (off + sz ≤ cs.length ∧ K (.agg (view cs off sz)) []) := rfl
theorem cells_one {cs : List AV} {off sz} : CellsW cs off sz false K = OneW (nthA cs off) K := by rw [nthA_eq]; exact one_ex
theorem cells_ex {cs : List AV} {off sz agg} {p : Prop} : (∃ r ws, ((match agg with | true => off + sz ≤ cs.length ∧ r = .agg (view cs off sz) | false => ∃ y, cs[off]? = some y ∧ r = y) ∧ ws = []) ∧ K r ws) = CellsW cs off sz agg K := by
  apply propext
  cases agg with
  | true =>
    constructor
    · rintro ⟨r, ws, ⟨⟨h, rfl⟩, rfl⟩, k⟩; exact ⟨h, k⟩
    · rintro ⟨h, k⟩; exact ⟨_, _, ⟨⟨h, rfl⟩, rfl⟩, k⟩
  | false =>
    constructor
    · rintro ⟨r, ws, ⟨⟨y, h, rfl⟩, rfl⟩, k⟩; exact ⟨_, h, k⟩
    · rintro ⟨y, h, k⟩; exact ⟨_, _, ⟨⟨y, h, rfl⟩, rfl⟩, k⟩
def LdW (hp : List HObj) (agg : Bool) (sz : Nat) (x : AV) (K : AV → List (Nat × HObj) → Prop) : Prop := match x with
  | .ptr cs off => CellsW cs off sz agg K
  | .ref id off => match hp[id]? with
    | some (.cells cs) => CellsW cs off sz agg K
    | _ => False
  | _ => False
theorem w_ld {d agg sz x} : (AOp.ld d agg sz x).wp P F hp K = LdW hp agg sz (evF F x) K := by
  unfold AOp.wp; simp only [AOp.sem, semLd]
  have sw : ∀ (cs : List AV) (off : Nat), (∃ r ws, (ws = [] ∧ (match agg with | true => off + sz ≤ cs.length ∧ r = .agg (view cs off sz) | false => ∃ y, cs[off]? = some y ∧ r = y)) ∧ K r ws) = CellsW cs off sz agg K := fun cs off => by
    rw [← cells_ex (p := True)]
    exact propext ⟨fun ⟨r, ws, ⟨a, b⟩, k⟩ => ⟨r, ws, ⟨b, a⟩, k⟩, fun ⟨r, ws, ⟨a, b⟩, k⟩ => ⟨r, ws, ⟨b, a⟩, k⟩⟩
  generalize evF F x = u
  cases u with
  | ptr cs off => exact sw cs off
  | ref id off =>
    simp only [hpf, LdW]
    generalize hp[id]? = o
    cases o with
    | none => exact ex_f
    | some o => cases o <;> first | exact sw _ _ | exact ex_f
  | _ => exact ex_f
theorem ld_ptr {agg sz cs off} : LdW hp agg sz (.ptr cs off) K = CellsW cs off sz agg K := rfl
def nthH : List HObj → Nat → Option HObj
  | [], _ => none
  | a :: l, n => if n = 0 then some a else nthH l (n - 1)
theorem nthH_eq : ∀ (l : List HObj) (n : Nat), nthH l n = l[n]?
  | [], n => by simp [nthH]
  | a :: l, 0 => by simp [nthH]
  | a :: l, n + 1 => by simp [nthH, nthH_eq l n]
theorem nthH_cons {a : HObj} {l : List HObj} {n} : nthH (a :: l) n = if n = 0 then some a else nthH l (n - 1) := rfl
theorem nthH_end {l : List HObj} {o : HObj} : nthH (l ++ [o]) l.length = some o := by simp [nthH_eq]
theorem nthH_front {l k : List HObj} {n} (h : n < l.length) : nthH (l ++ k) n = nthH l n := by rw [nthH_eq, nthH_eq, List.getElem?_append_left h]
theorem set_end {l : List HObj} {o o' : HObj} : (l ++ [o]).set l.length o' = l ++ [o'] := by simp
def LdR (o : Option HObj) (agg : Bool) (sz off : Nat) (K : AV → List (Nat × HObj) → Prop) : Prop := match o with
  | some (.cells cs) => CellsW cs off sz agg K
  | _ => False
theorem ldr_some {cs agg sz off} : LdR (some (.cells cs)) agg sz off K = CellsW cs off sz agg K := rfl
theorem ld_ref {agg sz id off} : LdW hp agg sz (.ref id off) K = LdR (nthH hp id) agg sz off K := by
  simp only [LdW, nthH_eq]; rfl
def StW (hp : List HObj) (sz : Nat) (a x : AV) (K : AV → List (Nat × HObj) → Prop) : Prop := match a with
  | .ref id off => match hp[id]? with
    | some (.cells cs) => (x.cells.length = sz ∧ (x.cells.all AV.isCell) = true ∧ off + sz ≤ cs.length) ∧ K .any [(id, .cells (splice cs off x.cells))]
    | _ => False
  | _ => False
theorem w_st {sz a x} : (AOp.st sz a x).wp P F hp K = StW hp sz (evF F a) (evF F x) K := by
  unfold AOp.wp; simp only [AOp.sem, semSt]
  generalize evF F a = u
  cases u with
  | ref id off =>
    simp only [hpf, StW]
    generalize hp[id]? = o
    cases o with
    | none => exact ex_f
    | some o =>
      cases o with
      | cells cs =>
        apply propext
        constructor
        · rintro ⟨r, ws, ⟨h1, h2, h3, rfl, rfl⟩, k⟩; exact ⟨⟨h1, h2, h3⟩, k⟩
        · rintro ⟨⟨h1, h2, h3⟩, k⟩; exact ⟨_, _, ⟨h1, h2, h3, rfl, rfl⟩, k⟩
      | _ => exact ex_f
  | _ => exact ex_f
def StR (o : Option HObj) (sz id off : Nat) (x : AV) (K : AV → List (Nat × HObj) → Prop) : Prop := match o with
  | some (.cells cs) => (x.cells.length = sz ∧ (x.cells.all AV.isCell) = true ∧ off + sz ≤ cs.length) ∧ K .any [(id, .cells (splice cs off x.cells))]
  | _ => False
theorem str_some {cs sz id off x} : StR (some (.cells cs)) sz id off x K = ((x.cells.length = sz ∧ (x.cells.all AV.isCell) = true ∧ off + sz ≤ cs.length) ∧ K .any [(id, .cells (splice cs off x.cells))]) := rfl
theorem st_ref {sz id off x} : StW hp sz (.ref id off) x K = StR (nthH hp id) sz id off x K := by
  simp only [StW, nthH_eq]; rfl
theorem w_box {d sz x} : (AOp.box d sz x).wp P F hp K = (((evF F x).cells.length = sz ∧ ((evF F x).cells.all AV.isCell) = true) ∧ K (.ref hp.length 0) [(hp.length, .cells (evF F x).cells)]) := by
  unfold AOp.wp; simp only [AOp.sem]
  apply propext
  constructor
  · rintro ⟨r, ws, ⟨h1, h2, rfl, rfl⟩, k⟩; exact ⟨⟨h1, h2⟩, k⟩
  · rintro ⟨⟨h1, h2⟩, k⟩; exact ⟨_, _, ⟨h1, h2, rfl, rfl⟩, k⟩
theorem w_al {d z} : (AOp.al d z).wp P F hp K = K (.ref hp.length 0) [(hp.length, .cells z)] := ex_one
def BslW (P : Program) (hp : List HObj) (n sz : Nat) (zero : List AV) (is : List Nat) (xs : List AV) (K : AV → List (Nat × HObj) → Prop) : Prop :=
  ∃ ys ids, purifyAll (hpf hp) xs = some (ys, ids) ∧ (ys.all fun y => y.cells.all AV.isCell && y.cells.all AV.isPure && (y.cells.length == sz)) = true ∧ K (.sl true n (place (zrep n zero) sz (is.zip ys))) (gones ids)
theorem bsl_of {n sz : Nat} {zero : List AV} {is : List Nat} {xs ys : List AV} {ids : List Nat} (h1 : purifyAll (hpf hp) xs = some (ys, ids)) (h2 : (ys.all fun y => y.cells.all AV.isCell && y.cells.all AV.isPure && (y.cells.length == sz)) = true)
    (h3 : K (.sl true n (place (zrep n zero) sz (is.zip ys))) (gones ids)) : BslW P hp n sz zero is xs K := ⟨ys, ids, h1, h2, h3⟩
theorem place_nil {cs : List AV} {sz : Nat} : place cs sz [] = cs := rfl
theorem place_cons {cs : List AV} {sz i : Nat} {x : AV} {r} : place cs sz ((i, x) :: r) = place (splice cs (i * sz) x.cells) sz r := rfl
theorem placeF_nil {cs : List AV} : placeF cs [] = cs := rfl
theorem placeF_cons {cs : List AV} {off n : Nat} {x : AV} {r} : placeF cs ((off, n, x) :: r) = placeF (splice cs off x.cells) r := rfl
theorem zrep_zero {z : List AV} : zrep 0 z = [] := rfl
theorem zrep_succ {n} {z : List AV} : zrep (n + 1) z = z ++ zrep n z := rfl
theorem w_bsl {d n sz z ps} : (AOp.bsl d n sz z ps).wp P F hp K = BslW P hp n sz z (ps.map (·.1)) (ps.map fun p => evF F p.2) K := by
  apply propext
  constructor
  · rintro ⟨r, ws, ⟨ys, ids, h1, h2, rfl, rfl⟩, k⟩; exact ⟨ys, ids, h1, h2, k⟩
  · rintro ⟨ys, ids, h1, h2, k⟩; exact ⟨_, _, ⟨ys, ids, h1, h2, rfl, rfl⟩, k⟩
theorem w_bld {d z ps} : (AOp.bld d z ps).wp P F hp K = ((ps.all fun p => (evF F p.2.2).cells.all AV.isCell && ((evF F p.2.2).cells.length == p.2.1)) = true ∧ K (.agg (placeF z (ps.map fun p => (p.1, p.2.1, evF F p.2.2)))) []) := ex_two
def FaW (x : AV) (off : Nat) (K : AV → List (Nat × HObj) → Prop) : Prop := match x with
  | .ptr cs o => K (.ptr cs (o + off)) []
  | .ref id o => K (.ref id (o + off)) []
  | _ => False
theorem w_fa {d x off} : (AOp.fa d x off).wp P F hp K = FaW (evF F x) off K := by
  unfold AOp.wp; simp only [AOp.sem]
  generalize evF F x = u
  cases u <;> first | exact ex_one | exact ex_f
theorem fa_ptr {cs o off} : FaW (.ptr cs o) off K = K (.ptr cs (o + off)) [] := rfl
theorem fa_ref {id o off} : FaW (.ref id o) off K = K (.ref id (o + off)) [] := rfl
def FldW (agg : Bool) (sz off : Nat) (x : AV) (K : AV → List (Nat × HObj) → Prop) : Prop := match x with
  | .agg cs => CellsW cs off sz agg K
  | _ => False
theorem w_fld {d agg sz off x} : (AOp.fld d agg sz off x).wp P F hp K = FldW agg sz off (evF F x) K := by
  unfold AOp.wp; simp only [AOp.sem]
  generalize evF F x = u
  cases u <;> first | exact cells_ex (p := True) | exact ex_f
theorem fld_agg {agg sz off cs} : FldW agg sz off (.agg cs) K = CellsW cs off sz agg K := rfl
def IaW (sz : Nat) (x i : AV) (K : AV → List (Nat × HObj) → Prop) : Prop := match x, i with
  | .sl _ n cs, .v (.int _ j) => (0 ≤ j ∧ j < n) ∧ cs.length = n * sz ∧ K (.ptr cs (j.toNat * sz)) []
  | .ms id off n sz', .v (.int _ j) => (0 ≤ j ∧ j < n) ∧ sz' = sz ∧ K (.ref id (off + j.toNat * sz)) []
  | .mc id off n _ sz', .v (.int _ j) => (0 ≤ j ∧ j < n) ∧ sz' = sz ∧ K (.ref id (off + j.toNat * sz)) []
  | _, _ => False
theorem w_ia {d sz x i} : (AOp.ia d sz x i).wp P F hp K = IaW sz (evF F x) (evF F i) K := by
  unfold AOp.wp; simp only [AOp.sem]
  generalize evF F x = u
  generalize evF F i = v
  cases u with
  | sl f n cs =>
    cases v with
    | v y =>
      cases y <;> first | exact ex_f | skip
      apply propext
      constructor
      · rintro ⟨r, ws, ⟨h1, rfl, rfl, h2⟩, k⟩; exact ⟨h1, h2, k⟩
      · rintro ⟨h1, h2, k⟩; exact ⟨_, _, ⟨h1, rfl, rfl, h2⟩, k⟩
    | _ => exact ex_f
  | ms id off n sz' =>
    cases v with
    | v y =>
      cases y <;> first | exact ex_f | skip
      apply propext
      constructor
      · rintro ⟨r, ws, ⟨h1, h2, rfl, rfl⟩, k⟩; exact ⟨h1, h2, k⟩
      · rintro ⟨h1, h2, k⟩; exact ⟨_, _, ⟨h1, h2, rfl, rfl⟩, k⟩
    | _ => exact ex_f
  | mc id off n c sz' =>
    cases v with
    | v y =>
      cases y <;> first | exact ex_f | skip
      apply propext
      constructor
      · rintro ⟨r, ws, ⟨h1, h2, rfl, rfl⟩, k⟩; exact ⟨h1, h2, k⟩
      · rintro ⟨h1, h2, k⟩; exact ⟨_, _, ⟨h1, h2, rfl, rfl⟩, k⟩
    | _ => exact ex_f
  | _ => cases v <;> exact ex_f
theorem ia_mc {sz id off n c sz' j k} : IaW sz (.mc id off n c sz') (.v (.int k j)) K = ((0 ≤ j ∧ j < n) ∧ sz' = sz ∧ K (.ref id (off + j.toNat * sz)) []) := rfl
theorem ia_sl {sz f n cs j k} : IaW sz (.sl f n cs) (.v (.int k j)) K = ((0 ≤ j ∧ j < n) ∧ cs.length = n * sz ∧ K (.ptr cs (j.toNat * sz)) []) := rfl
theorem ia_ms {sz id off n sz' j k} : IaW sz (.ms id off n sz') (.v (.int k j)) K = ((0 ≤ j ∧ j < n) ∧ sz' = sz ∧ K (.ref id (off + j.toNat * sz)) []) := rfl
def IaaW (ln sz : Nat) (x i : AV) (K : AV → List (Nat × HObj) → Prop) : Prop := match x, i with
  | .ptr cs o, .v (.int _ j) => (0 ≤ j ∧ j < ln) ∧ K (.ptr cs (o + j.toNat * sz)) []
  | .ref id o, .v (.int _ j) => (0 ≤ j ∧ j < ln) ∧ K (.ref id (o + j.toNat * sz)) []
  | _, _ => False
theorem w_iaa {d ln sz x i} : (AOp.iaa d ln sz x i).wp P F hp K = IaaW ln sz (evF F x) (evF F i) K := by
  unfold AOp.wp; simp only [AOp.sem]
  generalize evF F x = u
  generalize evF F i = v
  cases u with
  | ptr cs o =>
    cases v with
    | v y => cases y <;> first | exact ex_f | exact ex_two
    | _ => exact ex_f
  | ref id o =>
    cases v with
    | v y => cases y <;> first | exact ex_f | exact ex_two
    | _ => exact ex_f
  | _ => cases v <;> exact ex_f
theorem iaa_ptr {ln sz cs o j k} : IaaW ln sz (.ptr cs o) (.v (.int k j)) K = ((0 ≤ j ∧ j < ln) ∧ K (.ptr cs (o + j.toNat * sz)) []) := rfl
theorem iaa_ref {ln sz id o j k} : IaaW ln sz (.ref id o) (.v (.int k j)) K = ((0 ≤ j ∧ j < ln) ∧ K (.ref id (o + j.toNat * sz)) []) := rfl
def IdxW (ln : Nat) (agg : Bool) (sz : Nat) (x i : AV) (K : AV → List (Nat × HObj) → Prop) : Prop := match x, i with
  | .agg cs, .v (.int _ j) => (0 ≤ j ∧ j < ln) ∧ CellsW cs (j.toNat * sz) sz agg K
  | _, _ => False
theorem w_idx {d ln agg sz x i} : (AOp.idx d ln agg sz x i).wp P F hp K = IdxW ln agg sz (evF F x) (evF F i) K := by
  unfold AOp.wp; simp only [AOp.sem]
  generalize evF F x = u
  generalize evF F i = v
  cases u with
  | agg cs =>
    cases v with
    | v y =>
      cases y <;> first | exact ex_f | skip
      simp only [IdxW]
      rw [← cells_ex (p := True)]
      apply propext
      constructor
      · rintro ⟨r, ws, ⟨h1, h2, h3⟩, k⟩; exact ⟨h1, r, ws, ⟨h2, h3⟩, k⟩
      · rintro ⟨h1, r, ws, ⟨h2, h3⟩, k⟩; exact ⟨r, ws, ⟨h1, h2, h3⟩, k⟩
    | _ => exact ex_f
  | _ => cases v <;> exact ex_f
theorem idx_agg {ln agg sz cs j k} : IdxW ln agg sz (.agg cs) (.v (.int k j)) K = ((0 ≤ j ∧ j < ln) ∧ CellsW cs (j.toNat * sz) sz agg K) := rfl
def LenW (x : AV) (K : AV → List (Nat × HObj) → Prop) : Prop := match x with
  | .sl _ n _ => K (I n) []
  | .ms _ _ n _ => K (I n) []
  | .mc _ _ n _ _ => K (I n) []
  | _ => False
theorem w_len {d x} : (AOp.len d x).wp P F hp K = LenW (evF F x) K := by
  unfold AOp.wp; simp only [AOp.sem]
  generalize evF F x = u
  cases u <;> first | exact ex_one | exact ex_f
theorem len_sl {f n cs} : LenW (.sl f n cs) K = K (I n) [] := rfl
theorem len_mc {id off n c sz} : LenW (.mc id off n c sz) K = K (I n) [] := rfl
theorem len_ms {id off n sz} : LenW (.ms id off n sz) K = K (I n) [] := rfl
def SlcW (sz : Nat) (x : AV) (lo hi mx : Option AV) (K : AV → List (Nat × HObj) → Prop) : Prop := ∃ r ws, semSlc r ws sz x lo hi mx ∧ K r ws
theorem w_slc {d sz x lo hi mx} : (AOp.slc d sz x lo hi mx).wp P F hp K = SlcW sz (evF F x) (lo.map (evF F)) (hi.map (evF F)) (mx.map (evF F)) K := rfl
theorem I_inj {a b : Int} : (I a = I b) = (a = b) := by simp [I]
theorem slc_hi {sz f n cs j} : SlcW sz (.sl f n cs) none (some (I j)) none K = ((0 ≤ j ∧ j ≤ n ∧ cs.length = n * sz) ∧ K (.sl (f && decide (j.toNat = n)) j.toNat (view cs 0 (j.toNat * sz))) []) := by
  apply propext
  constructor
  · rintro ⟨r, ws, ⟨l, h, h1, h2, h3, h4, h5, h6, h7⟩, k⟩
    simp only [I_inj] at h2
    subst h1; subst h2
    simp only [Nat.sub_zero, Nat.zero_mul] at h6
    subst h6; subst h7
    exact ⟨⟨by omega, by omega, h5⟩, by simpa using k⟩
  · rintro ⟨⟨h1, h2, h3⟩, k⟩
    exact ⟨_, _, ⟨0, j.toNat, rfl, by rw [Int.toNat_of_nonneg h1], by omega, by omega, h3, rfl, rfl⟩, by simpa using k⟩
theorem slc_lo {sz f n cs j} : SlcW sz (.sl f n cs) (some (I j)) none none K = ((0 ≤ j ∧ j ≤ n ∧ cs.length = n * sz) ∧ K (.sl f (n - j.toNat) (view cs (j.toNat * sz) ((n - j.toNat) * sz))) []) := by
  apply propext
  constructor
  · rintro ⟨r, ws, ⟨l, h, h1, h2, h3, h4, h5, h6, h7⟩, k⟩
    simp only [I_inj] at h1
    subst h1; subst h2
    simp only [decide_true, Bool.and_true] at h6
    subst h6; subst h7
    exact ⟨⟨by omega, by omega, h5⟩, by simpa using k⟩
  · rintro ⟨⟨h1, h2, h3⟩, k⟩
    exact ⟨_, _, ⟨j.toNat, n, by rw [Int.toNat_of_nonneg h1], rfl, by omega, by omega, h3, rfl, rfl⟩, by simpa using k⟩
theorem slc_lohi {sz f n cs i j} : SlcW sz (.sl f n cs) (some (I i)) (some (I j)) none K = ((0 ≤ i ∧ i ≤ j ∧ j ≤ n ∧ cs.length = n * sz) ∧ K (.sl (f && decide (j.toNat = n)) (j.toNat - i.toNat) (view cs (i.toNat * sz) ((j.toNat - i.toNat) * sz))) []) := by
  apply propext
  constructor
  · rintro ⟨r, ws, ⟨l, h, h1, h2, h3, h4, h5, h6, h7⟩, k⟩
    simp only [I_inj] at h1 h2
    subst h1; subst h2
    subst h6; subst h7
    exact ⟨⟨by omega, by omega, by omega, h5⟩, by simpa using k⟩
  · rintro ⟨⟨h1, h2, h3, h4⟩, k⟩
    exact ⟨_, _, ⟨i.toNat, j.toNat, by rw [Int.toNat_of_nonneg h1], by rw [Int.toNat_of_nonneg (by omega)], by omega, by omega, h4, rfl, rfl⟩, by simpa using k⟩
def CnvW (k : IntKind) (x : AV) (K : AV → List (Nat × HObj) → Prop) : Prop := match x with
  | .v (.int _ n) => K (.v (.int k (k.wrap n))) []
  | _ => False
theorem w_cnv {d k x} : (AOp.cnv d k x).wp P F hp K = CnvW k (evF F x) K := by
  unfold AOp.wp; simp only [AOp.sem]
  generalize evF F x = u
  cases u with
  | v y => cases y <;> first | exact ex_one | exact ex_f
  | _ => exact ex_f
theorem cnv_int {k k' n} : CnvW k (.v (.int k' n)) K = K (.v (.int k (k.wrap n))) [] := rfl
def MxW (max : Bool) (x y : AV) (K : AV → List (Nat × HObj) → Prop) : Prop := match x, y with
  | .v (.int k a), .v (.int _ b) => K (.v (.int k (bif max then (if b > a then b else a) else (if b < a then b else a)))) []
  | _, _ => False
theorem w_mx {d max x y} : (AOp.mx d max x y).wp P F hp K = MxW max (evF F x) (evF F y) K := by
  unfold AOp.wp; simp only [AOp.sem]
  generalize evF F x = u
  generalize evF F y = v
  cases u with
  | v a =>
    cases v with
    | v b => cases a <;> cases b <;> first | exact ex_one | exact ex_f
    | _ => cases a <;> exact ex_f
  | _ => cases v <;> exact ex_f
theorem mx_int {max k a k' b} : MxW max (.v (.int k a)) (.v (.int k' b)) K = K (.v (.int k (bif max then (if b > a then b else a) else (if b < a then b else a)))) [] := rfl
theorem mx_max {k a k' b} : MxW true (.v (.int k a)) (.v (.int k' b)) K = K (.v (.int k (max a b))) [] := by
  rw [mx_int, cond_true]
  have : (if b > a then b else a) = max a b := by by_cases h : b > a <;> simp [h] <;> omega
  rw [this]
theorem mx_min {k a k' b} : MxW false (.v (.int k a)) (.v (.int k' b)) K = K (.v (.int k (min a b))) [] := by
  rw [mx_int, cond_false]
  have : (if b < a then b else a) = min a b := by by_cases h : b < a <;> simp [h] <;> omega
  rw [this]
def NilcW (x : AV) (K : AV → List (Nat × HObj) → Prop) : Prop := match x with
  | .ptr cs o => K (.ptr cs o) []
  | .ref id o => K (.ref id o) []
  | .fn (.func f) as bs => K (.fn (.func f) as bs) []
  | _ => False
theorem w_nilc {d x} : (AOp.nilc d x).wp P F hp K = NilcW (evF F x) K := by
  unfold AOp.wp; simp only [AOp.sem]
  generalize evF F x = u
  cases u with
  | fn f as bs => cases f <;> first | exact ex_one | exact ex_f
  | ptr => exact ex_one
  | ref => exact ex_one
  | _ => exact ex_f
theorem nilc_ptr {cs o} : NilcW (.ptr cs o) K = K (.ptr cs o) [] := rfl
theorem nilc_ref {id o} : NilcW (.ref id o) K = K (.ref id o) [] := rfl
theorem nilc_fn {f as bs} : NilcW (.fn (.func f) as bs) K = K (.fn (.func f) as bs) [] := rfl
theorem w_mkf {d f as bs} : (AOp.mkf d f as bs).wp P F hp K = K (.fn f (as.map (evF F)) (bs.map (evF F))) [] := ex_one
def AppW (hp : List HObj) (sz bytes : Nat) (x y : AV) (K : AV → List (Nat × HObj) → Prop) : Prop := ∃ m ys, elems (hpf hp) sz y = some (m, ys) ∧ (ys.all AV.isPC) = true ∧ ∃ r ws, semApp (hpf hp) hp.length r ws sz bytes x m ys ∧ K r ws
theorem w_app {d sz bytes x y} : (AOp.app d sz bytes x y).wp P F hp K = AppW hp sz bytes (evF F x) (evF F y) K := by
  apply propext
  constructor
  · rintro ⟨r, ws, ⟨m, ys, h1, h2, h3⟩, k⟩; exact ⟨m, ys, h1, h2, r, ws, h3, k⟩
  · rintro ⟨m, ys, h1, h2, r, ws, h3, k⟩; exact ⟨r, ws, ⟨m, ys, h1, h2, h3⟩, k⟩
theorem app_sl {sz bytes n m f g} {cs ys : List AV} : AppW hp sz bytes (.sl f n cs) (.sl g m ys) K =
    ((f = true ∧ ys.length = m * sz ∧ (ys.all AV.isPC) = true ∧ cs.length = n * sz ∧ (n + m) * bytes ≤ 140737488355328 ∧ n + m ≤ 140737488355328 ∧ (n = 0 ∨ 0 < m)) ∧ K (.ms hp.length 0 (n + m) sz) [(hp.length, .cells (cs ++ ys))]) := by
  apply propext
  constructor
  · rintro ⟨m', ys', h1, h2, r, ws, h3, k⟩
    simp only [elems] at h1
    split at h1
    · rename_i hl; cases h1
      obtain ⟨a1, a2, a3, a4, a5, rfl, rfl⟩ := h3
      exact ⟨⟨a1, hl, h2, a2, a3, a4, a5⟩, k⟩
    · cases h1
  · rintro ⟨⟨a1, a2, a3, a4, a5, a6, a7⟩, k⟩
    exact ⟨m, ys, by simp [elems, a2], a3, _, _, ⟨a1, a4, a5, a6, a7, rfl, rfl⟩, k⟩
def AppR (o : Option HObj) (new sz bytes id off n sz' m : Nat) (ys : List AV) (K : AV → List (Nat × HObj) → Prop) : Prop := match o with
  | some (.cells cs) => (ys.length = m * sz ∧ (ys.all AV.isPC) = true ∧ sz' = sz ∧ off + n * sz ≤ cs.length ∧ (n + m) * bytes ≤ 140737488355328 ∧ n + m ≤ 140737488355328) ∧ K (.ms new 0 (n + m) sz) [(id, .gone), (new, .cells (view cs off (n * sz) ++ ys))]
  | _ => False
theorem appr_some {cs new sz bytes id off n sz' m ys} : AppR (some (.cells cs)) new sz bytes id off n sz' m ys K = ((ys.length = m * sz ∧ (ys.all AV.isPC) = true ∧ sz' = sz ∧ off + n * sz ≤ cs.length ∧ (n + m) * bytes ≤ 140737488355328 ∧ n + m ≤ 140737488355328) ∧ K (.ms new 0 (n + m) sz) [(id, .gone), (new, .cells (view cs off (n * sz) ++ ys))]) := rfl
theorem app_ms {sz bytes id off n sz' m g} {ys : List AV} : AppW hp sz bytes (.ms id off n sz') (.sl g m ys) K = AppR (nthH hp id) hp.length sz bytes id off n sz' m ys K := by
  apply propext
  rw [nthH_eq]
  constructor
  · rintro ⟨m', ys', h1, h2, r, ws, h3, k⟩
    simp only [elems] at h1
    split at h1
    · rename_i hl; cases h1
      simp only [semApp, hpf] at h3
      cases ho : hp[id]? with
      | none => rw [ho] at h3; exact h3.elim
      | some o =>
        rw [ho] at h3
        cases o with
        | cells cs =>
          obtain ⟨a1, a2, a3, a4, rfl, rfl⟩ := h3
          exact ⟨⟨hl, h2, a1, a2, a3, a4⟩, k⟩
        | _ => exact h3.elim
    · cases h1
  · intro h
    cases ho : hp[id]? with
    | none => rw [ho] at h; exact h.elim
    | some o =>
      rw [ho] at h
      cases o with
      | cells cs =>
        obtain ⟨⟨a1, a2, a3, a4, a5, a6⟩, k⟩ := h
        refine ⟨m, ys, by simp [elems, a1], a2, _, _, ?_, k⟩
        simp only [semApp, hpf, ho]
        exact ⟨a3, a4, a5, a6, trivial, trivial⟩
      | _ => exact h.elim
def MksW (hp : List HObj) (sz bytes : Nat) (zero : List AV) (x y : AV) (K : AV → List (Nat × HObj) → Prop) : Prop :=
  ∃ k : Nat, x = I k ∧ y = I k ∧ k * bytes ≤ 140737488355328 ∧ k ≤ 140737488355328 ∧ zero.length = sz ∧ K (.ms hp.length 0 k sz) [(hp.length, .cells (zrep k zero))]
theorem w_mks {d sz bytes z n c} : (AOp.mks d sz bytes z n c).wp P F hp K = MksW hp sz bytes z (evF F n) (evF F c) K := by
  apply propext
  constructor
  · rintro ⟨r, ws, ⟨k, h1, h2, h3, h4, h5, rfl, rfl⟩, hk⟩; exact ⟨k, h1, h2, h3, h4, h5, hk⟩
  · rintro ⟨k, h1, h2, h3, h4, h5, hk⟩; exact ⟨_, _, ⟨k, h1, h2, h3, h4, h5, rfl, rfl⟩, hk⟩


/-! ### The later operations -/
theorem xo_cap {a0 a1} : aops P E (.cap a0 a1 :: os) ⟨fr, hp⟩ KS = (AOp.cap a0 a1).wp P (get fr) hp (contA P E os (some a0) fr hp KS) := rfl
theorem xo_clr {a0 a1 a2} : aops P E (.clr a0 a1 a2 :: os) ⟨fr, hp⟩ KS = (AOp.clr a0 a1 a2).wp P (get fr) hp (contA P E os none fr hp KS) := rfl
theorem xo_appz {a0 a1 a2 a3 a4 a5} : aops P E (.appz a0 a1 a2 a3 a4 a5 :: os) ⟨fr, hp⟩ KS = (AOp.appz a0 a1 a2 a3 a4 a5).wp P (get fr) hp (contA P E os (some a0) fr hp KS) := rfl
theorem xo_slp {a0 a1 a2 a3 a4 a5 a6} : aops P E (.slp a0 a1 a2 a3 a4 a5 a6 :: os) ⟨fr, hp⟩ KS = (AOp.slp a0 a1 a2 a3 a4 a5 a6).wp P (get fr) hp (contA P E os (some a0) fr hp KS) := rfl
theorem xo_mkm {a0} : aops P E (.mkm a0 :: os) ⟨fr, hp⟩ KS = (AOp.mkm a0).wp P (get fr) hp (contA P E os (some a0) fr hp KS) := rfl
theorem xo_ins {a0 a1 a2 a3} : aops P E (.ins a0 a1 a2 a3 :: os) ⟨fr, hp⟩ KS = (AOp.ins a0 a1 a2 a3).wp P (get fr) hp (contA P E os none fr hp KS) := rfl
theorem xo_lku {a0 a1 a2 a3 a4 a5} : aops P E (.lku a0 a1 a2 a3 a4 a5 :: os) ⟨fr, hp⟩ KS = (AOp.lku a0 a1 a2 a3 a4 a5).wp P (get fr) hp (contA P E os (some a0) fr hp KS) := rfl
theorem xo_mpe {a0 a1 a2 a3 a4} : aops P E (.mpe a0 a1 a2 a3 a4 :: os) ⟨fr, hp⟩ KS = (AOp.mpe a0 a1 a2 a3 a4).wp P (get fr) hp (contA P E os (some a0) fr hp KS) := rfl
theorem xo_est {a0 a1 a2} : aops P E (.est a0 a1 a2 :: os) ⟨fr, hp⟩ KS = (AOp.est a0 a1 a2).wp P (get fr) hp (contA P E os none fr hp KS) := rfl
theorem xo_del {a0 a1 a2} : aops P E (.del a0 a1 a2 :: os) ⟨fr, hp⟩ KS = (AOp.del a0 a1 a2).wp P (get fr) hp (contA P E os none fr hp KS) := rfl
theorem xo_eqk {a0 a1 a2 a3 a4} : aops P E (.eqk a0 a1 a2 a3 a4 :: os) ⟨fr, hp⟩ KS = (AOp.eqk a0 a1 a2 a3 a4).wp P (get fr) hp (contA P E os (some a0) fr hp KS) := rfl
theorem dx_cap {a0 a1} : dops P (.cap a0 a1 :: os) ⟨fr, hp⟩ tr KD = (AOp.cap a0 a1).wp P (get fr) hp (contD P os (some a0) fr hp tr ((AOp.cap a0 a1).foot (get fr)) KD) := rfl
theorem dx_clr {a0 a1 a2} : dops P (.clr a0 a1 a2 :: os) ⟨fr, hp⟩ tr KD = (AOp.clr a0 a1 a2).wp P (get fr) hp (contD P os none fr hp tr ((AOp.clr a0 a1 a2).foot (get fr)) KD) := rfl
theorem dx_appz {a0 a1 a2 a3 a4 a5} : dops P (.appz a0 a1 a2 a3 a4 a5 :: os) ⟨fr, hp⟩ tr KD = (AOp.appz a0 a1 a2 a3 a4 a5).wp P (get fr) hp (contD P os (some a0) fr hp tr ((AOp.appz a0 a1 a2 a3 a4 a5).foot (get fr)) KD) := rfl
theorem dx_slp {a0 a1 a2 a3 a4 a5 a6} : dops P (.slp a0 a1 a2 a3 a4 a5 a6 :: os) ⟨fr, hp⟩ tr KD = (AOp.slp a0 a1 a2 a3 a4 a5 a6).wp P (get fr) hp (contD P os (some a0) fr hp tr ((AOp.slp a0 a1 a2 a3 a4 a5 a6).foot (get fr)) KD) := rfl
theorem dx_mkm {a0} : dops P (.mkm a0 :: os) ⟨fr, hp⟩ tr KD = (AOp.mkm a0).wp P (get fr) hp (contD P os (some a0) fr hp tr ((AOp.mkm a0).foot (get fr)) KD) := rfl
theorem dx_ins {a0 a1 a2 a3} : dops P (.ins a0 a1 a2 a3 :: os) ⟨fr, hp⟩ tr KD = (AOp.ins a0 a1 a2 a3).wp P (get fr) hp (contD P os none fr hp tr ((AOp.ins a0 a1 a2 a3).foot (get fr)) KD) := rfl
theorem dx_lku {a0 a1 a2 a3 a4 a5} : dops P (.lku a0 a1 a2 a3 a4 a5 :: os) ⟨fr, hp⟩ tr KD = (AOp.lku a0 a1 a2 a3 a4 a5).wp P (get fr) hp (contD P os (some a0) fr hp tr ((AOp.lku a0 a1 a2 a3 a4 a5).foot (get fr)) KD) := rfl
theorem dx_mpe {a0 a1 a2 a3 a4} : dops P (.mpe a0 a1 a2 a3 a4 :: os) ⟨fr, hp⟩ tr KD = (AOp.mpe a0 a1 a2 a3 a4).wp P (get fr) hp (contD P os (some a0) fr hp tr ((AOp.mpe a0 a1 a2 a3 a4).foot (get fr)) KD) := rfl
theorem dx_est {a0 a1 a2} : dops P (.est a0 a1 a2 :: os) ⟨fr, hp⟩ tr KD = (AOp.est a0 a1 a2).wp P (get fr) hp (contD P os none fr hp tr ((AOp.est a0 a1 a2).foot (get fr)) KD) := rfl
theorem dx_del {a0 a1 a2} : dops P (.del a0 a1 a2 :: os) ⟨fr, hp⟩ tr KD = (AOp.del a0 a1 a2).wp P (get fr) hp (contD P os none fr hp tr ((AOp.del a0 a1 a2).foot (get fr)) KD) := rfl
theorem dx_eqk {a0 a1 a2 a3 a4} : dops P (.eqk a0 a1 a2 a3 a4 :: os) ⟨fr, hp⟩ tr KD = (AOp.eqk a0 a1 a2 a3 a4).wp P (get fr) hp (contD P os (some a0) fr hp tr ((AOp.eqk a0 a1 a2 a3 a4).foot (get fr)) KD) := rfl
theorem foot_lku {a0 a1 a2 a3 a4 a5} {G : Nat → AV} : (AOp.lku a0 a1 a2 a3 a4 a5).foot G = (evF G a4).ids ++ (evF G a5).ids := by simp [AOp.foot, AOp.heapy, AOp.opds]
theorem foot_mpe {a0 a1 a2 a3 a4} {G : Nat → AV} : (AOp.mpe a0 a1 a2 a3 a4).foot G = (evF G a3).ids ++ (evF G a4).ids := by simp [AOp.foot, AOp.heapy, AOp.opds]
theorem foot_est {a0 a1 a2} {G : Nat → AV} : (AOp.est a0 a1 a2).foot G = (evF G a0).ids ++ ((evF G a1).ids ++ (evF G a2).ids) := by simp [AOp.foot, AOp.heapy, AOp.opds]
theorem foot_ins {a0 a1 a2 a3} {G : Nat → AV} : (AOp.ins a0 a1 a2 a3).foot G = (evF G a1).ids ++ ((evF G a2).ids ++ (evF G a3).ids) := by simp [AOp.foot, AOp.heapy, AOp.opds]
theorem foot_del {a0 a1 a2} {G : Nat → AV} : (AOp.del a0 a1 a2).foot G = (evF G a1).ids ++ (evF G a2).ids := by simp [AOp.foot, AOp.heapy, AOp.opds]
theorem foot_appz {a0 a1 a2 a3 a4 a5} {G : Nat → AV} : (AOp.appz a0 a1 a2 a3 a4 a5).foot G = (evF G a4).ids ++ (evF G a5).ids := by simp [AOp.foot, AOp.heapy, AOp.opds]
theorem foot_clr {a0 a1 a2} {G : Nat → AV} : (AOp.clr a0 a1 a2).foot G = (evF G a2).ids := by simp [AOp.foot, AOp.heapy, AOp.opds]
theorem foot_eqk {a0 a1 a2 a3 a4} {G : Nat → AV} : (AOp.eqk a0 a1 a2 a3 a4).foot G = [] := rfl
theorem foot_cap {a0 a1} {G : Nat → AV} : (AOp.cap a0 a1).foot G = [] := rfl
theorem foot_mkm {a0} {G : Nat → AV} : (AOp.mkm a0).foot G = [] := rfl

def EqkW (neg : Bool) (ks : Bool × List Leaf) (x y : AV) (K : AV → List (Nat × HObj) → Prop) : Prop := ∃ a b z, x.val = some a ∧ y.val = some b ∧ eqK ks a b = some z ∧ K (B (neg != z)) []
theorem w_eqk {d neg ks x y} : (AOp.eqk d neg ks x y).wp P F hp K = EqkW neg ks (evF F x) (evF F y) K := by
  apply propext
  constructor
  · rintro ⟨r, ws, ⟨a, b, z, h1, h2, h3, rfl, rfl⟩, k⟩; exact ⟨a, b, z, h1, h2, h3, k⟩
  · rintro ⟨a, b, z, h1, h2, h3, k⟩; exact ⟨_, _, ⟨a, b, z, h1, h2, h3, rfl, rfl⟩, k⟩
theorem eqk_of {neg : Bool} {ks : Bool × List Leaf} {x y : AV} {a b : Value} {z : Bool} (hx : x.val = some a) (hy : y.val = some b) (hz : eqK ks a b = some z) : EqkW neg ks x y K = K (B (neg != z)) [] := by
  apply propext
  constructor
  · rintro ⟨a', b', z', e1, e2, e3, k⟩
    rw [hx] at e1; rw [hy] at e2
    cases e1; cases e2
    rw [hz] at e3; cases e3
    exact k
  · exact fun k => ⟨a, b, z, hx, hy, hz, k⟩
theorem eqk_pair {neg : Bool} {a b c d : Int} : EqkW neg (true, [.int, .int]) (.agg [I a, I b]) (.agg [I c, I d]) K = K (B (neg != decide ((a, b) = (c, d)))) [] := by
  refine eqk_of (a := .agg #[.int .i64 a, .int .i64 b]) (b := .agg #[.int .i64 c, .int .i64 d]) rfl rfl ?_
  simp only [eqK, eqLeaves, eqLeaf, if_true]
  have e1 : ∀ x y : Int, (x == y) = decide (x = y) := fun x y => rfl
  rw [e1, e1]
  by_cases h1 : a = c <;> by_cases h2 : b = d <;> simp [h1, h2]

theorem w_cap {d x} : (AOp.cap d x).wp P F hp K = (match evF F x with | .sl full n _ => full = true ∧ K (I n) [] | .mc _ _ _ c _ => K (I c) [] | _ => False) := by
  unfold AOp.wp; simp only [AOp.sem]
  generalize evF F x = u
  cases u <;> first
    | exact ex_one
    | exact ex_f
    | (apply propext; constructor
       · rintro ⟨r, ws, ⟨h1, rfl, rfl⟩, k⟩; exact ⟨h1, k⟩
       · rintro ⟨h1, k⟩; exact ⟨_, _, ⟨h1, rfl, rfl⟩, k⟩)

/-! ### Code -/
variable {Q : Exit → St → Prop} {x y : AC}
def CondB (P : Program) (E : HE) (t : Bool) (x y : AC) (st : St) (Q : Exit → St → Prop) : Prop := (t = true → AWP P E x st Q) ∧ (t = false → AWP P E y st Q)
def CondX (P : Program) (E : HE) (c : AV) (x y : AC) (st : St) (Q : Exit → St → Prop) : Prop := match c with
  | .v (.bool t) => CondB P E t x y st Q
  | _ => False
theorem x_cond {c} : AWP P E (.cond c x y) ⟨fr, hp⟩ Q = CondX P E (evF (get fr) c) x y ⟨fr, hp⟩ Q := by
  simp only [AWP, CondX]
  generalize evF (get fr) c = u
  cases u with
  | v y => cases y <;> rfl
  | _ => rfl
theorem c_bool {t st} : CondX P E (B t) x y st Q = CondB P E t x y st Q := rfl
theorem c_true {st} : CondB P E true x y st Q = AWP P E x st Q := by simp [CondB]
theorem c_false {st} : CondB P E false x y st Q = AWP P E y st Q := by simp [CondB]
theorem c_split {t : Bool} {st : St} (h1 : t = true → AWP P E x st Q) (h2 : t = false → AWP P E y st Q) : CondB P E t x y st Q := ⟨h1, h2⟩
theorem x_skip : AWP P E .skip ⟨fr, hp⟩ Q = Q .normal ⟨fr, hp⟩ := rfl
theorem x_rgn {gs ks} : AWP P E (.rgn gs ks) ⟨fr, hp⟩ Q = agrps P E gs ⟨fr, hp⟩ fun st => Q .normal (st.keep ks) := rfl
theorem x_drw {gs un ks} : AWP P E (.drw gs un ks) ⟨fr, hp⟩ Q = dgrps P gs ⟨fr, hp⟩ [] fun st tr => compat tr un = true ∧ Q .normal (st.keep ks) := rfl
theorem x_seq : AWP P E (.seq x y) ⟨fr, hp⟩ Q = AWP P E x ⟨fr, hp⟩ (Exit.th (fun st => AWP P E y st Q) Q) := rfl
theorem x_block {id} : AWP P E (.block id x) ⟨fr, hp⟩ Q = AWP P E x ⟨fr, hp⟩ (Exit.blk id Q) := rfl
theorem x_exit {id} : AWP P E (.exit id) ⟨fr, hp⟩ Q = Q (.exit id) ⟨fr, hp⟩ := rfl
theorem x_ret : AWP P E .ret ⟨fr, hp⟩ Q = Q .ret ⟨fr, hp⟩ := rfl
theorem x_label {l} : AWP P E (.label l) ⟨fr, hp⟩ Q = Q .normal ⟨fr, hp⟩ := rfl
def cmp2 : Option (List Nat × List Nat) → Option (List Nat × List Nat) → Bool
  | some (ri, wi), some (rj, wj) => disj wi rj && disj wi wj && disj wj ri
  | _, _ => false
def nthT : Tr → Nat → Option (List Nat × List Nat)
  | [], _ => none
  | a :: l, n => if n = 0 then some a else nthT l (n - 1)
theorem nthT_eq : ∀ (l : Tr) (n : Nat), nthT l n = l[n]?
  | [], n => by simp [nthT]
  | a :: l, 0 => by simp [nthT]
  | a :: l, n + 1 => by simp [nthT, nthT_eq l n]
theorem nthT_cons {a : List Nat × List Nat} {l : Tr} {n} : nthT (a :: l) n = if n = 0 then some a else nthT l (n - 1) := rfl
theorem compat_cons {i j un} : compat tr ((i, j) :: un) = (cmp2 (nthT tr i) (nthT tr j) && compat tr un) := by
  simp only [compat, nthT_eq]
  generalize tr[i]? = a
  generalize tr[j]? = b
  cases a <;> cases b <;> rfl
theorem compat_nil : compat tr [] = true := rfl
theorem cmp2_some {ri wi rj wj} : cmp2 (some (ri, wi)) (some (rj, wj)) = (disj wi rj && disj wi wj && disj wj ri) := rfl
theorem disj_nil {b : List Nat} : disj [] b = true := rfl
theorem disj_cons {x : Nat} {a b : List Nat} : disj (x :: a) b = (!b.contains x && disj a b) := rfl
def keepF (fr : List (Nat × AV)) (ks : List Nat) : List (Nat × AV) := ks.map fun t => (t, get fr t)
theorem x_keep {ks} : St.keep ⟨fr, hp⟩ ks = ⟨keepF fr ks, hp⟩ := rfl
theorem keep_cons {k ks} : keepF fr (k :: ks) = (k, get fr k) :: keepF fr ks := rfl
theorem keep_nil : keepF fr [] = [] := rfl
theorem th_n {st : St} : Exit.th KS Q .normal st = KS st := rfl
theorem th_e {st : St} {id} : Exit.th KS Q (.exit id) st = Q (.exit id) st := rfl
theorem th_r {st : St} : Exit.th KS Q .ret st = Q .ret st := rfl
theorem blk_n {st : St} {id} : Exit.blk id Q .normal st = Q .normal st := rfl
theorem blk_r {st : St} {id} : Exit.blk id Q .ret st = Q .ret st := rfl
theorem blk_e {st : St} {id id'} : Exit.blk id Q (.exit id') st = if id' = id then Q .normal st else Q (.exit id') st := rfl
theorem g_nil : agrps P E [] ⟨fr, hp⟩ KS = KS ⟨fr, hp⟩ := rfl
theorem g_none {gs} : agrps P E (⟨none, os⟩ :: gs) ⟨fr, hp⟩ KS = aops P E os ⟨fr, hp⟩ fun st => agrps P E gs st KS := rfl
def GdB (P : Program) (E : HE) (c b : Bool) (os : List AOp) (gs : List Grp) (st : St) (K : St → Prop) : Prop := (c = b → aops P E os st fun st => agrps P E gs st K) ∧ (c ≠ b → agrps P E gs (undefs os st) K)
def GdX (P : Program) (E : HE) (x : AV) (b : Bool) (os : List AOp) (gs : List Grp) (st : St) (K : St → Prop) : Prop := match x with
  | .v (.bool c) => GdB P E c b os gs st K
  | .v (.tuple _) => agrps P E gs (undefs os st) K
  | _ => False
theorem g_some {j b gs} : agrps P E (⟨some (j, b), os⟩ :: gs) ⟨fr, hp⟩ KS = GdX P E (get fr j) b os gs ⟨fr, hp⟩ KS := by
  simp only [agrps, GdX]
  generalize get fr j = u
  cases u with
  | v y => cases y <;> rfl
  | _ => rfl
theorem gd_bool {c b gs st} : GdX P E (B c) b os gs st KS = GdB P E c b os gs st KS := rfl
theorem gd_tuple {c b gs st} : GdX P E (.v (.tuple c)) b os gs st KS = agrps P E gs (undefs os st) KS := rfl
theorem gd_tt {gs st} : GdB P E true true os gs st KS = aops P E os st fun st => agrps P E gs st KS := by simp [GdB]
theorem gd_ff {gs st} : GdB P E false false os gs st KS = aops P E os st fun st => agrps P E gs st KS := by simp [GdB]
theorem gd_tf {gs st} : GdB P E true false os gs st KS = agrps P E gs (undefs os st) KS := by simp [GdB]
theorem gd_ft {gs st} : GdB P E false true os gs st KS = agrps P E gs (undefs os st) KS := by simp [GdB]
theorem gd_split {c b gs} {st : St} (h1 : c = true → GdB P E true b os gs st KS) (h2 : c = false → GdB P E false b os gs st KS) : GdB P E c b os gs st KS := by
  cases c
  · exact h2 rfl
  · exact h1 rfl
def DdB (P : Program) (c b : Bool) (os : List AOp) (gs : List Grp) (st : St) (tr : Tr) (K : St → Tr → Prop) : Prop :=
  (c = b → dops P os st tr fun st tr => dgrps P gs st tr K) ∧ (c ≠ b → dgrps P gs (undefs os st) (tr ++ os.map fun _ => ([], [])) K)
def DdX (P : Program) (x : AV) (b : Bool) (os : List AOp) (gs : List Grp) (st : St) (tr : Tr) (K : St → Tr → Prop) : Prop := match x with
  | .v (.bool c) => DdB P c b os gs st tr K
  | .v (.tuple _) => dgrps P gs (undefs os st) (tr ++ os.map fun _ => ([], [])) K
  | _ => False
theorem d_nil : dgrps P [] ⟨fr, hp⟩ tr KD = KD ⟨fr, hp⟩ tr := rfl
theorem d_none {gs} : dgrps P (⟨none, os⟩ :: gs) ⟨fr, hp⟩ tr KD = dops P os ⟨fr, hp⟩ tr fun st tr => dgrps P gs st tr KD := rfl
theorem d_some {j b gs} : dgrps P (⟨some (j, b), os⟩ :: gs) ⟨fr, hp⟩ tr KD = DdX P (get fr j) b os gs ⟨fr, hp⟩ tr KD := by
  simp only [dgrps, DdX]
  generalize get fr j = u
  cases u with
  | v y => cases y <;> rfl
  | _ => rfl
theorem dd_bool {c b gs st} : DdX P (B c) b os gs st tr KD = DdB P c b os gs st tr KD := rfl
theorem dd_tuple {c b gs st} : DdX P (.v (.tuple c)) b os gs st tr KD = dgrps P gs (undefs os st) (tr ++ os.map fun _ => ([], [])) KD := rfl
theorem dd_tt {gs st} : DdB P true true os gs st tr KD = dops P os st tr fun st tr => dgrps P gs st tr KD := by simp [DdB]
theorem dd_ff {gs st} : DdB P false false os gs st tr KD = dops P os st tr fun st tr => dgrps P gs st tr KD := by simp [DdB]
theorem dd_tf {gs st} : DdB P true false os gs st tr KD = dgrps P gs (undefs os st) (tr ++ os.map fun _ => ([], [])) KD := by simp [DdB]
theorem dd_ft {gs st} : DdB P false true os gs st tr KD = dgrps P gs (undefs os st) (tr ++ os.map fun _ => ([], [])) KD := by simp [DdB]
theorem dd_split {c b gs} {st : St} (h1 : c = true → DdB P true b os gs st tr KD) (h2 : c = false → DdB P false b os gs st tr KD) : DdB P c b os gs st tr KD := by
  cases c
  · exact h2 rfl
  · exact h1 rfl
def undF : List AOp → List (Nat × AV) → List (Nat × AV)
  | [], fr => fr
  | o :: os, fr => undF os (frPut fr o.dst (.v (.tuple #[])))
theorem x_undefs : ∀ {os : List AOp} {fr : List (Nat × AV)}, undefs os ⟨fr, hp⟩ = ⟨undF os fr, hp⟩
  | [], fr => rfl
  | o :: os, fr => by
    rw [undefs_cons]
    have : undefs [o] ⟨fr, hp⟩ = ⟨frPut fr o.dst (.v (.tuple #[])), hp⟩ := by rw [undefs_step]; rfl
    rw [this, x_undefs]; rfl
theorem undF_nil : undF [] fr = fr := rfl
theorem undF_cons {o : AOp} : undF (o :: os) fr = undF os (frPut fr o.dst (.v (.tuple #[]))) := rfl

/-! ### Calls -/
theorem callW_pure {f : FuncId} {xs ys : List AV} {ids : List Nat} {r : AV} {KC : AV → List HObj → Prop} (h1 : purifyAll (hpf hp) xs = some (ys, ids)) (h2 : PureOK P f ys r) (h3 : KC r (writeL hp (bif r.scalar then [] else gones ids))) : CallW P f xs hp KC := by
  intro ro n w g vs hok hvs hrep
  refine (call_pure hok h1 hvs hrep h2).mono ?_
  rintro e w' ⟨v, rfl, g', q1, q2, q3⟩
  have hlen : ∀ p ∈ (bif r.scalar then [] else gones ids), p.1 ≤ hp.length := fun p hpm => by
    cases hs : r.scalar with
    | true => rw [hs] at hpm; simp at hpm
    | false =>
      rw [hs] at hpm
      simp only [cond_false, gones, List.mem_map] at hpm
      obtain ⟨i, hi, rfl⟩ := hpm
      exact Nat.le_of_lt (purifyAll_lt h1 i hi)
  rw [← hpf_write hlen] at q2 q3
  exact ⟨v, r, _, g', rfl, h3, q1, q2, q3⟩
theorem pureW_of {f : FuncId} {xs ys : List AV} {ids : List Nat} {r : AV} (h1 : purifyAll (hpf hp) xs = some (ys, ids)) (h2 : PureOK P f ys r) (h3 : K r (bif r.scalar then [] else gones ids)) : PureW P f xs hp K := ⟨ys, ids, h1, .inl ⟨r, h2, h3⟩⟩
theorem pureW_made {f : FuncId} {xs ys : List AV} {ids : List Nat} {m sz : Nat} {cs : List AV} (h1 : purifyAll (hpf hp) xs = some (ys, ids)) (h2 : MadeOK P f ys m sz cs) (h3 : K (.ms hp.length 0 m sz) (gones ids ++ [(hp.length, .cells cs)])) : PureW P f xs hp K := ⟨ys, ids, h1, .inr ⟨m, sz, cs, h2, h3⟩⟩
theorem callW_made {f : FuncId} {xs ys : List AV} {ids : List Nat} {m sz : Nat} {cs : List AV} {KC : AV → List HObj → Prop} (h1 : purifyAll (hpf hp) xs = some (ys, ids)) (h2 : MadeOK P f ys m sz cs) (h3 : KC (.ms hp.length 0 m sz) (writeL hp (gones ids ++ [(hp.length, .cells cs)]))) : CallW P f xs hp KC := by
  intro ro n w g vs hok hvs hrep
  have hnew : hpf hp hp.length = none := by simp [hpf]
  refine (call_made hok hnew h1 hvs hrep h2).mono ?_
  rintro e w' ⟨v, rfl, g', q1, q2, q3⟩
  have hlen : ∀ p ∈ gones ids ++ [(hp.length, HObj.cells cs)], p.1 ≤ hp.length := fun p hpm => by
    rw [List.mem_append] at hpm
    rcases hpm with hpm | hpm
    · simp only [gones, List.mem_map] at hpm
      obtain ⟨i, hi, rfl⟩ := hpm
      exact Nat.le_of_lt (purifyAll_lt h1 i hi)
    · simp at hpm; subst hpm; exact Nat.le_refl _
  rw [← hpf_write hlen] at q2 q3
  exact ⟨v, _, _, g', rfl, h3, q1, q2, q3⟩

/-- A function that makes a list. -/
theorem made_of {f : FuncId} {xs : List AV} {m sz : Nat} {cs : List AV} (hpc : (cs.all AV.isPC) = true) (h : CallW P f xs [] fun x hp => ∃ id, x = .ms id 0 m sz ∧ hpf hp id = some (.cells cs)) : MadeOK P f xs m sz cs := by
  refine ⟨hpc, ?_⟩
  intro ro n w g vs hok hvs hrep
  have e0 : hpf [] = fun _ => none := by funext i; simp [hpf]
  refine (h ro n w g vs (by rw [e0]; exact hok) hvs (fun i hi => (hrep i hi).of)).mono ?_
  rintro e w' ⟨v, x, hp', g', rfl, ⟨id, rfl, hid⟩, hx, hok', hu⟩
  rw [e0] at hu
  obtain ⟨l, hl, hrl⟩ := hok'.rep id _ hid
  have hpure : ∀ i (hi : i < cs.length) x, Rep w' g' false cs[i] x → Rep w' { S := g'.S, ρ := fun j => if j = 0 then some l else none } false cs[i] x := fun i hi x hr => (((pure_rep (pc_pure (all_get hpc i hi)) hr)).pure rfl _).of
  have hrl' : HRep w' { S := g'.S, ρ := fun j => if j = 0 then some l else none } (.cells cs) l := by
    cases l with
    | virg => exact hrl
    | base L => exact hrl
    | blk c d =>
      obtain ⟨arr, ty, fz, a1, a2, a3, a4, a5⟩ := hrl
      exact ⟨arr, ty, fz, a1, a2, a3, a4, fun i hi => by obtain ⟨x, h1, h2⟩ := a5 i hi; exact ⟨x, h1, hpure i hi x h2⟩⟩
  refine ⟨v, { S := g'.S, ρ := fun j => if j = 0 then some l else none }, rfl, ?_, ?_, ?_⟩
  · cases hx with
    | ms _ _ _ _ c d cap arr ty fz h1 h2 h3 h4 => rw [hl] at h1; cases h1; exact .ms _ _ _ _ c d cap arr ty fz (by simp) h2 h3 h4
    | msz _ _ _ a l' h1 => rw [hl] at h1; cases h1; exact .msz _ _ _ a l (by simp)
  · refine ⟨fun i hi => ?_, fun i o ho => ?_, fun i i' o o' c d d' ho ho' hl1 hl2 hr1 hr2 => ?_, hok'.ex⟩
    · by_cases e : i = 0
      · subst e; simp [made] at hi
      · simp [e]
    · by_cases e : i = 0
      · subst e; simp [made] at ho; subst ho; exact ⟨l, by simp, hrl'⟩
      · simp [made, e] at ho
    · by_cases e : i = 0
      · by_cases e' : i' = 0
        · rw [e, e']
        · simp [e'] at hr2
      · simp [e] at hr1
  · refine ⟨⟨hu.tr.S, hu.tr.cell, fun i l' hl' => (by rw [hok.dom i rfl] at hl'; cases hl'), hu.tr.shp, hu.tr.os, hu.tr.tape, hu.tr.output, hu.tr.size⟩, ?_, hu.S, hu.keep⟩
    rintro c ⟨i, o, d, ho, hlv, hr1⟩
    by_cases e : i = 0
    · subst e
      simp at hr1; subst hr1
      rcases hu.live c ⟨id, _, d, hid, rfl, hl⟩ with ⟨_, _, _, h, _⟩ | h
      · cases h
      · exact .inr h
    · simp [e] at hr1

theorem ret_n {ts : List Nat} {KC : AV → List HObj → Prop} : RetQ ts KC .normal ⟨fr, hp⟩ = KC (resAV ts fr) hp := rfl
theorem ret_r {ts : List Nat} {KC : AV → List HObj → Prop} : RetQ ts KC .ret ⟨fr, hp⟩ = KC (resAV ts fr) hp := rfl

theorem walk {f : FuncId} {fn : Func} {ac : AC} {ts : List Nat} {xs : List AV} {KC : AV → List HObj → Prop} (hf : P.funcs[f]? = some fn) (hc : formOf P fn ts = some ac) (hr : resTmps fn.results.toList = some ts)
    (hl : xs.length ≤ fn.ntmps) (h : AWP P (E1 P) ac ⟨argFr 0 xs, hp⟩ (RetQ ts KC)) : CallW P f xs hp KC := callW_form hf hc hr hl h

/-- What a round of a loop hands on. -/
def Next {α : Type} (I : α → St) (C : α → Prop) (μ : α → Nat) (a : α) (st : St) : Prop := ∃ a', C a' ∧ μ a' < μ a ∧ St.le st (I a')

theorem St.le.rfl' (st : St) : St.le st st := fun N a w g h => ⟨g, h, .refl _ _ _⟩

theorem loop_of {α : Type} (I : α → St) (C : α → Prop) (μ : α → Nat) (a0 : α) {st : St} (h0 : C a0) (hs : St.le st (I a0)) (round : ∀ a, C a → AWP P E x (I a) (Exit.th (Next I C μ a) Q)) : AWP P E (.loop x) st Q :=
  ⟨α, I, C, μ, a0, h0, hs, round⟩

theorem loop_eq {α : Type} (I : α → St) (C : α → Prop) (μ : α → Nat) (a0 : α) {st : St} (h0 : C a0) (hs : st = I a0) (round : ∀ a, C a → AWP P E x (I a) (Exit.th (Next I C μ a) Q)) : AWP P E (.loop x) st Q :=
  loop_of I C μ a0 h0 (hs ▸ St.le.rfl' st) round

theorem next_eq {α : Type} {I : α → St} {C : α → Prop} {μ : α → Nat} {a : α} {st : St} (a' : α) (h : C a') (hm : μ a' < μ a) (hs : st = I a') : Next I C μ a st := ⟨a', h, hm, hs ▸ St.le.rfl' st⟩

theorem cells_ls {l : List Int} {j sz} (h : j < l.length) : CellsW (l.map fun n => I n) j sz false K = K (I (l.getD j 0)) [] := by
  simp [CellsW, h]

theorem out_v {r : AV} {x : Value} : Out r (.v x) hp = (r = .v x) := by
  apply propext
  constructor
  · rintro ⟨is, h⟩; simp [purify, purify1] at h; exact h.1.symm
  · rintro rfl; exact ⟨[], rfl⟩
theorem out_of {r x : AV} {is : List Nat} (h : purify (hpf hp) x = some (r, is)) : Out r x hp := ⟨is, h⟩

end

attribute [simp] xo_mv xo_pick xo_bin xo_bing xo_un xo_ext xo_ld xo_st xo_box xo_al xo_bsl xo_bld xo_fa xo_fld xo_ia xo_iaa xo_idx xo_ids xo_len xo_lns xo_lnm xo_slc xo_sls xo_app xo_cpy xo_mks xo_cnv xo_mx xo_nilc xo_mkf
attribute [simp] dx_mv dx_pick dx_bin dx_bing dx_un dx_ext dx_ld dx_st dx_box dx_al dx_bsl dx_bld dx_fa dx_fld dx_ia dx_iaa dx_idx dx_ids dx_len dx_lns dx_lnm dx_slc dx_sls dx_app dx_cpy dx_mks dx_cnv dx_mx dx_nilc dx_mkf dx_call
attribute [simp low] cells_agg cells_one
attribute [simp] app_sl app_ms appr_some slc_hi slc_lo slc_lohi Option.map_none Option.map_some place_nil place_cons placeF_nil placeF_cons nthA_cons one_some undF_nil undF_cons nthH_end set_end nthH_cons ldr_some str_some w_bing ret_n ret_r out_v
attribute [simp] x_contA x_contC x_contD x_nil x_dnil x_call x_callv cv_fn x_wcall ia_mc len_mc w_mv w_pick w_pickB w_bin b_add b_sub b_mul b_quo b_rem b_and b_or b_xor b_shl b_shr b_eql b_neq b_lss b_leq b_gtr b_geq w_un u_neg u_not w_ext e_tup w_ld ld_ptr ld_ref w_st st_ref w_box w_al w_bsl w_bld w_fa fa_ptr fa_ref w_fld fld_agg w_ia ia_sl ia_ms w_iaa iaa_ptr iaa_ref w_idx idx_agg w_len len_sl len_ms w_slc w_cnv cnv_int w_mx mx_max mx_min w_nilc nilc_ptr nilc_ref nilc_fn w_mkf w_app w_mks x_cond c_bool c_true c_false x_skip x_rgn x_drw x_seq x_block x_exit x_ret x_label x_keep th_n th_e th_r blk_n blk_r blk_e g_nil g_none g_some gd_bool gd_tuple gd_tt gd_ff gd_tf gd_ft d_nil d_none d_some dd_bool dd_tuple dd_tt dd_ff dd_tf dd_ft x_undefs
attribute [simp] keep_cons keep_nil get_cons get_nil ev_t ev_k frPut writeL setL AOp.dst ids_v ids_sl ids_ptr ids_ref ids_ms ids_mp ids_any ids_fn ids_agg ids_tup ids1_v ids1_sl ids1_ptr ids1_ref ids1_ms ids1_mp ids1_any ids1_fn nthT_cons compat_cons compat_nil cmp2_some disj_nil disj_cons argFr resAV AV.cells AV.isCell AV.isPure AV.isPC view splice gones_nil gones_cons AV.scalar

attribute [simp] xo_cap dx_cap xo_clr dx_clr xo_appz dx_appz xo_slp dx_slp xo_mkm dx_mkm xo_ins dx_ins xo_lku dx_lku xo_mpe dx_mpe xo_est dx_est xo_del dx_del xo_eqk dx_eqk foot_lku foot_mpe foot_est foot_ins foot_del foot_appz foot_clr foot_eqk foot_cap foot_mkm w_eqk

end Go.AM

/- ARGUMENTS READ AS DATA: what came in, as abstract values; a law as a row. Own work. -/
set_option linter.unusedSimpArgs false
set_option linter.unusedVariables false
namespace Go.AM
open Go.RowKit

/-- All cells that are there are never written. -/
def gAll (w : World) : G := ⟨fun b o => ∃ v, w.cell? ⟨b, o, none⟩ = some v, fun _ => none⟩

theorem heapOK_all (w : World) : HeapOK (fun _ => none) (gAll w) w :=
  ⟨fun _ _ => rfl, fun _ _ h => (by cases h), fun _ _ _ _ _ _ _ h => (by cases h), fun _ _ h => h⟩

/-- What cells of a type are, read. -/
def Rd (P : Program) (w : World) (t : TypeId) (Q : List AV → Prop) : Prop :=
  ∀ (H : Type) (enc : TypeId × Value → H) (fuel : Nat) (cs : List Value) (x : DataW H × List MemPlace), DataW.trod enc P w 0 (fun _ => true) true fuel t cs = some x →
    ∃ as : List AV, as.length = cs.length ∧ cs.length = P.cellsOf t ∧ Q as ∧ ∀ i (h : i < as.length), Rep w (gAll w) true as[i] (cs.getD i undef)

section
variable {P : Program} {w : World} {t e : TypeId}

theorem rd_mono {Q Q' : List AV → Prop} (h : Rd P w t Q) (hq : ∀ as, Q as → Q' as) : Rd P w t Q' := fun H enc fuel cs x hx => by
  obtain ⟨as, h1, h2, h3, h4⟩ := h H enc fuel cs x hx
  exact ⟨as, h1, h2, hq _ h3, h4⟩

theorem rd_int {k : IntKind} (ht : P.underlying t = some (.int k)) (hc : P.cellsOf t = 1) : Rd P w t fun as => ∃ n, as = [.v (.int k n)] ∧ (Lit.int k n).wf = true := by
  intro H enc fuel cs x hx
  cases fuel with
  | zero => simp [DataW.trod] at hx
  | succ m =>
    unfold DataW.trod at hx
    rw [ht] at hx
    split at hx <;> simp_all
    obtain ⟨⟨rfl, hw⟩, _⟩ := hx
    exact ⟨[.v (.int _ _)], rfl, ⟨_, rfl, hw⟩, fun i hi => by
      have : i = 0 := by simpa using hi
      subst this; exact .v _ _⟩

theorem rd_str (ht : P.underlying t = some .string) (hc : P.cellsOf t = 1) : Rd P w t fun as => ∃ s : ByteArray, as = [.v (.string s)] ∧ s.size ≤ maxLen := by
  intro H enc fuel cs x hx
  cases fuel with
  | zero => simp [DataW.trod] at hx
  | succ m =>
    unfold DataW.trod at hx
    rw [ht] at hx
    split at hx <;> simp_all
    obtain ⟨hw, _⟩ := hx
    exact ⟨[.v (.string _)], rfl, ⟨_, rfl, hw⟩, fun i hi => by
      have : i = 0 := by simpa using hi
      subst this; exact .v _ _⟩

theorem flatten_get {α : Type} {sz : Nat} : ∀ {els : List (List α)}, (∀ x ∈ els, x.length = sz) → ∀ (i : Nat), els.flatten[i]? = (els[i / sz]?).bind fun x => x[i % sz]?
  | [], _, i => by simp
  | x :: els, h, i => by
    have hx : x.length = sz := h x (by simp)
    rw [List.flatten_cons]
    by_cases hi : i < sz
    · rw [List.getElem?_append_left (by omega), Nat.div_eq_of_lt hi, Nat.mod_eq_of_lt hi]; simp
    · by_cases hz : sz = 0
      · subst hz
        have : ∀ (l : List (List α)), (∀ x ∈ l, x.length = 0) → l.flatten = [] := fun l hl => by
          rw [List.flatten_eq_nil_iff]; intro y hy; exact List.eq_nil_of_length_eq_zero (hl y hy)
        have e := this (x :: els) h
        rw [List.flatten_cons] at e
        rw [e]; simp; omega
      · rw [List.getElem?_append_right (by omega), hx, flatten_get (fun y hy => h y (by simp [hy]))]
        have e1 : i / sz = (i - sz) / sz + 1 := by
          have := Nat.div_eq_sub_div (b := sz) (a := i) (by omega) (by omega)
          exact this
        have e2 : i % sz = (i - sz) % sz := by rw [Nat.mod_eq_sub_mod (by omega)]
        rw [e1, e2]; simp

theorem flatten_len {α : Type} {sz : Nat} : ∀ {els : List (List α)}, (∀ x ∈ els, x.length = sz) → els.flatten.length = els.length * sz
  | [], _ => by simp
  | x :: els, h => by
    rw [List.flatten_cons, List.length_append, flatten_len (fun y hy => h y (by simp [hy])), h x (by simp), List.length_cons, Nat.succ_mul]; omega

/-- A choice for each of the first numbers, as a list. -/
theorem choose_list {α : Type} {p : Nat → α → Prop} : ∀ {n : Nat}, (∀ i, i < n → ∃ a, p i a) → ∃ l : List α, l.length = n ∧ ∀ i (h : i < l.length), p i l[i]
  | 0, _ => ⟨[], rfl, fun i h => by simp at h⟩
  | n + 1, h => by
    obtain ⟨l, h1, h2⟩ := choose_list (fun i hi => h i (Nat.lt_succ_of_lt hi))
    obtain ⟨a, ha⟩ := h n (Nat.lt_succ_self n)
    refine ⟨l ++ [a], by simp [h1], fun i hi => ?_⟩
    by_cases e : i < l.length
    · rw [List.getElem_append_left e]; exact h2 i e
    · have : i = n := by simp at hi; omega
      subst this
      rw [List.getElem_append_right (by omega)]
      simpa [h1] using ha

theorem addr_at (a : Addr) (h : a.spot = none) (n : Nat) : a.add n = ⟨a.block, a.off + n, none⟩ := by
  unfold Addr.add
  split
  · rename_i e; subst e; cases a; simp at h; subst h; rfl
  · rfl

theorem rd_slice {sz : Nat} {Q : List AV → Prop} (ht : P.underlying t = some (.slice e)) (hc : P.cellsOf t = 1) (hz : P.cellsOf e = sz) (h0 : 0 < sz) (he : Rd P w e Q) :
    Rd P w t fun as => ∃ els : List (List AV), (∀ x ∈ els, x.length = sz ∧ Q x) ∧ as = [.sl false els.length els.flatten] ∧ els.length ≤ maxLen := by
  intro H enc fuel cs x hx
  rcases Go.Deep.open_slice ht hx with ⟨rfl, rfl⟩ | ⟨a, len, cap, m, n, D, Pl, rfl, hb, hl, hm, hmm, rfl, hel⟩
  · refine ⟨[.sl false 0 []], rfl, by simp [hc], ⟨[], fun x h => by simp at h, rfl, Nat.zero_le _⟩, fun i hi => ?_⟩
    have : i = 0 := by simpa using hi
    subst this
    exact .sl _ _ _ _ _ _ (fun _ => undef) (Nat.le_refl _) (fun h => by cases h) (fun i hi => by simp at hi) (fun i hi => by simp at hi)
  · simp only [if_true] at hmm
    subst hmm
    rw [hz] at hel
    have hel' : ∀ i, i < len → ∃ q : List AV × List Value, q.1.length = sz ∧ Q q.1 ∧ w.cells? 0 (a.add (i * sz)) sz = some q.2 ∧ q.2.length = sz ∧ ∀ j (h : j < q.1.length), Rep w (gAll w) true q.1[j] (q.2.getD j undef) := fun i hi => by
      obtain ⟨cs', h1, h2⟩ := hel i (by omega)
      obtain ⟨as, k1, k2, k3, k4⟩ := he H enc _ _ _ h2
      exact ⟨(as, cs'), by simp only; omega, k3, h1, by simp only; omega, k4⟩
    obtain ⟨qs, q1, q2⟩ := choose_list hel'
    have hlen : ∀ x ∈ qs.map (·.1), x.length = sz := fun x hx => by
      obtain ⟨q, hq, rfl⟩ := List.mem_map.1 hx
      obtain ⟨i, hi, rfl⟩ := List.getElem_of_mem hq
      exact (q2 i hi).1
    refine ⟨[.sl false len (qs.map (·.1)).flatten], rfl, by simp [hc], ⟨qs.map (·.1), fun x hx => ?_, by simp [q1], by simp [q1]; omega⟩, fun i hi => ?_⟩
    · obtain ⟨q, hq, rfl⟩ := List.mem_map.1 hx
      obtain ⟨i, hi, rfl⟩ := List.getElem_of_mem hq
      exact ⟨(q2 i hi).1, (q2 i hi).2.1⟩
    · have : i = 0 := by simpa using hi
      subst this
      have fl := flatten_len hlen
      simp only [List.length_map, q1] at fl
      have cell : ∀ i, i < len * sz → ∃ v, a.spot = none ∧ w.cell? ⟨a.block, a.off + i, none⟩ = some v ∧ ∃ x, (qs.map (·.1)).flatten[i]? = some x ∧ Rep w (gAll w) true x v := fun i hi => by
        have hd : i / sz < len := by rw [Nat.div_lt_iff_lt_mul h0]; exact hi
        have hmo : i % sz < sz := Nat.mod_lt _ h0
        have hlen0 : 0 < len := Nat.lt_of_le_of_lt (Nat.zero_le _) hd
        obtain ⟨r1, r2, r3, r4, r5⟩ := q2 (i / sz) (by omega)
        obtain ⟨_, c2, c3⟩ := World.cells?_some r3
        have c4 := c3 (i % sz) hmo
        rw [List.getElem?_eq_getElem (by omega)] at c4
        have hsp0 : a.spot = none := by
          have c5 := (q2 0 (by omega)).2.2.1
          obtain ⟨_, d2, d3⟩ := World.cells?_some c5
          have d4 := d3 0 h0
          rw [List.getElem?_eq_getElem (by omega)] at d4
          have := World.cell?_spot d4
          simpa [Addr.add] using this
        rw [Deep.add_add, addr_at a hsp0] at c4
        have e1 : i / sz * sz + i % sz = i := by rw [Nat.mul_comm]; exact Nat.div_add_mod i sz
        rw [e1] at c4
        refine ⟨_, hsp0, c4, (qs[i / sz]'(by omega)).1[i % sz]'(by omega), ?_, ?_⟩
        · rw [flatten_get hlen]
          simp [show i / sz < qs.length by omega, show i % sz < (qs[i / sz]'(by omega)).1.length by omega]
        · have := r5 (i % sz) (by omega)
          simpa [show i % sz < (qs[i / sz]'(by omega)).2.length by omega] using this
      refine .sl _ _ _ _ (some a) m (fun i => (w.cell? ⟨a.block, a.off + i, none⟩).getD undef) hl (fun h => by cases h) (fun i hi => ?_) (fun i hi => ?_)
      · obtain ⟨v, s1, s2, _⟩ := cell i (by omega)
        exact ⟨a, rfl, s1, ⟨v, s2⟩, by rw [s2]; rfl⟩
      · obtain ⟨v, s1, s2, x, s3, s4⟩ := cell i (by omega)
        simp only [s2, Option.getD_some]
        rw [List.getElem?_eq_getElem hi] at s3
        cases s3; exact s4

theorem rd_array {sz n : Nat} {Q : List AV → Prop} (ht : P.underlying t = some (.array n e)) (hc : P.cellsOf t = n * sz) (hz : P.cellsOf e = sz) (h0 : 0 < sz) (he : Rd P w e Q) :
    Rd P w t fun as => ∃ els : List (List AV), els.length = n ∧ (∀ x ∈ els, x.length = sz ∧ Q x) ∧ as = els.flatten := by
  intro H enc fuel cs x hx
  obtain ⟨xs, m, _, rfl, hl, hn, hel⟩ := DataW.trod_array ht hx
  rw [hz] at hel
  have hel' : ∀ i, i < n → ∃ as : List AV, as.length = sz ∧ Q as ∧ ∀ j (h : j < as.length), Rep w (gAll w) true as[j] (cs.getD (i * sz + j) undef) := fun i hi => by
    have h1 := hel i hi
    rw [List.getElem?_eq_getElem (by omega)] at h1
    obtain ⟨as, k1, k2, k3, k4⟩ := he H enc _ _ _ h1
    have hbound : i * sz + sz ≤ cs.length := by rw [hl, hc, ← Nat.succ_mul]; exact Nat.mul_le_mul_right _ hi
    refine ⟨as, by omega, k3, fun j hj => ?_⟩
    have := k4 j hj
    have hj' : j < sz := by omega
    simpa [List.getD, List.getElem?_take, List.getElem?_drop, hj'] using this
  obtain ⟨els, q1, q2⟩ := choose_list hel'
  have hlen : ∀ x ∈ els, x.length = sz := fun x hx => by
    obtain ⟨i, hi, rfl⟩ := List.getElem_of_mem hx
    exact (q2 i hi).1
  have fl := flatten_len hlen
  refine ⟨els.flatten, by rw [fl, q1, hl, hc], hl, ⟨els, q1, fun x hx => ?_, rfl⟩, fun i hi => ?_⟩
  · obtain ⟨i, hi, rfl⟩ := List.getElem_of_mem hx
    exact ⟨(q2 i hi).1, (q2 i hi).2.1⟩
  · rw [fl, q1] at hi
    have hd : i / sz < n := by rw [Nat.div_lt_iff_lt_mul h0]; exact hi
    have hmo : i % sz < sz := Nat.mod_lt _ h0
    obtain ⟨r1, r2, r3⟩ := q2 (i / sz) (by omega)
    have h1 := r3 (i % sz) (by omega)
    have e1 : i / sz * sz + i % sz = i := by rw [Nat.mul_comm]; exact Nat.div_add_mod i sz
    rw [e1] at h1
    have h2 : els.flatten[i]? = some ((els[i / sz]'(by omega))[i % sz]'(by omega)) := by
      rw [flatten_get hlen]
      simp [show i / sz < els.length by omega, show i % sz < (els[i / sz]'(by omega)).length by omega]
    rw [List.getElem?_eq_getElem (by rw [fl, q1]; exact hi)] at h2
    rw [Option.some.inj h2]
    exact h1

theorem rd_struct2 {c0 c1 : Nat} {f0 f1 : Field} {Q0 Q1 : List AV → Prop} (ht : P.underlying t = some (.struct #[f0, f1])) (hc : P.cellsOf t = c0 + c1) (ho0 : f0.offset = 0) (ho1 : f1.offset = c0) (hz0 : P.cellsOf f0.type = c0) (hz1 : P.cellsOf f1.type = c1)
    (h0 : Rd P w f0.type Q0) (h1 : Rd P w f1.type Q1) : Rd P w t fun as => ∃ a0 a1, a0.length = c0 ∧ a1.length = c1 ∧ as = a0 ++ a1 ∧ Q0 a0 ∧ Q1 a1 := by
  intro H enc fuel cs x hx
  obtain ⟨xs, n, _, rfl, hl, hn, hf⟩ := DataW.trod_struct ht hx
  have hn' : xs.length = 2 := hn
  have k0 := hf 0 f0 rfl
  have k1 := hf 1 f1 rfl
  rw [List.getElem?_eq_getElem (by omega)] at k0 k1
  obtain ⟨a0, p1, p2, p3, p4⟩ := h0 H enc _ _ _ k0
  obtain ⟨a1, q1, q2, q3, q4⟩ := h1 H enc _ _ _ k1
  rw [hz0] at p1 p2 p4
  rw [hz1] at q1 q2 q4
  rw [ho0] at p1 p2 p4
  rw [ho1] at q1 q2 q4
  refine ⟨a0 ++ a1, by rw [List.length_append]; omega, hl, ⟨a0, a1, by omega, by omega, rfl, p3, q3⟩, fun i hi => ?_⟩
  rw [List.length_append] at hi
  by_cases h : i < a0.length
  · rw [List.getElem_append_left h]
    have := p4 i h
    simpa [List.getD, List.getElem?_take, List.getElem?_drop, show i < c0 by omega] using this
  · rw [List.getElem_append_right (by omega)]
    have := q4 (i - a0.length) (by omega)
    have e : c0 + (i - a0.length) = i := by omega
    simpa [List.getD, List.getElem?_take, List.getElem?_drop, show i - a0.length < c1 by omega, e] using this

theorem rd_struct3 {c0 c1 c2 : Nat} {f0 f1 f2 : Field} {Q0 Q1 Q2 : List AV → Prop} (ht : P.underlying t = some (.struct #[f0, f1, f2])) (hc : P.cellsOf t = c0 + c1 + c2) (ho0 : f0.offset = 0) (ho1 : f1.offset = c0) (ho2 : f2.offset = c0 + c1)
    (hz0 : P.cellsOf f0.type = c0) (hz1 : P.cellsOf f1.type = c1) (hz2 : P.cellsOf f2.type = c2)
    (h0 : Rd P w f0.type Q0) (h1 : Rd P w f1.type Q1) (h2 : Rd P w f2.type Q2) : Rd P w t fun as => ∃ a0 a1 a2, a0.length = c0 ∧ a1.length = c1 ∧ a2.length = c2 ∧ as = a0 ++ a1 ++ a2 ∧ Q0 a0 ∧ Q1 a1 ∧ Q2 a2 := by
  intro H enc fuel cs x hx
  obtain ⟨xs, n, _, rfl, hl, hn, hf⟩ := DataW.trod_struct ht hx
  have hn' : xs.length = 3 := hn
  have k0 := hf 0 f0 rfl
  have k1 := hf 1 f1 rfl
  have k2 := hf 2 f2 rfl
  rw [List.getElem?_eq_getElem (by omega)] at k0 k1 k2
  obtain ⟨a0, p1, p2, p3, p4⟩ := h0 H enc _ _ _ k0
  obtain ⟨a1, q1, q2, q3, q4⟩ := h1 H enc _ _ _ k1
  obtain ⟨a2, r1, r2, r3, r4⟩ := h2 H enc _ _ _ k2
  rw [hz0] at p1 p2 p4
  rw [hz1] at q1 q2 q4
  rw [hz2] at r1 r2 r4
  rw [ho0] at p1 p2 p4
  rw [ho1] at q1 q2 q4
  rw [ho2] at r1 r2 r4
  refine ⟨a0 ++ a1 ++ a2, by rw [List.length_append, List.length_append]; omega, hl, ⟨a0, a1, a2, by omega, by omega, by omega, rfl, p3, q3, r3⟩, fun i hi => ?_⟩
  rw [List.length_append, List.length_append] at hi
  by_cases h : i < a0.length
  · rw [List.getElem_append_left (by rw [List.length_append]; omega), List.getElem_append_left h]
    have := p4 i h
    simpa [List.getD, List.getElem?_take, List.getElem?_drop, show i < c0 by omega] using this
  · by_cases h' : i < a0.length + a1.length
    · rw [List.getElem_append_left (by rw [List.length_append]; omega), List.getElem_append_right (by omega)]
      have := q4 (i - a0.length) (by omega)
      have e : c0 + (i - a0.length) = i := by omega
      simpa [List.getD, List.getElem?_take, List.getElem?_drop, show i - a0.length < c1 by omega, e] using this
    · rw [List.getElem_append_right (by rw [List.length_append]; omega)]
      have hh : i - (a0 ++ a1).length < a2.length := by rw [List.length_append]; omega
      have := r4 (i - (a0 ++ a1).length) hh
      have e : c0 + c1 + (i - (a0 ++ a1).length) = i := by rw [List.length_append]; omega
      have hh2 : i - (a0.length + a1.length) < c2 := by rw [List.length_append] at hh; omega
      have e' : c0 + c1 + (i - (a0.length + a1.length)) = i := by omega
      simpa [List.getD, List.getElem?_take, List.getElem?_drop, hh2, e'] using this

/-- An argument of one cell. -/
theorem arg_one {H : Type} {enc : TypeId × Value → H} {Q : List AV → Prop} {v : Value} {d : DataW H} {p : List MemPlace} (hr : Rd P w t Q) (hv : v.cells = #[v]) (h : DataW.Trod enc P w 0 (fun _ => true) true t v d p) : ∃ x, Q [x] ∧ Rep w (gAll w) true x v := by
  obtain ⟨fuel, hf⟩ := h
  obtain ⟨as, h1, _, h2, h3⟩ := hr H enc _ _ _ hf
  rw [hv] at h1 h3
  match as, h1 with
  | [x], _ => exact ⟨x, h2, by simpa using h3 0 (by simp)⟩

/-- An argument that is an aggregate. -/
theorem arg_agg {H : Type} {enc : TypeId × Value → H} {Q : List AV → Prop} {cs : Array Value} {d : DataW H} {p : List MemPlace} (hr : Rd P w t Q) (h : DataW.Trod enc P w 0 (fun _ => true) true t (.agg cs) d p) : ∃ as, Q as ∧ Rep w (gAll w) true (.agg as) (.agg cs) := by
  obtain ⟨fuel, hf⟩ := h
  obtain ⟨as, h1, _, h2, h3⟩ := hr H enc _ _ _ hf
  refine ⟨as, h2, ?_⟩
  have e : cs = cs.toList.toArray := by simp
  rw [e]
  exact .agg _ as cs.toList (by simpa [Value.cells] using h1.symm) (fun i hi => by simpa [Value.cells] using h3 i hi)

/-- A pure function that answers true, called on arguments that came in. -/
theorem calls_true {f : FuncId} {xs : List AV} {vs : Array Value} (h : PureOK P f xs (B true)) (hn : vs.size = xs.length) (hr : ∀ i (h : i < xs.length), Rep w (gAll w) true xs[i] (vs.getD i undef)) :
    Calls P f vs w fun e w' => e = .returned (.bool true) ∧ Below w.heap.size w w' := by
  have h1 := h none 0 w (gAll w) vs (heapOK_all w) hn hr
  have h2 : CallsIn Fence.wide 0 P f vs w _ := h1
  refine (callsIn_wide.1 h2).mono fun e w' ⟨v, g', e1, e2, e3, e4⟩ => ?_
  subst e1
  have ev : v = .bool true := by cases e2; rfl
  subst ev
  refine ⟨rfl, e4.tr.os, e4.tr.tape, e4.tr.output, e4.tr.size, fun k hk => e4.keep k hk ?_⟩
  rintro ⟨id, o, d, ho, _⟩
  cases ho
end

end Go.AM

/- SLICES OF UNKNOWN CAPACITY: slices.Delete and slices.Insert, for any program and elements of one cell. Own work. -/
set_option linter.unusedSimpArgs false
set_option linter.unusedVariables false
set_option maxRecDepth 100000
namespace Go.AM
open Go.RowKit

theorem wrap_id {n : Int} (h : -9223372036854775808 ≤ n ∧ n < 9223372036854775808) : IntKind.i64.wrap n = n := by
  simp [IntKind.wrap, IntKind.bits, IntKind.signed, Int.bmod]
  omega

variable {P : Program} {hp : List HObj} {K : AV → List (Nat × HObj) → Prop}

theorem pc_take {l : List AV} (h : (l.all AV.isPC) = true) (k : Nat) : ((l.take k).all AV.isPC) = true := by
  rw [List.all_eq_true] at *
  exact fun x hx => h x (List.mem_of_mem_take hx)
theorem pc_drop {l : List AV} (h : (l.all AV.isPC) = true) (k : Nat) : ((l.drop k).all AV.isPC) = true := by
  rw [List.all_eq_true] at *
  exact fun x hx => h x (List.mem_of_mem_drop hx)

/-! ### Cutting private slices -/
theorem slc_mc_of {sz : Nat} {id off n c l h m : Nat} {lo hi mx : Option AV} (hl : match lo with | none => l = 0 | some y => y = I l) (hh : match hi with | none => h = n | some y => y = I h)
    (hm : match mx with | none => m = c | some y => y = I m ∧ hi.isSome) (h1 : l ≤ h) (h2 : h ≤ m) (h3 : m ≤ c) (k : K (.mc id (off + l * sz) (h - l) (m - l) sz) []) : SlcW sz (.mc id off n c sz) lo hi mx K :=
  ⟨_, _, ⟨l, h, m, hl, hh, hm, h1, h2, h3, rfl, rfl, rfl⟩, k⟩
theorem slc_ms_of {sz : Nat} {id off n l h : Nat} {lo hi mx : Option AV} (hl : match lo with | none => l = 0 | some y => y = I l) (hh : match hi with | none => h = n | some y => y = I h)
    (hm : match mx with | none => True | some y => ∃ m : Nat, y = I m ∧ h ≤ m ∧ m ≤ n ∧ hi.isSome) (h1 : l ≤ h) (h2 : h ≤ n) (k : K (.ms id (off + l * sz) (h - l) sz) []) : SlcW sz (.ms id off n sz) lo hi mx K :=
  ⟨_, _, ⟨l, h, hl, hh, h1, h2, rfl, hm, rfl, rfl⟩, k⟩

/-- Appending within the room that is there. -/
theorem app_in {sz bytes id off n c m : Nat} {y : AV} {ys cs : List AV} (hc : nthH hp id = some (.cells cs)) (he : elems (hpf hp) sz y = some (m, ys)) (hp1 : (ys.all AV.isPC) = true) (h1 : off + (n + m) * sz ≤ cs.length)
    (hb : (n + m) * bytes ≤ 140737488355328) (hb2 : n + m ≤ 140737488355328) (hr : n + m ≤ c) (k : K (.mc id off (n + m) c sz) [(id, .cells (splice cs (off + n * sz) ys))]) : AppW hp sz bytes (.mc id off n c sz) y K := by
  have hc : hpf hp id = some (.cells cs) := by rw [nthH_eq] at hc; exact hc
  refine ⟨m, ys, he, hp1, _, _, ?_, k⟩
  simp only [semApp, hc]
  exact ⟨trivial, Nat.le_trans (Nat.add_le_add_left (Nat.mul_le_mul_right _ (Nat.le_add_right _ _)) _) h1, hb, hb2, .inl ⟨hr, h1, trivial, trivial⟩⟩

theorem elems_mc {sz id off n c : Nat} {cs : List AV} (hc : nthH hp id = some (.cells cs)) (h : off + n * sz ≤ cs.length) : elems (hpf hp) sz (.mc id off n c sz) = some (n, view cs off (n * sz)) := by
  have hc : hpf hp id = some (.cells cs) := by rw [nthH_eq] at hc; exact hc
  simp only [elems, hc]; rw [if_pos ⟨trivial, h⟩]

theorem w_clr_mc {sz id off n c : Nat} {z cs : List AV} {F : Nat → AV} {x : Opd} (hx : evF F x = .mc id off n c sz) (hc : nthH hp id = some (.cells cs)) (h : off + n * sz ≤ cs.length) (k : K .any [(id, .cells (splice cs off (zrep n z)))]) :
    (AOp.clr sz z x).wp P F hp K := by
  have hc : hpf hp id = some (.cells cs) := by rw [nthH_eq] at hc; exact hc
  refine ⟨_, _, ?_, k⟩
  simp only [AOp.sem, hx]
  exact ⟨cs, hc, trivial, h, trivial, rfl⟩

/-! ### Any capacity -/
theorem ms_mc {w g id off n sz v} (h : Rep w g false (.ms id off n sz) v) : ∃ c, n ≤ c ∧ Rep w g false (.mc id off n c sz) v := by
  cases h with
  | ms _ _ _ _ c d cap arr ty fz hl hn hb hs => exact ⟨cap, hn, .mc id off n cap sz c d arr ty fz hl hn hb hs⟩
  | msz _ _ _ a l hl => exact ⟨0, Nat.le_refl _, .mcz id off sz a l hl⟩

theorem callW_cap {f : FuncId} {id off n sz : Nat} {xs : List AV} {KC : AV → List HObj → Prop} (h : ∀ c, n ≤ c → CallW P f (.mc id off n c sz :: xs) hp KC) : CallW P f (.ms id off n sz :: xs) hp KC := by
  intro ro m w g vs hok hvs hrep
  obtain ⟨c, hc, h0⟩ := ms_mc (hrep 0 (by simp))
  refine h c hc ro m w g vs hok hvs fun i hi => ?_
  cases i with
  | zero => exact h0
  | succ i => exact hrep (i + 1) (by simpa using hi)

/-- A result of which the capacity is not told. -/
theorem callW_ms {f : FuncId} {xs : List AV} {KC : AV → List HObj → Prop} (h : CallW P f xs hp fun r hp' => ∃ id off n c sz, (r = .mc id off n c sz ∨ r = .ms id off n sz) ∧ KC (.ms id off n sz) hp') : CallW P f xs hp KC := by
  intro ro m w g vs hok hvs hrep
  refine (h ro m w g vs hok hvs hrep).mono ?_
  rintro e w' ⟨v, r, hp', g', rfl, ⟨id, off, n, c, sz, hr, hk⟩, h1, h2, h3⟩
  refine ⟨v, _, hp', g', rfl, hk, ?_, h2, h3⟩
  rcases hr with rfl | rfl
  · exact mc_ms h1
  · exact h1

/-! ### slices.Delete -/
def GDel (by' : Nat) (z : List AV) : AC := (.seq (.rgn [⟨none, [(.mv 6 (.k (.sl true 0 [])))]⟩] [0, 1, 2]) (.seq (.rgn [⟨none, [(.mv 8 (.t 0)), (.mv 9 (.t 1)), (.mv 10 (.t 2)), (.mv 11 (.t 0)), (.len 12 (.t 11)), (.slc 13 1 (.t 8) (some (.t 9)) (some (.t 10)) (some (.t 12)))]⟩] [0, 1, 2]) (.seq (.seq (.rgn [⟨none, [(.mv 14 (.t 1)), (.mv 15 (.t 2)), (.bin 16 .eql (.t 14) (.t 15))]⟩] [0, 1, 2, 16]) (.cond (.t 16) (.seq (.rgn [⟨none, [(.mv 17 (.t 0)), (.mv 6 (.t 17))]⟩] [6]) .ret) .skip)) (.seq (.rgn [⟨none, [(.mv 18 (.t 0)), (.len 19 (.t 18)), (.mv 7 (.t 19))]⟩] [0, 1, 2, 7]) (.seq (.drw [⟨none, [(.mv 20 (.t 0)), (.mv 21 (.t 1)), (.slc 22 1 (.t 20) none (some (.t 21)) none), (.mv 23 (.t 0)), (.mv 24 (.t 2)), (.slc 25 1 (.t 23) (some (.t 24)) none none), (.app 26 1 by' (.t 22) (.t 25)), (.mv 0 (.t 26))]⟩] [] [0, 7]) (.seq (.rgn [⟨none, [(.mv 27 (.t 0)), (.mv 28 (.t 0)), (.len 29 (.t 28)), (.mv 30 (.t 7)), (.slc 31 1 (.t 27) (some (.t 29)) (some (.t 30)) none), (.clr 1 z (.t 31))]⟩] [0]) (.seq (.rgn [⟨none, [(.mv 32 (.t 0)), (.mv 6 (.t 32))]⟩] [6]) .ret)))))))

def delCells (z : List AV) (cs : List AV) (off n i j : Nat) : List AV := cs.take (off + i) ++ (view cs (off + j) (n - j) ++ (zrep (j - i) z ++ cs.drop (off + n)))

theorem zrep_len1 {z : List AV} (hz : z.length = 1) : ∀ k, (zrep k z).length = k
  | 0 => rfl
  | k + 1 => by simp [zrep, zrep_len1 hz k, hz]; omega

theorem del_same {z cs : List AV} {off n i : Nat} (h : i ≤ n) : delCells z cs off n i i = cs := by
  simp only [delCells, view, Nat.sub_self, zrep, List.nil_append]
  have e : cs.drop (off + n) = (cs.drop (off + i)).drop (n - i) := by rw [List.drop_drop]; congr 1; omega
  rw [e, List.take_append_drop, List.take_append_drop]

theorem del_eq {z cs : List AV} {off n i j : Nat} (hz : z.length = 1) (hij : i ≤ j) (hjn : j ≤ n) (hcs : off + n ≤ cs.length) :
    splice (splice cs (off + i) (view cs (off + j) (n - j))) (off + (i + (n - j))) (zrep (j - i) z) = delCells z cs off n i j := by
  have hA : (cs.take (off + i)).length = off + i := by simp; omega
  have hB : (view cs (off + j) (n - j)).length = n - j := by simp [view]; omega
  simp only [splice, delCells, hB]
  generalize hBB : view cs (off + j) (n - j) = B at hB ⊢
  generalize hAA : cs.take (off + i) = A at hA ⊢
  have e : off + (i + (n - j)) = (A ++ B).length := by simp [hA, hB]; omega
  rw [e]
  have t1 : ∀ C : List AV, (A ++ B ++ C).take (A ++ B).length = A ++ B := fun C => by rw [List.take_left']; rfl
  have t2 : ∀ (C : List AV) k, (A ++ B ++ C).drop ((A ++ B).length + k) = C.drop k := fun C k => by rw [← List.drop_drop, List.drop_left']; rfl
  rw [← List.append_assoc A B, t1, t2, List.drop_drop, zrep_len1 hz]
  rw [show off + i + (n - j) + (j - i) = off + n by omega]
  simp

theorem setL_same {l : List HObj} {id : Nat} {o : HObj} (h : nthH l id = some o) : setL l id o = l := by
  rw [nthH_eq] at h
  have hlt : id < l.length := hpf_lt h
  rw [setL, if_pos hlt]
  exact List.ext_getElem? fun k => by
    rw [List.getElem?_set]
    by_cases e : id = k
    · subst e
      rw [List.getElem?_eq_getElem hlt] at h
      simp [hlt]; exact (Option.some.inj h).symm
    · simp [e]

theorem delete_ok {f : FuncId} {fn : Func} {by' : Nat} {z : List AV} (hf : P.funcs[f]? = some fn) (hform : formOf P fn [6] = some (GDel by' z)) (hr : resTmps fn.results.toList = some [6]) (hnt : 3 ≤ fn.ntmps) (hz : z.length = 1)
    {id off n i j : Nat} {cs : List AV} {KC : AV → List HObj → Prop} (hid : nthH hp id = some (.cells cs)) (hij : i ≤ j) (hjn : j ≤ n) (hcs : off + n ≤ cs.length) (hpc : ((view cs (off + j) (n - j)).all AV.isPC) = true)
    (hb : n * by' ≤ 140737488355328) (hb2 : n ≤ 140737488355328) (hK : KC (.ms id off (n - (j - i)) 1) (setL hp id (.cells (delCells z cs off n i j)))) : CallW P f [.ms id off n 1, I i, I j] hp KC := by
  refine callW_cap fun c hc => callW_ms (walk hf hform hr hnt ?_)
  simp (disch := omega) [GDel]
  refine slc_mc_of (l := i) (h := j) (m := n) rfl rfl ⟨rfl, rfl⟩ hij hjn hc ?_
  simp (disch := omega) [GDel]
  refine c_split (fun h => ?_) (fun h => ?_)
  · have h : i = j := by simp at h; omega
    subst h
    simp (disch := omega)
    rw [del_same hjn, setL_same hid, Nat.sub_self, Nat.sub_zero] at hK
    exact ⟨id, off, n, c, 1, by simp, hK⟩
  · have h : i ≠ j := by simp at h; omega
    simp (disch := omega)
    refine slc_mc_of (l := 0) (h := i) (m := c) rfl rfl rfl (by omega) (by omega) (Nat.le_refl _) ?_
    simp (disch := omega)
    refine slc_mc_of (l := j) (h := n) (m := c) rfl rfl rfl (by omega) (by omega) (Nat.le_refl _) ?_
    simp (disch := omega)
    refine app_in hid (elems_mc (by simpa using hid) (by omega)) (by simpa using hpc) (by omega) (Nat.le_trans (Nat.mul_le_mul_right _ (by omega)) hb) (by omega) (by omega) ?_
    simp (disch := omega)
    have hlt : id < hp.length := by rw [nthH_eq] at hid; exact hpf_lt hid
    simp only [hlt, if_true]
    have hset : ∀ o, nthH (hp.set id o) id = some o := fun o => by rw [nthH_eq]; simp [hpf, hlt]
    refine slc_mc_of (l := i + (n - j)) (h := n) (m := c) (by simp) rfl rfl (by omega) (by omega) (Nat.le_refl _) ?_
    simp (disch := omega)
    refine w_clr_mc rfl (hset _) ?_ ?_
    · simp; omega
    simp (disch := omega) [hlt]
    refine ⟨id, off, i + (n - j), c, 1, by simp, ?_⟩
    have e1 : n - (i + (n - j)) = j - i := by omega
    have e2 : n - (j - i) = i + (n - j) := by omega
    rw [← del_eq hz hij hjn hcs, e2, setL, if_pos hlt] at hK
    have e3 : min (n - j) (cs.length - (off + j)) = n - j := by omega
    simp [e1, e3] at hK ⊢
    exact hK

end Go.AM

/- THE COMPILED FORMS of functions of the program, each held against its body by the kernel. Own work (printed by a program of this claim). -/
set_option maxRecDepth 100000
namespace Go.AM
open Go.RowKit Go.Proofs

/-- oxgall/oxgalllaw02.great -/
def G18 : AC := (.seq (.rgn [⟨none, [(.box 1 2 (.t 0)), (.mv 2 (.k (B false)))]⟩] [1]) (.seq (.rgn [⟨none, [(.fa 3 (.t 1) 1), (.ld 4 false 1 (.t 3)), (.len 5 (.t 4)), (.bin 6 .gtr (.t 5) (.k (I 40))), (.mv 2 (.t 6))]⟩] [2]) .ret))
theorem form18 : formOf Try.prog Try.f18 [2] = some G18 := by kernel_rfl
theorem res18 : resTmps Try.f18.results.toList = some [2] := by kernel_rfl

/-- oxgall/stroke.CheckBench -/
def G20 : AC := (.seq (.rgn [⟨none, [(.box 1 2 (.t 0)), (.mv 2 (.k (I 0)))]⟩] [1]) (.seq (.seq (.rgn [⟨none, [(.fa 5 (.t 1) 0), (.ld 6 false 1 (.t 5)), (.bsl 7 1 1 [(I 0)] [(0, (.t 6))]), (.call 8 56 [(.k (I 1)), (.k (I 8)), (.t 7)]), (.un 9 .not (.t 8)), (.mv 10 (.t 9))]⟩, ⟨(some (10, false)), [(.fa 11 (.t 1) 1), (.ld 12 false 1 (.t 11)), (.len 13 (.t 12)), (.bin 14 .gtr (.t 13) (.k (I 28)))]⟩, ⟨none, [(.pick 15 (.t 10) (.k (B true)) (.t 14))]⟩] [1, 15]) (.cond (.t 15) (.seq (.rgn [⟨none, [(.mv 2 (.k (I 6)))]⟩] [2]) .ret) .skip)) (.seq (.seq (.rgn [⟨none, [(.fa 16 (.t 1) 1), (.ld 17 false 1 (.t 16)), (.len 18 (.t 17)), (.mv 19 (.k (I 0)))]⟩] [1, 17, 18, 19]) (.block 0 (.loop (.seq (.rgn [⟨none, [(.bin 20 .lss (.t 19) (.t 18))]⟩] [1, 17, 18, 19, 20]) (.seq (.cond (.t 20) .skip (.exit 0)) (.seq (.block 1 (.seq (.rgn [⟨none, [(.mv 21 (.t 19)), (.ia 22 2 (.t 17) (.t 19)), (.ld 23 true 2 (.t 22)), (.al 4 [(I 0), (I 0)]), (.mv 3 (.t 21)), (.st 2 (.t 4) (.t 23))]⟩] [1, 3, 4, 17, 18, 19]) (.seq (.drw [⟨none, [(.fa 24 (.t 1) 0), (.ld 25 false 1 (.t 24)), (.bin 26 .sub (.t 25) (.k (I 1))), (.iaa 27 2 1 (.t 4) (.k (I 0))), (.ld 28 false 1 (.t 27)), (.iaa 29 2 1 (.t 4) (.k (I 1))), (.ld 30 false 1 (.t 29)), (.bsl 31 2 1 [(I 0)] [(0, (.t 28)), (1, (.t 30))]), (.call 32 56 [(.k (I 0)), (.t 26), (.t 31)]), (.un 33 .not (.t 32)), (.mv 34 (.t 33))]⟩, ⟨(some (34, false)), [(.iaa 35 2 1 (.t 4) (.k (I 0))), (.ld 36 false 1 (.t 35)), (.iaa 37 2 1 (.t 4) (.k (I 1))), (.ld 38 false 1 (.t 37)), (.bin 39 .geq (.t 36) (.t 38))]⟩, ⟨none, [(.pick 40 (.t 34) (.k (B true)) (.t 39)), (.mv 41 (.t 40))]⟩, ⟨(some (41, false)), [(.fa 42 (.t 1) 1), (.ld 43 false 1 (.t 42)), (.mv 44 (.t 3)), (.slc 45 2 (.t 43) none (some (.t 44)) none), (.ld 46 true 2 (.t 4)), (.call 47 57 [(.t 45), (.t 46)])]⟩, ⟨none, [(.pick 48 (.t 41) (.k (B true)) (.t 47))]⟩] [(1, 4), (1, 6), (4, 6), (1, 7), (12, 14), (19, 22)] [1, 17, 18, 19, 48]) (.cond (.t 48) (.seq (.rgn [⟨none, [(.mv 2 (.k (I 2)))]⟩] [2]) .ret) .skip)))) (.rgn [⟨none, [(.bin 49 .add (.t 19) (.k (I 1))), (.mv 19 (.t 49))]⟩] [1, 17, 18, 19]))))))) (.seq (.rgn [⟨none, [(.mv 2 (.k (I 0)))]⟩] [2]) .ret))))
theorem form20 : formOf Try.prog Try.f20 [2] = some G20 := by kernel_rfl
theorem res20 : resTmps Try.f20.results.toList = some [2] := by kernel_rfl

/-- oxgall/oxgallref02.CheckBench -/
def G21 : AC := (.seq (.rgn [⟨none, [(.box 1 2 (.t 0)), (.mv 2 (.k (I 0)))]⟩] [1]) (.seq (.seq (.rgn [⟨none, [(.fa 6 (.t 1) 0), (.ld 7 false 1 (.t 6)), (.bin 8 .lss (.t 7) (.k (I 1))), (.mv 9 (.t 8))]⟩, ⟨(some (9, false)), [(.fa 10 (.t 1) 0), (.ld 11 false 1 (.t 10)), (.bin 12 .gtr (.t 11) (.k (I 8)))]⟩, ⟨none, [(.pick 13 (.t 9) (.k (B true)) (.t 12)), (.mv 14 (.t 13))]⟩, ⟨(some (14, false)), [(.fa 15 (.t 1) 1), (.ld 16 false 1 (.t 15)), (.len 17 (.t 16)), (.bin 18 .gtr (.t 17) (.k (I 28)))]⟩, ⟨none, [(.pick 19 (.t 14) (.k (B true)) (.t 18))]⟩] [1, 19]) (.cond (.t 19) (.seq (.rgn [⟨none, [(.mv 2 (.k (I 6)))]⟩] [2]) .ret) .skip)) (.seq (.seq (.rgn [⟨none, [(.mv 3 (.k (I 0)))]⟩] [1, 3]) (.block 0 (.loop (.seq (.seq (.rgn [⟨none, [(.mv 20 (.t 3)), (.fa 21 (.t 1) 1), (.ld 22 false 1 (.t 21)), (.len 23 (.t 22)), (.bin 24 .lss (.t 20) (.t 23))]⟩] [1, 3, 24]) (.cond (.t 24) .skip (.exit 0))) (.seq (.block 1 (.seq (.rgn [⟨none, [(.fa 27 (.t 1) 1), (.ld 28 false 1 (.t 27)), (.mv 29 (.t 3)), (.ia 30 2 (.t 28) (.t 29)), (.ld 31 true 2 (.t 30)), (.al 4 [(I 0), (I 0)]), (.st 2 (.t 4) (.t 31))]⟩] [1, 3, 4]) (.seq (.seq (.rgn [⟨none, [(.iaa 32 2 1 (.t 4) (.k (I 0))), (.ld 33 false 1 (.t 32)), (.bin 34 .lss (.t 33) (.k (I 0))), (.mv 35 (.t 34))]⟩, ⟨(some (35, false)), [(.iaa 36 2 1 (.t 4) (.k (I 0))), (.ld 37 false 1 (.t 36)), (.iaa 38 2 1 (.t 4) (.k (I 1))), (.ld 39 false 1 (.t 38)), (.bin 40 .geq (.t 37) (.t 39))]⟩, ⟨none, [(.pick 41 (.t 35) (.k (B true)) (.t 40)), (.mv 42 (.t 41))]⟩, ⟨(some (42, false)), [(.iaa 43 2 1 (.t 4) (.k (I 1))), (.ld 44 false 1 (.t 43)), (.fa 45 (.t 1) 0), (.ld 46 false 1 (.t 45)), (.bin 47 .geq (.t 44) (.t 46))]⟩, ⟨none, [(.pick 48 (.t 42) (.k (B true)) (.t 47))]⟩] [1, 3, 4, 48]) (.cond (.t 48) (.seq (.rgn [⟨none, [(.mv 2 (.k (I 2)))]⟩] [2]) .ret) .skip)) (.seq (.rgn [⟨none, [(.mv 5 (.k (I 0)))]⟩] [1, 3, 4, 5]) (.block 2 (.loop (.seq (.seq (.rgn [⟨none, [(.mv 49 (.t 5)), (.mv 50 (.t 3)), (.bin 51 .lss (.t 49) (.t 50))]⟩] [1, 3, 4, 5, 51]) (.cond (.t 51) .skip (.exit 2))) (.seq (.block 3 (.seq (.drw [⟨none, [(.fa 54 (.t 1) 1), (.ld 55 false 1 (.t 54)), (.mv 56 (.t 5)), (.ia 57 2 (.t 55) (.t 56)), (.ld 58 true 2 (.t 57)), (.ld 59 true 2 (.t 4)), (.eqk 60 false (true, [.int, .int]) (.t 58) (.t 59))]⟩] [(1, 5), (4, 5)] [1, 3, 4, 5, 60]) (.cond (.t 60) (.seq (.rgn [⟨none, [(.mv 2 (.k (I 2)))]⟩] [2]) .ret) .skip))) (.rgn [⟨none, [(.mv 52 (.t 5)), (.bin 53 .add (.t 52) (.k (I 1))), (.mv 5 (.t 53))]⟩] [1, 3, 4, 5]))))))))) (.rgn [⟨none, [(.mv 25 (.t 3)), (.bin 26 .add (.t 25) (.k (I 1))), (.mv 3 (.t 26))]⟩] [1, 3])))))) (.seq (.rgn [⟨none, [(.mv 2 (.k (I 0)))]⟩] [2]) .ret))))
theorem form21 : formOf Try.prog Try.f21 [2] = some G21 := by kernel_rfl
theorem res21 : resTmps Try.f21.results.toList = some [2] := by kernel_rfl

/-- oxgall/stroke.CheckList -/
def G22 : AC := (.seq (.rgn [⟨none, [(.box 2 2 (.t 0)), (.mv 4 (.k (I 0)))]⟩] [1, 2]) (.seq (.seq (.rgn [⟨none, [(.ld 6 true 2 (.t 2)), (.call 7 20 [(.t 6)]), (.mv 5 (.t 7))]⟩] [1, 2, 5]) (.seq (.rgn [⟨none, [(.mv 8 (.t 5)), (.bin 9 .neq (.t 8) (.k (I 0)))]⟩] [1, 2, 5, 9]) (.cond (.t 9) (.seq (.rgn [⟨none, [(.mv 10 (.t 5)), (.mv 4 (.t 10))]⟩] [4]) .ret) .skip))) (.seq (.block 0 (.seq (.rgn [⟨none, [(.mv 12 (.t 1)), (.len 13 (.t 12)), (.bin 14 .gtr (.t 13) (.k (I 60))), (.mv 11 (.t 14))]⟩] [1, 2, 11]) (.cond (.t 11) (.seq (.rgn [⟨none, [(.mv 4 (.k (I 6)))]⟩] [4]) .ret) (.seq (.rgn [⟨none, [(.fa 16 (.t 2) 0), (.ld 17 false 1 (.t 16)), (.un 18 .neg (.t 17)), (.fa 19 (.t 2) 0), (.ld 20 false 1 (.t 19)), (.mv 21 (.t 1)), (.call 22 56 [(.t 18), (.t 20), (.t 21)]), (.un 23 .not (.t 22)), (.mv 24 (.t 23))]⟩, ⟨(some (24, false)), [(.mv 25 (.t 1)), (.call 26 58 [(.t 25), (.k (I 0))])]⟩, ⟨none, [(.pick 27 (.t 24) (.k (B true)) (.t 26)), (.mv 15 (.t 27))]⟩] [15]) (.cond (.t 15) (.seq (.rgn [⟨none, [(.mv 4 (.k (I 3)))]⟩] [4]) .ret) .skip))))) (.seq (.rgn [⟨none, [(.mv 4 (.k (I 0)))]⟩] [4]) .ret))))
theorem form22 : formOf Try.prog Try.f22 [4] = some G22 := by kernel_rfl
theorem res22 : resTmps Try.f22.results.toList = some [4] := by kernel_rfl

/-- oxgall/oxgallref02.CheckList -/
def G23 : AC := (.seq (.rgn [⟨none, [(.box 2 2 (.t 0)), (.mv 4 (.k (I 0)))]⟩] [1, 2]) (.seq (.seq (.rgn [⟨none, [(.ld 6 true 2 (.t 2)), (.call 7 21 [(.t 6)]), (.bin 8 .neq (.t 7) (.k (I 0)))]⟩] [1, 2, 8]) (.cond (.t 8) (.seq (.rgn [⟨none, [(.ld 9 true 2 (.t 2)), (.call 10 21 [(.t 9)]), (.mv 4 (.t 10))]⟩] [4]) .ret) .skip)) (.seq (.seq (.rgn [⟨none, [(.mv 11 (.t 1)), (.len 12 (.t 11)), (.bin 13 .gtr (.t 12) (.k (I 60)))]⟩] [1, 2, 13]) (.cond (.t 13) (.seq (.rgn [⟨none, [(.mv 4 (.k (I 6)))]⟩] [4]) .ret) .skip)) (.seq (.seq (.rgn [⟨none, [(.mv 5 (.k (I 0)))]⟩] [1, 2, 5]) (.block 0 (.loop (.seq (.seq (.rgn [⟨none, [(.mv 14 (.t 5)), (.mv 15 (.t 1)), (.len 16 (.t 15)), (.bin 17 .lss (.t 14) (.t 16))]⟩] [1, 2, 5, 17]) (.cond (.t 17) .skip (.exit 0))) (.seq (.block 1 (.seq (.drw [⟨none, [(.ld 20 true 2 (.t 2)), (.mv 21 (.t 1)), (.mv 22 (.t 5)), (.ia 23 1 (.t 21) (.t 22)), (.ld 24 false 1 (.t 23)), (.call 25 51 [(.t 20), (.t 24)]), (.un 26 .not (.t 25))]⟩] [(0, 4)] [1, 2, 5, 26]) (.cond (.t 26) (.seq (.rgn [⟨none, [(.mv 4 (.k (I 3)))]⟩] [4]) .ret) .skip))) (.rgn [⟨none, [(.mv 18 (.t 5)), (.bin 19 .add (.t 18) (.k (I 1))), (.mv 5 (.t 19))]⟩] [1, 2, 5])))))) (.seq (.rgn [⟨none, [(.mv 4 (.k (I 0)))]⟩] [4]) .ret)))))
theorem form23 : formOf Try.prog Try.f23 [4] = some G23 := by kernel_rfl
theorem res23 : resTmps Try.f23.results.toList = some [4] := by kernel_rfl

/-- oxgall/stroke.Short -/
def G24 : AC := (.seq (.rgn [⟨none, [(.box 2 2 (.t 0)), (.mv 4 (.k (.sl true 0 []))), (.mv 5 (.k (I 0)))]⟩] [1, 2]) (.seq (.rgn [⟨none, [(.ld 11 true 2 (.t 2)), (.mv 12 (.t 1)), (.bsl 13 1 1 [(.sl true 0 [])] [(0, (.t 12))]), (.call 14 59 [(.t 11), (.t 13)]), (.mv 10 (.t 14)), (.ext 15 (.t 10) 0), (.ext 16 (.t 10) 1), (.mv 6 (.t 15)), (.mv 7 (.t 16))]⟩] [1, 6, 7]) (.seq (.seq (.rgn [⟨none, [(.mv 17 (.t 7)), (.bin 18 .neq (.t 17) (.k (I 0)))]⟩] [1, 6, 7, 18]) (.cond (.t 18) (.seq (.rgn [⟨none, [(.mv 19 (.t 7)), (.mv 4 (.k (.sl true 0 []))), (.mv 5 (.t 19))]⟩] [4, 5]) .ret) .skip)) (.seq (.rgn [⟨none, [(.mv 20 (.t 6)), (.mv 21 (.t 1)), (.call 22 60 [(.t 20), (.t 21)]), (.mv 8 (.t 22))]⟩] [8]) (.seq (.rgn [⟨none, [(.mv 23 (.t 8)), (.len 24 (.t 23)), (.mks 25 1 8 [(I 0)] (.t 24) (.t 24)), (.mv 9 (.t 25))]⟩] [8, 9]) (.seq (.rgn [⟨none, [(.mv 26 (.t 9)), (.mv 27 (.t 8)), (.cpy 28 1 (.t 26) (.t 27))]⟩] [9]) (.seq (.rgn [⟨none, [(.mv 29 (.t 9)), (.mv 4 (.t 29)), (.mv 5 (.k (I 0)))]⟩] [4, 5]) .ret)))))))
theorem form24 : formOf Try.prog Try.f24 [4, 5] = some G24 := by kernel_rfl
theorem res24 : resTmps Try.f24.results.toList = some [4, 5] := by kernel_rfl

/-- oxgall/oxgallref02.Short -/
def G25 : AC := (.seq (.rgn [⟨none, [(.box 2 2 (.t 0)), (.mv 4 (.k (.sl true 0 []))), (.mv 5 (.k (I 0)))]⟩] [1, 2]) (.seq (.seq (.rgn [⟨none, [(.ld 6 true 2 (.t 2)), (.mv 7 (.t 1)), (.call 8 23 [(.t 6), (.t 7)]), (.bin 9 .neq (.t 8) (.k (I 0)))]⟩] [1, 2, 9]) (.cond (.t 9) (.seq (.rgn [⟨none, [(.ld 10 true 2 (.t 2)), (.mv 11 (.t 1)), (.call 12 23 [(.t 10), (.t 11)]), (.mv 4 (.k (.sl true 0 []))), (.mv 5 (.t 12))]⟩] [4, 5]) .ret) .skip)) (.seq (.rgn [⟨none, [(.ld 13 true 2 (.t 2)), (.mv 14 (.t 1)), (.call 15 40 [(.t 13), (.t 14)]), (.mv 4 (.t 15)), (.mv 5 (.k (I 0)))]⟩] [4, 5]) .ret)))
theorem form25 : formOf Try.prog Try.f25 [4, 5] = some G25 := by kernel_rfl
theorem res25 : resTmps Try.f25.results.toList = some [4, 5] := by kernel_rfl

/-- oxgall/oxgallref02.Equal -/
def G26 : AC := (.seq (.rgn [⟨none, [(.mv 4 (.k (B false)))]⟩] [0, 1]) (.seq (.seq (.rgn [⟨none, [(.mv 6 (.t 0)), (.len 7 (.t 6)), (.mv 8 (.t 1)), (.len 9 (.t 8)), (.bin 10 .neq (.t 7) (.t 9))]⟩] [0, 1, 10]) (.cond (.t 10) (.seq (.rgn [⟨none, [(.mv 4 (.k (B false)))]⟩] [4]) .ret) .skip)) (.seq (.seq (.rgn [⟨none, [(.mv 5 (.k (I 0)))]⟩] [0, 1, 5]) (.block 0 (.loop (.seq (.seq (.rgn [⟨none, [(.mv 11 (.t 5)), (.mv 12 (.t 0)), (.len 13 (.t 12)), (.bin 14 .lss (.t 11) (.t 13))]⟩] [0, 1, 5, 14]) (.cond (.t 14) .skip (.exit 0))) (.seq (.block 1 (.seq (.drw [⟨none, [(.mv 17 (.t 0)), (.mv 18 (.t 5)), (.ia 19 1 (.t 17) (.t 18)), (.ld 20 false 1 (.t 19)), (.mv 21 (.t 1)), (.mv 22 (.t 5)), (.ia 23 1 (.t 21) (.t 22)), (.ld 24 false 1 (.t 23)), (.bin 25 .neq (.t 20) (.t 24))]⟩] [(3, 7)] [0, 1, 5, 25]) (.cond (.t 25) (.seq (.rgn [⟨none, [(.mv 4 (.k (B false)))]⟩] [4]) .ret) .skip))) (.rgn [⟨none, [(.mv 15 (.t 5)), (.bin 16 .add (.t 15) (.k (I 1))), (.mv 5 (.t 16))]⟩] [0, 1, 5])))))) (.seq (.rgn [⟨none, [(.mv 4 (.k (B true)))]⟩] [4]) .ret))))
theorem form26 : formOf Try.prog Try.f26 [4] = some G26 := by kernel_rfl
theorem res26 : resTmps Try.f26.results.toList = some [4] := by kernel_rfl

/-- oxgall/stroke.Same -/
def G27 : AC := (.seq (.rgn [⟨none, [(.box 3 2 (.t 0)), (.mv 6 (.k (I 0)))]⟩] [1, 2, 3]) (.seq (.rgn [⟨none, [(.ld 10 true 2 (.t 3)), (.mv 11 (.t 1)), (.mv 12 (.t 2)), (.bsl 13 2 1 [(.sl true 0 [])] [(0, (.t 11)), (1, (.t 12))]), (.call 14 59 [(.t 10), (.t 13)]), (.mv 9 (.t 14)), (.ext 15 (.t 9) 0), (.ext 16 (.t 9) 1), (.mv 7 (.t 15)), (.mv 8 (.t 16))]⟩] [1, 2, 7, 8]) (.seq (.block 0 (.seq (.rgn [⟨none, [(.mv 18 (.t 8)), (.bin 19 .neq (.t 18) (.k (I 0))), (.mv 17 (.t 19))]⟩] [1, 2, 7, 8, 17]) (.cond (.t 17) (.seq (.rgn [⟨none, [(.mv 20 (.t 8)), (.mv 6 (.t 20))]⟩] [6]) .ret) (.seq (.rgn [⟨none, [(.mv 22 (.t 7)), (.mv 23 (.t 1)), (.call 24 60 [(.t 22), (.t 23)]), (.mv 25 (.t 7)), (.mv 26 (.t 2)), (.call 27 60 [(.t 25), (.t 26)]), (.call 28 61 [(.t 24), (.t 27)]), (.un 29 .not (.t 28)), (.mv 21 (.t 29))]⟩] [21]) (.cond (.t 21) (.seq (.rgn [⟨none, [(.mv 6 (.k (I 18)))]⟩] [6]) .ret) .skip))))) (.seq (.rgn [⟨none, [(.mv 6 (.k (I 0)))]⟩] [6]) .ret))))
theorem form27 : formOf Try.prog Try.f27 [6] = some G27 := by kernel_rfl
theorem res27 : resTmps Try.f27.results.toList = some [6] := by kernel_rfl

/-- oxgall/oxgallref02.Same -/
def G28 : AC := (.seq (.rgn [⟨none, [(.box 3 2 (.t 0)), (.mv 6 (.k (I 0)))]⟩] [1, 2, 3]) (.seq (.seq (.rgn [⟨none, [(.ld 7 true 2 (.t 3)), (.mv 8 (.t 1)), (.mv 9 (.t 2)), (.call 10 62 [(.t 7), (.t 8), (.t 9)]), (.bin 11 .neq (.t 10) (.k (I 0)))]⟩] [1, 2, 3, 11]) (.cond (.t 11) (.seq (.rgn [⟨none, [(.ld 12 true 2 (.t 3)), (.mv 13 (.t 1)), (.mv 14 (.t 2)), (.call 15 62 [(.t 12), (.t 13), (.t 14)]), (.mv 6 (.t 15))]⟩] [6]) .ret) .skip)) (.seq (.seq (.drw [⟨none, [(.ld 16 true 2 (.t 3)), (.mv 17 (.t 1)), (.call 18 40 [(.t 16), (.t 17)]), (.ld 19 true 2 (.t 3)), (.mv 20 (.t 2)), (.call 21 40 [(.t 19), (.t 20)]), (.call 22 26 [(.t 18), (.t 21)]), (.un 23 .not (.t 22))]⟩] [(0, 3), (2, 3)] [23]) (.cond (.t 23) (.seq (.rgn [⟨none, [(.mv 6 (.k (I 18)))]⟩] [6]) .ret) .skip)) (.seq (.rgn [⟨none, [(.mv 6 (.k (I 0)))]⟩] [6]) .ret))))
theorem form28 : formOf Try.prog Try.f28 [6] = some G28 := by kernel_rfl
theorem res28 : resTmps Try.f28.results.toList = some [6] := by kernel_rfl

/-- oxgall/oxgallref02.IsStroke -/
def G51 : AC := (.seq (.rgn [⟨none, [(.box 2 2 (.t 0)), (.mv 4 (.k (B false)))]⟩] [1, 2]) (.seq (.rgn [⟨none, [(.mv 5 (.t 1)), (.bin 6 .geq (.t 5) (.k (I 1))), (.mv 7 (.t 6))]⟩, ⟨(some (7, true)), [(.mv 8 (.t 1)), (.fa 9 (.t 2) 0), (.ld 10 false 1 (.t 9)), (.bin 11 .leq (.t 8) (.t 10))]⟩, ⟨none, [(.pick 12 (.t 7) (.t 11) (.k (B false))), (.mv 13 (.t 12))]⟩, ⟨(some (13, false)), [(.mv 14 (.t 1)), (.bin 15 .leq (.t 14) (.k (I (-1)))), (.mv 16 (.t 15))]⟩, ⟨(some (16, true)), [(.mv 17 (.t 1)), (.fa 18 (.t 2) 0), (.ld 19 false 1 (.t 18)), (.un 20 .neg (.t 19)), (.bin 21 .geq (.t 17) (.t 20))]⟩, ⟨(some (13, false)), [(.pick 22 (.t 16) (.t 21) (.k (B false)))]⟩, ⟨none, [(.pick 23 (.t 13) (.k (B true)) (.t 22)), (.mv 4 (.t 23))]⟩] [4]) .ret))
theorem form51 : formOf Try.prog Try.f51 [4] = some G51 := by kernel_rfl
theorem res51 : resTmps Try.f51.results.toList = some [4] := by kernel_rfl

/-- oxgall/oxgallref02.Can -/
def G52 : AC := (.seq (.rgn [⟨none, [(.box 3 2 (.t 0)), (.mv 6 (.k (B false)))]⟩] [1, 2, 3]) (.seq (.rgn [⟨none, [(.mv 10 (.t 1)), (.call 11 86 [(.t 10)]), (.mv 12 (.t 2)), (.call 13 86 [(.t 12)]), (.mv 7 (.t 11)), (.mv 8 (.t 13))]⟩] [3, 7, 8]) (.seq (.seq (.rgn [⟨none, [(.mv 14 (.t 7)), (.mv 15 (.t 8)), (.bin 16 .eql (.t 14) (.t 15))]⟩] [3, 7, 8, 16]) (.cond (.t 16) (.seq (.rgn [⟨none, [(.mv 6 (.k (B false)))]⟩] [6]) .ret) .skip)) (.seq (.seq (.rgn [⟨none, [(.mv 9 (.k (I 0)))]⟩] [3, 7, 8, 9]) (.block 0 (.loop (.seq (.seq (.rgn [⟨none, [(.mv 17 (.t 9)), (.fa 18 (.t 3) 1), (.ld 19 false 1 (.t 18)), (.len 20 (.t 19)), (.bin 21 .lss (.t 17) (.t 20))]⟩] [3, 7, 8, 9, 21]) (.cond (.t 21) .skip (.exit 0))) (.seq (.block 1 (.seq (.rgn [⟨none, [(.fa 24 (.t 3) 1), (.ld 25 false 1 (.t 24)), (.mv 26 (.t 9)), (.ia 27 2 (.t 25) (.t 26)), (.ld 28 true 2 (.t 27)), (.mv 29 (.t 7)), (.mv 30 (.t 8)), (.mx 31 false (.t 29) (.t 30)), (.mv 32 (.t 7)), (.mv 33 (.t 8)), (.mx 34 true (.t 32) (.t 33)), (.bld 35 [(I 0), (I 0)] [(0, 1, (.t 31)), (1, 1, (.t 34))]), (.eqk 36 false (true, [.int, .int]) (.t 28) (.t 35))]⟩] [3, 7, 8, 9, 36]) (.cond (.t 36) (.seq (.rgn [⟨none, [(.mv 6 (.k (B false)))]⟩] [6]) .ret) .skip))) (.rgn [⟨none, [(.mv 22 (.t 9)), (.bin 23 .add (.t 22) (.k (I 1))), (.mv 9 (.t 23))]⟩] [3, 7, 8, 9])))))) (.seq (.rgn [⟨none, [(.mv 6 (.k (B true)))]⟩] [6]) .ret)))))
theorem form52 : formOf Try.prog Try.f52 [6] = some G52 := by kernel_rfl
theorem res52 : resTmps Try.f52.results.toList = some [6] := by kernel_rfl

/-- oxgall/oxgalllaw02.free -/
def G53 : AC := (.seq (.rgn [⟨none, [(.box 3 2 (.t 0)), (.mv 6 (.k (B false)))]⟩] [1, 2, 3]) (.seq (.seq (.rgn [⟨none, [(.mv 7 (.k (I 0)))]⟩] [1, 2, 3, 7]) (.block 0 (.loop (.seq (.seq (.rgn [⟨none, [(.mv 8 (.t 7)), (.mv 9 (.t 1)), (.len 10 (.t 9)), (.bin 11 .lss (.t 8) (.t 10))]⟩] [1, 2, 3, 7, 11]) (.cond (.t 11) .skip (.exit 0))) (.seq (.block 1 (.seq (.drw [⟨none, [(.ld 14 true 2 (.t 3)), (.mv 15 (.t 1)), (.mv 16 (.t 7)), (.ia 17 1 (.t 15) (.t 16)), (.ld 18 false 1 (.t 17)), (.mv 19 (.t 2)), (.call 20 52 [(.t 14), (.t 18), (.t 19)]), (.un 21 .not (.t 20))]⟩] [(0, 4)] [1, 2, 3, 7, 21]) (.cond (.t 21) (.seq (.rgn [⟨none, [(.mv 6 (.k (B false)))]⟩] [6]) .ret) .skip))) (.rgn [⟨none, [(.mv 12 (.t 7)), (.bin 13 .add (.t 12) (.k (I 1))), (.mv 7 (.t 13))]⟩] [1, 2, 3, 7])))))) (.seq (.rgn [⟨none, [(.mv 6 (.k (B true)))]⟩] [6]) .ret)))
theorem form53 : formOf Try.prog Try.f53 [6] = some G53 := by kernel_rfl
theorem res53 : resTmps Try.f53.results.toList = some [6] := by kernel_rfl

/-- oxgall/stroke.within -/
def G56 : AC := (.seq (.rgn [⟨none, [(.box 3 1 (.t 0)), (.box 4 1 (.t 1)), (.mv 6 (.k (B false)))]⟩] [2, 3, 4]) (.seq (.rgn [⟨none, [(.mv 7 (.t 2)), (.mkf 8 (.func 88) [] [(.t 3), (.t 4)]), (.call 9 87 [(.t 7), (.t 8)]), (.un 10 .not (.t 9)), (.mv 6 (.t 10))]⟩] [6]) .ret))
theorem form56 : formOf Try.prog Try.f56 [6] = some G56 := by kernel_rfl
theorem res56 : resTmps Try.f56.results.toList = some [6] := by kernel_rfl

/-- slices.Contains[[][2]int,[2]int] -/
def G57 : AC := (.seq (.rgn [⟨none, [(.box 3 2 (.t 1)), (.mv 4 (.k (B false)))]⟩] [0, 3]) (.seq (.rgn [⟨none, [(.mv 5 (.t 0)), (.ld 6 true 2 (.t 3)), (.call 7 89 [(.t 5), (.t 6)]), (.bin 8 .geq (.t 7) (.k (I 0))), (.mv 4 (.t 8))]⟩] [4]) .ret))
theorem form57 : formOf Try.prog Try.f57 [4] = some G57 := by kernel_rfl
theorem res57 : resTmps Try.f57.results.toList = some [4] := by kernel_rfl

/-- slices.Contains[[]int,int] -/
def G58 : AC := (.seq (.rgn [⟨none, [(.mv 4 (.k (B false)))]⟩] [0, 1]) (.seq (.rgn [⟨none, [(.mv 5 (.t 0)), (.mv 6 (.t 1)), (.call 7 90 [(.t 5), (.t 6)]), (.bin 8 .geq (.t 7) (.k (I 0))), (.mv 4 (.t 8))]⟩] [4]) .ret))
theorem form58 : formOf Try.prog Try.f58 [4] = some G58 := by kernel_rfl
theorem res58 : resTmps Try.f58.results.toList = some [4] := by kernel_rfl

/-- slices.Equal[[]int,int] -/
def G61 : AC := (.seq (.rgn [⟨none, [(.mv 4 (.k (B false)))]⟩] [0, 1]) (.seq (.seq (.rgn [⟨none, [(.mv 6 (.t 0)), (.len 7 (.t 6)), (.mv 8 (.t 1)), (.len 9 (.t 8)), (.bin 10 .neq (.t 7) (.t 9))]⟩] [0, 1, 10]) (.cond (.t 10) (.seq (.rgn [⟨none, [(.mv 4 (.k (B false)))]⟩] [4]) .ret) .skip)) (.seq (.seq (.rgn [⟨none, [(.mv 11 (.t 0)), (.len 12 (.t 11)), (.mv 13 (.k (I 0)))]⟩] [0, 1, 12, 13]) (.block 0 (.loop (.seq (.rgn [⟨none, [(.bin 14 .lss (.t 13) (.t 12))]⟩] [0, 1, 12, 13, 14]) (.seq (.cond (.t 14) .skip (.exit 0)) (.seq (.block 1 (.seq (.rgn [⟨none, [(.mv 15 (.t 13)), (.mv 5 (.t 15))]⟩] [0, 1, 5, 12, 13]) (.seq (.drw [⟨none, [(.mv 16 (.t 0)), (.mv 17 (.t 5)), (.ia 18 1 (.t 16) (.t 17)), (.ld 19 false 1 (.t 18)), (.mv 20 (.t 1)), (.mv 21 (.t 5)), (.ia 22 1 (.t 20) (.t 21)), (.ld 23 false 1 (.t 22)), (.bin 24 .neq (.t 19) (.t 23))]⟩] [(3, 7)] [0, 1, 12, 13, 24]) (.cond (.t 24) (.seq (.rgn [⟨none, [(.mv 4 (.k (B false)))]⟩] [4]) .ret) .skip)))) (.rgn [⟨none, [(.bin 25 .add (.t 13) (.k (I 1))), (.mv 13 (.t 25))]⟩] [0, 1, 12, 13]))))))) (.seq (.rgn [⟨none, [(.mv 4 (.k (B true)))]⟩] [4]) .ret))))
theorem form61 : formOf Try.prog Try.f61 [4] = some G61 := by kernel_rfl
theorem res61 : resTmps Try.f61.results.toList = some [4] := by kernel_rfl

/-- oxgall/oxgallref02.Two -/
def G62 : AC := (.seq (.rgn [⟨none, [(.box 3 2 (.t 0)), (.mv 6 (.k (I 0)))]⟩] [1, 2, 3]) (.seq (.seq (.rgn [⟨none, [(.ld 7 true 2 (.t 3)), (.mv 8 (.t 1)), (.call 9 23 [(.t 7), (.t 8)]), (.bin 10 .neq (.t 9) (.k (I 0)))]⟩] [1, 2, 3, 10]) (.cond (.t 10) (.seq (.rgn [⟨none, [(.ld 11 true 2 (.t 3)), (.mv 12 (.t 1)), (.call 13 23 [(.t 11), (.t 12)]), (.mv 6 (.t 13))]⟩] [6]) .ret) .skip)) (.seq (.rgn [⟨none, [(.ld 14 true 2 (.t 3)), (.mv 15 (.t 2)), (.call 16 23 [(.t 14), (.t 15)]), (.mv 6 (.t 16))]⟩] [6]) .ret)))
theorem form62 : formOf Try.prog Try.f62 [6] = some G62 := by kernel_rfl
theorem res62 : resTmps Try.f62.results.toList = some [6] := by kernel_rfl

/-- oxgall/oxgallref02.Reduced -/
def G77 : AC := (.seq (.rgn [⟨none, [(.box 2 2 (.t 0)), (.mv 4 (.k (.sl true 0 [])))]⟩] [1, 2]) (.seq (.rgn [⟨none, [(.bsl 8 0 1 [(I 0)] []), (.mv 9 (.t 1)), (.app 10 1 8 (.t 8) (.t 9)), (.mv 5 (.t 10))]⟩] [2, 5]) (.seq (.rgn [⟨none, [(.ld 12 true 2 (.t 2)), (.mv 13 (.t 5)), (.call 14 101 [(.t 12), (.t 13)]), (.mv 11 (.t 14)), (.ext 15 (.t 11) 0), (.ext 16 (.t 11) 1), (.mv 6 (.t 15)), (.mv 7 (.t 16))]⟩] [2, 5, 6, 7]) (.seq (.block 0 (.loop (.seq (.seq (.rgn [⟨none, [(.mv 17 (.t 6)), (.bin 18 .geq (.t 17) (.k (I 0)))]⟩] [2, 5, 6, 7, 18]) (.cond (.t 18) .skip (.exit 0))) (.block 1 (.seq (.rgn [⟨none, [(.mv 19 (.t 5)), (.mv 20 (.t 7)), (.call 21 74 [(.t 19), (.t 20)]), (.mv 22 (.t 6)), (.call 23 74 [(.t 21), (.t 22)]), (.mv 5 (.t 23))]⟩] [2, 5]) (.rgn [⟨none, [(.ld 25 true 2 (.t 2)), (.mv 26 (.t 5)), (.call 27 101 [(.t 25), (.t 26)]), (.mv 24 (.t 27)), (.ext 28 (.t 24) 0), (.ext 29 (.t 24) 1), (.mv 6 (.t 28)), (.mv 7 (.t 29))]⟩] [2, 5, 6, 7])))))) (.seq (.rgn [⟨none, [(.mv 30 (.t 5)), (.mv 4 (.t 30))]⟩] [4]) .ret)))))
theorem form77 : formOf Try.prog Try.f77 [4] = some G77 := by kernel_rfl
theorem res77 : resTmps Try.f77.results.toList = some [4] := by kernel_rfl

/-- oxgall/stroke.least[int] -/
def G83 : AC := (.seq (.rgn [⟨none, [(.mv 4 (.k (I 0)))]⟩] [0, 1]) (.seq (.rgn [⟨none, [(.mv 8 (.t 0)), (.ia 9 1 (.t 8) (.k (I 0))), (.ld 10 false 1 (.t 9)), (.mv 5 (.t 10))]⟩] [0, 1, 5]) (.seq (.seq (.rgn [⟨none, [(.mv 11 (.t 0)), (.slc 12 1 (.t 11) (some (.k (I 1))) none none), (.len 13 (.t 12)), (.mv 14 (.k (I 0)))]⟩] [1, 5, 12, 13, 14]) (.block 0 (.loop (.seq (.rgn [⟨none, [(.bin 15 .lss (.t 14) (.t 13))]⟩] [1, 5, 12, 13, 14, 15]) (.seq (.cond (.t 15) .skip (.exit 0)) (.seq (.block 1 (.seq (.rgn [⟨none, [(.ia 16 1 (.t 12) (.t 14)), (.ld 17 false 1 (.t 16)), (.mv 7 (.t 17))]⟩] [1, 5, 7, 12, 13, 14]) (.seq (.rgn [⟨none, [(.mv 18 (.t 1)), (.mv 19 (.t 7)), (.callv 20 (.t 18) [(.t 19)]), (.mv 21 (.t 1)), (.mv 22 (.t 5)), (.callv 23 (.t 21) [(.t 22)]), (.bin 24 .lss (.t 20) (.t 23))]⟩] [1, 5, 7, 12, 13, 14, 24]) (.cond (.t 24) (.rgn [⟨none, [(.mv 25 (.t 7)), (.mv 5 (.t 25))]⟩] [1, 5, 12, 13, 14]) .skip)))) (.rgn [⟨none, [(.bin 26 .add (.t 14) (.k (I 1))), (.mv 14 (.t 26))]⟩] [1, 5, 12, 13, 14]))))))) (.seq (.rgn [⟨none, [(.mv 27 (.t 5)), (.mv 4 (.t 27))]⟩] [4]) .ret))))
theorem form83 : formOf Try.prog Try.f83 [4] = some G83 := by kernel_rfl
theorem res83 : resTmps Try.f83.results.toList = some [4] := by kernel_rfl

/-- oxgall/stroke.key -/
def G84 : AC := (.seq (.rgn [⟨none, [(.mv 2 (.k (I 0)))]⟩] [0]) (.seq (.seq (.rgn [⟨none, [(.mv 3 (.t 0)), (.bin 4 .lss (.t 3) (.k (I 0)))]⟩] [0, 4]) (.cond (.t 4) (.seq (.rgn [⟨none, [(.mv 5 (.t 0)), (.bin 6 .mul (.k (I (-2))) (.t 5)), (.bin 7 .sub (.t 6) (.k (I 1))), (.mv 2 (.t 7))]⟩] [2]) .ret) .skip)) (.seq (.rgn [⟨none, [(.mv 8 (.t 0)), (.bin 9 .mul (.k (I 2)) (.t 8)), (.bin 10 .sub (.t 9) (.k (I 2))), (.mv 2 (.t 10))]⟩] [2]) .ret)))
theorem form84 : formOf Try.prog Try.f84 [2] = some G84 := by kernel_rfl
theorem res84 : resTmps Try.f84.results.toList = some [2] := by kernel_rfl

/-- oxgall/oxgallref02.Line -/
def G86 : AC := (.seq (.rgn [⟨none, [(.mv 2 (.k (I 0)))]⟩] [0]) (.seq (.seq (.rgn [⟨none, [(.mv 3 (.t 0)), (.bin 4 .lss (.t 3) (.k (I 0)))]⟩] [0, 4]) (.cond (.t 4) (.seq (.rgn [⟨none, [(.mv 5 (.t 0)), (.bin 6 .sub (.k (I (-1))) (.t 5)), (.mv 2 (.t 6))]⟩] [2]) .ret) .skip)) (.seq (.rgn [⟨none, [(.mv 7 (.t 0)), (.bin 8 .sub (.t 7) (.k (I 1))), (.mv 2 (.t 8))]⟩] [2]) .ret)))
theorem form86 : formOf Try.prog Try.f86 [2] = some G86 := by kernel_rfl
theorem res86 : resTmps Try.f86.results.toList = some [2] := by kernel_rfl

/-- slices.ContainsFunc[[]int,int] -/
def G87 : AC := (.seq (.rgn [⟨none, [(.mv 4 (.k (B false)))]⟩] [0, 1]) (.seq (.rgn [⟨none, [(.mv 5 (.t 0)), (.mv 6 (.t 1)), (.call 7 104 [(.t 5), (.t 6)]), (.bin 8 .geq (.t 7) (.k (I 0))), (.mv 4 (.t 8))]⟩] [4]) .ret))
theorem form87 : formOf Try.prog Try.f87 [4] = some G87 := by kernel_rfl
theorem res87 : resTmps Try.f87.results.toList = some [4] := by kernel_rfl

/-- oxgall/stroke.within$1 -/
def G88 : AC := (.seq (.rgn [⟨none, [(.mv 4 (.k (B false)))]⟩] [0, 1, 2]) (.seq (.rgn [⟨none, [(.mv 5 (.t 0)), (.ld 6 false 1 (.t 1)), (.bin 7 .lss (.t 5) (.t 6)), (.mv 8 (.t 7))]⟩, ⟨(some (8, false)), [(.mv 9 (.t 0)), (.ld 10 false 1 (.t 2)), (.bin 11 .gtr (.t 9) (.t 10))]⟩, ⟨none, [(.pick 12 (.t 8) (.k (B true)) (.t 11)), (.mv 4 (.t 12))]⟩] [4]) .ret))
theorem form88 : formOf Try.prog Try.f88 [4] = some G88 := by kernel_rfl
theorem res88 : resTmps Try.f88.results.toList = some [4] := by kernel_rfl

/-- slices.Index[[][2]int,[2]int] -/
def G89 : AC := (.seq (.rgn [⟨none, [(.box 3 2 (.t 1)), (.mv 4 (.k (I 0)))]⟩] [0, 3]) (.seq (.seq (.rgn [⟨none, [(.mv 6 (.t 0)), (.len 7 (.t 6)), (.mv 8 (.k (I 0)))]⟩] [0, 3, 7, 8]) (.block 0 (.loop (.seq (.rgn [⟨none, [(.bin 9 .lss (.t 8) (.t 7))]⟩] [0, 3, 7, 8, 9]) (.seq (.cond (.t 9) .skip (.exit 0)) (.seq (.block 1 (.seq (.rgn [⟨none, [(.mv 10 (.t 8)), (.mv 5 (.t 10))]⟩] [0, 3, 5, 7, 8]) (.seq (.drw [⟨none, [(.ld 11 true 2 (.t 3)), (.mv 12 (.t 0)), (.mv 13 (.t 5)), (.ia 14 2 (.t 12) (.t 13)), (.ld 15 true 2 (.t 14)), (.eqk 16 false (true, [.int, .int]) (.t 11) (.t 15))]⟩] [(0, 4)] [0, 3, 5, 7, 8, 16]) (.cond (.t 16) (.seq (.rgn [⟨none, [(.mv 17 (.t 5)), (.mv 4 (.t 17))]⟩] [4]) .ret) .skip)))) (.rgn [⟨none, [(.bin 18 .add (.t 8) (.k (I 1))), (.mv 8 (.t 18))]⟩] [0, 3, 7, 8]))))))) (.seq (.rgn [⟨none, [(.mv 4 (.k (I (-1))))]⟩] [4]) .ret)))
theorem form89 : formOf Try.prog Try.f89 [4] = some G89 := by kernel_rfl
theorem res89 : resTmps Try.f89.results.toList = some [4] := by kernel_rfl

/-- slices.Index[[]int,int] -/
def G90 : AC := (.seq (.rgn [⟨none, [(.mv 4 (.k (I 0)))]⟩] [0, 1]) (.seq (.seq (.rgn [⟨none, [(.mv 6 (.t 0)), (.len 7 (.t 6)), (.mv 8 (.k (I 0)))]⟩] [0, 1, 7, 8]) (.block 0 (.loop (.seq (.rgn [⟨none, [(.bin 9 .lss (.t 8) (.t 7))]⟩] [0, 1, 7, 8, 9]) (.seq (.cond (.t 9) .skip (.exit 0)) (.seq (.block 1 (.seq (.rgn [⟨none, [(.mv 10 (.t 8)), (.mv 5 (.t 10))]⟩] [0, 1, 5, 7, 8]) (.seq (.rgn [⟨none, [(.mv 11 (.t 1)), (.mv 12 (.t 0)), (.mv 13 (.t 5)), (.ia 14 1 (.t 12) (.t 13)), (.ld 15 false 1 (.t 14)), (.bin 16 .eql (.t 11) (.t 15))]⟩] [0, 1, 5, 7, 8, 16]) (.cond (.t 16) (.seq (.rgn [⟨none, [(.mv 17 (.t 5)), (.mv 4 (.t 17))]⟩] [4]) .ret) .skip)))) (.rgn [⟨none, [(.bin 18 .add (.t 8) (.k (I 1))), (.mv 8 (.t 18))]⟩] [0, 1, 7, 8]))))))) (.seq (.rgn [⟨none, [(.mv 4 (.k (I (-1))))]⟩] [4]) .ret)))
theorem form90 : formOf Try.prog Try.f90 [4] = some G90 := by kernel_rfl
theorem res90 : resTmps Try.f90.results.toList = some [4] := by kernel_rfl

/-- oxgall/oxgallref02.Key -/
def G99 : AC := (.seq (.rgn [⟨none, [(.mv 2 (.k (I 0)))]⟩] [0]) (.seq (.seq (.rgn [⟨none, [(.mv 3 (.t 0)), (.bin 4 .lss (.t 3) (.k (I 0)))]⟩] [0, 4]) (.cond (.t 4) (.seq (.rgn [⟨none, [(.mv 5 (.t 0)), (.call 6 86 [(.t 5)]), (.bin 7 .mul (.k (I 2)) (.t 6)), (.bin 8 .add (.t 7) (.k (I 1))), (.mv 2 (.t 8))]⟩] [2]) .ret) .skip)) (.seq (.rgn [⟨none, [(.mv 9 (.t 0)), (.call 10 86 [(.t 9)]), (.bin 11 .mul (.k (I 2)) (.t 10)), (.mv 2 (.t 11))]⟩] [2]) .ret)))
theorem form99 : formOf Try.prog Try.f99 [2] = some G99 := by kernel_rfl
theorem res99 : resTmps Try.f99.results.toList = some [2] := by kernel_rfl

/-- oxgall/stroke.line -/
def G100 : AC := (.seq (.rgn [⟨none, [(.mv 2 (.k (I 0)))]⟩] [0]) (.seq (.rgn [⟨none, [(.mv 3 (.t 0)), (.mv 4 (.t 0)), (.un 5 .neg (.t 4)), (.mx 6 true (.t 3) (.t 5)), (.bin 7 .sub (.t 6) (.k (I 1))), (.mv 2 (.t 7))]⟩] [2]) .ret))
theorem form100 : formOf Try.prog Try.f100 [2] = some G100 := by kernel_rfl
theorem res100 : resTmps Try.f100.results.toList = some [2] := by kernel_rfl

/-- slices.IndexFunc[[]int,int] -/
def G104 : AC := (.seq (.rgn [⟨none, [(.mv 4 (.k (I 0)))]⟩] [0, 1]) (.seq (.seq (.rgn [⟨none, [(.mv 6 (.t 0)), (.len 7 (.t 6)), (.mv 8 (.k (I 0)))]⟩] [0, 1, 7, 8]) (.block 0 (.loop (.seq (.rgn [⟨none, [(.bin 9 .lss (.t 8) (.t 7))]⟩] [0, 1, 7, 8, 9]) (.seq (.cond (.t 9) .skip (.exit 0)) (.seq (.block 1 (.seq (.rgn [⟨none, [(.mv 10 (.t 8)), (.mv 5 (.t 10))]⟩] [0, 1, 5, 7, 8]) (.seq (.rgn [⟨none, [(.mv 11 (.t 1)), (.mv 12 (.t 0)), (.mv 13 (.t 5)), (.ia 14 1 (.t 12) (.t 13)), (.ld 15 false 1 (.t 14)), (.callv 16 (.t 11) [(.t 15)])]⟩] [0, 1, 5, 7, 8, 16]) (.cond (.t 16) (.seq (.rgn [⟨none, [(.mv 17 (.t 5)), (.mv 4 (.t 17))]⟩] [4]) .ret) .skip)))) (.rgn [⟨none, [(.bin 18 .add (.t 8) (.k (I 1))), (.mv 8 (.t 18))]⟩] [0, 1, 7, 8]))))))) (.seq (.rgn [⟨none, [(.mv 4 (.k (I (-1))))]⟩] [4]) .ret)))
theorem form104 : formOf Try.prog Try.f104 [4] = some G104 := by kernel_rfl
theorem res104 : resTmps Try.f104.results.toList = some [4] := by kernel_rfl

end Go.AM

/- CONTRACTS, PART 1: strokes as numbers, comparisons of lists. Own work. -/
set_option linter.unusedSimpArgs false
set_option linter.unusedVariables false
namespace Go.AM
open Go.RowKit Go.Proofs

/-- A list of numbers. -/
abbrev Ls (f : Bool) (l : List Int) : AV := .sl f l.length (l.map fun n => I n)

theorem line_ok (n : Int) (h : -1000000 ≤ n ∧ n ≤ 1000000) : PureOK Try.prog 100 [I n] (I (max n (-n) - 1)) := by
  refine pure_of (walk Try.func100 form100 res100 (by show 1 ≤ _; decide) ?_)
  simp (disch := omega) [G100, wrap_id]
  

theorem key_ok (n : Int) (h : -1000000 ≤ n ∧ n ≤ 1000000) : PureOK Try.prog 84 [I n] (I (if n < 0 then -2 * n - 1 else 2 * n - 2)) := by
  refine pure_of (walk Try.func84 form84 res84 (by show 1 ≤ _; decide) ?_)
  simp (disch := omega) [G84, wrap_id]
  refine c_split (fun h => ?_) (fun h => ?_)
  · simp at h; simp (disch := omega) [wrap_id, h]
  · simp at h; simp (disch := omega) [wrap_id]; omega

theorem equal_ok (f g : Bool) (l m : List Int) (hl : l.length ≤ 1000000) (hm : m.length ≤ 1000000) : PureOK Try.prog 26 [Ls f l, Ls g m] (B (decide (l = m))) := by
  refine pure_of (walk Try.func26 form26 res26 (by show 2 ≤ _; decide) ?_)
  simp (disch := omega) [G26, wrap_id]
  refine c_split (fun h => ?_) (fun h => ?_)
  · simp at h; simp (disch := omega) [wrap_id, h]
    intro e; subst e; exact h rfl
  · simp at h; simp (disch := omega) [wrap_id, h]
    refine loop_eq (fun i : Nat => ⟨[(0, Ls f l), (1, Ls g m), (5, I i)], []⟩) (fun i => i ≤ l.length ∧ l.take i = m.take i) (fun i => l.length - i) 0 ⟨by omega, rfl⟩ rfl ?_
    intro i ⟨hi, he⟩
    simp (disch := omega) [wrap_id]
    refine c_split (fun h => ?_) (fun h => ?_)
    · simp at h
      have h2 : i < m.length := by omega
      simp (disch := omega) [wrap_id, cells_ls, h, h2]
      refine c_split (fun h3 => ?_) (fun h3 => ?_)
      · simp at h3; simp (disch := omega) [wrap_id]
        intro e; subst e; exact h3 rfl
      · simp at h3; simp (disch := omega) [wrap_id]
        refine next_eq (i + 1) ⟨by omega, ?_⟩ (by omega) (by simp)
        rw [List.take_add_one, List.take_add_one, he]; simp [h, h2, h3]
    · simp at h; simp (disch := omega) [wrap_id]
      have e1 : l.take i = l := List.take_of_length_le h
      have e2 : m.take i = m := List.take_of_length_le (by omega)
      rw [← e1, he, e2]

/-- The index of the first one, or -1. -/
def idxI {α : Type} (p : α → Bool) (l : List α) : Int := match l.findIdx? p with
  | some k => k
  | none => -1

theorem idxI_some {α : Type} {p : α → Bool} {l : List α} {i : Nat} (h : i < l.length) (hp : p l[i] = true) (hn : ∀ k (hk : k < l.length), k < i → p l[k] = false) : idxI p l = i := by
  have : l.findIdx? p = some i := List.findIdx?_eq_some_iff_getElem.2 ⟨h, hp, fun j hj => by simpa using hn j (by omega) hj⟩
  simp [idxI, this]
theorem idxI_none {α : Type} {p : α → Bool} {l : List α} (hn : ∀ k (hk : k < l.length), p l[k] = false) : idxI p l = -1 := by
  have : l.findIdx? p = none := List.findIdx?_eq_none_iff.2 fun x hx => by
    obtain ⟨k, hk, rfl⟩ := List.getElem_of_mem hx
    exact hn k hk
  simp [idxI, this]
theorem idxI_any {α : Type} (p : α → Bool) (l : List α) : decide (idxI p l ≥ 0) = l.any p := by
  cases h : l.findIdx? p with
  | some k =>
    have h1 : idxI p l = k := by simp [idxI, h]
    obtain ⟨hk, h2, _⟩ := List.findIdx?_eq_some_iff_getElem.1 h
    rw [h1]
    have : l.any p = true := List.any_eq_true.2 ⟨l[k], List.getElem_mem hk, h2⟩
    rw [this]; simp
  | none =>
    have h1 : idxI p l = -1 := by simp [idxI, h]
    have : l.any p = false := by
      rw [List.any_eq_false]; intro x hx
      have := List.findIdx?_eq_none_iff.1 h x hx
      simp [this]
    rw [h1, this]; rfl

theorem within1_w (x lo hi : Int) (a b : Nat) (hp : List HObj) (ha : nthH hp a = some (.cells [I lo])) (hb : nthH hp b = some (.cells [I hi])) (K : AV → List HObj → Prop) (hK : K (B (decide (x < lo) || decide (x > hi))) hp) :
    CallW Try.prog 88 [I x, .ref a 0, .ref b 0] hp K := by
  refine walk Try.func88 form88 res88 (by show 3 ≤ _; decide) ?_
  simp [G88, ha, hb]
  refine gd_split (fun h => ?_) (fun h => ?_)
  · simp at h; simp [ha, hb, h] at hK ⊢; exact hK
  · simp at h; simp [ha, hb, show ¬ x < lo by omega] at hK ⊢; exact hK

theorem indexFunc_w (f : Bool) (l : List Int) (hl : l.length ≤ 1000000) (lo hi : Int) (a b : Nat) (hp : List HObj) (ha : nthH hp a = some (.cells [I lo])) (hb : nthH hp b = some (.cells [I hi])) (K : AV → List HObj → Prop)
    (hK : K (I (idxI (fun x => decide (x < lo) || decide (x > hi)) l)) hp) :
    CallW Try.prog 104 [Ls f l, .fn (.func 88) [] [.ref a 0, .ref b 0]] hp K := by
  refine walk Try.func104 form104 res104 (by show 2 ≤ _; decide) ?_
  simp [G104]
  refine loop_eq (fun i : Nat => ⟨[(0, Ls f l), (1, .fn (.func 88) [] [.ref a 0, .ref b 0]), (7, I l.length), (8, I i)], hp⟩) (fun i => i ≤ l.length ∧ ∀ k (h : k < l.length), k < i → ¬ (l[k] < lo ∨ l[k] > hi)) (fun i => l.length - i) 0 ⟨by omega, fun k _ h => by omega⟩ rfl ?_
  intro i ⟨hi1, hi2⟩
  simp (disch := omega) [wrap_id]
  refine c_split (fun h => ?_) (fun h => ?_)
  · simp at h
    simp (disch := omega) [wrap_id, cells_ls, h]
    refine ⟨by kernel_rfl, within1_w _ _ _ _ _ _ ha hb _ ?_⟩
    simp
    refine c_split (fun h3 => ?_) (fun h3 => ?_)
    · simp
      rw [idxI_some h (by simpa using h3) (fun k hk hk' => by simpa using hi2 k hk hk')] at hK
      exact hK
    · simp (disch := omega) [wrap_id]
      simp at h3
      refine next_eq (i + 1) ⟨by omega, fun k hk hk' => ?_⟩ (by omega) (by simp)
      by_cases e : k = i
      · subst e; exact h3
      · have := hi2 k hk (by omega); omega
  · simp at h
    simp
    rw [idxI_none (fun k hk => by have := hi2 k hk (by omega); simpa using this)] at hK
    exact hK

theorem containsFunc_w (f : Bool) (l : List Int) (hl : l.length ≤ 1000000) (lo hi : Int) (a b : Nat) (hp : List HObj) (ha : nthH hp a = some (.cells [I lo])) (hb : nthH hp b = some (.cells [I hi])) (K : AV → List HObj → Prop)
    (hK : K (B (l.any fun x => decide (x < lo) || decide (x > hi))) hp) :
    CallW Try.prog 87 [Ls f l, .fn (.func 88) [] [.ref a 0, .ref b 0]] hp K := by
  refine walk Try.func87 form87 res87 (by show 2 ≤ _; decide) ?_
  simp [G87]
  refine indexFunc_w f l hl lo hi a b hp ha hb _ ?_
  simp
  rw [← idxI_any] at hK
  exact hK

/-- Whether all numbers are from one to another one. -/
def allIn (lo hi : Int) (l : List Int) : Bool := l.all fun x => decide (lo ≤ x) && decide (x ≤ hi)

theorem allIn_any (lo hi : Int) (l : List Int) : allIn lo hi l = !(l.any fun x => decide (x < lo) || decide (hi < x)) := by
  induction l with
  | nil => rfl
  | cons x l ih =>
    simp only [allIn, List.all_cons, List.any_cons] at ih ⊢
    rw [ih]
    by_cases h1 : lo ≤ x
    · by_cases h2 : x ≤ hi
      · simp [h1, h2, show ¬ x < lo by omega, show ¬ hi < x by omega]
      · simp [h1, h2, show hi < x by omega]
    · simp [h1, show x < lo by omega]

theorem within_ok (lo hi : Int) (f : Bool) (l : List Int) (hl : l.length ≤ 1000000) : PureOK Try.prog 56 [I lo, I hi, Ls f l] (B (allIn lo hi l)) := by
  refine pure_of (walk Try.func56 form56 res56 (by show 3 ≤ _; decide) ?_)
  simp [G56]
  refine containsFunc_w f l hl lo hi 0 1 _ rfl rfl _ ?_
  simp
  exact allIn_any lo hi l

theorem index_ok (f : Bool) (l : List Int) (hl : l.length ≤ 1000000) (v : Int) : PureOK Try.prog 90 [Ls f l, I v] (I (idxI (fun x => v == x) l)) := by
  refine pure_of (walk Try.func90 form90 res90 (by show 2 ≤ _; decide) ?_)
  simp [G90]
  refine loop_eq (fun i : Nat => ⟨[(0, Ls f l), (1, I v), (7, I l.length), (8, I i)], []⟩) (fun i => i ≤ l.length ∧ ∀ k (h : k < l.length), k < i → v ≠ l[k]) (fun i => l.length - i) 0 ⟨by omega, fun k _ h => by omega⟩ rfl ?_
  intro i ⟨hi1, hi2⟩
  simp (disch := omega) [wrap_id]
  refine c_split (fun h => ?_) (fun h => ?_)
  · simp at h
    simp (disch := omega) [wrap_id, cells_ls, h]
    refine c_split (fun h3 => ?_) (fun h3 => ?_)
    · simp
      rw [idxI_some h (by simpa using h3) (fun k hk hk' => by simpa using hi2 k hk hk')]
    · simp (disch := omega) [wrap_id]
      simp at h3
      refine next_eq (i + 1) ⟨by omega, fun k hk hk' => ?_⟩ (by omega) (by simp)
      by_cases e : k = i
      · subst e; exact h3
      · exact hi2 k hk (by omega)
  · simp at h
    simp
    rw [idxI_none (fun k hk => by have := hi2 k hk (by omega); simpa using this)]

theorem idxI_mem {α : Type} [BEq α] [LawfulBEq α] (l : List α) (v : α) : 0 ≤ idxI (fun x => v == x) l ↔ v ∈ l := by
  have := idxI_any (fun x => v == x) l
  constructor
  · intro h
    have h2 : l.any (fun x => v == x) = true := by rw [← this]; simpa using h
    obtain ⟨x, hx, e⟩ := List.any_eq_true.1 h2
    have := LawfulBEq.eq_of_beq e
    rw [this]; exact hx
  · intro h
    have h2 : l.any (fun x => v == x) = true := List.any_eq_true.2 ⟨v, h, by simp⟩
    rw [h2] at this
    simpa using this

theorem contains_ok (f : Bool) (l : List Int) (hl : l.length ≤ 1000000) (v : Int) : PureOK Try.prog 58 [Ls f l, I v] (B (l.contains v)) := by
  refine pure_of (walk Try.func58 form58 res58 (by show 2 ≤ _; decide) ?_)
  simp [G58]
  refine callW_pure rfl (index_ok f l hl v) ?_
  simp
  exact (idxI_mem l v).symm

/-- Pairs of numbers, laid flat. -/
def flat2 (c : List (Int × Int)) : List AV := c.flatMap fun p => [I p.1, I p.2]
abbrev Ps (f : Bool) (c : List (Int × Int)) : AV := .sl f c.length (flat2 c)
abbrev Pr (p : Int × Int) : AV := .agg [I p.1, I p.2]

theorem flat2_len (c : List (Int × Int)) : (flat2 c).length = c.length * 2 := by
  induction c with
  | nil => rfl
  | cons p c ih => simp [flat2] at ih ⊢; omega

theorem flat2_drop (c : List (Int × Int)) (i : Nat) : (flat2 c).drop (i * 2) = flat2 (c.drop i) := by
  induction i generalizing c with
  | zero => simp
  | succ i ih =>
    cases c with
    | nil => simp [flat2]
    | cons p c =>
      have : (i + 1) * 2 = i * 2 + 1 + 1 := by omega
      rw [this]
      simp only [List.drop_succ_cons]
      rw [← ih c]
      rfl

theorem flat2_take (c : List (Int × Int)) (i : Nat) : (flat2 c).take (i * 2) = flat2 (c.take i) := by
  induction i generalizing c with
  | zero => simp [flat2]
  | succ i ih =>
    cases c with
    | nil => simp [flat2]
    | cons p c =>
      have : (i + 1) * 2 = i * 2 + 1 + 1 := by omega
      rw [this]
      show _ :: _ :: List.take (i * 2) (flat2 c) = _
      rw [ih c]
      rfl

theorem flat2_view {c : List (Int × Int)} {i : Nat} (h : i < c.length) : ((flat2 c).drop (i * 2)).take 2 = [I c[i].1, I c[i].2] := by
  rw [flat2_drop, List.drop_eq_getElem_cons h]
  rfl

theorem cells_pair {c : List (Int × Int)} {i : Nat} {K : AV → List (Nat × HObj) → Prop} (h : i < c.length) : CellsW (flat2 c) (i * 2) 2 true K = K (Pr (c.getD i (0, 0))) [] := by
  have := flat2_len c
  simp only [CellsW, view, flat2_view h]
  simp [h]
  intro _; omega

theorem bing_pair {neg : Bool} {p q : Int × Int} {K : AV → List (Nat × HObj) → Prop} : EqkW neg (true, [.int, .int]) (Pr p) (Pr q) K = K (B (neg != decide (p = q))) [] := eqk_pair

theorem bing_pair2 {neg : Bool} {a b c d : Int} {K : AV → List (Nat × HObj) → Prop} : EqkW neg (true, [.int, .int]) (.agg [I a, I b]) (.agg [I c, I d]) K = K (B (neg != decide ((a, b) = (c, d)))) [] := eqk_pair

end Go.AM

/- CONTRACTS, PART 2: benches and lists. Own work. -/
set_option linter.unusedSimpArgs false
set_option linter.unusedVariables false
namespace Go.AM
open Go.RowKit Go.Proofs

theorem indexP_ok (f : Bool) (l : List (Int × Int)) (hl : l.length ≤ 1000000) (v : Int × Int) : PureOK Try.prog 89 [Ps f l, Pr v] (I (idxI (fun x => v == x) l)) := by
  refine pure_of (walk Try.func89 form89 res89 (by show 2 ≤ _; decide) ?_)
  simp [G89]
  refine loop_eq (fun i : Nat => ⟨[(0, Ps f l), (3, .ref 0 0), (7, I l.length), (8, I i)], [.cells [I v.1, I v.2]]⟩) (fun i => i ≤ l.length ∧ ∀ k (h : k < l.length), k < i → v ≠ l[k]) (fun i => l.length - i) 0 ⟨by omega, fun k _ h => by omega⟩ rfl ?_
  intro i ⟨hi1, hi2⟩
  simp (disch := omega) [wrap_id]
  refine c_split (fun h => ?_) (fun h => ?_)
  · simp at h
    simp (disch := omega) [wrap_id, cells_pair, flat2_len, h, bing_pair]
    refine c_split (fun h3 => ?_) (fun h3 => ?_)
    · simp
      rw [idxI_some h (by simpa using h3) (fun k hk hk' => by simpa using hi2 k hk hk')]
    · simp (disch := omega) [wrap_id]
      simp at h3
      refine next_eq (i + 1) ⟨by omega, fun k hk hk' => ?_⟩ (by omega) (by simp)
      by_cases e : k = i
      · subst e; exact h3
      · exact hi2 k hk (by omega)
  · simp at h
    simp
    rw [idxI_none (fun k hk => by have := hi2 k hk (by omega); simpa using this)]

theorem containsP_ok (f : Bool) (l : List (Int × Int)) (hl : l.length ≤ 1000000) (v : Int × Int) : PureOK Try.prog 57 [Ps f l, Pr v] (B (l.contains v)) := by
  refine pure_of (walk Try.func57 form57 res57 (by show 2 ≤ _; decide) ?_)
  simp [G57]
  refine callW_pure rfl (indexP_ok f l hl v) ?_
  simp
  exact (idxI_mem l v).symm

/-- A bench. -/
structure Bch where
  L : Int
  c : List (Int × Int)

abbrev Bn (f : Bool) (b : Bch) : AV := .agg [I b.L, Ps f b.c]

/-- Whether the pair at an index may stand there. -/
def pairB (b : Bch) (i : Nat) : Bool := decide (0 ≤ (b.c.getD i (0, 0)).1) && decide ((b.c.getD i (0, 0)).1 < (b.c.getD i (0, 0)).2) && decide ((b.c.getD i (0, 0)).2 < b.L) && !(b.c.take i).contains (b.c.getD i (0, 0))

def chkB (b : Bch) : Int := if b.L < 1 ∨ b.L > 8 ∨ b.c.length > 28 then 6 else if (List.range b.c.length).all (pairB b) then 0 else 2

theorem range_all {n : Nat} {p : Nat → Bool} : (List.range n).all p = true ↔ ∀ k, k < n → p k = true := by simp [List.all_eq_true]

theorem isStroke_ok (f : Bool) (b : Bch) (hb : -1000000 ≤ b.L ∧ b.L ≤ 1000000) (n : Int) : PureOK Try.prog 51 [Bn f b, I n] (B ((decide (1 ≤ n) && decide (n ≤ b.L)) || (decide (n ≤ -1) && decide (-b.L ≤ n)))) := by
  refine pure_of (walk Try.func51 form51 res51 (by show 2 ≤ _; decide) ?_)
  by_cases h1 : 1 ≤ n <;> by_cases h2 : n ≤ b.L <;> by_cases h3 : n ≤ -1 <;> by_cases h4 : -b.L ≤ n <;> simp (disch := omega) [G51, wrap_id, h1, h2, h3, h4]

theorem refLine_ok (n : Int) (h : -1000000 ≤ n ∧ n ≤ 1000000) : PureOK Try.prog 86 [I n] (I (if n < 0 then -1 - n else n - 1)) := by
  refine pure_of (walk Try.func86 form86 res86 (by show 1 ≤ _; decide) ?_)
  by_cases h1 : n < 0 <;> simp (disch := omega) [G86, wrap_id, h1]

def lineI (n : Int) : Int := if n < 0 then -1 - n else n - 1
def canB (b : Bch) (x y : Int) : Bool := !(lineI x == lineI y) && !(b.c.contains (min (lineI x) (lineI y), max (lineI x) (lineI y)))

theorem refCan_ok (f : Bool) (b : Bch) (hb : b.c.length ≤ 1000000) (x y : Int) (hx : -1000000 ≤ x ∧ x ≤ 1000000) (hy : -1000000 ≤ y ∧ y ≤ 1000000) : PureOK Try.prog 52 [Bn f b, I x, I y] (B (canB b x y)) := by
  refine pure_of (walk Try.func52 form52 res52 (by show 3 ≤ _; decide) ?_)
  simp (disch := omega) [G52, wrap_id]
  refine callW_pure rfl (refLine_ok x hx) ?_
  simp (disch := omega) [wrap_id]
  refine callW_pure rfl (refLine_ok y hy) ?_
  simp (disch := omega) [wrap_id]
  rw [show (if x < 0 then -1 - x else x - 1) = lineI x from rfl, show (if y < 0 then -1 - y else y - 1) = lineI y from rfl]
  refine c_split (fun hne => ?_) (fun hne => ?_)
  · simp at hne
    simp [canB, hne]
  · simp at hne
    simp
    refine loop_eq (fun i : Nat => ⟨[(3, .ref 0 0), (7, I (lineI x)), (8, I (lineI y)), (9, I i)], [.cells [I b.L, Ps f b.c]]⟩) (fun i => i ≤ b.c.length ∧ ∀ k (h : k < b.c.length), k < i → b.c[k] ≠ (min (lineI x) (lineI y), max (lineI x) (lineI y))) (fun i => b.c.length - i) 0 ⟨by omega, fun k _ h => by omega⟩ rfl ?_
    intro i ⟨hi1, hi2⟩
    simp (disch := omega) [wrap_id]
    refine c_split (fun h => ?_) (fun h => ?_)
    · simp at h
      simp (disch := omega) [wrap_id, cells_pair, flat2_len, h, bing_pair2, placeF]
      refine c_split (fun h3 => ?_) (fun h3 => ?_)
      · simp at h3
        simp [canB]
        intro _
        rw [← h3.1, ← h3.2]; exact List.getElem_mem h
      · simp (disch := omega) [wrap_id]
        simp at h3
        refine next_eq (i + 1) ⟨by omega, fun k hk hk' => ?_⟩ (by omega) (by simp)
        by_cases e : k = i
        · subst e; intro e; rw [e] at h3; simp at h3
        · exact hi2 k hk (by omega)
    · simp at h
      simp [canB, hne]
      intro hm
      obtain ⟨k, hk, e⟩ := List.getElem_of_mem hm
      exact hi2 k hk (by omega) e

theorem pairB_def {b : Bch} {i : Nat} (h : i < b.c.length) : pairB b i = (decide (0 ≤ b.c[i].1) && decide (b.c[i].1 < b.c[i].2) && decide (b.c[i].2 < b.L) && !(b.c.take i).contains b.c[i]) := by
  have : b.c.getD i (0, 0) = b.c[i] := by simp [h]
  simp only [pairB, this]

theorem not_take {c : List (Int × Int)} {i : Nat} (h : i < c.length) (hn : ∀ m (hm : m < c.length), m < i → c[m] ≠ c[i]) : (c.take i).contains c[i] = false := by
  simp only [List.contains_eq_mem, decide_eq_false_iff_not]
  intro hm
  obtain ⟨k, hk, e⟩ := List.getElem_of_mem hm
  have hk2 := hk
  rw [List.length_take] at hk2
  rw [List.getElem_take] at e
  exact hn k (by omega) (by omega) e

theorem in_take {c : List (Int × Int)} {i k : Nat} (h : i < c.length) (hk : k < i) (e : c[k] = c[i]) : (c.take i).contains c[i] = true := by
  simp only [List.contains_eq_mem, decide_eq_true_eq]
  rw [← e]
  have : (c.take i)[k]'(by simp; omega) = c[k] := by rw [List.getElem_take]
  rw [← this]; exact List.getElem_mem _

theorem chkB_bad {b : Bch} {i : Nat} (h1 : ¬ b.L < 1) (h2 : ¬ 8 < b.L) (h3 : ¬ 28 < b.c.length) (h : i < b.c.length) (hb : pairB b i = false) : chkB b = 2 := by
  simp only [chkB]
  rw [if_neg (by omega), if_neg]
  intro ha
  have := range_all.1 ha i h
  rw [hb] at this; cases this

theorem refBench_ok (f : Bool) (b : Bch) (hb : b.c.length ≤ 1000000) : PureOK Try.prog 21 [Bn f b] (I (chkB b)) := by
  refine pure_of (walk Try.func21 form21 res21 (by show 1 ≤ _; decide) ?_)
  by_cases h1 : b.L < 1
  · simp (disch := omega) [G21, wrap_id, h1, chkB]
  by_cases h2 : 8 < b.L
  · simp (disch := omega) [G21, wrap_id, h1, h2, chkB]
  by_cases h3 : (28 : Int) < b.c.length
  · have h3' : 28 < b.c.length := by omega
    simp (disch := omega) [G21, wrap_id, h1, h2, h3, h3', chkB]
  have h3' : ¬ 28 < b.c.length := by omega
  simp (disch := omega) [G21, wrap_id, h1, h2, h3]
  refine loop_eq (fun p : Nat × List HObj => ⟨[(1, .ref 0 0), (3, I p.1)], .cells [I b.L, Ps f b.c] :: p.2⟩) (fun p => p.1 ≤ b.c.length ∧ ∀ k, k < p.1 → pairB b k = true) (fun p => b.c.length - p.1) (0, []) ⟨by simp, fun k h => by simp at h⟩ rfl ?_
  rintro ⟨i, junk⟩ ⟨hi1, hi2⟩
  simp at hi1 hi2
  simp (disch := omega) [wrap_id]
  refine c_split (fun h => ?_) (fun h => ?_)
  · simp at h
    simp (disch := omega) [wrap_id, cells_pair, flat2_len, h]
    have gd : (b.c.getD i (0, 0)) = b.c[i] := by simp [h]
    by_cases a1 : b.c[i].1 < 0
    · simp (disch := omega) [wrap_id, a1]
      exact (chkB_bad h1 h2 h3' h (by rw [pairB_def h]; simp; omega))
    by_cases a2 : b.c[i].2 ≤ b.c[i].1
    · simp (disch := omega) [wrap_id, a1, a2]
      exact (chkB_bad h1 h2 h3' h (by rw [pairB_def h]; simp; omega))
    by_cases a3 : b.L ≤ b.c[i].2
    · simp (disch := omega) [wrap_id, a1, a2, a3]
      exact (chkB_bad h1 h2 h3' h (by rw [pairB_def h]; simp; omega))
    simp (disch := omega) [wrap_id, a1, a2, a3]
    refine loop_eq (fun k : Nat => ⟨[(1, .ref 0 0), (3, I i), (4, .ref (junk.length + 1) 0), (5, I k)], .cells [I b.L, Ps f b.c] :: (junk ++ [.cells [I b.c[i].1, I b.c[i].2]])⟩) (fun k => k ≤ i ∧ ∀ m (hm : m < b.c.length), m < k → b.c[m] ≠ b.c[i]) (fun k => i - k) 0 ⟨by omega, fun k _ h => by omega⟩ rfl ?_
    intro k ⟨hk1, hk2⟩
    simp (disch := omega) [wrap_id]
    refine c_split (fun hk => ?_) (fun hk => ?_)
    · simp at hk
      have hk' : k < b.c.length := by omega
      simp (disch := omega) [wrap_id, cells_pair, flat2_len, h, hk', bing_pair2]
      refine c_split (fun e => ?_) (fun e => ?_)
      · have e' : b.c[k] = b.c[i] := by simpa [Prod.ext_iff] using e
        simp (disch := omega) [wrap_id]
        exact (chkB_bad h1 h2 h3' h (by rw [pairB_def h, in_take h hk e']; simp))
      · have e' : b.c[k] ≠ b.c[i] := by intro e'; rw [e'] at e; simp at e
        simp (disch := omega) [wrap_id]
        refine next_eq (k + 1) ⟨by omega, fun m hm hm' => ?_⟩ (by omega) (by simp)
        by_cases e2 : m = k
        · subst e2; exact e'
        · exact hk2 m hm (by omega)
    · simp at hk
      simp (disch := omega) [wrap_id]
      refine next_eq (i + 1, junk ++ [.cells [I b.c[i].1, I b.c[i].2]]) ⟨by simp; omega, fun m hm => ?_⟩ (by simp; omega) (by simp)
      simp at hm
      by_cases e2 : m = i
      · subst e2
        have hki : k = m := by omega
        subst hki
        rw [pairB_def h, not_take h (fun m hm hm' => hk2 m hm hm')]
        simp; omega
      · exact hi2 m (by omega)
  · simp at h
    simp [chkB, h1, h2, h3']
    intro k hk
    exact hi2 k (by omega)

theorem containsP_n (f : Bool) {n : Nat} (l : List (Int × Int)) (hn : n = l.length) (hl : l.length ≤ 1000000) (v : Int × Int) : PureOK Try.prog 57 [.sl f n (flat2 l), Pr v] (B (l.contains v)) := by
  subst hn; exact containsP_ok f l hl v

theorem bench_ok (f : Bool) (b : Bch) (hb : b.c.length ≤ 1000000) : PureOK Try.prog 20 [Bn f b] (I (chkB b)) := by
  refine pure_of (walk Try.func20 form20 res20 (by show 1 ≤ _; decide) ?_)
  simp (disch := omega) [G20, wrap_id]
  refine bsl_of rfl rfl ?_
  simp (disch := omega) [wrap_id, zrep]
  refine callW_pure rfl (within_ok 1 8 true [b.L] (by simp)) ?_
  simp (disch := omega) [wrap_id, allIn]
  by_cases h1 : b.L < 1
  · simp (disch := omega) [wrap_id, chkB, h1, show ¬ 1 ≤ b.L by omega]
  by_cases h2 : 8 < b.L
  · simp (disch := omega) [wrap_id, chkB, h1, h2, show 1 ≤ b.L by omega, show ¬ b.L ≤ 8 by omega]
  have h1' : 1 ≤ b.L := by omega
  have h2' : b.L ≤ 8 := by omega
  by_cases h3 : (28 : Int) < b.c.length
  · have h3' : 28 < b.c.length := by omega
    simp (disch := omega) [wrap_id, h1', h2', h3, h3', chkB]
  have h3' : ¬ 28 < b.c.length := by omega
  simp (disch := omega) [wrap_id, h1', h2', h3]
  refine loop_eq (fun p : Nat × List HObj => ⟨[(1, .ref 0 0), (17, Ps f b.c), (18, I b.c.length), (19, I p.1)], .cells [I b.L, Ps f b.c] :: p.2⟩) (fun p => p.1 ≤ b.c.length ∧ ∀ k, k < p.1 → pairB b k = true) (fun p => b.c.length - p.1) (0, []) ⟨by simp, fun k h => by simp at h⟩ rfl ?_
  rintro ⟨i, junk⟩ ⟨hi1, hi2⟩
  simp at hi1 hi2
  simp (disch := omega) [wrap_id]
  refine c_split (fun h => ?_) (fun h => ?_)
  · simp at h
    simp (disch := omega) [wrap_id, cells_pair, flat2_len, h]
    refine bsl_of rfl rfl ?_
    simp (disch := omega) [wrap_id, zrep]
    refine pureW_of rfl (within_ok 0 (b.L - 1) true [b.c[i].1, b.c[i].2] (by simp)) ?_
    simp (disch := omega) [wrap_id, allIn]
    by_cases hA : 0 ≤ b.c[i].1 ∧ b.c[i].1 ≤ b.L - 1 ∧ 0 ≤ b.c[i].2 ∧ b.c[i].2 ≤ b.L - 1
    · obtain ⟨g1, g2, g3, g4⟩ := hA
      by_cases a2 : b.c[i].2 ≤ b.c[i].1
      · simp (disch := omega) [wrap_id, g1, g2, g3, g4, a2]
        exact chkB_bad h1 h2 h3' h (by rw [pairB_def h]; simp; omega)
      simp (disch := omega) [wrap_id, g1, g2, g3, g4, a2, flat2_take, flat2_len, show i ≤ b.c.length by omega]
      refine pureW_of rfl (containsP_n _ (b.c.take i) (by simp; omega) (by simp; omega) (b.c[i].1, b.c[i].2)) ?_
      simp (disch := omega) [wrap_id]
      have pe : (b.c[i].1, b.c[i].2) = b.c[i] := rfl
      refine c_split (fun e => ?_) (fun e => ?_)
      · simp (disch := omega) [wrap_id]
        exact chkB_bad h1 h2 h3' h (by rw [pairB_def h]; simp at e ⊢; intros; exact e)
      · simp (disch := omega) [wrap_id]
        refine next_eq (i + 1, junk ++ [.cells [I b.c[i].1, I b.c[i].2]]) ⟨by simp; omega, fun m hm => ?_⟩ (by simp; omega) (by simp)
        simp at hm
        by_cases e2 : m = i
        · subst e2
          rw [pairB_def h]
          simp at e ⊢
          exact ⟨⟨⟨by omega, by omega⟩, by omega⟩, e⟩
        · exact hi2 m (by omega)
    · have e : (!decide (0 ≤ b.c[i].1) || !decide (b.c[i].1 ≤ b.L - 1) || (!decide (0 ≤ b.c[i].2) || !decide (b.c[i].2 ≤ b.L - 1))) = true := by
        simp; omega
      simp only [e]
      simp (disch := omega) [wrap_id]
      exact chkB_bad h1 h2 h3' h (by rw [pairB_def h]; simp; omega)
  · simp at h
    simp [chkB, h1, h2, h3']
    intro k hk
    exact hi2 k (by omega)

end Go.AM

/- CONTRACTS, PART 3: lists of strokes. Own work. -/
set_option linter.unusedSimpArgs false
set_option linter.unusedVariables false
namespace Go.AM
open Go.RowKit Go.Proofs

def strokeB (b : Bch) (n : Int) : Bool := (decide (1 ≤ n) && decide (n ≤ b.L)) || (decide (n ≤ -1) && decide (-b.L ≤ n))

def chkL (b : Bch) (l : List Int) : Int := if chkB b ≠ 0 then chkB b else if 60 < l.length then 6 else if l.all (strokeB b) then 0 else 3

theorem chkB_zero {b : Bch} (h : chkB b = 0) : 1 ≤ b.L ∧ b.L ≤ 8 ∧ b.c.length ≤ 28 := by
  simp only [chkB] at h
  split at h
  · omega
  · omega

theorem all_stroke (b : Bch) (l : List Int) : l.all (strokeB b) = (allIn (-b.L) b.L l && !l.contains 0) := by
  induction l with
  | nil => rfl
  | cons x l ih =>
    simp only [allIn, List.all_cons, List.contains_cons] at ih ⊢
    rw [ih]
    by_cases h0 : x = 0
    · subst h0; simp [strokeB]
    · have e : strokeB b x = (decide (-b.L ≤ x) && decide (x ≤ b.L)) := by
        rw [Bool.eq_iff_iff]; simp [strokeB]; omega
      have h0' : ((0 : Int) == x) = false := by simp; omega
      rw [e, h0']
      simp [Bool.and_assoc, Bool.and_left_comm]

theorem list_ok (f g : Bool) (b : Bch) (l : List Int) (hb : b.c.length ≤ 1000000) (hl : l.length ≤ 1000000) : PureOK Try.prog 22 [Bn f b, Ls g l] (I (chkL b l)) := by
  refine pure_of (walk Try.func22 form22 res22 (by show 2 ≤ _; decide) ?_)
  simp (disch := omega) [G22, wrap_id]
  refine callW_pure rfl (bench_ok f b hb) ?_
  simp (disch := omega) [wrap_id]
  refine c_split (fun h0 => ?_) (fun h0 => ?_)
  · simp at h0
    simp [chkL, h0]
  simp at h0
  obtain ⟨k1, k2, k3⟩ := chkB_zero h0
  simp (disch := omega) [wrap_id]
  refine c_split (fun h1 => ?_) (fun h1 => ?_)
  · simp at h1
    have h1' : 60 < l.length := by omega
    simp [chkL, h0, h1']
  simp at h1
  have h1' : ¬ 60 < l.length := by omega
  simp (disch := omega) [wrap_id]
  refine callW_pure rfl (within_ok (-b.L) b.L g l hl) ?_
  simp (disch := omega) [wrap_id]
  cases ha : allIn (-b.L) b.L l with
  | false =>
    simp (disch := omega) [wrap_id]
    simp [chkL, h0, h1', all_stroke, ha]
  | true =>
    simp (disch := omega) [wrap_id]
    refine callW_pure rfl (contains_ok g l hl 0) ?_
    simp (disch := omega) [wrap_id]
    refine c_split (fun h2 => ?_) (fun h2 => ?_)
    · simp at h2
      simp [chkL, h0, h1', all_stroke, ha, h2]
    · simp at h2
      simp [chkL, h0, h1', all_stroke, ha, h2]

theorem refList_ok (f g : Bool) (b : Bch) (l : List Int) (hb : b.c.length ≤ 1000000) (hl : l.length ≤ 1000000) : PureOK Try.prog 23 [Bn f b, Ls g l] (I (chkL b l)) := by
  refine pure_of (walk Try.func23 form23 res23 (by show 2 ≤ _; decide) ?_)
  simp (disch := omega) [G23, wrap_id]
  refine callW_pure rfl (refBench_ok f b hb) ?_
  simp (disch := omega) [wrap_id]
  refine c_split (fun h0 => ?_) (fun h0 => ?_)
  · simp at h0
    simp (disch := omega) [wrap_id]
    refine callW_pure rfl (refBench_ok f b hb) ?_
    simp [chkL, h0]
  simp at h0
  obtain ⟨k1, k2, k3⟩ := chkB_zero h0
  simp (disch := omega) [wrap_id]
  refine c_split (fun h1 => ?_) (fun h1 => ?_)
  · simp at h1
    have h1' : 60 < l.length := by omega
    simp [chkL, h0, h1']
  simp at h1
  have h1' : ¬ 60 < l.length := by omega
  simp (disch := omega) [wrap_id]
  refine loop_eq (fun i : Nat => ⟨[(1, Ls g l), (2, .ref 0 0), (5, I i)], [.cells [I b.L, Ps f b.c]]⟩) (fun i => i ≤ l.length ∧ ∀ k (h : k < l.length), k < i → strokeB b l[k] = true) (fun i => l.length - i) 0 ⟨by omega, fun k _ h => by omega⟩ rfl ?_
  intro i ⟨hi1, hi2⟩
  simp (disch := omega) [wrap_id]
  refine c_split (fun h => ?_) (fun h => ?_)
  · simp at h
    simp (disch := omega) [wrap_id, cells_ls, h]
    refine pureW_of rfl (isStroke_ok f b (by omega) l[i]) ?_
    rw [show ((decide (1 ≤ l[i]) && decide (l[i] ≤ b.L)) || (decide (l[i] ≤ -1) && decide (-b.L ≤ l[i]))) = strokeB b l[i] from rfl]
    simp (disch := omega) [wrap_id]
    refine c_split (fun h2 => ?_) (fun h2 => ?_)
    · simp at h2
      simp (disch := omega) [wrap_id]
      have : l.all (strokeB b) = false := by
        rw [List.all_eq_false]; exact ⟨l[i], List.getElem_mem h, by simp [h2]⟩
      simp only [chkL, h0, h1', this]; simp
    · simp at h2
      simp (disch := omega) [wrap_id]
      refine next_eq (i + 1) ⟨by omega, fun k hk hk' => ?_⟩ (by omega) (by simp)
      by_cases e : k = i
      · subst e; exact h2
      · exact hi2 k hk (by omega)
  · simp at h
    simp (disch := omega) [wrap_id]
    have : l.all (strokeB b) = true := by
      rw [List.all_eq_true]
      intro x hx
      obtain ⟨k, hk, rfl⟩ := List.getElem_of_mem hx
      exact hi2 k hk (by omega)
    simp only [chkL, h0, h1', this]; simp

end Go.AM

/- THE COMPILED FORMS of functions of the program, each held against its body by the kernel. Own work (printed by a program of this claim). -/
set_option maxRecDepth 100000
namespace Go.AM
open Go.RowKit Go.Proofs

/-- oxgall/stroke.Chain -/
def G29 : AC := (.seq (.rgn [⟨none, [(.box 3 2 (.t 0)), (.mv 6 (.k (.sl true 0 []))), (.mv 7 (.k (I 0)))]⟩] [1, 2, 3]) (.seq (.seq (.rgn [⟨none, [(.ld 10 true 2 (.t 3)), (.mv 11 (.t 1)), (.mv 12 (.t 2)), (.call 13 27 [(.t 10), (.t 11), (.t 12)]), (.mv 8 (.t 13))]⟩] [1, 2, 3, 8]) (.seq (.rgn [⟨none, [(.mv 14 (.t 8)), (.bin 15 .neq (.t 14) (.k (I 0)))]⟩] [1, 2, 3, 8, 15]) (.cond (.t 15) (.seq (.rgn [⟨none, [(.mv 16 (.t 8)), (.mv 6 (.k (.sl true 0 []))), (.mv 7 (.t 16))]⟩] [6, 7]) .ret) .skip))) (.seq (.rgn [⟨none, [(.ld 17 true 2 (.t 3)), (.call 18 63 [(.t 17)]), (.mv 9 (.t 18))]⟩] [1, 2, 9]) (.seq (.rgn [⟨none, [(.mv 19 (.t 9)), (.mv 20 (.t 1)), (.call 21 64 [(.t 19), (.t 20)]), (.mv 22 (.t 9)), (.mv 23 (.t 9)), (.mv 24 (.t 2)), (.call 25 64 [(.t 23), (.t 24)]), (.mv 26 (.t 2)), (.call 27 65 [(.t 22), (.t 25), (.t 26)]), (.app 28 3 24 (.t 21) (.t 27)), (.mv 6 (.t 28)), (.mv 7 (.k (I 0)))]⟩] [6, 7]) .ret))))
theorem form29 : formOf Try.prog Try.f29 [6, 7] = some G29 := by kernel_rfl
theorem res29 : resTmps Try.f29.results.toList = some [6, 7] := by kernel_rfl

/-- oxgall/stroke.CheckChain -/
def G30 : AC := (.seq (.rgn [⟨none, [(.box 4 2 (.t 0)), (.mv 8 (.k (I 0)))]⟩] [1, 2, 3, 4]) (.seq (.rgn [⟨none, [(.ld 15 true 2 (.t 4)), (.mv 16 (.t 1)), (.mv 17 (.t 2)), (.bsl 18 2 1 [(.sl true 0 [])] [(0, (.t 16)), (1, (.t 17))]), (.call 19 59 [(.t 15), (.t 18)]), (.mv 14 (.t 19)), (.ext 20 (.t 14) 0), (.ext 21 (.t 14) 1), (.mv 9 (.t 20)), (.mv 10 (.t 21))]⟩] [1, 2, 3, 9, 10]) (.seq (.block 0 (.seq (.rgn [⟨none, [(.mv 23 (.t 10)), (.bin 24 .neq (.t 23) (.k (I 0))), (.mv 22 (.t 24))]⟩] [1, 2, 3, 9, 10, 22]) (.cond (.t 22) (.seq (.rgn [⟨none, [(.mv 25 (.t 10)), (.mv 8 (.t 25))]⟩] [8]) .ret) (.seq (.rgn [⟨none, [(.mv 27 (.t 3)), (.len 28 (.t 27)), (.bin 29 .gtr (.t 28) (.k (I 8192))), (.mv 26 (.t 29))]⟩] [1, 2, 3, 9, 26]) (.cond (.t 26) (.seq (.rgn [⟨none, [(.mv 8 (.k (I 6)))]⟩] [8]) .ret) .skip))))) (.seq (.rgn [⟨none, [(.mv 30 (.t 1)), (.call 31 66 [(.t 30)]), (.mv 11 (.t 31))]⟩] [2, 3, 9, 11]) (.seq (.seq (.rgn [⟨none, [(.mv 32 (.t 3)), (.len 33 (.t 32)), (.mv 34 (.k (I 0)))]⟩] [2, 9, 11, 32, 33, 34]) (.block 1 (.loop (.seq (.rgn [⟨none, [(.bin 35 .lss (.t 34) (.t 33))]⟩] [2, 9, 11, 32, 33, 34, 35]) (.seq (.cond (.t 35) .skip (.exit 1)) (.seq (.block 2 (.seq (.rgn [⟨none, [(.ia 36 3 (.t 32) (.t 34)), (.ld 37 true 3 (.t 36)), (.al 13 [(I 0), (I 0), (I 0)]), (.st 3 (.t 13) (.t 37))]⟩] [2, 9, 11, 13, 32, 33, 34]) (.seq (.seq (.rgn [⟨none, [(.mv 38 (.t 9)), (.mv 39 (.t 11)), (.ld 40 true 3 (.t 13)), (.call 41 67 [(.t 38), (.t 39), (.t 40)]), (.un 42 .not (.t 41))]⟩] [2, 9, 11, 13, 32, 33, 34, 42]) (.cond (.t 42) (.seq (.rgn [⟨none, [(.mv 8 (.k (I 16)))]⟩] [8]) .ret) .skip)) (.seq (.rgn [⟨none, [(.mv 43 (.t 9)), (.mv 44 (.t 11)), (.ld 45 true 3 (.t 13)), (.call 46 68 [(.t 43), (.t 44), (.t 45)]), (.mv 11 (.t 46))]⟩] [2, 9, 11, 32, 33, 34]) (.seq (.rgn [⟨none, [(.mv 47 (.t 11)), (.len 48 (.t 47)), (.bin 49 .gtr (.t 48) (.k (I 120)))]⟩] [2, 9, 11, 32, 33, 34, 49]) (.cond (.t 49) (.seq (.rgn [⟨none, [(.mv 8 (.k (I 4)))]⟩] [8]) .ret) .skip)))))) (.rgn [⟨none, [(.bin 50 .add (.t 34) (.k (I 1))), (.mv 34 (.t 50))]⟩] [2, 9, 11, 32, 33, 34]))))))) (.seq (.seq (.rgn [⟨none, [(.mv 51 (.t 11)), (.mv 52 (.t 2)), (.call 53 61 [(.t 51), (.t 52)]), (.un 54 .not (.t 53))]⟩] [54]) (.cond (.t 54) (.seq (.rgn [⟨none, [(.mv 8 (.k (I 18)))]⟩] [8]) .ret) .skip)) (.seq (.rgn [⟨none, [(.mv 8 (.k (I 0)))]⟩] [8]) .ret)))))))
theorem form30 : formOf Try.prog Try.f30 [8] = some G30 := by kernel_rfl
theorem res30 : resTmps Try.f30.results.toList = some [8] := by kernel_rfl

/-- oxgall/oxgallref02.CheckChain -/
def G31 : AC := (.seq (.rgn [⟨none, [(.box 4 2 (.t 0)), (.mv 8 (.k (I 0)))]⟩] [1, 2, 3, 4]) (.seq (.seq (.rgn [⟨none, [(.ld 13 true 2 (.t 4)), (.mv 14 (.t 1)), (.mv 15 (.t 2)), (.call 16 62 [(.t 13), (.t 14), (.t 15)]), (.bin 17 .neq (.t 16) (.k (I 0)))]⟩] [1, 2, 3, 4, 17]) (.cond (.t 17) (.seq (.rgn [⟨none, [(.ld 18 true 2 (.t 4)), (.mv 19 (.t 1)), (.mv 20 (.t 2)), (.call 21 62 [(.t 18), (.t 19), (.t 20)]), (.mv 8 (.t 21))]⟩] [8]) .ret) .skip)) (.seq (.seq (.rgn [⟨none, [(.mv 22 (.t 3)), (.len 23 (.t 22)), (.bin 24 .gtr (.t 23) (.k (I 8192)))]⟩] [1, 2, 3, 4, 24]) (.cond (.t 24) (.seq (.rgn [⟨none, [(.mv 8 (.k (I 6)))]⟩] [8]) .ret) .skip)) (.seq (.rgn [⟨none, [(.bsl 25 0 1 [(I 0)] []), (.mv 26 (.t 1)), (.app 27 1 8 (.t 25) (.t 26)), (.mv 9 (.t 27))]⟩] [2, 3, 4, 9]) (.seq (.seq (.rgn [⟨none, [(.mv 10 (.k (I 0)))]⟩] [2, 3, 4, 9, 10]) (.block 0 (.loop (.seq (.seq (.rgn [⟨none, [(.mv 28 (.t 10)), (.mv 29 (.t 3)), (.len 30 (.t 29)), (.bin 31 .lss (.t 28) (.t 30))]⟩] [2, 3, 4, 9, 10, 31]) (.cond (.t 31) .skip (.exit 0))) (.seq (.block 1 (.seq (.drw [⟨none, [(.ld 35 true 2 (.t 4)), (.mv 36 (.t 9)), (.mv 37 (.t 3)), (.mv 38 (.t 10)), (.ia 39 3 (.t 37) (.t 38)), (.ld 40 true 3 (.t 39)), (.call 41 69 [(.t 35), (.t 36), (.t 40)]), (.mv 34 (.t 41)), (.ext 42 (.t 34) 0), (.ext 43 (.t 34) 1), (.mv 11 (.t 42)), (.mv 12 (.t 43))]⟩] [(0, 5)] [2, 3, 4, 10, 11, 12]) (.seq (.seq (.rgn [⟨none, [(.mv 44 (.t 12)), (.un 45 .not (.t 44))]⟩] [2, 3, 4, 10, 11, 45]) (.cond (.t 45) (.seq (.rgn [⟨none, [(.mv 8 (.k (I 16)))]⟩] [8]) .ret) .skip)) (.seq (.seq (.rgn [⟨none, [(.mv 46 (.t 11)), (.len 47 (.t 46)), (.bin 48 .gtr (.t 47) (.k (I 120)))]⟩] [2, 3, 4, 10, 11, 48]) (.cond (.t 48) (.seq (.rgn [⟨none, [(.mv 8 (.k (I 4)))]⟩] [8]) .ret) .skip)) (.rgn [⟨none, [(.mv 49 (.t 11)), (.mv 9 (.t 49))]⟩] [2, 3, 4, 9, 10]))))) (.rgn [⟨none, [(.mv 32 (.t 10)), (.bin 33 .add (.t 32) (.k (I 1))), (.mv 10 (.t 33))]⟩] [2, 3, 4, 9, 10])))))) (.seq (.seq (.rgn [⟨none, [(.mv 50 (.t 9)), (.mv 51 (.t 2)), (.call 52 26 [(.t 50), (.t 51)]), (.un 53 .not (.t 52))]⟩] [53]) (.cond (.t 53) (.seq (.rgn [⟨none, [(.mv 8 (.k (I 18)))]⟩] [8]) .ret) .skip)) (.seq (.rgn [⟨none, [(.mv 8 (.k (I 0)))]⟩] [8]) .ret)))))))
theorem form31 : formOf Try.prog Try.f31 [8] = some G31 := by kernel_rfl
theorem res31 : resTmps Try.f31.results.toList = some [8] := by kernel_rfl

/-- oxgall/oxgallref02.Firsts -/
def G33 : AC := (.seq (.rgn [⟨none, [(.box 2 2 (.t 0)), (.mv 4 (.k (.sl true 0 []))), (.mv 5 (.k (I 0)))]⟩] [1, 2]) (.seq (.seq (.rgn [⟨none, [(.ld 6 true 2 (.t 2)), (.mv 7 (.t 1)), (.call 8 23 [(.t 6), (.t 7)]), (.bin 9 .neq (.t 8) (.k (I 0)))]⟩] [1, 2, 9]) (.cond (.t 9) (.seq (.rgn [⟨none, [(.ld 10 true 2 (.t 2)), (.mv 11 (.t 1)), (.call 12 23 [(.t 10), (.t 11)]), (.mv 4 (.k (.sl true 0 []))), (.mv 5 (.t 12))]⟩] [4, 5]) .ret) .skip)) (.seq (.drw [⟨none, [(.ld 13 true 2 (.t 2)), (.ld 14 true 2 (.t 2)), (.mv 15 (.t 1)), (.call 16 40 [(.t 14), (.t 15)]), (.call 17 72 [(.t 13), (.t 16)]), (.mv 4 (.t 17)), (.mv 5 (.k (I 0)))]⟩] [(0, 1), (0, 3)] [4, 5]) .ret)))
theorem form33 : formOf Try.prog Try.f33 [4, 5] = some G33 := by kernel_rfl
theorem res33 : resTmps Try.f33.results.toList = some [4, 5] := by kernel_rfl

/-- oxgall/oxgallref02.Rounds -/
def G35 : AC := (.seq (.rgn [⟨none, [(.box 2 2 (.t 0)), (.mv 4 (.k (.sl true 0 []))), (.mv 5 (.k (I 0)))]⟩] [1, 2]) (.seq (.seq (.rgn [⟨none, [(.ld 11 true 2 (.t 2)), (.mv 12 (.t 1)), (.call 13 23 [(.t 11), (.t 12)]), (.bin 14 .neq (.t 13) (.k (I 0)))]⟩] [1, 2, 14]) (.cond (.t 14) (.seq (.rgn [⟨none, [(.ld 15 true 2 (.t 2)), (.mv 16 (.t 1)), (.call 17 23 [(.t 15), (.t 16)]), (.mv 4 (.k (.sl true 0 []))), (.mv 5 (.t 17))]⟩] [4, 5]) .ret) .skip)) (.seq (.rgn [⟨none, [(.ld 18 true 2 (.t 2)), (.mv 19 (.t 1)), (.call 20 40 [(.t 18), (.t 19)]), (.mv 6 (.t 20))]⟩] [2, 6]) (.seq (.rgn [⟨none, [(.mv 7 (.k (.sl true 0 [])))]⟩] [2, 6, 7]) (.seq (.block 0 (.loop (.seq (.seq (.rgn [⟨none, [(.mv 21 (.t 6)), (.len 22 (.t 21)), (.bin 23 .gtr (.t 22) (.k (I 0)))]⟩] [2, 6, 7, 23]) (.cond (.t 23) .skip (.exit 0))) (.block 1 (.seq (.rgn [⟨none, [(.ld 24 true 2 (.t 2)), (.mv 25 (.t 6)), (.call 26 72 [(.t 24), (.t 25)]), (.mv 8 (.t 26))]⟩] [2, 6, 7, 8]) (.seq (.rgn [⟨none, [(.mv 27 (.t 7)), (.mv 28 (.t 8)), (.bsl 29 1 1 [(.sl true 0 [])] [(0, (.t 28))]), (.app 30 1 24 (.t 27) (.t 29)), (.mv 7 (.t 30))]⟩] [2, 6, 7, 8]) (.seq (.rgn [⟨none, [(.mv 9 (.k (I 0)))]⟩] [2, 6, 7, 8, 9]) (.block 2 (.loop (.seq (.seq (.rgn [⟨none, [(.mv 31 (.t 9)), (.mv 32 (.t 8)), (.len 33 (.t 32)), (.bin 34 .lss (.t 31) (.t 33))]⟩] [2, 6, 7, 8, 9, 34]) (.cond (.t 34) .skip (.exit 2))) (.seq (.block 3 (.seq (.rgn [⟨none, [(.mv 10 (.k (I 0)))]⟩] [2, 6, 7, 8, 9, 10]) (.seq (.block 4 (.loop (.seq (.seq (.drw [⟨none, [(.mv 37 (.t 6)), (.mv 38 (.t 10)), (.ia 39 1 (.t 37) (.t 38)), (.ld 40 false 1 (.t 39)), (.mv 41 (.t 8)), (.mv 42 (.t 9)), (.ia 43 1 (.t 41) (.t 42)), (.ld 44 false 1 (.t 43)), (.bin 45 .neq (.t 40) (.t 44))]⟩] [(3, 7)] [2, 6, 7, 8, 9, 10, 45]) (.cond (.t 45) .skip (.exit 4))) (.block 5 (.rgn [⟨none, [(.mv 46 (.t 10)), (.bin 47 .add (.t 46) (.k (I 1))), (.mv 10 (.t 47))]⟩] [2, 6, 7, 8, 9, 10]))))) (.rgn [⟨none, [(.mv 48 (.t 6)), (.mv 49 (.t 10)), (.call 50 74 [(.t 48), (.t 49)]), (.mv 6 (.t 50))]⟩] [2, 6, 7, 8, 9])))) (.rgn [⟨none, [(.mv 35 (.t 9)), (.bin 36 .add (.t 35) (.k (I 1))), (.mv 9 (.t 36))]⟩] [2, 6, 7, 8, 9])))))))))))) (.seq (.rgn [⟨none, [(.mv 51 (.t 7)), (.mv 4 (.t 51)), (.mv 5 (.k (I 0)))]⟩] [4, 5]) .ret))))))
theorem form35 : formOf Try.prog Try.f35 [4, 5] = some G35 := by kernel_rfl
theorem res35 : resTmps Try.f35.results.toList = some [4, 5] := by kernel_rfl

/-- oxgall/stroke.CheckSpine -/
def G36 : AC := (.seq (.rgn [⟨none, [(.box 3 2 (.t 0)), (.mv 6 (.k (I 0))), (.mv 7 (.k (I 0)))]⟩] [1, 2, 3]) (.seq (.rgn [⟨none, [(.ld 16 true 2 (.t 3)), (.mv 17 (.t 1)), (.bsl 18 1 1 [(.sl true 0 [])] [(0, (.t 17))]), (.call 19 59 [(.t 16), (.t 18)]), (.mv 15 (.t 19)), (.ext 20 (.t 15) 0), (.ext 21 (.t 15) 1), (.mv 8 (.t 20)), (.mv 9 (.t 21))]⟩] [1, 2, 8, 9]) (.seq (.seq (.rgn [⟨none, [(.mv 22 (.t 9)), (.bin 23 .neq (.t 22) (.k (I 0)))]⟩] [1, 2, 8, 9, 23]) (.cond (.t 23) (.seq (.rgn [⟨none, [(.mv 24 (.t 9)), (.mv 6 (.k (I 0))), (.mv 7 (.t 24))]⟩] [6, 7]) .ret) .skip)) (.seq (.rgn [⟨none, [(.mv 25 (.t 8)), (.mv 26 (.t 1)), (.call 27 60 [(.t 25), (.t 26)]), (.mv 10 (.t 27))]⟩] [2, 8, 10]) (.seq (.rgn [⟨none, [(.mv 11 (.k (I 0)))]⟩] [2, 8, 10, 11]) (.seq (.seq (.rgn [⟨none, [(.mv 28 (.t 2)), (.len 29 (.t 28)), (.mv 30 (.k (I 0)))]⟩] [2, 8, 10, 11, 28, 29, 30]) (.block 0 (.loop (.seq (.rgn [⟨none, [(.bin 31 .lss (.t 30) (.t 29))]⟩] [2, 8, 10, 11, 28, 29, 30, 31]) (.seq (.cond (.t 31) .skip (.exit 0)) (.seq (.block 1 (.seq (.rgn [⟨none, [(.ia 32 1 (.t 28) (.t 30)), (.ld 33 false 1 (.t 32)), (.mv 13 (.t 33))]⟩] [2, 8, 10, 11, 13, 28, 29, 30]) (.seq (.seq (.rgn [⟨none, [(.mv 34 (.t 11)), (.mv 35 (.t 10)), (.len 36 (.t 35)), (.bin 37 .sub (.t 36) (.k (I 1))), (.mv 38 (.t 13)), (.bsl 39 1 1 [(I 0)] [(0, (.t 38))]), (.call 40 56 [(.t 34), (.t 37), (.t 39)]), (.un 41 .not (.t 40))]⟩] [2, 8, 10, 13, 28, 29, 30, 41]) (.cond (.t 41) (.seq (.rgn [⟨none, [(.mv 6 (.k (I 0))), (.mv 7 (.k (I 3)))]⟩] [6, 7]) .ret) .skip)) (.rgn [⟨none, [(.mv 42 (.t 13)), (.bin 43 .add (.t 42) (.k (I 1))), (.mv 11 (.t 43))]⟩] [2, 8, 10, 11, 28, 29, 30])))) (.rgn [⟨none, [(.bin 44 .add (.t 30) (.k (I 1))), (.mv 30 (.t 44))]⟩] [2, 8, 10, 11, 28, 29, 30]))))))) (.seq (.seq (.rgn [⟨none, [(.mv 14 (.k (I 1)))]⟩] [2, 8, 10, 14]) (.block 2 (.loop (.seq (.seq (.rgn [⟨none, [(.mv 45 (.t 14)), (.mv 46 (.t 2)), (.len 47 (.t 46)), (.bin 48 .lss (.t 45) (.t 47))]⟩] [2, 8, 10, 14, 48]) (.cond (.t 48) .skip (.exit 2))) (.seq (.block 3 (.seq (.drw [⟨none, [(.mv 51 (.t 8)), (.mv 52 (.t 10)), (.mv 53 (.t 2)), (.mv 54 (.t 14)), (.bin 55 .sub (.t 54) (.k (I 1))), (.ia 56 1 (.t 53) (.t 55)), (.ld 57 false 1 (.t 56)), (.ia 58 1 (.t 52) (.t 57)), (.ld 59 false 1 (.t 58)), (.mv 60 (.t 10)), (.mv 61 (.t 2)), (.mv 62 (.t 14)), (.ia 63 1 (.t 61) (.t 62)), (.ld 64 false 1 (.t 63)), (.ia 65 1 (.t 60) (.t 64)), (.ld 66 false 1 (.t 65)), (.call 67 75 [(.t 51), (.t 59), (.t 66)])]⟩] [(6, 13), (8, 13), (6, 15), (8, 15)] [2, 8, 10, 14, 67]) (.cond (.t 67) (.seq (.rgn [⟨none, [(.mv 6 (.k (I 0))), (.mv 7 (.k (I 16)))]⟩] [6, 7]) .ret) .skip))) (.rgn [⟨none, [(.mv 49 (.t 14)), (.bin 50 .add (.t 49) (.k (I 1))), (.mv 14 (.t 50))]⟩] [2, 8, 10, 14])))))) (.seq (.rgn [⟨none, [(.mv 68 (.t 2)), (.len 69 (.t 68)), (.mv 6 (.t 69)), (.mv 7 (.k (I 0)))]⟩] [6, 7]) .ret))))))))
theorem form36 : formOf Try.prog Try.f36 [6, 7] = some G36 := by kernel_rfl
theorem res36 : resTmps Try.f36.results.toList = some [6, 7] := by kernel_rfl

/-- oxgall/oxgallref02.CheckSpine -/
def G37 : AC := (.seq (.rgn [⟨none, [(.box 3 2 (.t 0)), (.mv 6 (.k (I 0))), (.mv 7 (.k (I 0)))]⟩] [1, 2, 3]) (.seq (.seq (.rgn [⟨none, [(.ld 11 true 2 (.t 3)), (.mv 12 (.t 1)), (.call 13 23 [(.t 11), (.t 12)]), (.bin 14 .neq (.t 13) (.k (I 0)))]⟩] [1, 2, 3, 14]) (.cond (.t 14) (.seq (.rgn [⟨none, [(.ld 15 true 2 (.t 3)), (.mv 16 (.t 1)), (.call 17 23 [(.t 15), (.t 16)]), (.mv 6 (.k (I 0))), (.mv 7 (.t 17))]⟩] [6, 7]) .ret) .skip)) (.seq (.rgn [⟨none, [(.ld 18 true 2 (.t 3)), (.mv 19 (.t 1)), (.call 20 40 [(.t 18), (.t 19)]), (.mv 8 (.t 20))]⟩] [2, 3, 8]) (.seq (.seq (.rgn [⟨none, [(.mv 9 (.k (I 0)))]⟩] [2, 3, 8, 9]) (.block 0 (.loop (.seq (.seq (.rgn [⟨none, [(.mv 21 (.t 9)), (.mv 22 (.t 2)), (.len 23 (.t 22)), (.bin 24 .lss (.t 21) (.t 23))]⟩] [2, 3, 8, 9, 24]) (.cond (.t 24) .skip (.exit 0))) (.seq (.block 1 (.seq (.drw [⟨none, [(.mv 27 (.t 2)), (.mv 28 (.t 9)), (.ia 29 1 (.t 27) (.t 28)), (.ld 30 false 1 (.t 29)), (.bin 31 .lss (.t 30) (.k (I 0))), (.mv 32 (.t 31))]⟩, ⟨(some (32, false)), [(.mv 33 (.t 2)), (.mv 34 (.t 9)), (.ia 35 1 (.t 33) (.t 34)), (.ld 36 false 1 (.t 35)), (.mv 37 (.t 8)), (.len 38 (.t 37)), (.bin 39 .geq (.t 36) (.t 38))]⟩, ⟨none, [(.pick 40 (.t 32) (.k (B true)) (.t 39)), (.mv 41 (.t 40))]⟩, ⟨(some (41, false)), [(.mv 42 (.t 9)), (.bin 43 .gtr (.t 42) (.k (I 0))), (.mv 44 (.t 43))]⟩, ⟨(some (44, true)), [(.mv 45 (.t 2)), (.mv 46 (.t 9)), (.ia 47 1 (.t 45) (.t 46)), (.ld 48 false 1 (.t 47)), (.mv 49 (.t 2)), (.mv 50 (.t 9)), (.bin 51 .sub (.t 50) (.k (I 1))), (.ia 52 1 (.t 49) (.t 51)), (.ld 53 false 1 (.t 52)), (.bin 54 .leq (.t 48) (.t 53))]⟩, ⟨(some (41, false)), [(.pick 55 (.t 44) (.t 54) (.k (B false)))]⟩, ⟨none, [(.pick 56 (.t 41) (.k (B true)) (.t 55))]⟩] [(21, 26)] [2, 3, 8, 9, 56]) (.cond (.t 56) (.seq (.rgn [⟨none, [(.mv 6 (.k (I 0))), (.mv 7 (.k (I 3)))]⟩] [6, 7]) .ret) .skip))) (.rgn [⟨none, [(.mv 25 (.t 9)), (.bin 26 .add (.t 25) (.k (I 1))), (.mv 9 (.t 26))]⟩] [2, 3, 8, 9])))))) (.seq (.seq (.rgn [⟨none, [(.mv 10 (.k (I 1)))]⟩] [2, 3, 8, 10]) (.block 2 (.loop (.seq (.seq (.rgn [⟨none, [(.mv 57 (.t 10)), (.mv 58 (.t 2)), (.len 59 (.t 58)), (.bin 60 .lss (.t 57) (.t 59))]⟩] [2, 3, 8, 10, 60]) (.cond (.t 60) .skip (.exit 2))) (.seq (.block 3 (.seq (.drw [⟨none, [(.ld 63 true 2 (.t 3)), (.mv 64 (.t 8)), (.mv 65 (.t 2)), (.mv 66 (.t 10)), (.bin 67 .sub (.t 66) (.k (I 1))), (.ia 68 1 (.t 65) (.t 67)), (.ld 69 false 1 (.t 68)), (.ia 70 1 (.t 64) (.t 69)), (.ld 71 false 1 (.t 70)), (.mv 72 (.t 8)), (.mv 73 (.t 2)), (.mv 74 (.t 10)), (.ia 75 1 (.t 73) (.t 74)), (.ld 76 false 1 (.t 75)), (.ia 77 1 (.t 72) (.t 76)), (.ld 78 false 1 (.t 77)), (.call 79 52 [(.t 63), (.t 71), (.t 78)])]⟩] [(0, 6), (0, 8), (0, 13), (6, 13), (8, 13), (0, 15), (6, 15), (8, 15)] [2, 3, 8, 10, 79]) (.cond (.t 79) (.seq (.rgn [⟨none, [(.mv 6 (.k (I 0))), (.mv 7 (.k (I 16)))]⟩] [6, 7]) .ret) .skip))) (.rgn [⟨none, [(.mv 61 (.t 10)), (.bin 62 .add (.t 61) (.k (I 1))), (.mv 10 (.t 62))]⟩] [2, 3, 8, 10])))))) (.seq (.rgn [⟨none, [(.mv 80 (.t 2)), (.len 81 (.t 80)), (.mv 6 (.t 81)), (.mv 7 (.k (I 0)))]⟩] [6, 7]) .ret))))))
theorem form37 : formOf Try.prog Try.f37 [6, 7] = some G37 := by kernel_rfl
theorem res37 : resTmps Try.f37.results.toList = some [6, 7] := by kernel_rfl

/-- oxgall/stroke.Spine -/
def G38 : AC := (.seq (.rgn [⟨none, [(.box 2 2 (.t 0)), (.mv 4 (.k (.sl true 0 []))), (.mv 5 (.k (I 0)))]⟩] [1, 2]) (.seq (.rgn [⟨none, [(.ld 16 true 2 (.t 2)), (.mv 17 (.t 1)), (.bsl 18 1 1 [(.sl true 0 [])] [(0, (.t 17))]), (.call 19 59 [(.t 16), (.t 18)]), (.mv 15 (.t 19)), (.ext 20 (.t 15) 0), (.ext 21 (.t 15) 1), (.mv 6 (.t 20)), (.mv 7 (.t 21))]⟩] [1, 6, 7]) (.seq (.seq (.rgn [⟨none, [(.mv 22 (.t 7)), (.bin 23 .neq (.t 22) (.k (I 0)))]⟩] [1, 6, 7, 23]) (.cond (.t 23) (.seq (.rgn [⟨none, [(.mv 24 (.t 7)), (.mv 4 (.k (.sl true 0 []))), (.mv 5 (.t 24))]⟩] [4, 5]) .ret) .skip)) (.seq (.rgn [⟨none, [(.mv 25 (.t 6)), (.mv 26 (.t 1)), (.call 27 60 [(.t 25), (.t 26)]), (.mv 8 (.t 27))]⟩] [6, 8]) (.seq (.drw [⟨none, [(.mv 28 (.t 8)), (.len 29 (.t 28)), (.mks 30 1 8 [(I 0)] (.t 29) (.t 29)), (.mv 31 (.t 8)), (.len 32 (.t 31)), (.mks 33 1 8 [(I 0)] (.t 32) (.t 32)), (.mv 9 (.t 30)), (.mv 10 (.t 33))]⟩] [(2, 5)] [6, 8, 9, 10]) (.seq (.rgn [⟨none, [(.mv 11 (.k (I (-1))))]⟩] [6, 8, 9, 10, 11]) (.seq (.seq (.rgn [⟨none, [(.mv 34 (.t 8)), (.len 35 (.t 34)), (.mv 36 (.k (I 0)))]⟩] [6, 8, 9, 10, 11, 35, 36]) (.block 0 (.loop (.seq (.rgn [⟨none, [(.bin 37 .lss (.t 36) (.t 35))]⟩] [6, 8, 9, 10, 11, 35, 36, 37]) (.seq (.cond (.t 37) .skip (.exit 0)) (.seq (.block 1 (.seq (.rgn [⟨none, [(.mv 38 (.t 36)), (.mv 12 (.t 38))]⟩] [6, 8, 9, 10, 11, 12, 35, 36]) (.seq (.rgn [⟨none, [(.mv 39 (.t 9)), (.mv 40 (.t 12)), (.mv 41 (.t 10)), (.mv 42 (.t 12)), (.ia 43 1 (.t 39) (.t 40)), (.st 1 (.t 43) (.k (I 1))), (.ia 44 1 (.t 41) (.t 42)), (.st 1 (.t 44) (.k (I (-1))))]⟩] [6, 8, 9, 10, 11, 12, 35, 36]) (.seq (.seq (.rgn [⟨none, [(.mv 45 (.t 12)), (.mv 46 (.k (I 0)))]⟩] [6, 8, 9, 10, 11, 12, 35, 36, 45, 46]) (.block 2 (.loop (.seq (.rgn [⟨none, [(.bin 47 .lss (.t 46) (.t 45))]⟩] [6, 8, 9, 10, 11, 12, 35, 36, 45, 46, 47]) (.seq (.cond (.t 47) .skip (.exit 2)) (.seq (.block 3 (.seq (.rgn [⟨none, [(.mv 48 (.t 46)), (.mv 13 (.t 48))]⟩] [6, 8, 9, 10, 11, 12, 13, 35, 36, 45, 46]) (.seq (.drw [⟨none, [(.mv 49 (.t 6)), (.mv 50 (.t 8)), (.mv 51 (.t 13)), (.ia 52 1 (.t 50) (.t 51)), (.ld 53 false 1 (.t 52)), (.mv 54 (.t 8)), (.mv 55 (.t 12)), (.ia 56 1 (.t 54) (.t 55)), (.ld 57 false 1 (.t 56)), (.call 58 75 [(.t 49), (.t 53), (.t 57)]), (.un 59 .not (.t 58)), (.mv 60 (.t 59))]⟩, ⟨(some (60, true)), [(.mv 61 (.t 9)), (.mv 62 (.t 13)), (.ia 63 1 (.t 61) (.t 62)), (.ld 64 false 1 (.t 63)), (.mv 65 (.t 9)), (.mv 66 (.t 12)), (.ia 67 1 (.t 65) (.t 66)), (.ld 68 false 1 (.t 67)), (.bin 69 .geq (.t 64) (.t 68))]⟩, ⟨none, [(.pick 70 (.t 60) (.t 69) (.k (B false)))]⟩] [(4, 8), (15, 19)] [6, 8, 9, 10, 11, 12, 13, 35, 36, 45, 46, 70]) (.cond (.t 70) (.rgn [⟨none, [(.mv 71 (.t 9)), (.mv 72 (.t 12)), (.mv 73 (.t 10)), (.mv 74 (.t 12)), (.mv 75 (.t 9)), (.mv 76 (.t 13)), (.ia 77 1 (.t 75) (.t 76)), (.ld 78 false 1 (.t 77)), (.bin 79 .add (.t 78) (.k (I 1))), (.mv 80 (.t 13)), (.ia 81 1 (.t 71) (.t 72)), (.st 1 (.t 81) (.t 79)), (.ia 82 1 (.t 73) (.t 74)), (.st 1 (.t 82) (.t 80))]⟩] [6, 8, 9, 10, 11, 12, 35, 36, 45, 46]) .skip)))) (.rgn [⟨none, [(.bin 83 .add (.t 46) (.k (I 1))), (.mv 46 (.t 83))]⟩] [6, 8, 9, 10, 11, 12, 35, 36, 45, 46]))))))) (.seq (.drw [⟨none, [(.mv 84 (.t 11)), (.bin 85 .lss (.t 84) (.k (I 0))), (.mv 86 (.t 85))]⟩, ⟨(some (86, false)), [(.mv 87 (.t 9)), (.mv 88 (.t 12)), (.ia 89 1 (.t 87) (.t 88)), (.ld 90 false 1 (.t 89)), (.mv 91 (.t 9)), (.mv 92 (.t 11)), (.ia 93 1 (.t 91) (.t 92)), (.ld 94 false 1 (.t 93)), (.bin 95 .gtr (.t 90) (.t 94))]⟩, ⟨none, [(.pick 96 (.t 86) (.k (B true)) (.t 95))]⟩] [(6, 10)] [6, 8, 9, 10, 11, 12, 35, 36, 96]) (.cond (.t 96) (.rgn [⟨none, [(.mv 97 (.t 12)), (.mv 11 (.t 97))]⟩] [6, 8, 9, 10, 11, 35, 36]) .skip)))))) (.rgn [⟨none, [(.bin 98 .add (.t 36) (.k (I 1))), (.mv 36 (.t 98))]⟩] [6, 8, 9, 10, 11, 35, 36]))))))) (.seq (.rgn [⟨none, [(.mv 14 (.k (.sl true 0 [])))]⟩] [10, 11, 14]) (.seq (.block 4 (.loop (.seq (.seq (.rgn [⟨none, [(.mv 99 (.t 11)), (.bin 100 .geq (.t 99) (.k (I 0)))]⟩] [10, 11, 14, 100]) (.cond (.t 100) .skip (.exit 4))) (.seq (.block 5 (.rgn [⟨none, [(.mv 105 (.t 14)), (.mv 106 (.t 11)), (.bsl 107 1 1 [(I 0)] [(0, (.t 106))]), (.app 108 1 8 (.t 105) (.t 107)), (.mv 14 (.t 108))]⟩] [10, 11, 14])) (.rgn [⟨none, [(.mv 101 (.t 10)), (.mv 102 (.t 11)), (.ia 103 1 (.t 101) (.t 102)), (.ld 104 false 1 (.t 103)), (.mv 11 (.t 104))]⟩] [10, 11, 14]))))) (.seq (.rgn [⟨none, [(.mv 109 (.t 14)), (.call 110 76 [(.t 109)])]⟩] [14]) (.seq (.rgn [⟨none, [(.mv 111 (.t 14)), (.mv 4 (.t 111)), (.mv 5 (.k (I 0)))]⟩] [4, 5]) .ret)))))))))))
theorem form38 : formOf Try.prog Try.f38 [4, 5] = some G38 := by kernel_rfl
theorem res38 : resTmps Try.f38.results.toList = some [4, 5] := by kernel_rfl

/-- oxgall/oxgalllaw02.lists -/
def G39 : AC := (.seq (.rgn [⟨none, [(.mv 4 (.k (B false)))]⟩] [0, 1]) (.seq (.seq (.rgn [⟨none, [(.mv 6 (.t 0)), (.len 7 (.t 6)), (.mv 8 (.t 1)), (.len 9 (.t 8)), (.bin 10 .neq (.t 7) (.t 9))]⟩] [0, 1, 10]) (.cond (.t 10) (.seq (.rgn [⟨none, [(.mv 4 (.k (B false)))]⟩] [4]) .ret) .skip)) (.seq (.seq (.rgn [⟨none, [(.mv 5 (.k (I 0)))]⟩] [0, 1, 5]) (.block 0 (.loop (.seq (.seq (.rgn [⟨none, [(.mv 11 (.t 5)), (.mv 12 (.t 0)), (.len 13 (.t 12)), (.bin 14 .lss (.t 11) (.t 13))]⟩] [0, 1, 5, 14]) (.cond (.t 14) .skip (.exit 0))) (.seq (.block 1 (.seq (.drw [⟨none, [(.mv 17 (.t 0)), (.mv 18 (.t 5)), (.ia 19 1 (.t 17) (.t 18)), (.ld 20 false 1 (.t 19)), (.mv 21 (.t 1)), (.mv 22 (.t 5)), (.ia 23 1 (.t 21) (.t 22)), (.ld 24 false 1 (.t 23)), (.call 25 26 [(.t 20), (.t 24)]), (.un 26 .not (.t 25))]⟩] [(3, 7)] [0, 1, 5, 26]) (.cond (.t 26) (.seq (.rgn [⟨none, [(.mv 4 (.k (B false)))]⟩] [4]) .ret) .skip))) (.rgn [⟨none, [(.mv 15 (.t 5)), (.bin 16 .add (.t 15) (.k (I 1))), (.mv 5 (.t 16))]⟩] [0, 1, 5])))))) (.seq (.rgn [⟨none, [(.mv 4 (.k (B true)))]⟩] [4]) .ret))))
theorem form39 : formOf Try.prog Try.f39 [4] = some G39 := by kernel_rfl
theorem res39 : resTmps Try.f39.results.toList = some [4] := by kernel_rfl

/-- oxgall/oxgallref02.Form -/
def G40 : AC := (.seq (.rgn [⟨none, [(.box 2 2 (.t 0)), (.mv 4 (.k (.sl true 0 [])))]⟩] [1, 2]) (.seq (.rgn [⟨none, [(.ld 8 true 2 (.t 2)), (.mv 9 (.t 1)), (.call 10 77 [(.t 8), (.t 9)]), (.mv 5 (.t 10))]⟩] [2, 5]) (.seq (.rgn [⟨none, [(.mv 6 (.k (.sl true 0 [])))]⟩] [2, 5, 6]) (.seq (.block 0 (.loop (.seq (.seq (.rgn [⟨none, [(.mv 11 (.t 5)), (.len 12 (.t 11)), (.bin 13 .gtr (.t 12) (.k (I 0)))]⟩] [2, 5, 6, 13]) (.cond (.t 13) .skip (.exit 0))) (.block 1 (.seq (.rgn [⟨none, [(.ld 14 true 2 (.t 2)), (.mv 15 (.t 5)), (.call 16 78 [(.t 14), (.t 15)]), (.mv 7 (.t 16))]⟩] [2, 5, 6, 7]) (.seq (.rgn [⟨none, [(.mv 17 (.t 6)), (.mv 18 (.t 5)), (.mv 19 (.t 7)), (.ia 20 1 (.t 18) (.t 19)), (.ld 21 false 1 (.t 20)), (.bsl 22 1 1 [(I 0)] [(0, (.t 21))]), (.app 23 1 8 (.t 17) (.t 22)), (.mv 6 (.t 23))]⟩] [2, 5, 6, 7]) (.rgn [⟨none, [(.mv 24 (.t 5)), (.mv 25 (.t 7)), (.call 26 74 [(.t 24), (.t 25)]), (.mv 5 (.t 26))]⟩] [2, 5, 6]))))))) (.seq (.rgn [⟨none, [(.mv 27 (.t 6)), (.mv 4 (.t 27))]⟩] [4]) .ret)))))
theorem form40 : formOf Try.prog Try.f40 [4] = some G40 := by kernel_rfl
theorem res40 : resTmps Try.f40.results.toList = some [4] := by kernel_rfl

/-- oxgall/stroke.Count -/
def G41 : AC := (.seq (.rgn [⟨none, [(.box 2 2 (.t 0)), (.mv 4 (.k (I 0))), (.mv 5 (.k (I 0)))]⟩] [1, 2]) (.seq (.rgn [⟨none, [(.ld 10 true 2 (.t 2)), (.mv 11 (.t 1)), (.bsl 12 1 1 [(.sl true 0 [])] [(0, (.t 11))]), (.call 13 59 [(.t 10), (.t 12)]), (.mv 9 (.t 13)), (.ext 14 (.t 9) 0), (.ext 15 (.t 9) 1), (.mv 6 (.t 14)), (.mv 7 (.t 15))]⟩] [1, 6, 7]) (.seq (.seq (.rgn [⟨none, [(.mv 16 (.t 7)), (.bin 17 .neq (.t 16) (.k (I 0)))]⟩] [1, 6, 7, 17]) (.cond (.t 17) (.seq (.rgn [⟨none, [(.mv 18 (.t 7)), (.mv 4 (.k (I 0))), (.mv 5 (.t 18))]⟩] [4, 5]) .ret) .skip)) (.seq (.rgn [⟨none, [(.mv 19 (.t 6)), (.mv 20 (.t 1)), (.call 21 60 [(.t 19), (.t 20)]), (.mv 8 (.t 21))]⟩] [6, 8]) (.seq (.seq (.rgn [⟨none, [(.mv 22 (.t 8)), (.len 23 (.t 22)), (.bin 24 .gtr (.t 23) (.k (I 16)))]⟩] [6, 8, 24]) (.cond (.t 24) (.seq (.rgn [⟨none, [(.mv 4 (.k (I 0))), (.mv 5 (.k (I 7)))]⟩] [4, 5]) .ret) .skip)) (.seq (.rgn [⟨none, [(.mv 25 (.t 6)), (.mv 26 (.t 8)), (.call 27 79 [(.t 25), (.t 26)]), (.mv 4 (.t 27)), (.mv 5 (.k (I 0)))]⟩] [4, 5]) .ret))))))
theorem form41 : formOf Try.prog Try.f41 [4, 5] = some G41 := by kernel_rfl
theorem res41 : resTmps Try.f41.results.toList = some [4, 5] := by kernel_rfl

/-- oxgall/oxgallref02.Count -/
def G42 : AC := (.seq (.rgn [⟨none, [(.box 2 2 (.t 0)), (.mv 4 (.k (I 0))), (.mv 5 (.k (I 0)))]⟩] [1, 2]) (.seq (.seq (.rgn [⟨none, [(.ld 12 true 2 (.t 2)), (.mv 13 (.t 1)), (.call 14 23 [(.t 12), (.t 13)]), (.bin 15 .neq (.t 14) (.k (I 0)))]⟩] [1, 2, 15]) (.cond (.t 15) (.seq (.rgn [⟨none, [(.ld 16 true 2 (.t 2)), (.mv 17 (.t 1)), (.call 18 23 [(.t 16), (.t 17)]), (.mv 4 (.k (I 0))), (.mv 5 (.t 18))]⟩] [4, 5]) .ret) .skip)) (.seq (.rgn [⟨none, [(.ld 19 true 2 (.t 2)), (.mv 20 (.t 1)), (.call 21 40 [(.t 19), (.t 20)]), (.mv 6 (.t 21))]⟩] [2, 6]) (.seq (.seq (.rgn [⟨none, [(.mv 22 (.t 6)), (.len 23 (.t 22)), (.bin 24 .gtr (.t 23) (.k (I 16)))]⟩] [2, 6, 24]) (.cond (.t 24) (.seq (.rgn [⟨none, [(.mv 4 (.k (I 0))), (.mv 5 (.k (I 7)))]⟩] [4, 5]) .ret) .skip)) (.seq (.rgn [⟨none, [(.mv 25 (.t 6)), (.len 26 (.t 25)), (.bin 27 .shl (.k (I 1)) (.t 26)), (.mks 28 1 8 [(I 0)] (.t 27) (.t 27)), (.mv 7 (.t 28))]⟩] [2, 6, 7]) (.seq (.rgn [⟨none, [(.mv 29 (.t 7)), (.ia 30 1 (.t 29) (.k (I 0))), (.st 1 (.t 30) (.k (I 1)))]⟩] [2, 6, 7]) (.seq (.seq (.rgn [⟨none, [(.mv 8 (.k (I 0)))]⟩] [2, 6, 7, 8]) (.block 0 (.loop (.seq (.seq (.rgn [⟨none, [(.mv 31 (.t 8)), (.mv 32 (.t 7)), (.len 33 (.t 32)), (.bin 34 .lss (.t 31) (.t 33))]⟩] [2, 6, 7, 8, 34]) (.cond (.t 34) .skip (.exit 0))) (.seq (.block 1 (.seq (.rgn [⟨none, [(.mv 9 (.k (I 0)))]⟩] [2, 6, 7, 8, 9]) (.block 2 (.loop (.seq (.seq (.rgn [⟨none, [(.mv 37 (.t 9)), (.mv 38 (.t 6)), (.len 39 (.t 38)), (.bin 40 .lss (.t 37) (.t 39)), (.mv 41 (.t 40))]⟩, ⟨(some (41, true)), [(.mv 42 (.t 7)), (.mv 43 (.t 8)), (.ia 44 1 (.t 42) (.t 43)), (.ld 45 false 1 (.t 44)), (.bin 46 .gtr (.t 45) (.k (I 0)))]⟩, ⟨none, [(.pick 47 (.t 41) (.t 46) (.k (B false)))]⟩] [2, 6, 7, 8, 9, 47]) (.cond (.t 47) .skip (.exit 2))) (.seq (.block 3 (.seq (.seq (.rgn [⟨none, [(.mv 50 (.t 8)), (.mv 51 (.t 9)), (.bin 52 .shr (.t 50) (.t 51)), (.bin 53 .and (.t 52) (.k (I 1))), (.bin 54 .eql (.t 53) (.k (I 1)))]⟩] [2, 6, 7, 8, 9, 54]) (.cond (.t 54) (.exit 3) .skip)) (.seq (.rgn [⟨none, [(.mv 10 (.k (B true)))]⟩] [2, 6, 7, 8, 9, 10]) (.seq (.seq (.rgn [⟨none, [(.mv 11 (.k (I 0)))]⟩] [2, 6, 7, 8, 9, 10, 11]) (.block 4 (.loop (.seq (.seq (.rgn [⟨none, [(.mv 55 (.t 11)), (.mv 56 (.t 9)), (.bin 57 .lss (.t 55) (.t 56))]⟩] [2, 6, 7, 8, 9, 10, 11, 57]) (.cond (.t 57) .skip (.exit 4))) (.seq (.block 5 (.drw [⟨none, [(.mv 60 (.t 10)), (.mv 61 (.t 60))]⟩, ⟨(some (61, true)), [(.mv 62 (.t 8)), (.mv 63 (.t 11)), (.bin 64 .shr (.t 62) (.t 63)), (.bin 65 .and (.t 64) (.k (I 1))), (.bin 66 .eql (.t 65) (.k (I 1))), (.mv 67 (.t 66))]⟩, ⟨(some (67, false)), [(.ld 68 true 2 (.t 2)), (.mv 69 (.t 6)), (.mv 70 (.t 11)), (.ia 71 1 (.t 69) (.t 70)), (.ld 72 false 1 (.t 71)), (.mv 73 (.t 6)), (.mv 74 (.t 9)), (.ia 75 1 (.t 73) (.t 74)), (.ld 76 false 1 (.t 75)), (.call 77 52 [(.t 68), (.t 72), (.t 76)])]⟩, ⟨(some (61, true)), [(.pick 78 (.t 67) (.k (B true)) (.t 77))]⟩, ⟨none, [(.pick 79 (.t 61) (.t 78) (.k (B false))), (.mv 10 (.t 79))]⟩] [(8, 12), (8, 16), (12, 16)] [2, 6, 7, 8, 9, 10, 11])) (.rgn [⟨none, [(.mv 58 (.t 11)), (.bin 59 .add (.t 58) (.k (I 1))), (.mv 11 (.t 59))]⟩] [2, 6, 7, 8, 9, 10, 11])))))) (.seq (.rgn [⟨none, [(.mv 80 (.t 10))]⟩] [2, 6, 7, 8, 9, 80]) (.cond (.t 80) (.drw [⟨none, [(.mv 81 (.t 7)), (.mv 82 (.t 8)), (.mv 83 (.t 9)), (.bin 84 .shl (.k (I 1)) (.t 83)), (.bin 85 .add (.t 82) (.t 84)), (.ia 86 1 (.t 81) (.t 85)), (.ld 87 false 1 (.t 86)), (.mv 88 (.t 7)), (.mv 89 (.t 8)), (.ia 90 1 (.t 88) (.t 89)), (.ld 91 false 1 (.t 90)), (.bin 92 .add (.t 87) (.t 91)), (.ia 93 1 (.t 81) (.t 85)), (.st 1 (.t 93) (.t 92))]⟩] [(6, 10)] [2, 6, 7, 8, 9]) .skip)))))) (.rgn [⟨none, [(.mv 48 (.t 9)), (.bin 49 .add (.t 48) (.k (I 1))), (.mv 9 (.t 49))]⟩] [2, 6, 7, 8, 9]))))))) (.rgn [⟨none, [(.mv 35 (.t 8)), (.bin 36 .add (.t 35) (.k (I 1))), (.mv 8 (.t 36))]⟩] [2, 6, 7, 8])))))) (.seq (.rgn [⟨none, [(.mv 94 (.t 7)), (.mv 95 (.t 7)), (.len 96 (.t 95)), (.bin 97 .sub (.t 96) (.k (I 1))), (.ia 98 1 (.t 94) (.t 97)), (.ld 99 false 1 (.t 98)), (.mv 4 (.t 99)), (.mv 5 (.k (I 0)))]⟩] [4, 5]) .ret))))))))
theorem form42 : formOf Try.prog Try.f42 [4, 5] = some G42 := by kernel_rfl
theorem res42 : resTmps Try.f42.results.toList = some [4, 5] := by kernel_rfl

/-- oxgall/stroke.Way -/
def G43 : AC := (.seq (.rgn [⟨none, [(.box 3 2 (.t 0)), (.mv 6 (.k (.sl true 0 []))), (.mv 7 (.k (I 0)))]⟩] [1, 2, 3]) (.seq (.rgn [⟨none, [(.ld 11 true 2 (.t 3)), (.mv 12 (.t 1)), (.mv 13 (.t 2)), (.bsl 14 2 1 [(.sl true 0 [])] [(0, (.t 12)), (1, (.t 13))]), (.call 15 59 [(.t 11), (.t 14)]), (.mv 10 (.t 15)), (.ext 16 (.t 10) 0), (.ext 17 (.t 10) 1), (.mv 8 (.t 16)), (.mv 9 (.t 17))]⟩] [1, 2, 8, 9]) (.seq (.seq (.rgn [⟨none, [(.mv 18 (.t 9)), (.bin 19 .neq (.t 18) (.k (I 0)))]⟩] [1, 2, 8, 9, 19]) (.cond (.t 19) (.seq (.rgn [⟨none, [(.mv 20 (.t 9)), (.mv 6 (.k (.sl true 0 []))), (.mv 7 (.t 20))]⟩] [6, 7]) .ret) .skip)) (.seq (.rgn [⟨none, [(.mv 21 (.t 8)), (.mv 22 (.t 1)), (.call 23 81 [(.t 22)]), (.mv 24 (.t 2)), (.bsl 25 2 1 [(.sl true 0 [])] [(0, (.t 23)), (1, (.t 24))]), (.call 26 80 [(.t 25)]), (.call 27 60 [(.t 21), (.t 26)]), (.mv 6 (.t 27)), (.mv 7 (.k (I 0)))]⟩] [6, 7]) .ret))))
theorem form43 : formOf Try.prog Try.f43 [6, 7] = some G43 := by kernel_rfl
theorem res43 : resTmps Try.f43.results.toList = some [6, 7] := by kernel_rfl

/-- oxgall/oxgallref02.Way -/
def G44 : AC := (.seq (.rgn [⟨none, [(.box 3 2 (.t 0)), (.mv 6 (.k (.sl true 0 []))), (.mv 7 (.k (I 0)))]⟩] [1, 2, 3]) (.seq (.seq (.rgn [⟨none, [(.ld 8 true 2 (.t 3)), (.mv 9 (.t 1)), (.mv 10 (.t 2)), (.call 11 62 [(.t 8), (.t 9), (.t 10)]), (.bin 12 .neq (.t 11) (.k (I 0)))]⟩] [1, 2, 3, 12]) (.cond (.t 12) (.seq (.rgn [⟨none, [(.ld 13 true 2 (.t 3)), (.mv 14 (.t 1)), (.mv 15 (.t 2)), (.call 16 62 [(.t 13), (.t 14), (.t 15)]), (.mv 6 (.k (.sl true 0 []))), (.mv 7 (.t 16))]⟩] [6, 7]) .ret) .skip)) (.seq (.drw [⟨none, [(.ld 17 true 2 (.t 3)), (.mv 18 (.t 1)), (.call 19 49 [(.t 18)]), (.mv 20 (.t 2)), (.app 21 1 8 (.t 19) (.t 20)), (.call 22 40 [(.t 17), (.t 21)]), (.mv 6 (.t 22)), (.mv 7 (.k (I 0)))]⟩] [(0, 2), (0, 4)] [6, 7]) .ret)))
theorem form44 : formOf Try.prog Try.f44 [6, 7] = some G44 := by kernel_rfl
theorem res44 : resTmps Try.f44.results.toList = some [6, 7] := by kernel_rfl

/-- oxgall/oxgallref02.Common -/
def G46 : AC := (.seq (.rgn [⟨none, [(.box 3 2 (.t 0)), (.mv 6 (.k (.sl true 0 []))), (.mv 7 (.k (I 0)))]⟩] [1, 2, 3]) (.seq (.seq (.rgn [⟨none, [(.ld 13 true 2 (.t 3)), (.mv 14 (.t 1)), (.mv 15 (.t 2)), (.call 16 62 [(.t 13), (.t 14), (.t 15)]), (.bin 17 .neq (.t 16) (.k (I 0)))]⟩] [1, 2, 3, 17]) (.cond (.t 17) (.seq (.rgn [⟨none, [(.ld 18 true 2 (.t 3)), (.mv 19 (.t 1)), (.mv 20 (.t 2)), (.call 21 62 [(.t 18), (.t 19), (.t 20)]), (.mv 6 (.k (.sl true 0 []))), (.mv 7 (.t 21))]⟩] [6, 7]) .ret) .skip)) (.seq (.drw [⟨none, [(.ld 22 true 2 (.t 3)), (.mv 23 (.t 1)), (.call 24 40 [(.t 22), (.t 23)]), (.ld 25 true 2 (.t 3)), (.mv 26 (.t 2)), (.call 27 40 [(.t 25), (.t 26)]), (.mv 8 (.t 24)), (.mv 9 (.t 27))]⟩] [(0, 3), (2, 3)] [3, 8, 9]) (.seq (.rgn [⟨none, [(.mv 10 (.k (.sl true 0 [])))]⟩] [3, 8, 9, 10]) (.block 0 (.loop (.block 1 (.seq (.rgn [⟨none, [(.ld 29 true 2 (.t 3)), (.mv 30 (.t 8)), (.mv 31 (.t 9)), (.call 32 85 [(.t 29), (.t 30), (.t 31)]), (.mv 28 (.t 32)), (.ext 33 (.t 28) 0), (.ext 34 (.t 28) 1), (.mv 11 (.t 33)), (.mv 12 (.t 34))]⟩] [3, 8, 9, 10, 11, 12]) (.seq (.seq (.rgn [⟨none, [(.mv 35 (.t 11)), (.bin 36 .lss (.t 35) (.k (I 0)))]⟩] [3, 8, 9, 10, 11, 12, 36]) (.cond (.t 36) (.seq (.rgn [⟨none, [(.ld 37 true 2 (.t 3)), (.mv 38 (.t 10)), (.call 39 40 [(.t 37), (.t 38)]), (.mv 6 (.t 39)), (.mv 7 (.k (I 0)))]⟩] [6, 7]) .ret) .skip)) (.seq (.rgn [⟨none, [(.mv 40 (.t 10)), (.mv 41 (.t 8)), (.mv 42 (.t 11)), (.ia 43 1 (.t 41) (.t 42)), (.ld 44 false 1 (.t 43)), (.bsl 45 1 1 [(I 0)] [(0, (.t 44))]), (.app 46 1 8 (.t 40) (.t 45)), (.mv 10 (.t 46))]⟩] [3, 8, 9, 10, 11, 12]) (.rgn [⟨none, [(.mv 47 (.t 8)), (.mv 48 (.t 11)), (.call 49 74 [(.t 47), (.t 48)]), (.mv 50 (.t 9)), (.mv 51 (.t 12)), (.call 52 74 [(.t 50), (.t 51)]), (.mv 8 (.t 49)), (.mv 9 (.t 52))]⟩] [3, 8, 9, 10])))))))))))
theorem form46 : formOf Try.prog Try.f46 [6, 7] = some G46 := by kernel_rfl
theorem res46 : resTmps Try.f46.results.toList = some [6, 7] := by kernel_rfl

/-- oxgall/oxgalllaw02.fine -/
def G47 : AC := (.seq (.rgn [⟨none, [(.box 2 2 (.t 0)), (.mv 4 (.k (B false)))]⟩] [1, 2]) (.seq (.rgn [⟨none, [(.ld 5 true 2 (.t 2)), (.call 6 18 [(.t 5)]), (.un 7 .not (.t 6)), (.mv 8 (.t 7))]⟩, ⟨(some (8, true)), [(.mv 9 (.t 1)), (.len 10 (.t 9)), (.bin 11 .leq (.t 10) (.k (I 60)))]⟩, ⟨none, [(.pick 12 (.t 8) (.t 11) (.k (B false))), (.mv 13 (.t 12))]⟩, ⟨(some (13, true)), [(.ld 14 true 2 (.t 2)), (.mv 15 (.t 1)), (.call 16 23 [(.t 14), (.t 15)]), (.bin 17 .eql (.t 16) (.k (I 0)))]⟩, ⟨none, [(.pick 18 (.t 13) (.t 17) (.k (B false))), (.mv 4 (.t 18))]⟩] [4]) .ret))
theorem form47 : formOf Try.prog Try.f47 [4] = some G47 := by kernel_rfl
theorem res47 : resTmps Try.f47.results.toList = some [4] := by kernel_rfl

/-- oxgall/oxgalllaw02.Moved -/
def G48 : AC := (.seq (.rgn [⟨none, [(.box 3 2 (.t 0)), (.mv 6 (.k (.sl true 0 []))), (.mv 7 (.k (.sl true 0 [])))]⟩] [1, 2, 3]) (.seq (.rgn [⟨none, [(.bsl 15 0 1 [(I 0)] []), (.mv 16 (.t 1)), (.app 17 1 8 (.t 15) (.t 16)), (.mv 8 (.t 17))]⟩] [2, 3, 8]) (.seq (.rgn [⟨none, [(.mv 9 (.k (.sl true 0 [])))]⟩] [2, 3, 8, 9]) (.seq (.seq (.rgn [⟨none, [(.mv 10 (.k (I 0)))]⟩] [2, 3, 8, 9, 10]) (.block 0 (.loop (.seq (.seq (.rgn [⟨none, [(.mv 18 (.t 10)), (.bin 19 .add (.t 18) (.k (I 1))), (.mv 20 (.t 2)), (.len 21 (.t 20)), (.bin 22 .lss (.t 19) (.t 21))]⟩] [2, 3, 8, 9, 10, 22]) (.cond (.t 22) .skip (.exit 0))) (.seq (.block 1 (.seq (.rgn [⟨none, [(.mv 25 (.t 2)), (.mv 26 (.t 10)), (.bin 27 .add (.t 26) (.k (I 1))), (.ia 28 1 (.t 25) (.t 27)), (.ld 29 false 1 (.t 28)), (.cnv 30 .i64 (.t 29)), (.mv 31 (.t 8)), (.len 32 (.t 31)), (.bin 33 .add (.t 32) (.k (I 1))), (.bin 34 .rem (.t 30) (.t 33)), (.mv 11 (.t 34))]⟩] [2, 3, 8, 9, 10, 11]) (.seq (.rgn [⟨none, [(.mv 35 (.t 2)), (.mv 36 (.t 10)), (.ia 37 1 (.t 35) (.t 36)), (.ld 38 false 1 (.t 37)), (.cnv 39 .i64 (.t 38)), (.bin 40 .rem (.t 39) (.k (I 3))), (.bin 41 .add (.k (I 1)) (.t 40)), (.mv 42 (.t 11)), (.call 43 55 [(.t 41), (.t 42), (.k (I 0))]), (.al 12 [(I 0), (I 0), (I 0)]), (.st 3 (.t 12) (.t 43))]⟩] [2, 3, 8, 9, 10, 12]) (.seq (.seq (.rgn [⟨none, [(.fa 44 (.t 12) 0), (.ld 45 false 1 (.t 44)), (.bin 46 .eql (.t 45) (.k (I 3)))]⟩] [2, 3, 8, 9, 10, 12, 46]) (.cond (.t 46) (.seq (.drw [⟨none, [(.mv 47 (.t 2)), (.mv 48 (.t 10)), (.ia 49 1 (.t 47) (.t 48)), (.ld 50 false 1 (.t 49)), (.bin 51 .quo (.t 50) (.k (.v (.int .u8 3)))), (.cnv 52 .i64 (.t 51)), (.fa 53 (.t 3) 0), (.ld 54 false 1 (.t 53)), (.bin 55 .rem (.t 52) (.t 54)), (.bin 56 .add (.k (I 1)) (.t 55)), (.fa 57 (.t 12) 2), (.st 1 (.t 57) (.t 56))]⟩] [(3, 7)] [2, 3, 8, 9, 10, 12]) (.seq (.rgn [⟨none, [(.mv 58 (.t 2)), (.mv 59 (.t 10)), (.ia 60 1 (.t 58) (.t 59)), (.ld 61 false 1 (.t 60)), (.bin 62 .geq (.t 61) (.k (.v (.int .u8 128))))]⟩] [2, 3, 8, 9, 10, 12, 62]) (.cond (.t 62) (.rgn [⟨none, [(.fa 63 (.t 12) 2), (.ld 64 false 1 (.t 63)), (.un 65 .neg (.t 64)), (.fa 66 (.t 12) 2), (.st 1 (.t 66) (.t 65))]⟩] [2, 3, 8, 9, 10, 12]) .skip))) .skip)) (.seq (.rgn [⟨none, [(.ld 68 true 2 (.t 3)), (.mv 69 (.t 8)), (.ld 70 true 3 (.t 12)), (.call 71 69 [(.t 68), (.t 69), (.t 70)]), (.mv 67 (.t 71)), (.ext 72 (.t 67) 0), (.ext 73 (.t 67) 1), (.mv 13 (.t 72)), (.mv 14 (.t 73))]⟩] [2, 3, 8, 9, 10, 12, 13, 14]) (.seq (.rgn [⟨none, [(.mv 74 (.t 14)), (.mv 75 (.t 74))]⟩, ⟨(some (75, true)), [(.mv 76 (.t 13)), (.len 77 (.t 76)), (.bin 78 .leq (.t 77) (.k (I 50)))]⟩, ⟨none, [(.pick 79 (.t 75) (.t 78) (.k (B false)))]⟩] [2, 3, 8, 9, 10, 12, 13, 79]) (.cond (.t 79) (.seq (.rgn [⟨none, [(.mv 80 (.t 13)), (.mv 8 (.t 80))]⟩] [2, 3, 8, 9, 10, 12]) (.rgn [⟨none, [(.mv 81 (.t 9)), (.ld 82 true 3 (.t 12)), (.bsl 83 1 3 [(I 0), (I 0), (I 0)] [(0, (.t 82))]), (.app 84 3 24 (.t 81) (.t 83)), (.mv 9 (.t 84))]⟩] [2, 3, 8, 9, 10])) .skip))))))) (.rgn [⟨none, [(.mv 23 (.t 10)), (.bin 24 .add (.t 23) (.k (I 2))), (.mv 10 (.t 24))]⟩] [2, 3, 8, 9, 10])))))) (.seq (.rgn [⟨none, [(.mv 85 (.t 8)), (.mv 86 (.t 9)), (.mv 6 (.t 85)), (.mv 7 (.t 86))]⟩] [6, 7]) .ret)))))
theorem form48 : formOf Try.prog Try.f48 [6, 7] = some G48 := by kernel_rfl
theorem res48 : resTmps Try.f48.results.toList = some [6, 7] := by kernel_rfl

/-- oxgall/oxgallref02.Back -/
def G49 : AC := (.seq (.rgn [⟨none, [(.mv 2 (.k (.sl true 0 [])))]⟩] [0]) (.seq (.rgn [⟨none, [(.mv 3 (.k (.sl true 0 [])))]⟩] [0, 3]) (.seq (.seq (.rgn [⟨none, [(.mv 5 (.t 0)), (.len 6 (.t 5)), (.bin 7 .sub (.t 6) (.k (I 1))), (.mv 4 (.t 7))]⟩] [0, 3, 4]) (.block 0 (.loop (.seq (.seq (.rgn [⟨none, [(.mv 8 (.t 4)), (.bin 9 .geq (.t 8) (.k (I 0)))]⟩] [0, 3, 4, 9]) (.cond (.t 9) .skip (.exit 0))) (.seq (.block 1 (.rgn [⟨none, [(.mv 12 (.t 3)), (.mv 13 (.t 0)), (.mv 14 (.t 4)), (.ia 15 1 (.t 13) (.t 14)), (.ld 16 false 1 (.t 15)), (.un 17 .neg (.t 16)), (.bsl 18 1 1 [(I 0)] [(0, (.t 17))]), (.app 19 1 8 (.t 12) (.t 18)), (.mv 3 (.t 19))]⟩] [0, 3, 4])) (.rgn [⟨none, [(.mv 10 (.t 4)), (.bin 11 .sub (.t 10) (.k (I 1))), (.mv 4 (.t 11))]⟩] [0, 3, 4])))))) (.seq (.rgn [⟨none, [(.mv 20 (.t 3)), (.mv 2 (.t 20))]⟩] [2]) .ret))))
theorem form49 : formOf Try.prog Try.f49 [2] = some G49 := by kernel_rfl
theorem res49 : resTmps Try.f49.results.toList = some [2] := by kernel_rfl

/-- oxgall/oxgalllaw02.through -/
def G50 : AC := (.seq (.rgn [⟨none, [(.mv 6 (.k (.sl true 0 [])))]⟩] [0, 1, 2]) (.seq (.rgn [⟨none, [(.mv 7 (.k (.sl true 0 [])))]⟩] [0, 1, 2, 7]) (.seq (.seq (.rgn [⟨none, [(.mv 8 (.k (I 0)))]⟩] [0, 1, 2, 7, 8]) (.block 0 (.loop (.seq (.seq (.rgn [⟨none, [(.mv 10 (.t 8)), (.mv 11 (.t 0)), (.len 12 (.t 11)), (.bin 13 .lss (.t 10) (.t 12))]⟩] [0, 1, 2, 7, 8, 13]) (.cond (.t 13) .skip (.exit 0))) (.seq (.block 1 (.seq (.rgn [⟨none, [(.mv 16 (.t 0)), (.mv 17 (.t 8)), (.ia 18 1 (.t 16) (.t 17)), (.ld 19 false 1 (.t 18)), (.call 20 86 [(.t 19)]), (.mv 9 (.t 20))]⟩] [0, 1, 2, 7, 8, 9]) (.seq (.rgn [⟨none, [(.mv 21 (.t 9)), (.mv 22 (.t 1)), (.bin 23 .eql (.t 21) (.t 22)), (.mv 24 (.t 23))]⟩, ⟨(some (24, false)), [(.mv 25 (.t 9)), (.mv 26 (.t 2)), (.bin 27 .eql (.t 25) (.t 26))]⟩, ⟨none, [(.pick 28 (.t 24) (.k (B true)) (.t 27))]⟩] [0, 1, 2, 7, 8, 28]) (.cond (.t 28) (.rgn [⟨none, [(.mv 29 (.t 7)), (.mv 30 (.t 0)), (.mv 31 (.t 8)), (.ia 32 1 (.t 30) (.t 31)), (.ld 33 false 1 (.t 32)), (.bsl 34 1 1 [(I 0)] [(0, (.t 33))]), (.app 35 1 8 (.t 29) (.t 34)), (.mv 7 (.t 35))]⟩] [0, 1, 2, 7, 8]) .skip)))) (.rgn [⟨none, [(.mv 14 (.t 8)), (.bin 15 .add (.t 14) (.k (I 1))), (.mv 8 (.t 15))]⟩] [0, 1, 2, 7, 8])))))) (.seq (.rgn [⟨none, [(.mv 36 (.t 7)), (.mv 6 (.t 36))]⟩] [6]) .ret))))
theorem form50 : formOf Try.prog Try.f50 [6] = some G50 := by kernel_rfl
theorem res50 : resTmps Try.f50.results.toList = some [6] := by kernel_rfl

/-- oxgall/stroke.newTable -/
def G63 : AC := (.seq (.rgn [⟨none, [(.box 1 2 (.t 0)), (.mv 2 (.k (.v (.pointer none))))]⟩] [1]) (.seq (.rgn [⟨none, [(.ld 6 true 2 (.t 1)), (.bld 7 [(I 0), (.sl true 0 []), (I 0), (I 0), (I 0), (I 0), (I 0), (I 0), (I 0), (I 0), (I 0), (I 0), (I 0), (I 0), (I 0), (I 0), (I 0), (I 0), (I 0), (I 0), (I 0), (I 0), (I 0), (I 0), (I 0), (I 0), (I 0), (I 0), (I 0), (I 0), (I 0), (I 0), (I 0), (I 0), (I 0), (I 0), (I 0), (I 0), (I 0), (I 0), (I 0), (I 0), (I 0), (I 0), (I 0), (I 0), (I 0), (I 0), (I 0), (I 0), (I 0), (I 0), (I 0), (I 0), (I 0), (I 0), (I 0), (I 0), (I 0), (I 0), (I 0), (I 0), (I 0), (I 0), (I 0), (I 0)] [(0, 2, (.t 6))]), (.box 8 66 (.t 7)), (.mv 3 (.t 8))]⟩] [1, 3]) (.seq (.seq (.rgn [⟨none, [(.fa 9 (.t 1) 1), (.ld 10 false 1 (.t 9)), (.len 11 (.t 10)), (.mv 12 (.k (I 0)))]⟩] [3, 10, 11, 12]) (.block 0 (.loop (.seq (.rgn [⟨none, [(.bin 13 .lss (.t 12) (.t 11))]⟩] [3, 10, 11, 12, 13]) (.seq (.cond (.t 13) .skip (.exit 0)) (.seq (.block 1 (.seq (.rgn [⟨none, [(.ia 14 2 (.t 10) (.t 12)), (.ld 15 true 2 (.t 14)), (.al 5 [(I 0), (I 0)]), (.st 2 (.t 5) (.t 15))]⟩] [3, 5, 10, 11, 12]) (.drw [⟨none, [(.mv 16 (.t 3)), (.iaa 17 2 1 (.t 5) (.k (I 0))), (.ld 18 false 1 (.t 17)), (.iaa 19 2 1 (.t 5) (.k (I 1))), (.ld 20 false 1 (.t 19)), (.mv 21 (.t 3)), (.iaa 22 2 1 (.t 5) (.k (I 1))), (.ld 23 false 1 (.t 22)), (.iaa 24 2 1 (.t 5) (.k (I 0))), (.ld 25 false 1 (.t 24)), (.nilc 26 (.t 16)), (.fa 27 (.t 26) 2), (.iaa 28 8 8 (.t 27) (.t 18)), (.iaa 29 8 1 (.t 28) (.t 20)), (.st 1 (.t 29) (.k (I 1))), (.nilc 30 (.t 21)), (.fa 31 (.t 30) 2), (.iaa 32 8 8 (.t 31) (.t 23)), (.iaa 33 8 1 (.t 32) (.t 25)), (.st 1 (.t 33) (.k (I 1)))]⟩] [(2, 4), (2, 7), (4, 7), (2, 9), (4, 9), (7, 9), (7, 14), (9, 14)] [3, 10, 11, 12]))) (.rgn [⟨none, [(.bin 34 .add (.t 12) (.k (I 1))), (.mv 12 (.t 34))]⟩] [3, 10, 11, 12]))))))) (.seq (.rgn [⟨none, [(.mv 35 (.t 3)), (.mv 2 (.t 35))]⟩] [2]) .ret))))
theorem form63 : formOf Try.prog Try.f63 [2] = some G63 := by kernel_rfl
theorem res63 : resTmps Try.f63.results.toList = some [2] := by kernel_rfl

/-- (*oxgall/stroke.table).down -/
def G64 : AC := (.seq (.rgn [⟨none, [(.box 2 1 (.t 0)), (.mv 4 (.k (.sl true 0 [])))]⟩] [1, 2]) (.seq (.rgn [⟨none, [(.mv 13 (.t 1)), (.call 14 66 [(.t 13)]), (.al 5 [(.sl true 0 [])]), (.st 1 (.t 5) (.t 14))]⟩] [2, 5]) (.seq (.rgn [⟨none, [(.al 6 [(.sl true 0 [])])]⟩] [2, 5, 6]) (.seq (.rgn [⟨none, [(.mkf 15 (.func 91) [] [(.t 2), (.t 5), (.t 6)]), (.al 7 [(.v .nilFunc)]), (.st 1 (.t 7) (.t 15))]⟩] [2, 5, 6, 7]) (.seq (.rgn [⟨none, [(.mkf 16 (.func 92) [] [(.t 7)]), (.mv 8 (.t 16))]⟩] [2, 5, 6, 7, 8]) (.seq (.block 0 (.loop (.block 1 (.seq (.rgn [⟨none, [(.ld 18 false 1 (.t 2)), (.ld 19 false 1 (.t 5)), (.call 20 93 [(.t 18), (.t 19)]), (.mv 17 (.t 20)), (.ext 21 (.t 17) 0), (.ext 22 (.t 17) 1), (.mv 9 (.t 21)), (.mv 10 (.t 22))]⟩] [2, 5, 6, 7, 8, 9, 10]) (.seq (.seq (.rgn [⟨none, [(.mv 23 (.t 9)), (.bin 24 .lss (.t 23) (.k (I 0)))]⟩] [2, 5, 6, 7, 8, 9, 10, 24]) (.cond (.t 24) (.exit 0) .skip)) (.seq (.rgn [⟨none, [(.mv 25 (.t 8)), (.mv 26 (.t 10)), (.mv 27 (.t 9)), (.bin 28 .add (.t 27) (.k (I 1))), (.callv 29 (.t 25) [(.t 26), (.t 28)])]⟩] [2, 5, 6, 7, 8, 9]) (.rgn [⟨none, [(.ld 30 false 1 (.t 7)), (.mv 31 (.t 9)), (.bld 32 [(I 0), (I 0), (I 0)] [(0, 1, (.k (I 2))), (1, 1, (.t 31))]), (.callv 33 (.t 30) [(.t 32)])]⟩] [2, 5, 6, 7, 8]))))))) (.seq (.seq (.rgn [⟨none, [(.ld 34 false 1 (.t 2)), (.ld 35 false 1 (.t 5)), (.call 36 60 [(.t 34), (.t 35)]), (.len 37 (.t 36)), (.mv 38 (.k (I 0)))]⟩] [5, 6, 8, 36, 37, 38]) (.block 2 (.loop (.seq (.rgn [⟨none, [(.bin 39 .lss (.t 38) (.t 37))]⟩] [5, 6, 8, 36, 37, 38, 39]) (.seq (.cond (.t 39) .skip (.exit 2)) (.seq (.block 3 (.seq (.rgn [⟨none, [(.mv 40 (.t 38)), (.ia 41 1 (.t 36) (.t 38)), (.ld 42 false 1 (.t 41)), (.mv 11 (.t 40)), (.mv 12 (.t 42))]⟩] [5, 6, 8, 11, 12, 36, 37, 38]) (.rgn [⟨none, [(.mv 43 (.t 8)), (.mv 44 (.t 11)), (.ld 45 false 1 (.t 5)), (.mv 46 (.t 11)), (.slc 47 1 (.t 45) (some (.t 46)) none none), (.mv 48 (.t 12)), (.call 49 90 [(.t 47), (.t 48)]), (.bin 50 .add (.t 44) (.t 49)), (.mv 51 (.t 11)), (.callv 52 (.t 43) [(.t 50), (.t 51)])]⟩] [5, 6, 8, 36, 37, 38]))) (.rgn [⟨none, [(.bin 53 .add (.t 38) (.k (I 1))), (.mv 38 (.t 53))]⟩] [5, 6, 8, 36, 37, 38]))))))) (.seq (.rgn [⟨none, [(.ld 54 false 1 (.t 6)), (.mv 4 (.t 54))]⟩] [4]) .ret))))))))
theorem form64 : formOf Try.prog Try.f64 [4] = some G64 := by kernel_rfl
theorem res64 : resTmps Try.f64.results.toList = some [4] := by kernel_rfl

/-- (*oxgall/stroke.table).up -/
def G65 : AC := (.seq (.rgn [⟨none, [(.mv 6 (.k (.sl true 0 [])))]⟩] [0, 1, 2]) (.seq (.rgn [⟨none, [(.mv 12 (.t 2)), (.call 13 66 [(.t 12)]), (.mv 7 (.t 13))]⟩] [0, 1, 7]) (.seq (.rgn [⟨none, [(.mv 8 (.k (.sl true 0 [])))]⟩] [0, 1, 7, 8]) (.seq (.seq (.rgn [⟨none, [(.mv 14 (.t 1)), (.len 15 (.t 14)), (.mv 16 (.k (I 0)))]⟩] [0, 7, 8, 14, 15, 16]) (.block 0 (.loop (.seq (.rgn [⟨none, [(.bin 17 .lss (.t 16) (.t 15))]⟩] [0, 7, 8, 14, 15, 16, 17]) (.seq (.cond (.t 17) .skip (.exit 0)) (.seq (.block 1 (.seq (.rgn [⟨none, [(.ia 18 3 (.t 14) (.t 16)), (.ld 19 true 3 (.t 18)), (.al 10 [(I 0), (I 0), (I 0)]), (.st 3 (.t 10) (.t 19))]⟩] [0, 7, 8, 10, 14, 15, 16]) (.seq (.rgn [⟨none, [(.ld 20 true 3 (.t 10)), (.al 11 [(I 0), (I 0), (I 0)]), (.st 3 (.t 11) (.t 20))]⟩] [0, 7, 8, 10, 11, 14, 15, 16]) (.seq (.seq (.rgn [⟨none, [(.fa 21 (.t 10) 0), (.ld 22 false 1 (.t 21)), (.bin 23 .eql (.t 22) (.k (I 2)))]⟩] [0, 7, 8, 10, 11, 14, 15, 16, 23]) (.cond (.t 23) (.drw [⟨none, [(.fa 24 (.t 10) 1), (.ld 25 false 1 (.t 24)), (.mv 26 (.t 7)), (.fa 27 (.t 10) 1), (.ld 28 false 1 (.t 27)), (.ia 29 1 (.t 26) (.t 28)), (.ld 30 false 1 (.t 29)), (.bld 31 [(I 0), (I 0), (I 0)] [(0, 1, (.k (I 3))), (1, 1, (.t 25)), (2, 1, (.t 30))]), (.st 3 (.t 11) (.t 31))]⟩] [(1, 4), (1, 6)] [0, 7, 8, 10, 11, 14, 15, 16]) .skip)) (.seq (.rgn [⟨none, [(.mv 32 (.t 0)), (.mv 33 (.t 7)), (.ld 34 true 3 (.t 10)), (.call 35 68 [(.t 32), (.t 33), (.t 34)]), (.mv 7 (.t 35))]⟩] [0, 7, 8, 11, 14, 15, 16]) (.drw [⟨none, [(.mv 36 (.t 8)), (.mv 37 (.t 8)), (.len 38 (.t 37)), (.mv 39 (.t 8)), (.len 40 (.t 39)), (.slc 41 3 (.t 36) none (some (.t 38)) (some (.t 40))), (.ld 42 true 3 (.t 11)), (.bsl 43 1 3 [(I 0), (I 0), (I 0)] [(0, (.t 42))]), (.app 44 3 24 (.t 41) (.t 43)), (.mv 8 (.t 44))]⟩] [] [0, 7, 8, 14, 15, 16])))))) (.rgn [⟨none, [(.bin 45 .add (.t 16) (.k (I 1))), (.mv 16 (.t 45))]⟩] [0, 7, 8, 14, 15, 16]))))))) (.seq (.rgn [⟨none, [(.mv 46 (.t 8)), (.call 47 94 [(.t 46)])]⟩] [8]) (.seq (.rgn [⟨none, [(.mv 48 (.t 8)), (.mv 6 (.t 48))]⟩] [6]) .ret))))))
theorem form65 : formOf Try.prog Try.f65 [6] = some G65 := by kernel_rfl
theorem res65 : resTmps Try.f65.results.toList = some [6] := by kernel_rfl

/-- slices.Clone[[]int,int] -/
def G66 : AC := (.seq (.rgn [⟨none, [(.mv 2 (.k (.sl true 0 [])))]⟩] [0]) (.seq (.seq (.rgn [⟨none, [(.mv 3 (.t 0)), (.isn 4 false 0 (.t 3))]⟩] [0, 4]) (.cond (.t 4) (.seq (.rgn [⟨none, [(.mv 2 (.k (.sl true 0 [])))]⟩] [2]) .ret) .skip)) (.seq (.rgn [⟨none, [(.bsl 5 0 1 [(I 0)] []), (.mv 6 (.t 0)), (.app 7 1 8 (.t 5) (.t 6)), (.mv 2 (.t 7))]⟩] [2]) .ret)))
theorem form66 : formOf Try.prog Try.f66 [2] = some G66 := by kernel_rfl
theorem res66 : resTmps Try.f66.results.toList = some [2] := by kernel_rfl

/-- (*oxgall/stroke.table).isMove -/
def G67 : AC := (.seq (.rgn [⟨none, [(.box 5 3 (.t 2)), (.mv 6 (.k (B false)))]⟩] [0, 1, 5]) (.seq (.seq (.rgn [⟨none, [(.fa 9 (.t 5) 0), (.ld 10 false 1 (.t 9)), (.bin 11 .eql (.t 10) (.k (I 3)))]⟩] [0, 1, 5, 11]) (.cond (.t 11) (.seq (.drw [⟨none, [(.mv 12 (.t 1)), (.len 13 (.t 12)), (.fa 14 (.t 5) 1), (.ld 15 false 1 (.t 14)), (.bsl 16 1 1 [(I 0)] [(0, (.t 15))]), (.call 17 56 [(.k (I 0)), (.t 13), (.t 16)]), (.mv 18 (.t 17))]⟩, ⟨(some (18, true)), [(.fa 19 (.t 5) 2), (.ld 20 false 1 (.t 19)), (.bin 21 .neq (.t 20) (.k (I 0)))]⟩, ⟨none, [(.pick 22 (.t 18) (.t 21) (.k (B false))), (.mv 23 (.t 22))]⟩, ⟨(some (23, true)), [(.mv 24 (.t 0)), (.nilc 25 (.t 24)), (.fa 26 (.t 25) 0), (.fa 27 (.t 26) 0), (.ld 28 false 1 (.t 27)), (.un 29 .neg (.t 28)), (.mv 30 (.t 0)), (.nilc 31 (.t 30)), (.fa 32 (.t 31) 0), (.fa 33 (.t 32) 0), (.ld 34 false 1 (.t 33)), (.fa 35 (.t 5) 2), (.ld 36 false 1 (.t 35)), (.bsl 37 1 1 [(I 0)] [(0, (.t 36))]), (.call 38 56 [(.t 29), (.t 34), (.t 37)])]⟩, ⟨none, [(.pick 39 (.t 23) (.t 38) (.k (B false))), (.mv 6 (.t 39))]⟩] [(16, 22), (16, 24), (22, 24), (16, 25), (22, 25)] [6]) .ret) .skip)) (.seq (.seq (.rgn [⟨none, [(.mv 40 (.t 1)), (.len 41 (.t 40)), (.bin 42 .sub (.t 41) (.k (I 2))), (.fa 43 (.t 5) 1), (.ld 44 false 1 (.t 43)), (.bsl 45 1 1 [(I 0)] [(0, (.t 44))]), (.call 46 56 [(.k (I 0)), (.t 42), (.t 45)]), (.un 47 .not (.t 46)), (.mv 48 (.t 47))]⟩, ⟨(some (48, false)), [(.fa 49 (.t 5) 2), (.ld 50 false 1 (.t 49)), (.bin 51 .neq (.t 50) (.k (I 0)))]⟩, ⟨none, [(.pick 52 (.t 48) (.k (B true)) (.t 51))]⟩] [0, 1, 5, 52]) (.cond (.t 52) (.seq (.rgn [⟨none, [(.mv 6 (.k (B false)))]⟩] [6]) .ret) .skip)) (.seq (.drw [⟨none, [(.mv 53 (.t 1)), (.fa 54 (.t 5) 1), (.ld 55 false 1 (.t 54)), (.ia 56 1 (.t 53) (.t 55)), (.ld 57 false 1 (.t 56)), (.mv 58 (.t 1)), (.fa 59 (.t 5) 1), (.ld 60 false 1 (.t 59)), (.bin 61 .add (.t 60) (.k (I 1))), (.ia 62 1 (.t 58) (.t 61)), (.ld 63 false 1 (.t 62)), (.mv 7 (.t 57)), (.mv 8 (.t 63))]⟩] [(2, 7), (4, 7), (2, 10), (4, 10)] [0, 5, 7, 8]) (.seq (.rgn [⟨none, [(.fa 64 (.t 5) 0), (.ld 65 false 1 (.t 64)), (.bin 66 .eql (.t 65) (.k (I 1))), (.mv 67 (.t 66))]⟩, ⟨(some (67, true)), [(.mv 68 (.t 0)), (.mv 69 (.t 7)), (.mv 70 (.t 8)), (.call 71 75 [(.t 68), (.t 69), (.t 70)])]⟩, ⟨none, [(.pick 72 (.t 67) (.t 71) (.k (B false))), (.mv 73 (.t 72))]⟩, ⟨(some (73, false)), [(.fa 74 (.t 5) 0), (.ld 75 false 1 (.t 74)), (.bin 76 .eql (.t 75) (.k (I 2))), (.mv 77 (.t 76))]⟩, ⟨(some (77, true)), [(.mv 78 (.t 7)), (.mv 79 (.t 8)), (.un 80 .neg (.t 79)), (.bin 81 .eql (.t 78) (.t 80))]⟩, ⟨(some (73, false)), [(.pick 82 (.t 77) (.t 81) (.k (B false)))]⟩, ⟨none, [(.pick 83 (.t 73) (.k (B true)) (.t 82)), (.mv 6 (.t 83))]⟩] [6]) .ret)))))
theorem form67 : formOf Try.prog Try.f67 [6] = some G67 := by kernel_rfl
theorem res67 : resTmps Try.f67.results.toList = some [6] := by kernel_rfl

/-- (*oxgall/stroke.table).move -/
def G68 : AC := (.seq (.rgn [⟨none, [(.box 5 3 (.t 2)), (.mv 6 (.k (.sl true 0 [])))]⟩] [1, 5]) (.seq (.seq (.rgn [⟨none, [(.fa 7 (.t 5) 0), (.ld 8 false 1 (.t 7))]⟩] [1, 5, 8]) (.block 0 (.seq (.rgn [⟨none, [(.bin 10 .eql (.t 8) (.k (I 1))), (.mv 9 (.t 10))]⟩] [1, 5, 8, 9]) (.cond (.t 9) (.seq (.drw [⟨none, [(.mv 11 (.t 1)), (.fa 12 (.t 5) 1), (.ld 13 false 1 (.t 12)), (.mv 14 (.t 1)), (.fa 15 (.t 5) 1), (.ld 16 false 1 (.t 15)), (.bin 17 .add (.t 16) (.k (I 1))), (.mv 18 (.t 1)), (.fa 19 (.t 5) 1), (.ld 20 false 1 (.t 19)), (.bin 21 .add (.t 20) (.k (I 1))), (.ia 22 1 (.t 18) (.t 21)), (.ld 23 false 1 (.t 22)), (.mv 24 (.t 1)), (.fa 25 (.t 5) 1), (.ld 26 false 1 (.t 25)), (.ia 27 1 (.t 24) (.t 26)), (.ld 28 false 1 (.t 27)), (.ia 29 1 (.t 11) (.t 13)), (.st 1 (.t 29) (.t 23)), (.ia 30 1 (.t 14) (.t 17)), (.st 1 (.t 30) (.t 28))]⟩] [(2, 5), (2, 9), (5, 9), (2, 12), (5, 12), (2, 15), (5, 15), (9, 15), (12, 15), (2, 17), (5, 17), (9, 17), (12, 17), (5, 19)] [1]) (.seq (.rgn [⟨none, [(.mv 31 (.t 1)), (.mv 6 (.t 31))]⟩] [6]) .ret)) (.seq (.rgn [⟨none, [(.bin 33 .eql (.t 8) (.k (I 2))), (.mv 32 (.t 33))]⟩] [1, 5, 32]) (.cond (.t 32) (.seq (.rgn [⟨none, [(.mv 34 (.t 1)), (.fa 35 (.t 5) 1), (.ld 36 false 1 (.t 35)), (.fa 37 (.t 5) 1), (.ld 38 false 1 (.t 37)), (.bin 39 .add (.t 38) (.k (I 2))), (.call 40 95 [(.t 34), (.t 36), (.t 39)]), (.mv 6 (.t 40))]⟩] [6]) .ret) .skip)))))) (.seq (.rgn [⟨none, [(.mv 41 (.t 1)), (.fa 42 (.t 5) 1), (.ld 43 false 1 (.t 42)), (.fa 44 (.t 5) 2), (.ld 45 false 1 (.t 44)), (.fa 46 (.t 5) 2), (.ld 47 false 1 (.t 46)), (.un 48 .neg (.t 47)), (.bsl 49 2 1 [(I 0)] [(0, (.t 45)), (1, (.t 48))]), (.call 50 96 [(.t 41), (.t 43), (.t 49)]), (.mv 6 (.t 50))]⟩] [6]) .ret)))
theorem form68 : formOf Try.prog Try.f68 [6] = some G68 := by kernel_rfl
theorem res68 : resTmps Try.f68.results.toList = some [6] := by kernel_rfl

/-- oxgall/oxgallref02.Move -/
def G69 : AC := (.seq (.rgn [⟨none, [(.box 3 2 (.t 0)), (.box 5 3 (.t 2)), (.mv 6 (.k (.sl true 0 []))), (.mv 7 (.k (B false)))]⟩] [1, 3, 5]) (.seq (.seq (.rgn [⟨none, [(.fa 10 (.t 5) 1), (.ld 11 false 1 (.t 10)), (.bin 12 .lss (.t 11) (.k (I 0))), (.mv 13 (.t 12))]⟩, ⟨(some (13, false)), [(.fa 14 (.t 5) 1), (.ld 15 false 1 (.t 14)), (.mv 16 (.t 1)), (.len 17 (.t 16)), (.bin 18 .gtr (.t 15) (.t 17))]⟩, ⟨none, [(.pick 19 (.t 13) (.k (B true)) (.t 18))]⟩] [1, 3, 5, 19]) (.cond (.t 19) (.seq (.rgn [⟨none, [(.mv 6 (.k (.sl true 0 []))), (.mv 7 (.k (B false)))]⟩] [6, 7]) .ret) .skip)) (.seq (.seq (.rgn [⟨none, [(.fa 20 (.t 5) 0), (.ld 21 false 1 (.t 20)), (.bin 22 .eql (.t 21) (.k (I 3)))]⟩] [1, 3, 5, 22]) (.cond (.t 22) (.seq (.seq (.rgn [⟨none, [(.ld 23 true 2 (.t 3)), (.fa 24 (.t 5) 2), (.ld 25 false 1 (.t 24)), (.call 26 51 [(.t 23), (.t 25)]), (.un 27 .not (.t 26))]⟩] [1, 5, 27]) (.cond (.t 27) (.seq (.rgn [⟨none, [(.mv 6 (.k (.sl true 0 []))), (.mv 7 (.k (B false)))]⟩] [6, 7]) .ret) .skip)) (.seq (.rgn [⟨none, [(.bsl 28 0 1 [(I 0)] []), (.mv 29 (.t 1)), (.fa 30 (.t 5) 1), (.ld 31 false 1 (.t 30)), (.slc 32 1 (.t 29) none (some (.t 31)) none), (.app 33 1 8 (.t 28) (.t 32)), (.mv 8 (.t 33))]⟩] [1, 5, 8]) (.seq (.rgn [⟨none, [(.mv 34 (.t 8)), (.fa 35 (.t 5) 2), (.ld 36 false 1 (.t 35)), (.fa 37 (.t 5) 2), (.ld 38 false 1 (.t 37)), (.un 39 .neg (.t 38)), (.bsl 40 2 1 [(I 0)] [(0, (.t 36)), (1, (.t 39))]), (.app 41 1 8 (.t 34) (.t 40)), (.mv 8 (.t 41))]⟩] [1, 5, 8]) (.seq (.rgn [⟨none, [(.mv 42 (.t 8)), (.mv 43 (.t 1)), (.fa 44 (.t 5) 1), (.ld 45 false 1 (.t 44)), (.slc 46 1 (.t 43) (some (.t 45)) none none), (.app 47 1 8 (.t 42) (.t 46)), (.mv 6 (.t 47)), (.mv 7 (.k (B true)))]⟩] [6, 7]) .ret)))) .skip)) (.seq (.seq (.rgn [⟨none, [(.fa 48 (.t 5) 1), (.ld 49 false 1 (.t 48)), (.bin 50 .add (.t 49) (.k (I 1))), (.mv 51 (.t 1)), (.len 52 (.t 51)), (.bin 53 .geq (.t 50) (.t 52)), (.mv 54 (.t 53))]⟩, ⟨(some (54, false)), [(.fa 55 (.t 5) 2), (.ld 56 false 1 (.t 55)), (.bin 57 .neq (.t 56) (.k (I 0)))]⟩, ⟨none, [(.pick 58 (.t 54) (.k (B true)) (.t 57))]⟩] [1, 3, 5, 58]) (.cond (.t 58) (.seq (.rgn [⟨none, [(.mv 6 (.k (.sl true 0 []))), (.mv 7 (.k (B false)))]⟩] [6, 7]) .ret) .skip)) (.seq (.rgn [⟨none, [(.bsl 59 0 1 [(I 0)] []), (.mv 60 (.t 1)), (.app 61 1 8 (.t 59) (.t 60)), (.mv 9 (.t 61))]⟩] [1, 3, 5, 9]) (.seq (.seq (.drw [⟨none, [(.fa 62 (.t 5) 0), (.ld 63 false 1 (.t 62)), (.bin 64 .eql (.t 63) (.k (I 1))), (.mv 65 (.t 64))]⟩, ⟨(some (65, true)), [(.ld 66 true 2 (.t 3)), (.mv 67 (.t 1)), (.fa 68 (.t 5) 1), (.ld 69 false 1 (.t 68)), (.ia 70 1 (.t 67) (.t 69)), (.ld 71 false 1 (.t 70)), (.mv 72 (.t 1)), (.fa 73 (.t 5) 1), (.ld 74 false 1 (.t 73)), (.bin 75 .add (.t 74) (.k (I 1))), (.ia 76 1 (.t 72) (.t 75)), (.ld 77 false 1 (.t 76)), (.call 78 52 [(.t 66), (.t 71), (.t 77)])]⟩, ⟨none, [(.pick 79 (.t 65) (.t 78) (.k (B false)))]⟩] [(4, 7), (4, 9), (4, 12), (7, 12), (9, 12), (4, 15), (7, 15), (9, 15)] [1, 5, 9, 79]) (.cond (.t 79) (.seq (.drw [⟨none, [(.mv 80 (.t 9)), (.fa 81 (.t 5) 1), (.ld 82 false 1 (.t 81)), (.mv 83 (.t 9)), (.fa 84 (.t 5) 1), (.ld 85 false 1 (.t 84)), (.bin 86 .add (.t 85) (.k (I 1))), (.mv 87 (.t 1)), (.fa 88 (.t 5) 1), (.ld 89 false 1 (.t 88)), (.bin 90 .add (.t 89) (.k (I 1))), (.ia 91 1 (.t 87) (.t 90)), (.ld 92 false 1 (.t 91)), (.mv 93 (.t 1)), (.fa 94 (.t 5) 1), (.ld 95 false 1 (.t 94)), (.ia 96 1 (.t 93) (.t 95)), (.ld 97 false 1 (.t 96)), (.ia 98 1 (.t 80) (.t 82)), (.st 1 (.t 98) (.t 92)), (.ia 99 1 (.t 83) (.t 86)), (.st 1 (.t 99) (.t 97))]⟩] [(2, 5), (2, 9), (5, 9), (2, 12), (5, 12), (2, 15), (5, 15), (9, 15), (12, 15), (2, 17), (5, 17), (9, 17), (12, 17), (5, 19)] [9]) (.seq (.rgn [⟨none, [(.mv 100 (.t 9)), (.mv 6 (.t 100)), (.mv 7 (.k (B true)))]⟩] [6, 7]) .ret)) .skip)) (.seq (.seq (.drw [⟨none, [(.fa 101 (.t 5) 0), (.ld 102 false 1 (.t 101)), (.bin 103 .eql (.t 102) (.k (I 2))), (.mv 104 (.t 103))]⟩, ⟨(some (104, true)), [(.mv 105 (.t 1)), (.fa 106 (.t 5) 1), (.ld 107 false 1 (.t 106)), (.bin 108 .add (.t 107) (.k (I 1))), (.ia 109 1 (.t 105) (.t 108)), (.ld 110 false 1 (.t 109)), (.mv 111 (.t 1)), (.fa 112 (.t 5) 1), (.ld 113 false 1 (.t 112)), (.ia 114 1 (.t 111) (.t 113)), (.ld 115 false 1 (.t 114)), (.un 116 .neg (.t 115)), (.bin 117 .eql (.t 110) (.t 116))]⟩, ⟨none, [(.pick 118 (.t 104) (.t 117) (.k (B false)))]⟩] [(6, 12), (9, 12), (6, 14), (9, 14)] [5, 9, 118]) (.cond (.t 118) (.seq (.drw [⟨none, [(.mv 119 (.t 9)), (.fa 120 (.t 5) 1), (.ld 121 false 1 (.t 120)), (.bin 122 .add (.t 121) (.k (I 1))), (.call 123 74 [(.t 119), (.t 122)]), (.fa 124 (.t 5) 1), (.ld 125 false 1 (.t 124)), (.call 126 74 [(.t 123), (.t 125)]), (.mv 6 (.t 126)), (.mv 7 (.k (B true)))]⟩] [(2, 6), (4, 6)] [6, 7]) .ret) .skip)) (.seq (.rgn [⟨none, [(.mv 6 (.k (.sl true 0 []))), (.mv 7 (.k (B false)))]⟩] [6, 7]) .ret))))))))
theorem form69 : formOf Try.prog Try.f69 [6, 7] = some G69 := by kernel_rfl
theorem res69 : resTmps Try.f69.results.toList = some [6, 7] := by kernel_rfl

/-- (*oxgall/stroke.table).pile -/
def G70 : AC := (.seq (.rgn [⟨none, [(.mv 4 (.k (.v (.pointer none))))]⟩] [0, 1]) (.seq (.rgn [⟨none, [(.mv 8 (.t 0)), (.bld 9 [(.v (.pointer none)), (.sl true 0 []), (.sl true 0 []), (.sl true 0 []), (.sl true 0 []), (.sl true 0 []), (.sl true 0 []), (.sl true 0 []), (.sl true 0 [])] [(0, 1, (.t 8))]), (.box 10 9 (.t 9)), (.mv 5 (.t 10))]⟩] [1, 5]) (.seq (.seq (.rgn [⟨none, [(.mv 11 (.t 1)), (.len 12 (.t 11)), (.mv 13 (.k (I 0)))]⟩] [5, 11, 12, 13]) (.block 0 (.loop (.seq (.rgn [⟨none, [(.bin 14 .lss (.t 13) (.t 12))]⟩] [5, 11, 12, 13, 14]) (.seq (.cond (.t 14) .skip (.exit 0)) (.seq (.block 1 (.seq (.rgn [⟨none, [(.ia 15 1 (.t 11) (.t 13)), (.ld 16 false 1 (.t 15)), (.mv 7 (.t 16))]⟩] [5, 7, 11, 12, 13]) (.rgn [⟨none, [(.mv 17 (.t 5)), (.mv 18 (.t 7)), (.call 19 97 [(.t 17), (.t 18)])]⟩] [5, 11, 12, 13]))) (.rgn [⟨none, [(.bin 20 .add (.t 13) (.k (I 1))), (.mv 13 (.t 20))]⟩] [5, 11, 12, 13]))))))) (.seq (.rgn [⟨none, [(.mv 21 (.t 5)), (.mv 4 (.t 21))]⟩] [4]) .ret))))
theorem form70 : formOf Try.prog Try.f70 [4] = some G70 := by kernel_rfl
theorem res70 : resTmps Try.f70.results.toList = some [4] := by kernel_rfl

/-- (*oxgall/stroke.pile).fronts -/
def G71 : AC := (.seq (.rgn [⟨none, [(.box 1 1 (.t 0)), (.mv 2 (.k (.v .nilFunc)))]⟩] [1]) (.seq (.rgn [⟨none, [(.mkf 3 (.func 98) [] [(.t 1)]), (.mv 2 (.t 3))]⟩] [2]) .ret))
theorem form71 : formOf Try.prog Try.f71 [2] = some G71 := by kernel_rfl
theorem res71 : resTmps Try.f71.results.toList = some [2] := by kernel_rfl

/-- oxgall/oxgallref02.firsts -/
def G72 : AC := (.seq (.rgn [⟨none, [(.box 2 2 (.t 0)), (.mv 4 (.k (.sl true 0 [])))]⟩] [1, 2]) (.seq (.rgn [⟨none, [(.mv 5 (.k (.sl true 0 [])))]⟩] [1, 2, 5]) (.seq (.seq (.rgn [⟨none, [(.mv 6 (.k (I 0)))]⟩] [1, 2, 5, 6]) (.block 0 (.loop (.seq (.seq (.rgn [⟨none, [(.mv 10 (.t 6)), (.mv 11 (.t 1)), (.len 12 (.t 11)), (.bin 13 .lss (.t 10) (.t 12))]⟩] [1, 2, 5, 6, 13]) (.cond (.t 13) .skip (.exit 0))) (.seq (.block 1 (.seq (.rgn [⟨none, [(.mv 7 (.k (B true)))]⟩] [1, 2, 5, 6, 7]) (.seq (.seq (.rgn [⟨none, [(.mv 8 (.k (I 0)))]⟩] [1, 2, 5, 6, 7, 8]) (.block 2 (.loop (.seq (.seq (.rgn [⟨none, [(.mv 16 (.t 8)), (.mv 17 (.t 6)), (.bin 18 .lss (.t 16) (.t 17))]⟩] [1, 2, 5, 6, 7, 8, 18]) (.cond (.t 18) .skip (.exit 2))) (.seq (.block 3 (.drw [⟨none, [(.mv 21 (.t 7)), (.mv 22 (.t 21))]⟩, ⟨(some (22, true)), [(.ld 23 true 2 (.t 2)), (.mv 24 (.t 1)), (.mv 25 (.t 8)), (.ia 26 1 (.t 24) (.t 25)), (.ld 27 false 1 (.t 26)), (.mv 28 (.t 1)), (.mv 29 (.t 6)), (.ia 30 1 (.t 28) (.t 29)), (.ld 31 false 1 (.t 30)), (.call 32 52 [(.t 23), (.t 27), (.t 31)])]⟩, ⟨none, [(.pick 33 (.t 22) (.t 32) (.k (B false))), (.mv 7 (.t 33))]⟩] [(2, 6), (2, 10), (6, 10)] [1, 2, 5, 6, 7, 8])) (.rgn [⟨none, [(.mv 19 (.t 8)), (.bin 20 .add (.t 19) (.k (I 1))), (.mv 8 (.t 20))]⟩] [1, 2, 5, 6, 7, 8])))))) (.seq (.seq (.rgn [⟨none, [(.mv 34 (.t 7)), (.un 35 .not (.t 34))]⟩] [1, 2, 5, 6, 35]) (.cond (.t 35) (.exit 1) .skip)) (.seq (.rgn [⟨none, [(.mv 36 (.t 5)), (.mv 37 (.t 1)), (.mv 38 (.t 6)), (.ia 39 1 (.t 37) (.t 38)), (.ld 40 false 1 (.t 39)), (.bsl 41 1 1 [(I 0)] [(0, (.t 40))]), (.app 42 1 8 (.t 36) (.t 41)), (.mv 5 (.t 42))]⟩] [1, 2, 5, 6]) (.seq (.rgn [⟨none, [(.mv 43 (.t 5)), (.len 44 (.t 43)), (.bin 45 .sub (.t 44) (.k (I 1))), (.mv 9 (.t 45))]⟩] [1, 2, 5, 6, 9]) (.block 4 (.loop (.seq (.seq (.drw [⟨none, [(.mv 46 (.t 9)), (.bin 47 .gtr (.t 46) (.k (I 0))), (.mv 48 (.t 47))]⟩, ⟨(some (48, true)), [(.mv 49 (.t 5)), (.mv 50 (.t 9)), (.ia 51 1 (.t 49) (.t 50)), (.ld 52 false 1 (.t 51)), (.call 53 99 [(.t 52)]), (.mv 54 (.t 5)), (.mv 55 (.t 9)), (.bin 56 .sub (.t 55) (.k (I 1))), (.ia 57 1 (.t 54) (.t 56)), (.ld 58 false 1 (.t 57)), (.call 59 99 [(.t 58)]), (.bin 60 .lss (.t 53) (.t 59))]⟩, ⟨none, [(.pick 61 (.t 48) (.t 60) (.k (B false)))]⟩] [(6, 12), (7, 12)] [1, 2, 5, 6, 9, 61]) (.cond (.t 61) .skip (.exit 4))) (.seq (.block 5 (.drw [⟨none, [(.mv 64 (.t 5)), (.mv 65 (.t 9)), (.mv 66 (.t 5)), (.mv 67 (.t 9)), (.bin 68 .sub (.t 67) (.k (I 1))), (.mv 69 (.t 5)), (.mv 70 (.t 9)), (.bin 71 .sub (.t 70) (.k (I 1))), (.ia 72 1 (.t 69) (.t 71)), (.ld 73 false 1 (.t 72)), (.mv 74 (.t 5)), (.mv 75 (.t 9)), (.ia 76 1 (.t 74) (.t 75)), (.ld 77 false 1 (.t 76)), (.ia 78 1 (.t 64) (.t 65)), (.st 1 (.t 78) (.t 73)), (.ia 79 1 (.t 66) (.t 68)), (.st 1 (.t 79) (.t 77))]⟩] [(9, 13)] [1, 2, 5, 6, 9])) (.rgn [⟨none, [(.mv 62 (.t 9)), (.bin 63 .sub (.t 62) (.k (I 1))), (.mv 9 (.t 63))]⟩] [1, 2, 5, 6, 9]))))))))))) (.rgn [⟨none, [(.mv 14 (.t 6)), (.bin 15 .add (.t 14) (.k (I 1))), (.mv 6 (.t 15))]⟩] [1, 2, 5, 6])))))) (.seq (.rgn [⟨none, [(.mv 80 (.t 5)), (.mv 4 (.t 80))]⟩] [4]) .ret))))
theorem form72 : formOf Try.prog Try.f72 [4] = some G72 := by kernel_rfl
theorem res72 : resTmps Try.f72.results.toList = some [4] := by kernel_rfl

/-- (*oxgall/stroke.pile).take -/
def G73 : AC := (.seq (.rgn [⟨none, [(.mv 6 (.t 1)), (.call 7 100 [(.t 6)]), (.mv 4 (.t 7))]⟩] [0, 4]) (.seq (.rgn [⟨none, [(.mv 8 (.k (I 0)))]⟩] [0, 4, 8]) (.block 0 (.loop (.seq (.rgn [⟨none, [(.bin 9 .lss (.t 8) (.k (I 8)))]⟩] [0, 4, 8, 9]) (.seq (.cond (.t 9) .skip (.exit 0)) (.seq (.block 1 (.seq (.rgn [⟨none, [(.mv 10 (.t 8)), (.mv 5 (.t 10))]⟩] [0, 4, 5, 8]) (.seq (.rgn [⟨none, [(.mv 11 (.t 5)), (.mv 12 (.t 4)), (.bin 13 .eql (.t 11) (.t 12)), (.mv 14 (.t 13))]⟩, ⟨(some (14, false)), [(.mv 15 (.t 0)), (.nilc 16 (.t 15)), (.fa 17 (.t 16) 0), (.ld 18 false 1 (.t 17)), (.mv 19 (.t 4)), (.mv 20 (.t 5)), (.nilc 21 (.t 18)), (.fa 22 (.t 21) 2), (.iaa 23 8 8 (.t 22) (.t 19)), (.iaa 24 8 1 (.t 23) (.t 20)), (.ld 25 false 1 (.t 24)), (.bin 26 .eql (.t 25) (.k (I 1)))]⟩, ⟨none, [(.pick 27 (.t 14) (.k (B true)) (.t 26))]⟩] [0, 4, 5, 8, 27]) (.cond (.t 27) (.drw [⟨none, [(.mv 28 (.t 0)), (.mv 29 (.t 5)), (.mv 30 (.t 0)), (.mv 31 (.t 5)), (.nilc 32 (.t 30)), (.fa 33 (.t 32) 1), (.iaa 34 8 1 (.t 33) (.t 31)), (.ld 35 false 1 (.t 34)), (.slc 36 1 (.t 35) (some (.k (I 1))) none none), (.nilc 37 (.t 28)), (.fa 38 (.t 37) 1), (.iaa 39 8 1 (.t 38) (.t 29)), (.st 1 (.t 39) (.t 36))]⟩] [] [0, 4, 8]) .skip)))) (.rgn [⟨none, [(.bin 40 .add (.t 8) (.k (I 1))), (.mv 8 (.t 40))]⟩] [0, 4, 8]))))))))
theorem form73 : formOf Try.prog Try.f73 [] = some G73 := by kernel_rfl
theorem res73 : resTmps Try.f73.results.toList = some [] := by kernel_rfl

/-- oxgall/oxgallref02.without -/
def G74 : AC := (.seq (.rgn [⟨none, [(.mv 4 (.k (.sl true 0 [])))]⟩] [0, 1]) (.seq (.drw [⟨none, [(.bsl 5 0 1 [(I 0)] []), (.mv 6 (.t 0)), (.mv 7 (.t 1)), (.slc 8 1 (.t 6) none (some (.t 7)) none), (.app 9 1 8 (.t 5) (.t 8)), (.mv 10 (.t 0)), (.mv 11 (.t 1)), (.bin 12 .add (.t 11) (.k (I 1))), (.slc 13 1 (.t 10) (some (.t 12)) none none), (.app 14 1 8 (.t 9) (.t 13)), (.mv 4 (.t 14))]⟩] [] [4]) .ret))
theorem form74 : formOf Try.prog Try.f74 [4] = some G74 := by kernel_rfl
theorem res74 : resTmps Try.f74.results.toList = some [4] := by kernel_rfl

/-- (*oxgall/stroke.table).can -/
def G75 : AC := (.seq (.rgn [⟨none, [(.mv 6 (.k (B false)))]⟩] [0, 1, 2]) (.seq (.drw [⟨none, [(.mv 7 (.t 1)), (.call 8 100 [(.t 7)]), (.mv 9 (.t 2)), (.call 10 100 [(.t 9)]), (.bin 11 .neq (.t 8) (.t 10)), (.mv 12 (.t 11))]⟩, ⟨(some (12, true)), [(.mv 13 (.t 0)), (.mv 14 (.t 1)), (.call 15 100 [(.t 14)]), (.mv 16 (.t 2)), (.call 17 100 [(.t 16)]), (.nilc 18 (.t 13)), (.fa 19 (.t 18) 2), (.iaa 20 8 8 (.t 19) (.t 15)), (.iaa 21 8 1 (.t 20) (.t 17)), (.ld 22 false 1 (.t 21)), (.bin 23 .eql (.t 22) (.k (I 0)))]⟩, ⟨none, [(.pick 24 (.t 12) (.t 23) (.k (B false))), (.mv 6 (.t 24))]⟩] [] [6]) .ret))
theorem form75 : formOf Try.prog Try.f75 [6] = some G75 := by kernel_rfl
theorem res75 : resTmps Try.f75.results.toList = some [6] := by kernel_rfl

/-- slices.Reverse[[]int,int] -/
def G76 : AC := (.seq (.rgn [⟨none, [(.mv 4 (.t 0)), (.len 5 (.t 4)), (.bin 6 .sub (.t 5) (.k (I 1))), (.mv 2 (.k (I 0))), (.mv 3 (.t 6))]⟩] [0, 2, 3]) (.block 0 (.loop (.seq (.seq (.rgn [⟨none, [(.mv 7 (.t 2)), (.mv 8 (.t 3)), (.bin 9 .lss (.t 7) (.t 8))]⟩] [0, 2, 3, 9]) (.cond (.t 9) .skip (.exit 0))) (.seq (.block 1 (.drw [⟨none, [(.mv 14 (.t 0)), (.mv 15 (.t 2)), (.mv 16 (.t 0)), (.mv 17 (.t 3)), (.mv 18 (.t 0)), (.mv 19 (.t 3)), (.ia 20 1 (.t 18) (.t 19)), (.ld 21 false 1 (.t 20)), (.mv 22 (.t 0)), (.mv 23 (.t 2)), (.ia 24 1 (.t 22) (.t 23)), (.ld 25 false 1 (.t 24)), (.ia 26 1 (.t 14) (.t 15)), (.st 1 (.t 26) (.t 21)), (.ia 27 1 (.t 16) (.t 17)), (.st 1 (.t 27) (.t 25))]⟩] [(7, 11)] [0, 2, 3])) (.rgn [⟨none, [(.mv 10 (.t 2)), (.bin 11 .add (.t 10) (.k (I 1))), (.mv 12 (.t 3)), (.bin 13 .sub (.t 12) (.k (I 1))), (.mv 2 (.t 11)), (.mv 3 (.t 13))]⟩] [0, 2, 3]))))))
theorem form76 : formOf Try.prog Try.f76 [] = some G76 := by kernel_rfl
theorem res76 : resTmps Try.f76.results.toList = some [] := by kernel_rfl

/-- oxgall/oxgallref02.first -/
def G78 : AC := (.seq (.rgn [⟨none, [(.box 2 2 (.t 0)), (.mv 4 (.k (I 0)))]⟩] [1, 2]) (.seq (.rgn [⟨none, [(.mv 5 (.k (I (-1))))]⟩] [1, 2, 5]) (.seq (.seq (.rgn [⟨none, [(.mv 6 (.k (I 0)))]⟩] [1, 2, 5, 6]) (.block 0 (.loop (.seq (.seq (.rgn [⟨none, [(.mv 9 (.t 6)), (.mv 10 (.t 1)), (.len 11 (.t 10)), (.bin 12 .lss (.t 9) (.t 11))]⟩] [1, 2, 5, 6, 12]) (.cond (.t 12) .skip (.exit 0))) (.seq (.block 1 (.seq (.rgn [⟨none, [(.mv 7 (.k (B true)))]⟩] [1, 2, 5, 6, 7]) (.seq (.seq (.rgn [⟨none, [(.mv 8 (.k (I 0)))]⟩] [1, 2, 5, 6, 7, 8]) (.block 2 (.loop (.seq (.seq (.rgn [⟨none, [(.mv 15 (.t 8)), (.mv 16 (.t 6)), (.bin 17 .lss (.t 15) (.t 16))]⟩] [1, 2, 5, 6, 7, 8, 17]) (.cond (.t 17) .skip (.exit 2))) (.seq (.block 3 (.drw [⟨none, [(.mv 20 (.t 7)), (.mv 21 (.t 20))]⟩, ⟨(some (21, true)), [(.ld 22 true 2 (.t 2)), (.mv 23 (.t 1)), (.mv 24 (.t 8)), (.ia 25 1 (.t 23) (.t 24)), (.ld 26 false 1 (.t 25)), (.mv 27 (.t 1)), (.mv 28 (.t 6)), (.ia 29 1 (.t 27) (.t 28)), (.ld 30 false 1 (.t 29)), (.call 31 52 [(.t 22), (.t 26), (.t 30)])]⟩, ⟨none, [(.pick 32 (.t 21) (.t 31) (.k (B false))), (.mv 7 (.t 32))]⟩] [(2, 6), (2, 10), (6, 10)] [1, 2, 5, 6, 7, 8])) (.rgn [⟨none, [(.mv 18 (.t 8)), (.bin 19 .add (.t 18) (.k (I 1))), (.mv 8 (.t 19))]⟩] [1, 2, 5, 6, 7, 8])))))) (.seq (.drw [⟨none, [(.mv 33 (.t 7)), (.mv 34 (.t 33))]⟩, ⟨(some (34, true)), [(.mv 35 (.t 5)), (.bin 36 .lss (.t 35) (.k (I 0))), (.mv 37 (.t 36))]⟩, ⟨(some (37, false)), [(.mv 38 (.t 1)), (.mv 39 (.t 6)), (.ia 40 1 (.t 38) (.t 39)), (.ld 41 false 1 (.t 40)), (.call 42 99 [(.t 41)]), (.mv 43 (.t 1)), (.mv 44 (.t 5)), (.ia 45 1 (.t 43) (.t 44)), (.ld 46 false 1 (.t 45)), (.call 47 99 [(.t 46)]), (.bin 48 .lss (.t 42) (.t 47))]⟩, ⟨(some (34, true)), [(.pick 49 (.t 37) (.k (B true)) (.t 48))]⟩, ⟨none, [(.pick 50 (.t 34) (.t 49) (.k (B false)))]⟩] [(8, 13), (9, 13)] [1, 2, 5, 6, 50]) (.cond (.t 50) (.rgn [⟨none, [(.mv 51 (.t 6)), (.mv 5 (.t 51))]⟩] [1, 2, 5, 6]) .skip))))) (.rgn [⟨none, [(.mv 13 (.t 6)), (.bin 14 .add (.t 13) (.k (I 1))), (.mv 6 (.t 14))]⟩] [1, 2, 5, 6])))))) (.seq (.rgn [⟨none, [(.mv 52 (.t 5)), (.mv 4 (.t 52))]⟩] [4]) .ret))))
theorem form78 : formOf Try.prog Try.f78 [4] = some G78 := by kernel_rfl
theorem res78 : resTmps Try.f78.results.toList = some [4] := by kernel_rfl

/-- oxgall/stroke.back -/
def G81 : AC := (.seq (.rgn [⟨none, [(.mv 2 (.k (.sl true 0 [])))]⟩] [0]) (.seq (.rgn [⟨none, [(.mv 5 (.t 0)), (.call 6 66 [(.t 5)]), (.mv 3 (.t 6))]⟩] [3]) (.seq (.rgn [⟨none, [(.mv 7 (.t 3)), (.call 8 76 [(.t 7)])]⟩] [3]) (.seq (.seq (.rgn [⟨none, [(.mv 9 (.t 3)), (.len 10 (.t 9)), (.mv 11 (.k (I 0)))]⟩] [3, 10, 11]) (.block 0 (.loop (.seq (.rgn [⟨none, [(.bin 12 .lss (.t 11) (.t 10))]⟩] [3, 10, 11, 12]) (.seq (.cond (.t 12) .skip (.exit 0)) (.seq (.block 1 (.seq (.rgn [⟨none, [(.mv 13 (.t 11)), (.mv 4 (.t 13))]⟩] [3, 4, 10, 11]) (.rgn [⟨none, [(.mv 14 (.t 3)), (.mv 15 (.t 4)), (.mv 16 (.t 3)), (.mv 17 (.t 4)), (.ia 18 1 (.t 16) (.t 17)), (.ld 19 false 1 (.t 18)), (.un 20 .neg (.t 19)), (.ia 21 1 (.t 14) (.t 15)), (.st 1 (.t 21) (.t 20))]⟩] [3, 10, 11]))) (.rgn [⟨none, [(.bin 22 .add (.t 11) (.k (I 1))), (.mv 11 (.t 22))]⟩] [3, 10, 11]))))))) (.seq (.rgn [⟨none, [(.mv 23 (.t 3)), (.mv 2 (.t 23))]⟩] [2]) .ret)))))
theorem form81 : formOf Try.prog Try.f81 [2] = some G81 := by kernel_rfl
theorem res81 : resTmps Try.f81.results.toList = some [2] := by kernel_rfl

/-- (*oxgall/stroke.pile).front -/
def G82 : AC := (.seq (.rgn [⟨none, [(.mv 4 (.k (B false)))]⟩] [0, 1]) (.seq (.drw [⟨none, [(.mv 6 (.t 0)), (.mv 7 (.t 1)), (.call 8 100 [(.t 7)]), (.nilc 9 (.t 6)), (.fa 10 (.t 9) 1), (.iaa 11 8 1 (.t 10) (.t 8)), (.ld 12 false 1 (.t 11)), (.mv 5 (.t 12))]⟩] [] [1, 5]) (.seq (.rgn [⟨none, [(.mv 13 (.t 5)), (.len 14 (.t 13)), (.bin 15 .gtr (.t 14) (.k (I 0))), (.mv 16 (.t 15))]⟩, ⟨(some (16, true)), [(.mv 17 (.t 5)), (.ia 18 1 (.t 17) (.k (I 0))), (.ld 19 false 1 (.t 18)), (.mv 20 (.t 1)), (.bin 21 .eql (.t 19) (.t 20))]⟩, ⟨none, [(.pick 22 (.t 16) (.t 21) (.k (B false))), (.mv 4 (.t 22))]⟩] [4]) .ret)))
theorem form82 : formOf Try.prog Try.f82 [4] = some G82 := by kernel_rfl
theorem res82 : resTmps Try.f82.results.toList = some [4] := by kernel_rfl

/-- oxgall/oxgallref02.both -/
def G85 : AC := (.seq (.rgn [⟨none, [(.box 3 2 (.t 0)), (.mv 6 (.k (I 0))), (.mv 7 (.k (I 0)))]⟩] [1, 2, 3]) (.seq (.drw [⟨none, [(.ld 14 true 2 (.t 3)), (.mv 15 (.t 1)), (.call 16 72 [(.t 14), (.t 15)]), (.ld 17 true 2 (.t 3)), (.mv 18 (.t 2)), (.call 19 72 [(.t 17), (.t 18)]), (.mv 8 (.t 16)), (.mv 9 (.t 19))]⟩] [(0, 3), (2, 3)] [1, 2, 8, 9]) (.seq (.seq (.rgn [⟨none, [(.mv 10 (.k (I 0)))]⟩] [1, 2, 8, 9, 10]) (.block 0 (.loop (.seq (.seq (.rgn [⟨none, [(.mv 20 (.t 10)), (.mv 21 (.t 8)), (.len 22 (.t 21)), (.bin 23 .lss (.t 20) (.t 22))]⟩] [1, 2, 8, 9, 10, 23]) (.cond (.t 23) .skip (.exit 0))) (.seq (.block 1 (.seq (.rgn [⟨none, [(.mv 11 (.k (I 0)))]⟩] [1, 2, 8, 9, 10, 11]) (.block 2 (.loop (.seq (.seq (.rgn [⟨none, [(.mv 26 (.t 11)), (.mv 27 (.t 9)), (.len 28 (.t 27)), (.bin 29 .lss (.t 26) (.t 28))]⟩] [1, 2, 8, 9, 10, 11, 29]) (.cond (.t 29) .skip (.exit 2))) (.seq (.block 3 (.seq (.drw [⟨none, [(.mv 32 (.t 8)), (.mv 33 (.t 10)), (.ia 34 1 (.t 32) (.t 33)), (.ld 35 false 1 (.t 34)), (.mv 36 (.t 9)), (.mv 37 (.t 11)), (.ia 38 1 (.t 36) (.t 37)), (.ld 39 false 1 (.t 38)), (.bin 40 .eql (.t 35) (.t 39))]⟩] [(3, 7)] [1, 2, 8, 9, 10, 11, 40]) (.cond (.t 40) (.seq (.rgn [⟨none, [(.mv 12 (.k (I 0))), (.mv 13 (.k (I 0)))]⟩] [1, 2, 8, 10, 12, 13]) (.seq (.block 4 (.loop (.seq (.seq (.drw [⟨none, [(.mv 41 (.t 1)), (.mv 42 (.t 12)), (.ia 43 1 (.t 41) (.t 42)), (.ld 44 false 1 (.t 43)), (.mv 45 (.t 8)), (.mv 46 (.t 10)), (.ia 47 1 (.t 45) (.t 46)), (.ld 48 false 1 (.t 47)), (.bin 49 .neq (.t 44) (.t 48))]⟩] [(3, 7)] [1, 2, 8, 10, 12, 13, 49]) (.cond (.t 49) .skip (.exit 4))) (.block 5 (.rgn [⟨none, [(.mv 50 (.t 12)), (.bin 51 .add (.t 50) (.k (I 1))), (.mv 12 (.t 51))]⟩] [1, 2, 8, 10, 12, 13]))))) (.seq (.block 6 (.loop (.seq (.seq (.drw [⟨none, [(.mv 52 (.t 2)), (.mv 53 (.t 13)), (.ia 54 1 (.t 52) (.t 53)), (.ld 55 false 1 (.t 54)), (.mv 56 (.t 8)), (.mv 57 (.t 10)), (.ia 58 1 (.t 56) (.t 57)), (.ld 59 false 1 (.t 58)), (.bin 60 .neq (.t 55) (.t 59))]⟩] [(3, 7)] [2, 8, 10, 12, 13, 60]) (.cond (.t 60) .skip (.exit 6))) (.block 7 (.rgn [⟨none, [(.mv 61 (.t 13)), (.bin 62 .add (.t 61) (.k (I 1))), (.mv 13 (.t 62))]⟩] [2, 8, 10, 12, 13]))))) (.seq (.rgn [⟨none, [(.mv 63 (.t 12)), (.mv 64 (.t 13)), (.mv 6 (.t 63)), (.mv 7 (.t 64))]⟩] [6, 7]) .ret)))) .skip))) (.rgn [⟨none, [(.mv 30 (.t 11)), (.bin 31 .add (.t 30) (.k (I 1))), (.mv 11 (.t 31))]⟩] [1, 2, 8, 9, 10, 11]))))))) (.rgn [⟨none, [(.mv 24 (.t 10)), (.bin 25 .add (.t 24) (.k (I 1))), (.mv 10 (.t 25))]⟩] [1, 2, 8, 9, 10])))))) (.seq (.rgn [⟨none, [(.mv 6 (.k (I (-1)))), (.mv 7 (.k (I (-1))))]⟩] [6, 7]) .ret))))
theorem form85 : formOf Try.prog Try.f85 [6, 7] = some G85 := by kernel_rfl
theorem res85 : resTmps Try.f85.results.toList = some [6, 7] := by kernel_rfl

/-- (*oxgall/stroke.table).down$1 -/
def G91 : AC := (.seq (.rgn [⟨none, [(.box 4 3 (.t 0))]⟩] [1, 2, 3, 4]) (.seq (.rgn [⟨none, [(.ld 5 false 1 (.t 1)), (.ld 6 false 1 (.t 2)), (.ld 7 true 3 (.t 4)), (.call 8 68 [(.t 5), (.t 6), (.t 7)]), (.st 1 (.t 2) (.t 8))]⟩] [3, 4]) (.rgn [⟨none, [(.ld 9 false 1 (.t 3)), (.ld 10 true 3 (.t 4)), (.bsl 11 1 3 [(I 0), (I 0), (I 0)] [(0, (.t 10))]), (.app 12 3 24 (.t 9) (.t 11)), (.st 1 (.t 3) (.t 12))]⟩] [])))
theorem form91 : formOf Try.prog Try.f91 [] = some G91 := by kernel_rfl
theorem res91 : resTmps Try.f91.results.toList = some [] := by kernel_rfl

/-- (*oxgall/stroke.table).down$2 -/
def G92 : AC := (.seq (.rgn [⟨none, [(.mv 6 (.t 0)), (.mv 5 (.t 6))]⟩] [1, 2, 5]) (.block 0 (.loop (.seq (.seq (.rgn [⟨none, [(.mv 7 (.t 5)), (.mv 8 (.t 1)), (.bin 9 .gtr (.t 7) (.t 8))]⟩] [1, 2, 5, 9]) (.cond (.t 9) .skip (.exit 0))) (.seq (.block 1 (.rgn [⟨none, [(.ld 12 false 1 (.t 2)), (.mv 13 (.t 5)), (.bin 14 .sub (.t 13) (.k (I 1))), (.bld 15 [(I 0), (I 0), (I 0)] [(0, 1, (.k (I 1))), (1, 1, (.t 14))]), (.callv 16 (.t 12) [(.t 15)])]⟩] [1, 2, 5])) (.rgn [⟨none, [(.mv 10 (.t 5)), (.bin 11 .sub (.t 10) (.k (I 1))), (.mv 5 (.t 11))]⟩] [1, 2, 5]))))))
theorem form92 : formOf Try.prog Try.f92 [] = some G92 := by kernel_rfl
theorem res92 : resTmps Try.f92.results.toList = some [] := by kernel_rfl

/-- slices.Reverse[[]oxgall/api.StrokeMove,oxgall/api.StrokeMove] -/
def G94 : AC := (.seq (.rgn [⟨none, [(.mv 4 (.t 0)), (.len 5 (.t 4)), (.bin 6 .sub (.t 5) (.k (I 1))), (.mv 2 (.k (I 0))), (.mv 3 (.t 6))]⟩] [0, 2, 3]) (.block 0 (.loop (.seq (.seq (.rgn [⟨none, [(.mv 7 (.t 2)), (.mv 8 (.t 3)), (.bin 9 .lss (.t 7) (.t 8))]⟩] [0, 2, 3, 9]) (.cond (.t 9) .skip (.exit 0))) (.seq (.block 1 (.drw [⟨none, [(.mv 14 (.t 0)), (.mv 15 (.t 2)), (.mv 16 (.t 0)), (.mv 17 (.t 3)), (.mv 18 (.t 0)), (.mv 19 (.t 3)), (.ia 20 3 (.t 18) (.t 19)), (.ld 21 true 3 (.t 20)), (.mv 22 (.t 0)), (.mv 23 (.t 2)), (.ia 24 3 (.t 22) (.t 23)), (.ld 25 true 3 (.t 24)), (.ia 26 3 (.t 14) (.t 15)), (.st 3 (.t 26) (.t 21)), (.ia 27 3 (.t 16) (.t 17)), (.st 3 (.t 27) (.t 25))]⟩] [(7, 11)] [0, 2, 3])) (.rgn [⟨none, [(.mv 10 (.t 2)), (.bin 11 .add (.t 10) (.k (I 1))), (.mv 12 (.t 3)), (.bin 13 .sub (.t 12) (.k (I 1))), (.mv 2 (.t 11)), (.mv 3 (.t 13))]⟩] [0, 2, 3]))))))
theorem form94 : formOf Try.prog Try.f94 [] = some G94 := by kernel_rfl
theorem res94 : resTmps Try.f94.results.toList = some [] := by kernel_rfl

/-- (*oxgall/stroke.pile).lay -/
def G97 : AC := (.seq (.rgn [⟨none, [(.mv 8 (.t 1)), (.call 9 100 [(.t 8)]), (.mv 4 (.t 9))]⟩] [0, 1, 4]) (.seq (.rgn [⟨none, [(.mv 10 (.t 0)), (.mv 11 (.t 4)), (.nilc 12 (.t 10)), (.fa 13 (.t 12) 1), (.iaa 14 8 1 (.t 13) (.t 11)), (.ld 15 false 1 (.t 14)), (.len 16 (.t 15)), (.mv 5 (.t 16))]⟩] [0, 1, 4, 5]) (.seq (.rgn [⟨none, [(.mv 17 (.t 5)), (.bin 18 .gtr (.t 17) (.k (I 0))), (.mv 19 (.t 18))]⟩, ⟨(some (19, true)), [(.mv 20 (.t 0)), (.mv 21 (.t 4)), (.nilc 22 (.t 20)), (.fa 23 (.t 22) 1), (.iaa 24 8 1 (.t 23) (.t 21)), (.ld 25 false 1 (.t 24)), (.mv 26 (.t 5)), (.bin 27 .sub (.t 26) (.k (I 1))), (.ia 28 1 (.t 25) (.t 27)), (.ld 29 false 1 (.t 28)), (.mv 30 (.t 1)), (.un 31 .neg (.t 30)), (.bin 32 .eql (.t 29) (.t 31))]⟩, ⟨none, [(.pick 33 (.t 19) (.t 32) (.k (B false))), (.mv 6 (.t 33))]⟩] [0, 1, 4, 6]) (.seq (.rgn [⟨none, [(.mv 34 (.k (I 0)))]⟩] [0, 1, 4, 6, 34]) (.block 0 (.loop (.seq (.rgn [⟨none, [(.bin 35 .lss (.t 34) (.k (I 8)))]⟩] [0, 1, 4, 6, 34, 35]) (.seq (.cond (.t 35) .skip (.exit 0)) (.seq (.block 1 (.seq (.rgn [⟨none, [(.mv 36 (.t 34)), (.mv 7 (.t 36))]⟩] [0, 1, 4, 6, 7, 34]) (.block 2 (.seq (.rgn [⟨none, [(.mv 51 (.t 7)), (.mv 52 (.t 4)), (.bin 53 .neq (.t 51) (.t 52)), (.mv 54 (.t 53))]⟩, ⟨(some (54, true)), [(.mv 55 (.t 0)), (.nilc 56 (.t 55)), (.fa 57 (.t 56) 0), (.ld 58 false 1 (.t 57)), (.mv 59 (.t 4)), (.mv 60 (.t 7)), (.nilc 61 (.t 58)), (.fa 62 (.t 61) 2), (.iaa 63 8 8 (.t 62) (.t 59)), (.iaa 64 8 1 (.t 63) (.t 60)), (.ld 65 false 1 (.t 64)), (.bin 66 .eql (.t 65) (.k (I 0)))]⟩, ⟨none, [(.pick 67 (.t 54) (.t 66) (.k (B false))), (.mv 50 (.t 67))]⟩] [0, 1, 4, 6, 7, 34, 50]) (.cond (.t 50) .skip (.seq (.rgn [⟨none, [(.mv 69 (.t 6)), (.mv 68 (.t 69))]⟩] [0, 1, 4, 6, 7, 34, 68]) (.cond (.t 68) (.drw [⟨none, [(.mv 70 (.t 0)), (.mv 71 (.t 7)), (.mv 72 (.t 0)), (.mv 73 (.t 7)), (.nilc 74 (.t 72)), (.fa 75 (.t 74) 1), (.iaa 76 8 1 (.t 75) (.t 73)), (.ld 77 false 1 (.t 76)), (.mv 78 (.t 0)), (.mv 79 (.t 7)), (.nilc 80 (.t 78)), (.fa 81 (.t 80) 1), (.iaa 82 8 1 (.t 81) (.t 79)), (.ld 83 false 1 (.t 82)), (.len 84 (.t 83)), (.bin 85 .sub (.t 84) (.k (I 1))), (.slc 86 1 (.t 77) none (some (.t 85)) none), (.nilc 87 (.t 70)), (.fa 88 (.t 87) 1), (.iaa 89 8 1 (.t 88) (.t 71)), (.st 1 (.t 89) (.t 86))]⟩] [(7, 13)] [0, 1, 4, 6, 34]) (.seq (.rgn [⟨none, [(.mv 91 (.t 7)), (.mv 92 (.t 4)), (.bin 93 .eql (.t 91) (.t 92)), (.mv 90 (.t 93))]⟩] [0, 1, 4, 6, 7, 34, 90]) (.cond (.t 90) (.drw [⟨none, [(.mv 94 (.t 0)), (.mv 95 (.t 7)), (.mv 96 (.t 0)), (.mv 97 (.t 7)), (.nilc 98 (.t 96)), (.fa 99 (.t 98) 1), (.iaa 100 8 1 (.t 99) (.t 97)), (.ld 101 false 1 (.t 100)), (.mv 102 (.t 1)), (.bsl 103 1 1 [(I 0)] [(0, (.t 102))]), (.app 104 1 8 (.t 101) (.t 103)), (.nilc 105 (.t 94)), (.fa 106 (.t 105) 1), (.iaa 107 8 1 (.t 106) (.t 95)), (.st 1 (.t 107) (.t 104))]⟩] [(7, 9)] [0, 1, 4, 6, 34]) (.drw [⟨none, [(.mv 37 (.t 0)), (.mv 38 (.t 7)), (.mv 39 (.t 0)), (.mv 40 (.t 7)), (.nilc 41 (.t 39)), (.fa 42 (.t 41) 1), (.iaa 43 8 1 (.t 42) (.t 40)), (.ld 44 false 1 (.t 43)), (.bsl 45 1 1 [(I 0)] [(0, (.k (I 0)))]), (.app 46 1 8 (.t 44) (.t 45)), (.nilc 47 (.t 37)), (.fa 48 (.t 47) 1), (.iaa 49 8 1 (.t 48) (.t 38)), (.st 1 (.t 49) (.t 46))]⟩] [(7, 8)] [0, 1, 4, 6, 34])))))))))) (.rgn [⟨none, [(.bin 108 .add (.t 34) (.k (I 1))), (.mv 34 (.t 108))]⟩] [0, 1, 4, 6, 34]))))))))))
theorem form97 : formOf Try.prog Try.f97 [] = some G97 := by kernel_rfl
theorem res97 : resTmps Try.f97.results.toList = some [] := by kernel_rfl

/-- (*oxgall/stroke.pile).fronts$1 -/
def G98 : AC := (.seq (.rgn [⟨none, [(.ld 5 false 1 (.t 1)), (.nilc 6 (.t 5)), (.fa 7 (.t 6) 1), (.ld 8 true 8 (.t 7)), (.mv 9 (.k (I 0)))]⟩] [0, 8, 9]) (.block 0 (.loop (.seq (.rgn [⟨none, [(.bin 10 .lss (.t 9) (.k (I 8)))]⟩] [0, 8, 9, 10]) (.seq (.cond (.t 10) .skip (.exit 0)) (.seq (.block 1 (.seq (.rgn [⟨none, [(.idx 11 8 false 1 (.t 8) (.t 9)), (.mv 4 (.t 11))]⟩] [0, 4, 8, 9]) (.seq (.rgn [⟨none, [(.mv 12 (.t 4)), (.len 13 (.t 12)), (.bin 14 .gtr (.t 13) (.k (I 0))), (.mv 15 (.t 14))]⟩, ⟨(some (15, true)), [(.mv 16 (.t 4)), (.ia 17 1 (.t 16) (.k (I 0))), (.ld 18 false 1 (.t 17)), (.bin 19 .neq (.t 18) (.k (I 0)))]⟩, ⟨none, [(.pick 20 (.t 15) (.t 19) (.k (B false))), (.mv 21 (.t 20))]⟩, ⟨(some (21, true)), [(.mv 22 (.t 0)), (.mv 23 (.t 4)), (.ia 24 1 (.t 23) (.k (I 0))), (.ld 25 false 1 (.t 24)), (.callv 26 (.t 22) [(.t 25)]), (.un 27 .not (.t 26))]⟩, ⟨none, [(.pick 28 (.t 21) (.t 27) (.k (B false)))]⟩] [0, 8, 9, 28]) (.cond (.t 28) .ret .skip)))) (.rgn [⟨none, [(.bin 29 .add (.t 9) (.k (I 1))), (.mv 9 (.t 29))]⟩] [0, 8, 9])))))))
theorem form98 : formOf Try.prog Try.f98 [] = some G98 := by kernel_rfl
theorem res98 : resTmps Try.f98.results.toList = some [] := by kernel_rfl

/-- oxgall/oxgallref02.undone -/
def G101 : AC := (.seq (.rgn [⟨none, [(.box 2 2 (.t 0)), (.mv 4 (.k (I 0))), (.mv 5 (.k (I 0)))]⟩] [1, 2]) (.seq (.seq (.rgn [⟨none, [(.mv 6 (.k (I 0)))]⟩] [1, 2, 6]) (.block 0 (.loop (.seq (.seq (.rgn [⟨none, [(.mv 8 (.t 6)), (.mv 9 (.t 1)), (.len 10 (.t 9)), (.bin 11 .lss (.t 8) (.t 10))]⟩] [1, 2, 6, 11]) (.cond (.t 11) .skip (.exit 0))) (.seq (.block 1 (.seq (.rgn [⟨none, [(.mv 14 (.t 6)), (.bin 15 .add (.t 14) (.k (I 1))), (.mv 7 (.t 15))]⟩] [1, 2, 6, 7]) (.block 2 (.loop (.seq (.seq (.drw [⟨none, [(.mv 16 (.t 7)), (.mv 17 (.t 1)), (.len 18 (.t 17)), (.bin 19 .lss (.t 16) (.t 18)), (.mv 20 (.t 19))]⟩, ⟨(some (20, true)), [(.mv 21 (.t 1)), (.mv 22 (.t 7)), (.ia 23 1 (.t 21) (.t 22)), (.ld 24 false 1 (.t 23)), (.mv 25 (.t 1)), (.mv 26 (.t 6)), (.ia 27 1 (.t 25) (.t 26)), (.ld 28 false 1 (.t 27)), (.un 29 .neg (.t 28)), (.bin 30 .eql (.t 24) (.t 29)), (.mv 31 (.t 30))]⟩, ⟨(some (31, false)), [(.ld 32 true 2 (.t 2)), (.mv 33 (.t 1)), (.mv 34 (.t 6)), (.ia 35 1 (.t 33) (.t 34)), (.ld 36 false 1 (.t 35)), (.mv 37 (.t 1)), (.mv 38 (.t 7)), (.ia 39 1 (.t 37) (.t 38)), (.ld 40 false 1 (.t 39)), (.call 41 52 [(.t 32), (.t 36), (.t 40)])]⟩, ⟨(some (20, true)), [(.pick 42 (.t 31) (.k (B true)) (.t 41))]⟩, ⟨none, [(.pick 43 (.t 20) (.t 42) (.k (B false)))]⟩] [(8, 12), (16, 20), (16, 24), (20, 24)] [1, 2, 6, 7, 43]) (.cond (.t 43) .skip (.exit 2))) (.seq (.block 3 (.seq (.drw [⟨none, [(.mv 46 (.t 1)), (.mv 47 (.t 7)), (.ia 48 1 (.t 46) (.t 47)), (.ld 49 false 1 (.t 48)), (.mv 50 (.t 1)), (.mv 51 (.t 6)), (.ia 52 1 (.t 50) (.t 51)), (.ld 53 false 1 (.t 52)), (.un 54 .neg (.t 53)), (.bin 55 .eql (.t 49) (.t 54))]⟩] [(3, 7)] [1, 2, 6, 7, 55]) (.cond (.t 55) (.seq (.rgn [⟨none, [(.mv 56 (.t 6)), (.mv 57 (.t 7)), (.mv 4 (.t 56)), (.mv 5 (.t 57))]⟩] [4, 5]) .ret) .skip))) (.rgn [⟨none, [(.mv 44 (.t 7)), (.bin 45 .add (.t 44) (.k (I 1))), (.mv 7 (.t 45))]⟩] [1, 2, 6, 7]))))))) (.rgn [⟨none, [(.mv 12 (.t 6)), (.bin 13 .add (.t 12) (.k (I 1))), (.mv 6 (.t 13))]⟩] [1, 2, 6])))))) (.seq (.rgn [⟨none, [(.mv 4 (.k (I (-1)))), (.mv 5 (.k (I (-1))))]⟩] [4, 5]) .ret)))
theorem form101 : formOf Try.prog Try.f101 [4, 5] = some G101 := by kernel_rfl
theorem res101 : resTmps Try.f101.results.toList = some [4, 5] := by kernel_rfl

/-- slices.rotateRight[int] -/
def G106 : AC := (.rgn [⟨none, [(.mv 4 (.t 0)), (.mv 5 (.t 0)), (.len 6 (.t 5)), (.mv 7 (.t 1)), (.bin 8 .sub (.t 6) (.t 7)), (.call 9 107 [(.t 4), (.t 8)])]⟩] [])
theorem form106 : formOf Try.prog Try.f106 [] = some G106 := by kernel_rfl
theorem res106 : resTmps Try.f106.results.toList = some [] := by kernel_rfl

/-- slices.rotateLeft[int] -/
def G107 : AC := (.seq (.rgn [⟨none, [(.mv 4 (.t 0)), (.mv 5 (.t 1)), (.slc 6 1 (.t 4) none (some (.t 5)) none), (.call 7 76 [(.t 6)])]⟩] [0, 1]) (.seq (.rgn [⟨none, [(.mv 8 (.t 0)), (.mv 9 (.t 1)), (.slc 10 1 (.t 8) (some (.t 9)) none none), (.call 11 76 [(.t 10)])]⟩] [0]) (.rgn [⟨none, [(.mv 12 (.t 0)), (.call 13 76 [(.t 12)])]⟩] [])))
theorem form107 : formOf Try.prog Try.f107 [] = some G107 := by kernel_rfl
theorem res107 : resTmps Try.f107.results.toList = some [] := by kernel_rfl

end Go.AM

/- CONTRACTS, PART 4: short forms as the specification makes them. Own work. -/
set_option linter.unusedSimpArgs false
set_option linter.unusedVariables false
namespace Go.AM
open Go.RowKit Go.Proofs

@[simp high] theorem ls_isPC (l : List Int) : (l.map fun n => I n).all AV.isPC = true := by simp [List.all_eq_true]
@[simp high] theorem ls_isPure (l : List Int) : (l.map fun n => I n).all AV.isPure = true := by simp [List.all_eq_true]

theorem out_ls {id n : Nat} {l : List Int} {hp : List HObj} (h : nthH hp id = some (.cells (l.map fun n => I n))) (hn : n = l.length) : Out (Ls false l) (.ms id 0 n 1) hp := by
  subst hn
  rw [nthH_eq] at h
  refine out_of (is := [id]) ?_
  simp only [purify, purify1, hpf, h]
  rw [if_pos ⟨by simp, ls_isPure l⟩]
  simp only [view, List.drop_zero, Nat.mul_one]
  rw [List.take_of_length_le (by simp)]

theorem two_ok (f g h : Bool) (b : Bch) (l m : List Int) (hb : b.c.length ≤ 1000000) (hl : l.length ≤ 1000000) (hm : m.length ≤ 1000000) :
    PureOK Try.prog 62 [Bn f b, Ls g l, Ls h m] (I (if chkL b l ≠ 0 then chkL b l else chkL b m)) := by
  refine pure_of (walk Try.func62 form62 res62 (by show 3 ≤ _; decide) ?_)
  simp (disch := omega) [G62, wrap_id]
  refine callW_pure rfl (refList_ok f g b l hb hl) ?_
  simp (disch := omega) [wrap_id]
  refine c_split (fun h0 => ?_) (fun h0 => ?_)
  · simp at h0
    simp (disch := omega) [wrap_id]
    refine callW_pure rfl (refList_ok f g b l hb hl) ?_
    simp [h0]
  · simp at h0
    simp (disch := omega) [wrap_id]
    refine callW_pure rfl (refList_ok f h b m hb hm) ?_
    simp [h0]

/-- Whether a stroke and its stroke back can be brought beside each other: how far from i on the strokes can be exchanged with that at i. -/
theorem int_neg_ok (n : Int) (h : -1000000 ≤ n ∧ n ≤ 1000000) : IntKind.i64.wrap (0 - n) = -n := by rw [wrap_id (by omega)]; omega

theorem without_ok (f : Bool) (l : List Int) (hl : l.length ≤ 1000000) (i : Nat) (hi : i < l.length) : PureOK Try.prog 74 [Ls f l, I i] (Ls false (l.eraseIdx i)) := by
  refine pure_of (walk Try.func74 form74 res74 (by show 2 ≤ _; decide) ?_)
  simp (disch := omega) [G74, wrap_id]
  refine bsl_of rfl rfl ?_
  simp (disch := omega) [wrap_id, zrep, ← List.map_take, ← List.map_drop, ← List.map_append]
  refine ⟨by omega, ⟨by omega, by omega⟩, by omega, ⟨by omega, by omega⟩, ?_⟩
  have e : List.take i (List.take i l) ++ List.take (l.length - (i + 1)) (List.drop (i + 1) l) = l.eraseIdx i := by
    rw [List.eraseIdx_eq_take_drop_succ, List.take_take, Nat.min_self, List.take_of_length_le (l := List.drop (i + 1) l) (by simp)]
  rw [e]
  exact out_ls (by simp) (by rw [List.length_eraseIdx]; simp [hi]; omega)

end Go.AM

/- CONTRACTS, PART 5: strokes that undo one another. Own work. -/
set_option linter.unusedSimpArgs false
set_option linter.unusedVariables false
namespace Go.AM
open Go.RowKit Go.Proofs

/-- How far on the stroke back of s stands, if it can be brought to s. -/
def reach (b : Bch) (s : Int) : List Int → Option Nat
  | [] => none
  | x :: r => if x = -s then some 0 else if canB b s x = true then (reach b s r).map (· + 1) else none

/-- The first pair that can be undone. -/
def undo (b : Bch) : List Int → Option (Nat × Nat)
  | [] => none
  | s :: r => match reach b s r with
    | some k => some (0, k + 1)
    | none => (undo b r).map fun p => (p.1 + 1, p.2 + 1)

def uI : Option (Nat × Nat) → Int
  | some p => p.1
  | none => -1
def uK : Option (Nat × Nat) → Int
  | some p => p.2
  | none => -1
abbrev undoAV (o : Option (Nat × Nat)) : AV := .tup [I (uI o), I (uK o)]

/-- All numbers small. -/
def Small (l : List Int) : Prop := ∀ x ∈ l, -1000000 ≤ x ∧ x ≤ 1000000

theorem Small.at {l : List Int} (h : Small l) {i : Nat} (hi : i < l.length) : -1000000 ≤ l[i] ∧ l[i] ≤ 1000000 := h _ (List.getElem_mem hi)

theorem undone_ok (f g : Bool) (b : Bch) (l : List Int) (hb : b.c.length ≤ 1000000) (hl : l.length ≤ 1000000) (hs : Small l) : PureOK Try.prog 101 [Bn f b, Ls g l] (undoAV (undo b l)) := by
  refine pure_of (walk Try.func101 form101 res101 (by show 2 ≤ _; decide) ?_)
  simp (disch := omega) [G101, wrap_id]
  refine loop_eq (fun i : Nat => ⟨[(1, Ls g l), (2, .ref 0 0), (6, I i)], [.cells [I b.L, Ps f b.c]]⟩) (fun i => i ≤ l.length ∧ undo b l = (undo b (l.drop i)).map fun p => (p.1 + i, p.2 + i)) (fun i => l.length - i) 0 ⟨by omega, by simp⟩ rfl ?_
  intro i ⟨hi1, hi2⟩
  simp (disch := omega) [wrap_id]
  refine c_split (fun h => ?_) (fun h => ?_)
  · simp at h
    have hsi := hs.at h
    simp (disch := omega) [wrap_id]
    refine loop_eq (fun k : Nat => ⟨[(1, Ls g l), (2, .ref 0 0), (6, I i), (7, I k)], [.cells [I b.L, Ps f b.c]]⟩) (fun k => i + 1 ≤ k ∧ k ≤ l.length ∧ reach b l[i] (l.drop (i + 1)) = (reach b l[i] (l.drop k)).map (· + (k - (i + 1)))) (fun k => l.length - k) (i + 1) ⟨by omega, by omega, by simp⟩ (by simp) ?_
    intro k ⟨hk1, hk2, hk3⟩
    simp (disch := omega) [wrap_id]
    have fail : reach b l[i] (l.drop k) = none → undo b l = (undo b (l.drop (i + 1))).map fun p => (p.1 + (i + 1), p.2 + (i + 1)) := fun hn => by
      rw [hi2, List.drop_eq_getElem_cons h]
      simp only [undo, hk3, hn, Option.map_none]
      rw [Option.map_map]
      congr 1
      funext p
      simp only [Function.comp]
      congr 1 <;> omega
    by_cases hk : k < l.length
    · have hsk := hs.at hk
      by_cases hx : l[k] = -l[i]
      · simp (disch := omega) [wrap_id, cells_ls, h, hk, hx]
        have e : undo b l = some (i, k) := by
          rw [hi2, List.drop_eq_getElem_cons h]
          simp only [undo, hk3]
          rw [List.drop_eq_getElem_cons hk]
          simp only [reach, if_pos hx, Option.map_some]
          have : 0 + (k - (i + 1)) + 1 + i = k := by omega
          rw [this, Nat.zero_add]
        rw [e]
        exact ⟨[], rfl⟩
      · have hx' : (l[k] == -l[i]) = false := by simpa using hx
        simp (disch := omega) [wrap_id, cells_ls, h, hk, hx']
        refine pureW_of rfl (refCan_ok f b hb l[i] l[k] hsi hsk) ?_
        simp (disch := omega) [wrap_id, cells_ls, h, hk, hx']
        cases hc : canB b l[i] l[k] with
        | true =>
          simp (disch := omega) [wrap_id, cells_ls, h, hk, hx']
          refine next_eq (k + 1) ⟨by omega, by omega, ?_⟩ (by omega) (by simp)
          rw [hk3, List.drop_eq_getElem_cons hk]
          simp only [reach]
          rw [if_neg hx, if_pos hc, Option.map_map]
          congr 1
          funext p
          simp only [Function.comp]
          omega
        | false =>
          simp (disch := omega) [wrap_id, cells_ls, h, hk, hx']
          refine next_eq (i + 1) ⟨by omega, fail ?_⟩ (by omega) (by simp)
          rw [List.drop_eq_getElem_cons hk]
          simp only [reach]
          rw [if_neg hx, if_neg (by simp [hc])]
    · simp (disch := omega) [wrap_id, hk]
      refine next_eq (i + 1) ⟨by omega, fail ?_⟩ (by omega) (by simp)
      rw [List.drop_of_length_le (by omega)]
      rfl
  · simp at h
    have e : l.drop i = [] := List.drop_of_length_le h
    rw [hi2, e]
    simp [undo, undoAV]
    exact ⟨[], rfl⟩

end Go.AM

/- CONTRACTS, PART 6: shortest lists, and which stroke comes first. Own work. -/
set_option linter.unusedSimpArgs false
set_option linter.unusedVariables false
namespace Go.AM
open Go.RowKit Go.Proofs

theorem purifyAll2 {hp : Hp} {a x a' y : AV} {i1 i2 : List Nat} (h1 : purify hp a = some (a', i1)) (h2 : purify hp x = some (y, i2)) : purifyAll hp [a, x] = some ([a', y], i1 ++ i2) := by
  simp [purifyAll, h1, h2]

/-- A variable holds a list, by value or as a made one, and not the object 0. -/
def Holds (hp : List HObj) (x : AV) (l : List Int) : Prop := ∃ ids, purify (hpf hp) x = some (Ls false l, ids) ∧ 0 ∉ ids

theorem nthH_gones {hp : List HObj} {ids : List Nat} (h : ∀ i ∈ ids, i < hp.length) (h0 : 0 ∉ ids) : nthH (writeL hp (gones ids)) 0 = nthH hp 0 := by
  have h1 : ∀ p ∈ gones ids, p.1 ≤ hp.length := fun p hp' => by
    simp only [gones, List.mem_map] at hp'
    obtain ⟨i, hi, rfl⟩ := hp'
    exact Nat.le_of_lt (h i hi)
  have h2 := congrFun (hpf_write h1) 0
  rw [write_gones, if_neg h0] at h2
  rw [nthH_eq, nthH_eq]
  exact h2

/-- A shortest list. -/
def redF (b : Bch) : Nat → List Int → List Int
  | 0, l => l
  | n + 1, l => match undo b l with
    | some (i, k) => redF b n ((l.eraseIdx k).eraseIdx i)
    | none => l
def red (b : Bch) (l : List Int) : List Int := redF b l.length l

theorem reach_lt {b : Bch} {s : Int} : ∀ {l : List Int} {k}, reach b s l = some k → k < l.length
  | [], k, h => by cases h
  | x :: r, k, h => by
    simp only [reach] at h
    split at h
    · cases h; simp
    · split at h
      · simp only [Option.map_eq_some_iff] at h
        obtain ⟨j, hj, rfl⟩ := h
        have := reach_lt hj
        simp; omega
      · cases h

theorem undo_lt {b : Bch} : ∀ {l : List Int} {i k}, undo b l = some (i, k) → i < k ∧ k < l.length
  | [], i, k, h => by cases h
  | s :: r, i, k, h => by
    simp only [undo] at h
    split at h
    · rename_i j hj
      cases h
      have := reach_lt hj
      simp; omega
    · simp only [Option.map_eq_some_iff] at h
      obtain ⟨⟨i', k'⟩, h', e⟩ := h
      cases e
      have := undo_lt h'
      simp; omega

theorem redF_more (b : Bch) : ∀ (n m : Nat) (l : List Int), l.length ≤ n → l.length ≤ m → redF b n l = redF b m l
  | 0, m, l, h, _ => by
    have : l = [] := List.eq_nil_of_length_eq_zero (by omega)
    subst this
    cases m <;> rfl
  | n + 1, 0, l, _, h => by
    have : l = [] := List.eq_nil_of_length_eq_zero (by omega)
    subst this; rfl
  | n + 1, m + 1, l, h1, h2 => by
    simp only [redF]
    split
    · rename_i i k hu
      have := undo_lt hu
      refine redF_more b n m _ ?_ ?_
      · rw [List.length_eraseIdx, List.length_eraseIdx]; (repeat' split) <;> omega
      · rw [List.length_eraseIdx, List.length_eraseIdx]; (repeat' split) <;> omega
    · rfl

theorem Small.erase {l : List Int} (h : Small l) (i : Nat) : Small (l.eraseIdx i) := fun x hx => h x (List.mem_of_mem_eraseIdx hx)

theorem reduced_ok (f g : Bool) (b : Bch) (l : List Int) (hb : b.c.length ≤ 1000000) (hl : l.length ≤ 1000000) (hs : Small l) : PureOK Try.prog 77 [Bn f b, Ls g l] (Ls false (red b l)) := by
  refine pure_of (walk Try.func77 form77 res77 (by show 2 ≤ _; decide) ?_)
  simp (disch := omega) [G77, wrap_id]
  refine bsl_of rfl rfl ?_
  simp (disch := omega) [wrap_id, zrep]
  refine ⟨⟨by omega, by omega⟩, ?_⟩
  have hp1 : purify (hpf [.cells [I b.L, Ps f b.c], .cells (l.map fun n => I n)]) (.ms 1 0 l.length 1) = some (Ls false l, [1]) := by
    have e : hpf [.cells [I b.L, Ps f b.c], .cells (l.map fun n => I n)] 1 = some (.cells (l.map fun n => I n)) := rfl
    simp only [purify, purify1, e]
    rw [if_pos ⟨by simp, ls_isPure l⟩]
    simp only [view, List.drop_zero, Nat.mul_one]
    rw [List.take_of_length_le (by simp)]
  refine callW_pure (purifyAll2 rfl hp1) (undone_ok f false b l hb hl hs) ?_
  simp (disch := omega) [wrap_id]
  refine loop_eq (fun p : AV × List HObj × List Int => ⟨[(2, .ref 0 0), (5, p.1), (6, I (uI (undo b p.2.2))), (7, I (uK (undo b p.2.2)))], p.2.1⟩)
    (fun p => nthH p.2.1 0 = some (.cells [I b.L, Ps f b.c]) ∧ Holds p.2.1 p.1 p.2.2 ∧ p.2.2.length ≤ 1000000 ∧ Small p.2.2 ∧ red b l = red b p.2.2) (fun p => p.2.2.length)
    (.ms 1 0 l.length 1, [.cells [I b.L, Ps f b.c], .cells (l.map fun n => I n)], l) ⟨rfl, ⟨[1], hp1, by simp⟩, hl, hs, rfl⟩ rfl ?_
  rintro ⟨x, hp, m⟩ ⟨c1, ⟨ids, c2, c3⟩, c4, c5, c6⟩
  simp only at c1 c2 c3 c4 c5 c6
  have hlt : ∀ i ∈ ids, i < hp.length := fun i hi => by
    obtain ⟨cs, hcs⟩ := purify_ids c2 i hi
    exact hpf_lt hcs
  simp (disch := omega) [wrap_id]
  cases hu : undo b m with
  | none =>
    simp [uI]
    have e : red b m = m := by
      unfold red
      cases hm : m.length with
      | zero => rfl
      | succ n => simp only [redF, hu]
    rw [c6, e]
    exact out_of c2
  | some q =>
    obtain ⟨i, k⟩ := q
    obtain ⟨u1, u2⟩ := undo_lt hu
    simp (disch := omega) [uI, uK, wrap_id]
    refine callW_pure (purifyAll2 c2 rfl) (without_ok false m c4 k u2) ?_
    simp (disch := omega) [wrap_id]
    refine callW_pure rfl (without_ok false (m.eraseIdx k) (by rw [List.length_eraseIdx]; split <;> omega) i (by rw [List.length_eraseIdx]; split <;> omega)) ?_
    have hm1 : ((m.eraseIdx k).eraseIdx i).length + 2 = m.length := by rw [List.length_eraseIdx, List.length_eraseIdx]; (repeat' split) <;> omega
    simp (disch := omega) [wrap_id, nthH_gones hlt c3, c1]
    refine callW_pure rfl (undone_ok f false b ((m.eraseIdx k).eraseIdx i) hb (by omega) ((c5.erase k).erase i)) ?_
    simp (disch := omega) [wrap_id]
    refine next_eq (Ls false ((m.eraseIdx k).eraseIdx i), writeL hp (gones ids), (m.eraseIdx k).eraseIdx i) ⟨by rw [nthH_gones hlt c3]; exact c1, ⟨[], rfl, by simp⟩, by simp only; omega, (c5.erase k).erase i, ?_⟩ (by simp only; omega) rfl
    rw [c6]
    unfold red
    have e : m.length = (m.length - 1) + 1 := by omega
    rw [e]
    simp only [redF, hu]
    exact redF_more b _ _ _ (by omega) (by omega)

end Go.AM

/- CONTRACTS, PART 7: the stroke that comes first; short forms. Own work. -/
set_option linter.unusedSimpArgs false
set_option linter.unusedVariables false
namespace Go.AM
open Go.RowKit Go.Proofs

def keyR (n : Int) : Int := if n < 0 then 2 * lineI n + 1 else 2 * lineI n

theorem refKey_ok (n : Int) (h : -1000000 ≤ n ∧ n ≤ 1000000) : PureOK Try.prog 99 [I n] (I (keyR n)) := by
  refine pure_of (walk Try.func99 form99 res99 (by show 1 ≤ _; decide) ?_)
  simp (disch := omega) [G99, wrap_id]
  by_cases h1 : n < 0
  · simp (disch := omega) [wrap_id, h1]
    refine callW_pure rfl (refLine_ok n h) ?_
    simp (disch := omega) [wrap_id, h1, keyR, lineI]
  · simp (disch := omega) [wrap_id, h1]
    refine callW_pure rfl (refLine_ok n h) ?_
    simp (disch := omega) [wrap_id, h1, keyR, lineI]

/-- Whether a stroke of a list can be brought to its front. -/
def freeTo (b : Bch) (l : List Int) (i k : Nat) : Bool := (List.range k).all fun k => canB b (l.getD k 0) (l.getD i 0)
def freeB (b : Bch) (l : List Int) (i : Nat) : Bool := freeTo b l i i
theorem freeTo_zero (b : Bch) (l : List Int) (i : Nat) : freeTo b l i 0 = true := rfl
theorem freeTo_succ {b : Bch} {l : List Int} {i k : Nat} (hi : i < l.length) (hk : k < l.length) : freeTo b l i (k + 1) = (freeTo b l i k && canB b l[k] l[i]) := by
  simp [freeTo, List.range_succ, List.all_append, hi, hk]

def bestStep (b : Bch) (l : List Int) (best : Int) (i : Nat) : Int :=
  if freeB b l i = true ∧ (best < 0 ∨ keyR (l.getD i 0) < keyR (l.getD best.toNat 0)) then i else best

def firstI (b : Bch) (l : List Int) (n : Nat) : Int := (List.range n).foldl (bestStep b l) (-1)

theorem firstI_succ (b : Bch) (l : List Int) (n : Nat) : firstI b l (n + 1) = bestStep b l (firstI b l n) n := by
  simp [firstI, List.range_succ]

theorem firstI_lt (b : Bch) (l : List Int) : ∀ n, -1 ≤ firstI b l n ∧ firstI b l n < n
  | 0 => by simp [firstI]
  | n + 1 => by
    rw [firstI_succ]
    have := firstI_lt b l n
    unfold bestStep
    split <;> omega

theorem range_all_succ {p : Nat → Bool} (n : Nat) : (List.range (n + 1)).all p = ((List.range n).all p && p n) := by
  simp [List.range_succ, List.all_append]

theorem first_ok (f g : Bool) (b : Bch) (l : List Int) (hb : b.c.length ≤ 1000000) (hl : l.length ≤ 1000000) (hs : Small l) : PureOK Try.prog 78 [Bn f b, Ls g l] (I (firstI b l l.length)) := by
  refine pure_of (walk Try.func78 form78 res78 (by show 2 ≤ _; decide) ?_)
  simp (disch := omega) [G78, wrap_id]
  refine loop_eq (fun i : Nat => ⟨[(1, Ls g l), (2, .ref 0 0), (5, I (firstI b l i)), (6, I i)], [.cells [I b.L, Ps f b.c]]⟩) (fun i => i ≤ l.length) (fun i => l.length - i) 0 (by omega) rfl ?_
  intro i hi
  simp (disch := omega) [wrap_id]
  by_cases h : i < l.length
  · simp (disch := omega) [wrap_id, h]
    refine loop_eq (fun k : Nat => ⟨[(1, Ls g l), (2, .ref 0 0), (5, I (firstI b l i)), (6, I i), (7, B (freeTo b l i k)), (8, I k)], [.cells [I b.L, Ps f b.c]]⟩) (fun k => k ≤ i) (fun k => i - k) 0 (by omega) rfl ?_
    intro k hk
    simp (disch := omega) [wrap_id]
    by_cases hk1 : k < i
    · have hk2 : k < l.length := by omega
      simp (disch := omega) [wrap_id, hk1]
      cases hf : freeTo b l i k with
      | false =>
        simp (disch := omega) [wrap_id]
        exact next_eq (k + 1) (by omega) (by omega) (by simp [freeTo_succ h hk2, hf])
      | true =>
        simp (disch := omega) [wrap_id, cells_ls, h, hk2]
        refine pureW_of rfl (refCan_ok f b hb l[k] l[i] (hs.at hk2) (hs.at h)) ?_
        simp (disch := omega) [wrap_id]
        exact next_eq (k + 1) (by omega) (by omega) (by simp [freeTo_succ h hk2, hf])
    · have hki : k = i := by omega
      subst hki
      simp (disch := omega) [wrap_id]
      have hb1 := firstI_lt b l k
      have hstep : firstI b l (k + 1) = bestStep b l (firstI b l k) k := firstI_succ b l k
      have hsk := hs.at h
      cases hf : freeTo b l k k with
      | false =>
        simp (disch := omega) [wrap_id]
        exact next_eq (k + 1) (by omega) (by omega) (by simp [hstep, bestStep, freeB, hf])
      | true =>
        by_cases hn : firstI b l k < 0
        · simp (disch := omega) [wrap_id, hn]
          exact next_eq (k + 1) (by omega) (by omega) (by simp [hstep, bestStep, freeB, hf, hn])
        · have hj : (firstI b l k).toNat < l.length := by omega
          have hsj := hs.at hj
          simp (disch := omega) [wrap_id, hn, cells_ls, h, hj]
          refine pureW_of rfl (refKey_ok l[k] hsk) ?_
          simp (disch := omega) [wrap_id, hn, cells_ls, h, hj]
          refine ⟨by omega, ?_⟩
          refine pureW_of rfl (refKey_ok _ hsj) ?_
          simp (disch := omega) [wrap_id]
          refine c_split (fun e => ?_) (fun e => ?_)
          · simp at e
            simp (disch := omega) [wrap_id]
            exact next_eq (k + 1) (by omega) (by omega) (by simp [hstep, bestStep, freeB, hf, hn, h, hj, e])
          · simp at e
            simp (disch := omega) [wrap_id]
            exact next_eq (k + 1) (by omega) (by omega) (by
              have : ¬ keyR l[k] < keyR l[(firstI b l k).toNat] := by omega
              simp [hstep, bestStep, freeB, hf, hn, h, hj, this])
  · have e : i = l.length := by omega
    subst e
    simp

end Go.AM

/- CONTRACTS, PART 8: lists that grow; short forms. Own work. -/
set_option linter.unusedSimpArgs false
set_option linter.unusedVariables false
namespace Go.AM
open Go.RowKit Go.Proofs

/-- A variable holds a list that grows: none yet, or a made one, not at 0. -/
def Acc (hp : List HObj) (x : AV) (acc : List Int) : Prop := (x = .sl true 0 [] ∧ acc = []) ∨ ∃ id, x = .ms id 0 acc.length 1 ∧ 0 < id ∧ acc ≠ [] ∧ nthH hp id = some (.cells (acc.map fun n => I n))

theorem nthH_writeL {hp : List HObj} {ws : List (Nat × HObj)} (h : ∀ p ∈ ws, p.1 ≤ hp.length) (i : Nat) : nthH (writeL hp ws) i = Hp.write (hpf hp) ws i := by
  rw [nthH_eq]; exact congrFun (hpf_write h) i

theorem app_acc {hp : List HObj} {x : AV} {acc : List Int} {v : Int} {K : AV → List (Nat × HObj) → Prop} (hA : Acc hp x acc) (h0 : 0 < hp.length) (hl : acc.length ≤ 1000000)
    (hK : ∀ ws, nthH (writeL hp ws) 0 = nthH hp 0 → 0 < (writeL hp ws).length → Acc (writeL hp ws) (.ms hp.length 0 (acc.length + 1) 1) (acc ++ [v]) → K (.ms hp.length 0 (acc.length + 1) 1) ws) :
    AppW hp 1 8 x (.sl true 1 [I v]) K := by
  have pos : ∀ ws, 0 < (writeL hp ws).length := fun ws => Nat.lt_of_lt_of_le h0 (writeL_len ws hp)
  rcases hA with ⟨rfl, rfl⟩ | ⟨id, rfl, hid, hne, hc⟩
  · rw [app_sl]
    refine ⟨by simp, ?_⟩
    refine hK _ ?_ (pos _) (.inr ⟨hp.length, by simp, h0, by simp, ?_⟩)
    · rw [nthH_writeL (by simp), nthH_eq]
      simp only [Hp.write]
      rw [Hp.set_other _ _ (by omega)]; rfl
    · rw [nthH_writeL (by simp)]
      simp [Hp.write, Hp.set_same]
  · have hlt : id < hp.length := by rw [nthH_eq] at hc; exact hpf_lt hc
    rw [app_ms, hc, appr_some]
    refine ⟨by simp; omega, ?_⟩
    refine hK _ ?_ (pos _) (.inr ⟨hp.length, by simp, h0, by simp, ?_⟩)
    · rw [nthH_writeL (by simp; omega), nthH_eq]
      simp only [Hp.write]
      rw [Hp.set_other _ _ (by omega), Hp.set_other _ _ (by omega)]; rfl
    · rw [nthH_writeL (by simp; omega)]
      simp [Hp.write, Hp.set_same]
      rw [List.take_of_length_le (by simp)]

/-- Nothing said of spare room. -/
def weak1 : AV → AV
  | .sl _ n cs => .sl false n cs
  | x => x
def weak : AV → AV
  | .tup vs => .tup (vs.map weak1)
  | .agg vs => .agg (vs.map weak1)
  | x => weak1 x

theorem weak1_rep {w g p x v} (h : Rep w g p x v) : Rep w g p (weak1 x) v := by
  cases x with
  | sl f n cs =>
    cases h with
    | sl _ _ _ _ a cap vs hn hf hc hr => exact .sl _ false n cs a cap vs hn (fun e => by cases e) hc hr
  | _ => exact h

theorem weak_rep {w g p x v} (h : Rep w g p x v) : Rep w g p (weak x) v := by
  cases x with
  | tup us =>
    cases h with
    | tup _ _ vs hl hr => exact .tup _ _ vs (by simp [hl]) (fun i hi => by simpa using weak1_rep (hr i (by simpa using hi)))
  | agg us =>
    cases h with
    | agg _ _ vs hl hr => exact .agg _ _ vs (by simp [hl]) (fun i hi => by simpa using weak1_rep (hr i (by simpa using hi)))
  | _ => exact weak1_rep h

theorem pure_weak {P : Program} {f : FuncId} {xs : List AV} {r : AV} (h : PureOK P f xs r) : PureOK P f xs (weak r) := fun ro n w g vs h1 h2 h3 =>
  (h ro n w g vs h1 h2 h3).mono fun e w' ⟨v, g', e1, e2, e3⟩ => ⟨v, g', e1, weak_rep e2, e3⟩

/-- Taking out the first ones, again and again. -/
def formF (b : Bch) : Nat → List Int → List Int
  | 0, _ => []
  | n + 1, l => match l with
    | [] => []
    | x :: r => (x :: r).getD (firstI b (x :: r) (r.length + 1)).toNat 0 :: formF b n ((x :: r).eraseIdx (firstI b (x :: r) (r.length + 1)).toNat)
def form (b : Bch) (l : List Int) : List Int := formF b (red b l).length (red b l)

end Go.AM
