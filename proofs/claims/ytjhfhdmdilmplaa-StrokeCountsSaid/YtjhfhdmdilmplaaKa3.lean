/-
  THE ABSTRACT MACHINE, PART 17d: functions. Own work.
  THE ABSTRACT MACHINE, PART 18: carried out step by step, by rewriting. Own work.
  ARGUMENTS READ AS DATA: what came in, as abstract values; a law as a row. Own work.
  SLICES OF UNKNOWN CAPACITY: slices.Delete and slices.Insert, for any program and elements of one cell. Own work.
  THE EVALUATOR, PART 1: the abstract machine carried out on closed states, and what it finds holds of the machine. Own work.
  THE EVALUATOR, PART 2: regions, code, calls; what it finds holds of the machine. Own work.
  SLICES OF UNKNOWN CAPACITY, PART 2: the room behind a private slice; results in a new place; slices.Insert. Own work.
  THE EVALUATOR, PART 3: a table of functions; what it finds holds of their calls. Own work.
-/
import Derived.Test.YtjhfhdmdilmplaaKa2
import Derived.WalkKit
import Derived.ProofKit
import Derived.OpenShut
import Derived.ChangeOld
import Derived.Below
import Derived.Deep.Slices

/- THE ABSTRACT MACHINE, PART 17d: functions. Own work. -/
set_option linter.unusedSimpArgs false
set_option linter.unusedVariables false
namespace Go.AM
open Go.RowKit

section
variable {P : Program} {E : HE} {N : Nat} {ro : Option Nat} {n : Nat}

/-- The arguments as a frame. -/
def argFr : Nat → List AV → List (Nat × AV)
  | _, [] => []
  | k, x :: xs => (k, x) :: argFr (k + 1) xs

theorem argFr_get : ∀ (xs : List AV) (k t : Nat), get (argFr k xs) t = if k ≤ t then xs.getD (t - k) .any else .any
  | [], k, t => by simp [argFr, get]
  | x :: xs, k, t => by
    simp only [argFr, get]
    split
    · rename_i e; subst e; simp
    · rename_i e
      rw [argFr_get xs (k + 1) t]
      by_cases h : k + 1 ≤ t
      · rw [if_pos h, if_pos (by omega)]
        obtain ⟨d, rfl⟩ : ∃ d, t = k + 1 + d := ⟨t - (k + 1), by omega⟩
        rw [show k + 1 + d - (k + 1) = d by omega, show k + 1 + d - k = d + 1 by omega]
        rfl
      · rw [if_neg h, if_neg (by omega)]

def resTmps : List ResultVar → Option (List Nat)
  | [] => some []
  | .tmp t :: r => (resTmps r).map (t :: ·)
  | _ => none

def resAV (ts : List Nat) (fr : List (Nat × AV)) : AV := match ts with
  | [t] => get fr t
  | _ => .tup (ts.map (get fr))

def resV (ts : List Nat) (tmps : Array Value) : Value := match ts with
  | [t] => tmps.getD t undef
  | _ => .tuple (ts.map fun t => tmps.getD t undef).toArray


/-! ### Results, in temporaries and in cells -/
abbrev RC := List (Nat × Option (Bool × Nat))

def resCs (P : Program) : List ResultVar → Option RC
  | [] => some []
  | .tmp t :: r => (resCs P r).map ((t, none) :: ·)
  | .cell a t :: r => match tInfo P t, resCs P r with
    | some i, some l => some ((a, some i) :: l)
    | _, _ => none

def resC (hp : Hp) (fr : List (Nat × AV)) : RC → List AV → Prop
  | [], [] => True
  | (t, none) :: r, x :: xs => x = get fr t ∧ resC hp fr r xs
  | (a, some (agg, sz)) :: r, x :: xs => semLd hp x [] agg sz (get fr a) ∧ resC hp fr r xs
  | _, _ => False

def tupOf : List AV → AV
  | [x] => x
  | xs => .tup xs

theorem run_resC {hp g w} (hok : HeapOK hp g w) {fr : List (Nat × AV)} {a : Act} (hF : FrOK w g (get fr) a) : ∀ {rs : List ResultVar} {rc : RC} {xs : List AV} (f : ResultVar → Sem Value),
    (∀ t, f (.tmp t) = pure (a.tmps.getD t undef)) → (∀ b t, f (.cell b t) = (do loadVar t (← asAddr (a.tmps.getD b undef)))) → resCs P rs = some rc → resC hp fr rc xs →
    ∃ vs : List Value, (rs.mapM f).run P w = .ok vs w ∧ vs.length = xs.length ∧ ∀ i (h : i < xs.length), Rep w g false xs[i] (vs.getD i undef)
  | [], rc, xs, f, h1, h2, h, hx => by
    simp [resCs] at h; subst h
    cases xs with
    | nil => exact ⟨[], rfl, rfl, fun i hi => by simp at hi⟩
    | cons _ _ => exact hx.elim
  | .tmp t :: rs, rc, xs, f, h1, h2, h, hx => by
    simp only [resCs, Option.map_eq_some_iff] at h
    obtain ⟨l, h', rfl⟩ := h
    cases xs with
    | nil => exact hx.elim
    | cons x xs =>
      obtain ⟨rfl, hx⟩ := hx
      obtain ⟨vs, k1, k2, k3⟩ := run_resC hok hF f h1 h2 h' hx
      refine ⟨a.tmps.getD t undef :: vs, ?_, by simp [k2], fun i hi => ?_⟩
      · rw [List.mapM_cons, h1]
        simp only [Sem.run_bind, Sem.run_pure, Result.andThen_ok, k1]
      · cases i with
        | zero => exact hF t
        | succ i => simpa using k3 i (by simpa using hi)
  | .cell b t :: rs, rc, xs, f, h1, h2, h, hx => by
    simp only [resCs] at h
    split at h
    · rename_i i l hi hl
      cases h
      obtain ⟨agg, sz⟩ := i
      cases xs with
      | nil => exact hx.elim
      | cons x xs =>
        obtain ⟨hld, hx⟩ := hx
        obtain ⟨vs, k1, k2, k3⟩ := run_resC hok hF f h1 h2 hl hx
        have e1 := hF b
        have main : ∃ v, ((do loadVar t (← asAddr (a.tmps.getD b undef)) : Sem Value)).run P w = .ok v w ∧ Rep w g false x v := by
          simp only [semLd] at hld
          split at hld
          · rename_i cs off hu
            rw [hu] at e1
            obtain ⟨c, q, hv, hrow⟩ := row_of_ptr e1
            obtain ⟨v, j1, j2⟩ := run_loadVar hi hrow hld.2
            exact ⟨v, by rw [hv]; simp [asAddr, j1], j2⟩
          · rename_i id off hu
            split at hld
            · rename_i cs hid
              rw [hu] at e1
              obtain ⟨c, q, hv, hrow, _⟩ := row_of_ref e1 hok hid
              obtain ⟨v, j1, j2⟩ := run_loadVar hi hrow hld.2
              exact ⟨v, by rw [hv]; simp [asAddr, j1], j2⟩
            · exact hld.elim
          · exact hld.elim
        obtain ⟨v, m1, m2⟩ := main
        refine ⟨v :: vs, ?_, by simp [k2], fun i hi => ?_⟩
        · rw [List.mapM_cons, h2]
          simp only [Sem.run_bind, Result.andThen_ok] at m1 ⊢
          rw [m1]
          simp only [Result.andThen_ok, k1, Sem.run_pure]
        · cases i with
          | zero => exact m2
          | succ i => simpa using k3 i (by simpa using hi)
    · cases h

theorem run_resultsC {hp g w} (hok : HeapOK hp g w) {fr : List (Nat × AV)} {a : Act} (hF : FrOK w g (get fr) a) {fn : Func} {rc : RC} {xs : List AV} (h : resCs P fn.results.toList = some rc) (hx : resC hp fr rc xs) :
    ∃ v, (results fn a.tmps).run P w = .ok v w ∧ Rep w g false (tupOf xs) v := by
  simp only [results]
  rw [Array.mapM_eq_mapM_toList]
  simp only [Sem.run_bind, Sem.run_pure, map_eq_pure_bind]
  obtain ⟨vs, k1, k2, k3⟩ := run_resC hok hF (fun x => match x with | .tmp t => pure (a.tmps.getD t undef) | .cell b t => do loadVar t (← asAddr (a.tmps.getD b undef))) (fun _ => rfl) (fun _ _ => rfl) h hx
  have gen : xs.length ≠ 1 → ∃ v, (Result.ok (if h : vs.toArray.size = 1 then vs.toArray[0] else Value.tuple vs.toArray) w : Result Value) = .ok v w ∧ Rep w g false (.tup xs) v := fun hne => by
    refine ⟨.tuple vs.toArray, ?_, .tup _ _ _ k2 k3⟩
    have : ¬ vs.toArray.size = 1 := by simp; omega
    rw [dif_neg this]
  have key : ∃ v, (Result.ok (if h : vs.toArray.size = 1 then vs.toArray[0] else Value.tuple vs.toArray) w : Result Value) = .ok v w ∧ Rep w g false (tupOf xs) v := by
    match xs, k2, k3, gen with
    | [], k2, k3, gen => exact gen (by simp)
    | [x], k2, k3, _ =>
      obtain ⟨v, rfl⟩ : ∃ v, vs = [v] := by
        cases vs with
        | nil => simp at k2
        | cons v vs => cases vs with
          | nil => exact ⟨v, rfl⟩
          | cons _ _ => simp at k2
      exact ⟨v, by simp, k3 0 (by simp)⟩
    | x :: y :: xs, k2, k3, gen => exact gen (by simp)
  obtain ⟨v, h1, h2⟩ := key
  refine ⟨v, ?_, h2⟩
  refine (congrArg (fun r => Result.andThen (Result.andThen r (fun a w' => Result.ok a.toArray w')) (fun (a : Array Value) w' => Result.ok (if h : a.size = 1 then a[0] else Value.tuple a) w')) k1).trans ?_
  simp only [Result.andThen_ok, Sem.run_pure]
  exact h1

/-- What is to hold of a function's results, in temporaries and in cells. -/
def RetC (rc : RC) (K : AV → List HObj → Prop) : Exit → St → Prop
  | .normal, st | .ret, st => ∃ xs, resC (hpf st.hp) st.fr rc xs ∧ K (tupOf xs) st.hp
  | _, _ => False

theorem leaves_marks {fn : Func} {tmps : Array Value} {R : Ending → World → Prop} : ∀ (ms : List Nat) (w : World), ms.Nodup → (∀ D ∈ ms, w.heap[D]? = some (.deferred (some []))) →
    (∃ v, (results fn tmps).run P (ms.foldl (fun w D => w.putObj D (.deferred none)) w) = .ok v (ms.foldl (fun w D => w.putObj D (.deferred none)) w) ∧ R (.returned v) (ms.foldl (fun w D => w.putObj D (.deferred none)) w)) →
    LeavesInM (W ro) n P fn tmps R (ms.map mark) .returning w
  | [], w, hn, hD, h => h
  | D :: ms, w, hn, hD, h => by
    refine ⟨by simp, .inl ⟨D, _, rfl, run_takeDeferred (hD D (by simp)), ?_⟩⟩
    rw [List.nodup_cons] at hn
    exact leaves_marks ms _ hn.2 (fun D' hD' => (World.putObj_heap_other (fun e => hn.1 (by rw [← e]; exact hD'))).trans (hD D' (by simp [hD']))) h

theorem take_marks {hp0 g0 w0 hp g} : ∀ (ms : List Nat) (w : World), ms.Nodup → (∀ D ∈ ms, w0.heap.size ≤ D ∧ w.heap[D]? = some (.deferred (some [])) ∧ ¬ Live hp g D) → HeapOK hp g w → Upd hp0 g0 w0 hp g w →
    HeapOK hp g (ms.foldl (fun w D => w.putObj D (.deferred none)) w) ∧ Upd hp0 g0 w0 hp g (ms.foldl (fun w D => w.putObj D (.deferred none)) w) ∧ Trans w g (ms.foldl (fun w D => w.putObj D (.deferred none)) w) g
  | [], w, hn, hD, h, u => ⟨h, u, .refl _ _⟩
  | D :: ms, w, hn, hD, h, u => by
    rw [List.nodup_cons] at hn
    obtain ⟨k1, k2, k3⟩ := hD D (by simp)
    obtain ⟨h1, u1, t1⟩ := take_mark h u k2 k3 k1
    obtain ⟨h2, u2, t2⟩ := take_marks ms _ hn.2 (fun D' hD' => by
      obtain ⟨q1, q2, q3⟩ := hD D' (by simp [hD'])
      exact ⟨q1, (World.putObj_heap_other (fun e => hn.1 (by rw [← e]; exact hD'))).trans q2, q3⟩) h1 u1
    exact ⟨h2, u2, t1.trans t2⟩

/-- A function, from a world and a ghost on. -/
theorem callG_of {w1 : World} {g1 : G} (hY : YS P E w1 g1) (hR : RS P E) {f : FuncId} {fn : Func} {c : Code} {ac : AC} {rc : RC} {xs : List AV} {hp : List HObj} {K : AV → List HObj → Prop} (hf : P.funcs[f]? = some fn) (hb : fn.body = some c) (hc : Fits P fn.ntmps c ac)
    (hr : resCs P fn.results.toList = some rc) (hl : xs.length ≤ fn.ntmps) (h : AWP P E ac { fr := argFr 0 xs, hp := hp } (RetC rc K)) : CallG P w1 g1 f xs hp K := by
  intro ro n w g vs hok htr hvs hrep
  have go : CallsIn (W none) n P f vs w fun e w' => ∃ v r hp' g', e = .returned v ∧ K r hp' ∧ Rep w' g' false r v ∧ HeapOK (hpf hp') g' w' ∧ Upd (hpf hp) g w (hpf hp') g' w' := by
    refine callsIn_of_wp_marks hf hb trivial (fits_sound hY hR hc (.inl rfl) h htr (g := g) ?_ ?_) rfl
    · refine ⟨by simp [hvs]; omega, fun t => ?_, hok⟩
      show Rep w g false (get (argFr 0 xs) t) _
      rw [argFr_get]
      simp only [Nat.zero_le, if_true, Nat.sub_zero]
      by_cases ht : t < xs.length
      · have e1 : xs.getD t .any = xs[t] := by simp [ht]
        rw [e1]
        have := hrep t ht
        simp only [Array.getD_eq_getD_getElem?] at this ⊢
        rw [Array.getElem?_append_left (by omega)]
        exact this
      · have e1 : xs.getD t .any = .any := by simp [Nat.le_of_not_lt ht]
        rw [e1]; exact .any _ _
    · intro e st' a' w' g' hq hs hu hd
      obtain ⟨ms, d1, d2, d3⟩ := hd
      simp only [List.append_nil] at d1
      have fin : (∃ xs, resC (hpf st'.hp) st'.fr rc xs ∧ K (tupOf xs) st'.hp) → LeavesInM (W none) n P fn a'.tmps (fun e w' => ∃ v r hp' g', e = .returned v ∧ K r hp' ∧ Rep w' g' false r v ∧ HeapOK (hpf hp') g' w' ∧ Upd (hpf hp) g w (hpf hp') g' w') a'.defers .returning w' := fun ⟨ys, hy, hK⟩ => by
        rw [d1]
        obtain ⟨k1, k2, k3⟩ := take_marks ms w' d2 d3 hs.2.2 hu
        refine leaves_marks ms w' d2 (fun D hD => (d3 D hD).2.1) ?_
        obtain ⟨v, j1, j2⟩ := run_resultsC (P := P) k1 (fun i => (hs.2.1 i).mono k3) hr hy
        exact ⟨v, j1, v, _, _, g', rfl, hK, j2, k1, k2⟩
      cases e with
      | normal => exact fin hq
      | ret => exact fin hq
      | _ => exact hq.elim
  exact go

/-- No rounds here. -/
def noY : Nat → List AV → List HObj → (AV → List HObj → Prop) → Prop := fun _ _ _ _ => False
def noR : AV → List HObj → (List AV → List HObj → (AV → List HObj → Prop) → Prop) → (List HObj → Prop) → Prop := fun _ _ _ _ => False

/-- A function's compiled form. -/
def formOf (P : Program) (fn : Func) (ts : List Nat) : Option AC := fn.body.map fun c => (ann ts (comp P fn.ntmps c) [] ts).1

/-- The functions that are ranged over, by their own compiled forms. -/
def R1 (P : Program) : AV → List HObj → (List AV → List HObj → (AV → List HObj → Prop) → Prop) → (List HObj → Prop) → Prop := fun v hp H K0 =>
  ∃ f caps fn ac ts rc, v = .fn (.func f) [] caps ∧ funOK P f = true ∧ P.funcs[f]? = some fn ∧ formOf P fn ts = some ac ∧ resCs P fn.results.toList = some rc ∧ caps.length + 1 ≤ fn.ntmps ∧
    AWP P ⟨fun id xs hp' K => id = hp.length ∧ H xs hp' K, noR⟩ ac { fr := argFr 0 (.yl hp.length :: caps), hp := hp ++ [.lp .ready (hp.length + 1), .gone] } (RetC rc fun _ hp' => K0 hp')

/-- The machine of all functions. -/
def E1 (P : Program) : HE := ⟨noY, R1 P⟩

theorem rs_none {Y} : RS P ⟨Y, noR⟩ := fun _ _ _ _ h => h.elim

theorem rs_E1 : RS P (E1 P) := by
  rintro v hp H K0 ⟨f, caps, fn, ac, ts, rc, rfl, hfun, hf, hc, hr, hl, h⟩
  refine ⟨f, caps, rfl, hfun, fun w1 g1 hH => ?_⟩
  simp only [formOf, Option.map_eq_some_iff] at hc
  obtain ⟨c, hb, rfl⟩ := hc
  exact callG_of (E := ⟨fun id xs hp' K => id = hp.length ∧ H xs hp' K, noR⟩) (fun id xs hp' K ⟨e, hh⟩ => by subst e; exact hH xs hp' K hh) rs_none hf hb (ann_fits (comp_fits c)) hr (by simp; omega) h

theorem ys_E1 {w1 g1} : YS P (E1 P) w1 g1 := fun _ _ _ _ h => h.elim

theorem callW_of {f : FuncId} {fn : Func} {ac : AC} {ts : List Nat} {rc : RC} {xs : List AV} {hp : List HObj} {K : AV → List HObj → Prop} (hf : P.funcs[f]? = some fn) (hc : formOf P fn ts = some ac)
    (hr : resCs P fn.results.toList = some rc) (hl : xs.length ≤ fn.ntmps) (h : AWP P (E1 P) ac { fr := argFr 0 xs, hp := hp } (RetC rc K)) : CallW P f xs hp K := by
  simp only [formOf, Option.map_eq_some_iff] at hc
  obtain ⟨c, hb, rfl⟩ := hc
  exact fun ro n w g vs hok hvs hrep => callG_of (E := E1 P) (w1 := w) (g1 := g) ys_E1 rs_E1 hf hb (ann_fits (comp_fits c)) hr hl h ro n w g vs hok (.refl _ _) hvs hrep

theorem resTmps_C : ∀ {rs : List ResultVar} {ts : List Nat}, resTmps rs = some ts → resCs P rs = some (ts.map (·, none))
  | [], ts, h => by simp [resTmps] at h; subst h; rfl
  | .tmp t :: r, ts, h => by
    simp only [resTmps, Option.map_eq_some_iff] at h
    obtain ⟨ts', h', rfl⟩ := h
    simp [resCs, resTmps_C h']
  | .cell a t :: r, ts, h => by cases h

theorem resC_tmps {hp : Hp} {fr : List (Nat × AV)} : ∀ (ts : List Nat) (xs : List AV), resC hp fr (ts.map (·, none)) xs ↔ xs = ts.map (get fr)
  | [], [] => by simp [resC]
  | [], x :: xs => by simp [resC]
  | t :: ts, [] => by simp [resC]
  | t :: ts, x :: xs => by simp [resC, resC_tmps ts xs]

theorem resAV_tup (ts : List Nat) (fr : List (Nat × AV)) : tupOf (ts.map (get fr)) = resAV ts fr := by
  match ts with
  | [] => rfl
  | [t] => rfl
  | t :: u :: r => rfl

/-- What is to hold of a function's results. -/
def RetQ (ts : List Nat) (K : AV → List HObj → Prop) : Exit → St → Prop
  | .normal, st | .ret, st => K (resAV ts st.fr) st.hp
  | _, _ => False

theorem retC_tmps {ts : List Nat} {K : AV → List HObj → Prop} : RetC (ts.map (·, none)) K = RetQ ts K := by
  have key : ∀ st : St, (∃ xs, resC (hpf st.hp) st.fr (ts.map (·, none)) xs ∧ K (tupOf xs) st.hp) = K (resAV ts st.fr) st.hp := fun st => propext ⟨fun ⟨xs, h1, h2⟩ => by
    rw [resC_tmps] at h1; subst h1; rw [resAV_tup] at h2; exact h2, fun h => ⟨_, (resC_tmps _ _).2 rfl, by rw [resAV_tup]; exact h⟩⟩
  funext e st
  cases e <;> first | exact key st | rfl

theorem callW_form {f : FuncId} {fn : Func} {ac : AC} {ts : List Nat} {xs : List AV} {hp : List HObj} {K : AV → List HObj → Prop} (hf : P.funcs[f]? = some fn) (hc : formOf P fn ts = some ac) (hr : resTmps fn.results.toList = some ts)
    (hl : xs.length ≤ fn.ntmps) (h : AWP P (E1 P) ac { fr := argFr 0 xs, hp := hp } (RetQ ts K)) : CallW P f xs hp K :=
  callW_of hf hc (resTmps_C hr) hl (by rw [retC_tmps]; exact h)

/-- The ghost of nobody's objects. -/
def G.bare (g : G) : G := { S := g.S, ρ := fun _ => none }

theorem HeapOK.bare {hp g w} (h : HeapOK hp g w) : HeapOK (fun _ => none) g.bare w :=
  ⟨fun _ _ => rfl, fun _ _ h => (by cases h), fun _ _ _ _ _ _ _ h => (by cases h), h.ex⟩

theorem Upd.bare {g w hp' g' w'} (h0 : HeapOK (fun _ => none) g w) (h : Upd (fun _ => none) g w hp' g' w') : Upd (fun _ => none) g w (fun _ => none) g'.bare w' :=
  ⟨⟨h.tr.S, h.tr.cell, fun id l hl => (by rw [h0.dom id rfl] at hl; cases hl), h.tr.shp, h.tr.os, h.tr.tape, h.tr.output, h.tr.size⟩, fun c ⟨_, _, _, h, _⟩ => (by cases h), h.S, h.keep⟩

theorem Rep.bare {w g v x} (h : Rep w g true x v) : Rep w g.bare true x v := by
  generalize hp : true = p at h
  induction h with
  | v p x => exact .v _ x
  | any p x => exact .any _ x
  | sl p full n cs a cap vs hn hf hc hr ih => exact .sl _ full n cs a cap vs hn hf hc (fun i h => ih i h rfl)
  | agg p cs vs hl hr ih => exact .agg _ cs vs hl (fun i h => ih i h hp)
  | tup p cs vs hl hr ih => exact .tup _ cs vs hl (fun i h => ih i h hp)
  | ptr p cs off b o vs hc hr ih => exact .ptr _ cs off b o vs hc (fun i h => ih i h rfl)
  | ref => cases hp
  | ms => cases hp
  | msz => cases hp
  | fn p f as bs xs ys hl hl' hr hr' ih ih' => exact .fn _ f as bs xs ys hl hl' (fun i h => ih i h hp) (fun i h => ih' i h hp)
  | mp => cases hp
  | mc => cases hp
  | mcz => cases hp
  | yl => cases hp

/-- What goes out of a pure function. -/
def Out (r : AV) (x : AV) (hp : List HObj) : Prop := ∃ is, purify (hpf hp) x = some (r, is)

/-- A pure function. -/
theorem pure_of {f : FuncId} {xs : List AV} {r : AV} (h : CallW P f xs [] (Out r)) : PureOK P f xs r := by
  intro ro n w g vs hok hvs hrep
  have e0 : hpf [] = fun _ => none := by funext i; simp [hpf]
  refine (h ro n w g vs (by rw [e0]; exact hok) hvs (fun i hi => (hrep i hi).of)).mono ?_
  rintro e w' ⟨v, x, hp', g', rfl, ⟨is, hpur⟩, hx, hok', hu⟩
  rw [e0] at hu
  have q := purify_rep hok' (ids := is) hpur (fun i hi => hi) hx
  obtain ⟨k1, k2⟩ := hok'.giveAll is (purify_ids hpur)
  exact ⟨v, _, rfl, q.bare, k1.bare, (hu.trans k2).bare hok⟩


end
end Go.AM

/- THE ABSTRACT MACHINE, PART 18: carried out step by step, by rewriting. Own work. -/
set_option linter.unusedSimpArgs false
set_option linter.unusedVariables false
namespace Go.AM
open Go.RowKit

def PureW (P : Program) (f : FuncId) (xs : List AV) (hp : List HObj) (K : AV → List (Nat × HObj) → Prop) : Prop :=
  ∃ ys ids, purifyAll (hpf hp) xs = some (ys, ids) ∧ ((∃ r, PureOK P f ys r ∧ K r (bif r.scalar then [] else gones ids)) ∨ ∃ m sz cs, MadeOK P f ys m sz cs ∧ K (.ms hp.length 0 m sz) (gones ids ++ [(hp.length, .cells cs)]))

/-- One operation, from the inside out. -/
def AOp.wp (P : Program) (o : AOp) (F : Nat → AV) (hp : List HObj) (K : AV → List (Nat × HObj) → Prop) : Prop :=
  ∃ r ws, o.sem P (evF F) (hpf hp) hp.length r ws ∧ K r ws

def contA (P : Program) (E : HE) (os : List AOp) (d : Option Nat) (fr : List (Nat × AV)) (hp : List HObj) (K : St → Prop) (r : AV) (ws : List (Nat × HObj)) : Prop := aops P E os ⟨frPut fr d r, writeL hp ws⟩ K
def contC (P : Program) (E : HE) (os : List AOp) (d : Nat) (fr : List (Nat × AV)) (K : St → Prop) (r : AV) (hp : List HObj) : Prop := aops P E os ⟨(d, r) :: fr, hp⟩ K
def contD (P : Program) (os : List AOp) (d : Option Nat) (fr : List (Nat × AV)) (hp : List HObj) (tr : Tr) (ft : List Nat) (K : St → Tr → Prop) (r : AV) (ws : List (Nat × HObj)) : Prop :=
  dops P os ⟨frPut fr d r, writeL hp ws⟩ (tr ++ [(ft, ws.map (·.1))]) K

section
variable {P : Program} {E : HE} {fr : List (Nat × AV)} {hp : List HObj} {F : Nat → AV} {os : List AOp} {KS : St → Prop} {KD : St → Tr → Prop} {tr : Tr} {K : AV → List (Nat × HObj) → Prop}

theorem gones_nil : gones [] = [] := rfl
theorem gones_cons {i is} : gones (i :: is) = (i, .gone) :: gones is := rfl
theorem get_cons {k t x} : get ((k, x) :: fr) t = if k = t then x else get fr t := rfl
theorem get_nil {t} : get [] t = .any := rfl
theorem ev_t {t} : evF F (.t t) = F t := rfl
theorem ev_k {x} : evF F (.k x) = x := rfl
theorem x_contA {d : Option Nat} {r ws} : contA P E os d fr hp KS r ws = aops P E os ⟨frPut fr d r, writeL hp ws⟩ KS := rfl
theorem x_contC {d : Nat} {r hp} : contC P E os d fr KS r hp = aops P E os ⟨(d, r) :: fr, hp⟩ KS := rfl
theorem x_contD {d : Option Nat} {ft r ws} : contD P os d fr hp tr ft KD r ws = dops P os ⟨frPut fr d r, writeL hp ws⟩ (tr ++ [(ft, ws.map (·.1))]) KD := rfl
theorem x_nil : aops P E [] ⟨fr, hp⟩ KS = KS ⟨fr, hp⟩ := rfl
theorem x_dnil : dops P [] ⟨fr, hp⟩ tr KD = KD ⟨fr, hp⟩ tr := rfl
theorem x_call {d f args} : aops P E (.call d f args :: os) ⟨fr, hp⟩ KS = CallW P f (args.map (evF (get fr))) hp (contC P E os d fr KS) := rfl
def CallvW (P : Program) (E : HE) (x : AV) (args : List AV) (hp : List HObj) (KC : AV → List HObj → Prop) : Prop := match x with
  | .fn (.func f) first caps => funOK P f = true ∧ CallW P f (first ++ args ++ caps) hp KC
  | .yl id => ∃ K0, E.Y id args hp K0 ∧ ∀ r hp', K0 r hp' → KC r hp'
  | _ => False
theorem x_callv {d x args} : aops P E (.callv d x args :: os) ⟨fr, hp⟩ KS = CallvW P E (evF (get fr) x) (args.map (evF (get fr))) hp (contC P E os d fr KS) := by
  simp only [aops, aop, CallvW]
  generalize evF (get fr) x = u
  cases u with
  | fn f as bs => cases f <;> rfl
  | _ => rfl
theorem cv_fn {f first caps args} {KC : AV → List HObj → Prop} : CallvW P E (.fn (.func f) first caps) args hp KC = (funOK P f = true ∧ CallW P f (first ++ args ++ caps) hp KC) := rfl
theorem cv_yl {id args} {KC : AV → List HObj → Prop} : CallvW P E (.yl id) args hp KC = ∃ K0, E.Y id args hp K0 ∧ ∀ r hp', K0 r hp' → KC r hp' := rfl
theorem x_dcons {o : AOp} : dops P (o :: os) ⟨fr, hp⟩ tr KD = o.wp P (get fr) hp (contD P os o.dst fr hp tr (o.foot (get fr)) KD) := rfl
theorem dx_mv {a0 a1} : dops P (.mv a0 a1 :: os) ⟨fr, hp⟩ tr KD = (AOp.mv a0 a1).wp P (get fr) hp (contD P os (some a0) fr hp tr ([]) KD) := rfl
theorem dx_pick {a0 a1 a2 a3} : dops P (.pick a0 a1 a2 a3 :: os) ⟨fr, hp⟩ tr KD = (AOp.pick a0 a1 a2 a3).wp P (get fr) hp (contD P os (some a0) fr hp tr ([]) KD) := rfl
theorem dx_bin {a0 a1 a2 a3} : dops P (.bin a0 a1 a2 a3 :: os) ⟨fr, hp⟩ tr KD = (AOp.bin a0 a1 a2 a3).wp P (get fr) hp (contD P os (some a0) fr hp tr ([]) KD) := rfl
theorem dx_bing {a0 a1 a2 a3 a4} : dops P (.bing a0 a1 a2 a3 a4 :: os) ⟨fr, hp⟩ tr KD = (AOp.bing a0 a1 a2 a3 a4).wp P (get fr) hp (contD P os (some a0) fr hp tr ([]) KD) := rfl
theorem dx_un {a0 a1 a2} : dops P (.un a0 a1 a2 :: os) ⟨fr, hp⟩ tr KD = (AOp.un a0 a1 a2).wp P (get fr) hp (contD P os (some a0) fr hp tr ([]) KD) := rfl
theorem dx_ext {a0 a1 a2} : dops P (.ext a0 a1 a2 :: os) ⟨fr, hp⟩ tr KD = (AOp.ext a0 a1 a2).wp P (get fr) hp (contD P os (some a0) fr hp tr ([]) KD) := rfl
theorem dx_ld {a0 a1 a2 a3} : dops P (.ld a0 a1 a2 a3 :: os) ⟨fr, hp⟩ tr KD = (AOp.ld a0 a1 a2 a3).wp P (get fr) hp (contD P os (some a0) fr hp tr ((evF (get fr) a3).ids) KD) := by simp [dops, AOp.wp, contD, AOp.foot, AOp.heapy, AOp.opds, AOp.dst, St.step]
theorem dx_st {a0 a1 a2} : dops P (.st a0 a1 a2 :: os) ⟨fr, hp⟩ tr KD = (AOp.st a0 a1 a2).wp P (get fr) hp (contD P os none fr hp tr ((evF (get fr) a1).ids ++ (evF (get fr) a2).ids) KD) := by simp [dops, AOp.wp, contD, AOp.foot, AOp.heapy, AOp.opds, AOp.dst, St.step]
theorem dx_box {a0 a1 a2} : dops P (.box a0 a1 a2 :: os) ⟨fr, hp⟩ tr KD = (AOp.box a0 a1 a2).wp P (get fr) hp (contD P os (some a0) fr hp tr ([]) KD) := rfl
theorem dx_al {a0 a1} : dops P (.al a0 a1 :: os) ⟨fr, hp⟩ tr KD = (AOp.al a0 a1).wp P (get fr) hp (contD P os (some a0) fr hp tr ([]) KD) := rfl
theorem dx_bsl {a0 a1 a2 a3 a4} : dops P (.bsl a0 a1 a2 a3 a4 :: os) ⟨fr, hp⟩ tr KD = (AOp.bsl a0 a1 a2 a3 a4).wp P (get fr) hp (contD P os (some a0) fr hp tr ((a4.map (·.2)).flatMap fun x => (evF (get fr) x).ids) KD) := rfl
theorem dx_bld {a0 a1 a2} : dops P (.bld a0 a1 a2 :: os) ⟨fr, hp⟩ tr KD = (AOp.bld a0 a1 a2).wp P (get fr) hp (contD P os (some a0) fr hp tr ([]) KD) := rfl
theorem dx_fa {a0 a1 a2} : dops P (.fa a0 a1 a2 :: os) ⟨fr, hp⟩ tr KD = (AOp.fa a0 a1 a2).wp P (get fr) hp (contD P os (some a0) fr hp tr ([]) KD) := rfl
theorem dx_fld {a0 a1 a2 a3 a4} : dops P (.fld a0 a1 a2 a3 a4 :: os) ⟨fr, hp⟩ tr KD = (AOp.fld a0 a1 a2 a3 a4).wp P (get fr) hp (contD P os (some a0) fr hp tr ([]) KD) := rfl
theorem dx_ia {a0 a1 a2 a3} : dops P (.ia a0 a1 a2 a3 :: os) ⟨fr, hp⟩ tr KD = (AOp.ia a0 a1 a2 a3).wp P (get fr) hp (contD P os (some a0) fr hp tr ([]) KD) := rfl
theorem dx_iaa {a0 a1 a2 a3 a4} : dops P (.iaa a0 a1 a2 a3 a4 :: os) ⟨fr, hp⟩ tr KD = (AOp.iaa a0 a1 a2 a3 a4).wp P (get fr) hp (contD P os (some a0) fr hp tr ([]) KD) := rfl
theorem dx_idx {a0 a1 a2 a3 a4 a5} : dops P (.idx a0 a1 a2 a3 a4 a5 :: os) ⟨fr, hp⟩ tr KD = (AOp.idx a0 a1 a2 a3 a4 a5).wp P (get fr) hp (contD P os (some a0) fr hp tr ([]) KD) := rfl
theorem dx_ids {a0 a1 a2} : dops P (.ids a0 a1 a2 :: os) ⟨fr, hp⟩ tr KD = (AOp.ids a0 a1 a2).wp P (get fr) hp (contD P os (some a0) fr hp tr ([]) KD) := rfl
theorem dx_len {a0 a1} : dops P (.len a0 a1 :: os) ⟨fr, hp⟩ tr KD = (AOp.len a0 a1).wp P (get fr) hp (contD P os (some a0) fr hp tr ([]) KD) := rfl
theorem dx_lns {a0 a1} : dops P (.lns a0 a1 :: os) ⟨fr, hp⟩ tr KD = (AOp.lns a0 a1).wp P (get fr) hp (contD P os (some a0) fr hp tr ([]) KD) := rfl
theorem dx_lnm {a0 a1} : dops P (.lnm a0 a1 :: os) ⟨fr, hp⟩ tr KD = (AOp.lnm a0 a1).wp P (get fr) hp (contD P os (some a0) fr hp tr ((evF (get fr) a1).ids) KD) := by simp [dops, AOp.wp, contD, AOp.foot, AOp.heapy, AOp.opds, AOp.dst, St.step]
theorem dx_slc {a0 a1 a2 a3 a4 a5} : dops P (.slc a0 a1 a2 a3 a4 a5 :: os) ⟨fr, hp⟩ tr KD = (AOp.slc a0 a1 a2 a3 a4 a5).wp P (get fr) hp (contD P os (some a0) fr hp tr ([]) KD) := rfl
theorem dx_sls {a0 a1 a2 a3} : dops P (.sls a0 a1 a2 a3 :: os) ⟨fr, hp⟩ tr KD = (AOp.sls a0 a1 a2 a3).wp P (get fr) hp (contD P os (some a0) fr hp tr ([]) KD) := rfl
theorem dx_app {a0 a1 a2 a3 a4} : dops P (.app a0 a1 a2 a3 a4 :: os) ⟨fr, hp⟩ tr KD = (AOp.app a0 a1 a2 a3 a4).wp P (get fr) hp (contD P os (some a0) fr hp tr ((evF (get fr) a3).ids ++ (evF (get fr) a4).ids) KD) := by simp [dops, AOp.wp, contD, AOp.foot, AOp.heapy, AOp.opds, AOp.dst, St.step]
theorem dx_cpy {a0 a1 a2 a3} : dops P (.cpy a0 a1 a2 a3 :: os) ⟨fr, hp⟩ tr KD = (AOp.cpy a0 a1 a2 a3).wp P (get fr) hp (contD P os (some a0) fr hp tr ((evF (get fr) a2).ids ++ (evF (get fr) a3).ids) KD) := by simp [dops, AOp.wp, contD, AOp.foot, AOp.heapy, AOp.opds, AOp.dst, St.step]
theorem dx_mks {a0 a1 a2 a3 a4 a5} : dops P (.mks a0 a1 a2 a3 a4 a5 :: os) ⟨fr, hp⟩ tr KD = (AOp.mks a0 a1 a2 a3 a4 a5).wp P (get fr) hp (contD P os (some a0) fr hp tr ([]) KD) := rfl
theorem dx_cnv {a0 a1 a2} : dops P (.cnv a0 a1 a2 :: os) ⟨fr, hp⟩ tr KD = (AOp.cnv a0 a1 a2).wp P (get fr) hp (contD P os (some a0) fr hp tr ([]) KD) := rfl
theorem dx_mx {a0 a1 a2 a3} : dops P (.mx a0 a1 a2 a3 :: os) ⟨fr, hp⟩ tr KD = (AOp.mx a0 a1 a2 a3).wp P (get fr) hp (contD P os (some a0) fr hp tr ([]) KD) := rfl
theorem dx_nilc {a0 a1} : dops P (.nilc a0 a1 :: os) ⟨fr, hp⟩ tr KD = (AOp.nilc a0 a1).wp P (get fr) hp (contD P os (some a0) fr hp tr ([]) KD) := rfl
theorem dx_mkf {a0 a1 a2 a3} : dops P (.mkf a0 a1 a2 a3 :: os) ⟨fr, hp⟩ tr KD = (AOp.mkf a0 a1 a2 a3).wp P (get fr) hp (contD P os (some a0) fr hp tr ([]) KD) := rfl
theorem dx_call {a0 a1 a2} : dops P (.call a0 a1 a2 :: os) ⟨fr, hp⟩ tr KD = (AOp.call a0 a1 a2).wp P (get fr) hp (contD P os (some a0) fr hp tr (a2.flatMap fun x => (evF (get fr) x).ids) KD) := rfl
theorem ids_v {x} : (AV.v x).ids = [] := rfl
theorem ids_sl {a b c} : (AV.sl a b c).ids = [] := rfl
theorem ids_ptr {a b} : (AV.ptr a b).ids = [] := rfl
theorem ids_ref {a b} : (AV.ref a b).ids = [a] := rfl
theorem ids_ms {a b c d} : (AV.ms a b c d).ids = [a] := rfl
theorem ids_mp {a} : (AV.mp a).ids = [a] := rfl
theorem ids_any : AV.any.ids = [] := rfl
theorem ids_fn {a b c} : (AV.fn a b c).ids = [] := rfl
theorem ids_agg {cs} : (AV.agg cs).ids = cs.flatMap AV.ids1 := rfl
theorem ids_tup {cs} : (AV.tup cs).ids = cs.flatMap AV.ids1 := rfl
theorem ids1_v {x} : (AV.v x).ids1 = [] := rfl
theorem ids1_sl {a b c} : (AV.sl a b c).ids1 = [] := rfl
theorem ids1_ptr {a b} : (AV.ptr a b).ids1 = [] := rfl
theorem ids1_ref {a b} : (AV.ref a b).ids1 = [a] := rfl
theorem ids1_ms {a b c d} : (AV.ms a b c d).ids1 = [a] := rfl
theorem ids1_mp {a} : (AV.mp a).ids1 = [a] := rfl
theorem ids1_any : AV.any.ids1 = [] := rfl
theorem ids1_fn {a b c} : (AV.fn a b c).ids1 = [] := rfl
theorem x_wcall {d f args} : (AOp.call d f args).wp P F hp K = PureW P f (args.map (evF F)) hp K := by
  apply propext
  constructor
  · rintro ⟨r, ws, ⟨ys, ids, h1, h2⟩, h3⟩
    rcases h2 with ⟨h2, rfl⟩ | ⟨m, sz, cs, h2, rfl, rfl⟩
    · exact ⟨ys, ids, h1, .inl ⟨r, h2, h3⟩⟩
    · exact ⟨ys, ids, h1, .inr ⟨m, sz, cs, h2, h3⟩⟩
  · rintro ⟨ys, ids, h1, h2⟩
    rcases h2 with ⟨r, h2, h3⟩ | ⟨m, sz, cs, h2, h3⟩
    · exact ⟨r, _, ⟨ys, ids, h1, .inl ⟨h2, rfl⟩⟩, h3⟩
    · exact ⟨_, _, ⟨ys, ids, h1, .inr ⟨m, sz, cs, h2, rfl, rfl⟩⟩, h3⟩

/-- Every operation but the calls. -/
def AOp.calls : AOp → Bool
  | .call .. | .callv .. => true
  | _ => false

theorem xo_mv {a0 a1} : aops P E (.mv a0 a1 :: os) ⟨fr, hp⟩ KS = (AOp.mv a0 a1).wp P (get fr) hp (contA P E os (some a0) fr hp KS) := rfl
theorem xo_pick {a0 a1 a2 a3} : aops P E (.pick a0 a1 a2 a3 :: os) ⟨fr, hp⟩ KS = (AOp.pick a0 a1 a2 a3).wp P (get fr) hp (contA P E os (some a0) fr hp KS) := rfl
theorem xo_bin {a0 a1 a2 a3} : aops P E (.bin a0 a1 a2 a3 :: os) ⟨fr, hp⟩ KS = (AOp.bin a0 a1 a2 a3).wp P (get fr) hp (contA P E os (some a0) fr hp KS) := rfl
theorem xo_bing {a0 a1 a2 a3 a4} : aops P E (.bing a0 a1 a2 a3 a4 :: os) ⟨fr, hp⟩ KS = (AOp.bing a0 a1 a2 a3 a4).wp P (get fr) hp (contA P E os (some a0) fr hp KS) := rfl
theorem xo_un {a0 a1 a2} : aops P E (.un a0 a1 a2 :: os) ⟨fr, hp⟩ KS = (AOp.un a0 a1 a2).wp P (get fr) hp (contA P E os (some a0) fr hp KS) := rfl
theorem xo_ext {a0 a1 a2} : aops P E (.ext a0 a1 a2 :: os) ⟨fr, hp⟩ KS = (AOp.ext a0 a1 a2).wp P (get fr) hp (contA P E os (some a0) fr hp KS) := rfl
theorem xo_ld {a0 a1 a2 a3} : aops P E (.ld a0 a1 a2 a3 :: os) ⟨fr, hp⟩ KS = (AOp.ld a0 a1 a2 a3).wp P (get fr) hp (contA P E os (some a0) fr hp KS) := rfl
theorem xo_st {a0 a1 a2} : aops P E (.st a0 a1 a2 :: os) ⟨fr, hp⟩ KS = (AOp.st a0 a1 a2).wp P (get fr) hp (contA P E os none fr hp KS) := rfl
theorem xo_box {a0 a1 a2} : aops P E (.box a0 a1 a2 :: os) ⟨fr, hp⟩ KS = (AOp.box a0 a1 a2).wp P (get fr) hp (contA P E os (some a0) fr hp KS) := rfl
theorem xo_al {a0 a1} : aops P E (.al a0 a1 :: os) ⟨fr, hp⟩ KS = (AOp.al a0 a1).wp P (get fr) hp (contA P E os (some a0) fr hp KS) := rfl
theorem xo_bsl {a0 a1 a2 a3 a4} : aops P E (.bsl a0 a1 a2 a3 a4 :: os) ⟨fr, hp⟩ KS = (AOp.bsl a0 a1 a2 a3 a4).wp P (get fr) hp (contA P E os (some a0) fr hp KS) := rfl
theorem xo_bld {a0 a1 a2} : aops P E (.bld a0 a1 a2 :: os) ⟨fr, hp⟩ KS = (AOp.bld a0 a1 a2).wp P (get fr) hp (contA P E os (some a0) fr hp KS) := rfl
theorem xo_fa {a0 a1 a2} : aops P E (.fa a0 a1 a2 :: os) ⟨fr, hp⟩ KS = (AOp.fa a0 a1 a2).wp P (get fr) hp (contA P E os (some a0) fr hp KS) := rfl
theorem xo_fld {a0 a1 a2 a3 a4} : aops P E (.fld a0 a1 a2 a3 a4 :: os) ⟨fr, hp⟩ KS = (AOp.fld a0 a1 a2 a3 a4).wp P (get fr) hp (contA P E os (some a0) fr hp KS) := rfl
theorem xo_ia {a0 a1 a2 a3} : aops P E (.ia a0 a1 a2 a3 :: os) ⟨fr, hp⟩ KS = (AOp.ia a0 a1 a2 a3).wp P (get fr) hp (contA P E os (some a0) fr hp KS) := rfl
theorem xo_iaa {a0 a1 a2 a3 a4} : aops P E (.iaa a0 a1 a2 a3 a4 :: os) ⟨fr, hp⟩ KS = (AOp.iaa a0 a1 a2 a3 a4).wp P (get fr) hp (contA P E os (some a0) fr hp KS) := rfl
theorem xo_idx {a0 a1 a2 a3 a4 a5} : aops P E (.idx a0 a1 a2 a3 a4 a5 :: os) ⟨fr, hp⟩ KS = (AOp.idx a0 a1 a2 a3 a4 a5).wp P (get fr) hp (contA P E os (some a0) fr hp KS) := rfl
theorem xo_ids {a0 a1 a2} : aops P E (.ids a0 a1 a2 :: os) ⟨fr, hp⟩ KS = (AOp.ids a0 a1 a2).wp P (get fr) hp (contA P E os (some a0) fr hp KS) := rfl
theorem xo_len {a0 a1} : aops P E (.len a0 a1 :: os) ⟨fr, hp⟩ KS = (AOp.len a0 a1).wp P (get fr) hp (contA P E os (some a0) fr hp KS) := rfl
theorem xo_lns {a0 a1} : aops P E (.lns a0 a1 :: os) ⟨fr, hp⟩ KS = (AOp.lns a0 a1).wp P (get fr) hp (contA P E os (some a0) fr hp KS) := rfl
theorem xo_lnm {a0 a1} : aops P E (.lnm a0 a1 :: os) ⟨fr, hp⟩ KS = (AOp.lnm a0 a1).wp P (get fr) hp (contA P E os (some a0) fr hp KS) := rfl
theorem xo_slc {a0 a1 a2 a3 a4 a5} : aops P E (.slc a0 a1 a2 a3 a4 a5 :: os) ⟨fr, hp⟩ KS = (AOp.slc a0 a1 a2 a3 a4 a5).wp P (get fr) hp (contA P E os (some a0) fr hp KS) := rfl
theorem xo_sls {a0 a1 a2 a3} : aops P E (.sls a0 a1 a2 a3 :: os) ⟨fr, hp⟩ KS = (AOp.sls a0 a1 a2 a3).wp P (get fr) hp (contA P E os (some a0) fr hp KS) := rfl
theorem xo_app {a0 a1 a2 a3 a4} : aops P E (.app a0 a1 a2 a3 a4 :: os) ⟨fr, hp⟩ KS = (AOp.app a0 a1 a2 a3 a4).wp P (get fr) hp (contA P E os (some a0) fr hp KS) := rfl
theorem xo_cpy {a0 a1 a2 a3} : aops P E (.cpy a0 a1 a2 a3 :: os) ⟨fr, hp⟩ KS = (AOp.cpy a0 a1 a2 a3).wp P (get fr) hp (contA P E os (some a0) fr hp KS) := rfl
theorem xo_mks {a0 a1 a2 a3 a4 a5} : aops P E (.mks a0 a1 a2 a3 a4 a5 :: os) ⟨fr, hp⟩ KS = (AOp.mks a0 a1 a2 a3 a4 a5).wp P (get fr) hp (contA P E os (some a0) fr hp KS) := rfl
theorem xo_cnv {a0 a1 a2} : aops P E (.cnv a0 a1 a2 :: os) ⟨fr, hp⟩ KS = (AOp.cnv a0 a1 a2).wp P (get fr) hp (contA P E os (some a0) fr hp KS) := rfl
theorem xo_mx {a0 a1 a2 a3} : aops P E (.mx a0 a1 a2 a3 :: os) ⟨fr, hp⟩ KS = (AOp.mx a0 a1 a2 a3).wp P (get fr) hp (contA P E os (some a0) fr hp KS) := rfl
theorem xo_nilc {a0 a1} : aops P E (.nilc a0 a1 :: os) ⟨fr, hp⟩ KS = (AOp.nilc a0 a1).wp P (get fr) hp (contA P E os (some a0) fr hp KS) := rfl
theorem xo_mkf {a0 a1 a2 a3} : aops P E (.mkf a0 a1 a2 a3 :: os) ⟨fr, hp⟩ KS = (AOp.mkf a0 a1 a2 a3).wp P (get fr) hp (contA P E os (some a0) fr hp KS) := rfl

theorem ex_two {α β : Type} {a : α} {b : β} {K : α → β → Prop} {p : Prop} : (∃ r ws, (p ∧ r = a ∧ ws = b) ∧ K r ws) = (p ∧ K a b) :=
  propext ⟨fun ⟨_, _, ⟨h, e1, e2⟩, k⟩ => ⟨h, by subst e1; subst e2; exact k⟩, fun ⟨h, k⟩ => ⟨a, b, ⟨h, rfl, rfl⟩, k⟩⟩
theorem ex_one {α β : Type} {a : α} {b : β} {K : α → β → Prop} : (∃ r ws, (r = a ∧ ws = b) ∧ K r ws) = K a b :=
  propext ⟨fun ⟨_, _, ⟨e1, e2⟩, k⟩ => by subst e1; subst e2; exact k, fun k => ⟨a, b, ⟨rfl, rfl⟩, k⟩⟩

theorem ex_z {α β γ : Type} {p : γ → Prop} {f : γ → α} {b : β} {K : α → β → Prop} : (∃ r ws, (∃ z, p z ∧ r = f z ∧ ws = b) ∧ K r ws) = ∃ z, p z ∧ K (f z) b :=
  propext ⟨fun ⟨_, _, ⟨z, h, e1, e2⟩, k⟩ => ⟨z, h, by subst e1; subst e2; exact k⟩, fun ⟨z, h, k⟩ => ⟨_, _, ⟨z, h, rfl, rfl⟩, k⟩⟩
theorem ex_f {α β : Type} {K : α → β → Prop} : (∃ r ws, False ∧ K r ws) = False := by simp

theorem w_mv {d x} : (AOp.mv d x).wp P F hp K = K (evF F x) [] := ex_one
def PickW (c a b : AV) (K : AV → List (Nat × HObj) → Prop) : Prop := match c with
  | .v (.bool t) => K (bif t then a else b) []
  | _ => False
theorem w_pick {d c a b} : (AOp.pick d c a b).wp P F hp K = PickW (evF F c) (evF F a) (evF F b) K := by
  unfold AOp.wp; simp only [AOp.sem]
  generalize evF F c = u
  cases u with
  | v x => cases x <;> first | exact ex_one | exact ex_f
  | _ => exact ex_f
theorem w_pickB {t a b} : PickW (B t) a b K = K (bif t then a else b) [] := rfl
def BinW (op : BinOp) (x y : AV) (K : AV → List (Nat × HObj) → Prop) : Prop := match x, y with
  | .v a, .v b => ∃ z, binV op a b = some z ∧ K (.v z) []
  | _, _ => False
theorem w_bin {d op x y} : (AOp.bin d op x y).wp P F hp K = BinW op (evF F x) (evF F y) K := by
  unfold AOp.wp; simp only [AOp.sem]
  generalize evF F x = u
  generalize evF F y = v
  cases u <;> cases v <;> first | exact ex_z | exact ex_f
theorem bin_of {op a b z} (h : binV op a b = some z) : BinW op (.v a) (.v b) K = K (.v z) [] := by
  unfold BinW; simp only [h, Option.some.injEq, exists_eq_left']
theorem b_add {k : IntKind} {a b : Int} : BinW .add (.v (.int k a)) (.v (.int k b)) K = K (.v (.int k (k.wrap (a + b)))) [] := bin_of (by simp [binV])
theorem b_sub {k : IntKind} {a b : Int} : BinW .sub (.v (.int k a)) (.v (.int k b)) K = K (.v (.int k (k.wrap (a - b)))) [] := bin_of (by simp [binV])
theorem b_mul {k : IntKind} {a b : Int} : BinW .mul (.v (.int k a)) (.v (.int k b)) K = K (.v (.int k (k.wrap (a * b)))) [] := bin_of (by simp [binV])
theorem b_quo {k : IntKind} {a b : Int} (h : b ≠ 0) : BinW .quo (.v (.int k a)) (.v (.int k b)) K = K (.v (.int k (k.wrap (a.tdiv b)))) [] := bin_of (by simp [binV, h])
theorem b_rem {k : IntKind} {a b : Int} (h : b ≠ 0) : BinW .rem (.v (.int k a)) (.v (.int k b)) K = K (.v (.int k (a.tmod b))) [] := bin_of (by simp [binV, h])
theorem b_and {k : IntKind} {a b : Int} : BinW .and (.v (.int k a)) (.v (.int k b)) K = K (.v (.int k (k.wrap (BitVec.ofInt k.bits a &&& BitVec.ofInt k.bits b).toNat))) [] := bin_of (by simp [binV])
theorem b_or {k : IntKind} {a b : Int} : BinW .or (.v (.int k a)) (.v (.int k b)) K = K (.v (.int k (k.wrap (BitVec.ofInt k.bits a ||| BitVec.ofInt k.bits b).toNat))) [] := bin_of (by simp [binV])
theorem b_xor {k : IntKind} {a b : Int} : BinW .xor (.v (.int k a)) (.v (.int k b)) K = K (.v (.int k (k.wrap (BitVec.ofInt k.bits a ^^^ BitVec.ofInt k.bits b).toNat))) [] := bin_of (by simp [binV])
theorem b_shl {k k' : IntKind} {a b : Int} (h : 0 ≤ b) : BinW .shl (.v (.int k a)) (.v (.int k' b)) K = K (.v (.int k (k.wrap (a * 2 ^ (min b.toNat k.bits))))) [] := bin_of (by simp [binV]; omega)
theorem b_shr {k k' : IntKind} {a b : Int} (h : 0 ≤ b) : BinW .shr (.v (.int k a)) (.v (.int k' b)) K = K (.v (.int k (a.fdiv (2 ^ (min b.toNat k.bits))))) [] := bin_of (by simp [binV]; omega)
theorem b_eql {k : IntKind} {a b : Int} : BinW .eql (.v (.int k a)) (.v (.int k b)) K = K (B (a == b)) [] := bin_of (by simp [binV])
theorem b_neq {k : IntKind} {a b : Int} : BinW .neq (.v (.int k a)) (.v (.int k b)) K = K (B (a != b)) [] := bin_of (by simp [binV])
theorem b_lss {k : IntKind} {a b : Int} : BinW .lss (.v (.int k a)) (.v (.int k b)) K = K (B (decide (a < b))) [] := bin_of (by simp [binV])
theorem b_leq {k : IntKind} {a b : Int} : BinW .leq (.v (.int k a)) (.v (.int k b)) K = K (B (decide (a ≤ b))) [] := bin_of (by simp [binV])
theorem b_gtr {k : IntKind} {a b : Int} : BinW .gtr (.v (.int k a)) (.v (.int k b)) K = K (B (decide (a > b))) [] := bin_of (by simp [binV])
theorem b_geq {k : IntKind} {a b : Int} : BinW .geq (.v (.int k a)) (.v (.int k b)) K = K (B (decide (a ≥ b))) [] := bin_of (by simp [binV])
def BingW (P : Program) (op : BinOp) (ty : TypeId) (x y : AV) (K : AV → List (Nat × HObj) → Prop) : Prop :=
  ∃ a b z, x.val = some a ∧ y.val = some b ∧ (∀ w, (binOp op ty a b).run P w = .ok z w) ∧ (∀ p q w, (eqGuard op ty p q a b).run P w = .ok () w) ∧ K (.v z) []
theorem w_bing {d op ty x y} : (AOp.bing d op ty x y).wp P F hp K = BingW P op ty (evF F x) (evF F y) K := by
  apply propext
  constructor
  · rintro ⟨r, ws, ⟨a, b, z, h1, h2, h3, h4, rfl, rfl⟩, k⟩; exact ⟨a, b, z, h1, h2, h3, h4, k⟩
  · rintro ⟨a, b, z, h1, h2, h3, h4, k⟩; exact ⟨_, _, ⟨a, b, z, h1, h2, h3, h4, rfl, rfl⟩, k⟩
theorem bing_of {op ty x y a b z} (w0 : World) (hx : x.val = some a) (hy : y.val = some b) (h1 : ∀ w, (binOp op ty a b).run P w = .ok z w) (h2 : ∀ p q w, (eqGuard op ty p q a b).run P w = .ok () w) : BingW P op ty x y K = K (.v z) [] := by
  apply propext
  constructor
  · rintro ⟨a', b', z', e1, e2, e3, e4, k⟩
    rw [hx] at e1; rw [hy] at e2
    cases e1; cases e2
    have := (h1 w0).symm.trans (e3 w0)
    cases this
    exact k
  · intro k; exact ⟨a, b, z, hx, hy, h1, h2, k⟩
def UnW (op : UnOp) (x : AV) (K : AV → List (Nat × HObj) → Prop) : Prop := match x with
  | .v a => ∃ z, unV op a = some z ∧ K (.v z) []
  | _ => False
theorem w_un {d op x} : (AOp.un d op x).wp P F hp K = UnW op (evF F x) K := by
  unfold AOp.wp; simp only [AOp.sem]
  generalize evF F x = u
  cases u <;> first | exact ex_z | exact ex_f
theorem u_neg {k : IntKind} {a : Int} : UnW .neg (.v (.int k a)) K = K (.v (.int k (k.wrap (0 - a)))) [] := by unfold UnW; simp [unV]
theorem u_not {b : Bool} : UnW .not (B b) K = K (B !b) [] := by unfold UnW; simp [unV]
def ExtW (x : AV) (i : Nat) (K : AV → List (Nat × HObj) → Prop) : Prop := match x with
  | .tup vs => ∃ y, vs[i]? = some y ∧ K y []
  | _ => False
theorem w_ext {d x i} : (AOp.ext d x i).wp P F hp K = ExtW (evF F x) i K := by
  unfold AOp.wp; simp only [AOp.sem]
  generalize evF F x = u
  cases u <;> first | exact ex_z | exact ex_f
def nthA : List AV → Nat → Option AV
  | [], _ => none
  | a :: l, n => if n = 0 then some a else nthA l (n - 1)
theorem nthA_eq : ∀ (l : List AV) (n : Nat), nthA l n = l[n]?
  | [], n => by simp [nthA]
  | a :: l, 0 => by simp [nthA]
  | a :: l, n + 1 => by simp [nthA, nthA_eq l n]
theorem nthA_cons {a : AV} {l : List AV} {n} : nthA (a :: l) n = if n = 0 then some a else nthA l (n - 1) := rfl
def OneW (o : Option AV) (K : AV → List (Nat × HObj) → Prop) : Prop := match o with
  | some y => K y []
  | none => False
theorem one_some {y : AV} : OneW (some y) K = K y [] := rfl
theorem one_ex {o : Option AV} : (∃ y, o = some y ∧ K y []) = OneW o K := by
  cases o <;> simp [OneW]
theorem e_tup {vs : List AV} {i} : ExtW (.tup vs) i K = OneW (nthA vs i) K := by rw [nthA_eq]; exact one_ex
/-- Loads. -/
def CellsW (cs : List AV) (off sz : Nat) (agg : Bool) (K : AV → List (Nat × HObj) → Prop) : Prop := match agg with
  | true => off + sz ≤ cs.length ∧ K (.agg (view cs off sz)) []
  | false => ∃ y, cs[off]? = some y ∧ K y []
theorem cells_agg {cs : List AV} {off sz} : CellsW cs off sz true K = (off + sz ≤ cs.length ∧ K (.agg (view cs off sz)) []) := rfl
theorem cells_one {cs : List AV} {off sz} : CellsW cs off sz false K = OneW (nthA cs off) K := by rw [nthA_eq]; exact one_ex
theorem cells_ex {cs : List AV} {off sz agg} {p : Prop} : (∃ r ws, ((match agg with | true => off + sz ≤ cs.length ∧ r = .agg (view cs off sz) | false => ∃ y, cs[off]? = some y ∧ r = y) ∧ ws = []) ∧ K r ws) = CellsW cs off sz agg K := by
  apply propext
  cases agg with
  | true =>
    constructor
    · rintro ⟨r, ws, ⟨⟨h, rfl⟩, rfl⟩, k⟩; exact ⟨h, k⟩
    · rintro ⟨h, k⟩; exact ⟨_, _, ⟨⟨h, rfl⟩, rfl⟩, k⟩
  | false =>
    constructor
    · rintro ⟨r, ws, ⟨⟨y, h, rfl⟩, rfl⟩, k⟩; exact ⟨_, h, k⟩
    · rintro ⟨y, h, k⟩; exact ⟨_, _, ⟨⟨y, h, rfl⟩, rfl⟩, k⟩
def LdW (hp : List HObj) (agg : Bool) (sz : Nat) (x : AV) (K : AV → List (Nat × HObj) → Prop) : Prop := match x with
  | .ptr cs off => CellsW cs off sz agg K
  | .ref id off => match hp[id]? with
    | some (.cells cs) => CellsW cs off sz agg K
    | _ => False
  | _ => False
theorem w_ld {d agg sz x} : (AOp.ld d agg sz x).wp P F hp K = LdW hp agg sz (evF F x) K := by
  unfold AOp.wp; simp only [AOp.sem, semLd]
  have sw : ∀ (cs : List AV) (off : Nat), (∃ r ws, (ws = [] ∧ (match agg with | true => off + sz ≤ cs.length ∧ r = .agg (view cs off sz) | false => ∃ y, cs[off]? = some y ∧ r = y)) ∧ K r ws) = CellsW cs off sz agg K := fun cs off => by
    rw [← cells_ex (p := True)]
    exact propext ⟨fun ⟨r, ws, ⟨a, b⟩, k⟩ => ⟨r, ws, ⟨b, a⟩, k⟩, fun ⟨r, ws, ⟨a, b⟩, k⟩ => ⟨r, ws, ⟨b, a⟩, k⟩⟩
  generalize evF F x = u
  cases u with
  | ptr cs off => exact sw cs off
  | ref id off =>
    simp only [hpf, LdW]
    generalize hp[id]? = o
    cases o with
    | none => exact ex_f
    | some o => cases o <;> first | exact sw _ _ | exact ex_f
  | _ => exact ex_f
theorem ld_ptr {agg sz cs off} : LdW hp agg sz (.ptr cs off) K = CellsW cs off sz agg K := rfl
def nthH : List HObj → Nat → Option HObj
  | [], _ => none
  | a :: l, n => if n = 0 then some a else nthH l (n - 1)
theorem nthH_eq : ∀ (l : List HObj) (n : Nat), nthH l n = l[n]?
  | [], n => by simp [nthH]
  | a :: l, 0 => by simp [nthH]
  | a :: l, n + 1 => by simp [nthH, nthH_eq l n]
theorem nthH_cons {a : HObj} {l : List HObj} {n} : nthH (a :: l) n = if n = 0 then some a else nthH l (n - 1) := rfl
theorem nthH_end {l : List HObj} {o : HObj} : nthH (l ++ [o]) l.length = some o := by simp [nthH_eq]
theorem nthH_front {l k : List HObj} {n} (h : n < l.length) : nthH (l ++ k) n = nthH l n := by rw [nthH_eq, nthH_eq, List.getElem?_append_left h]
theorem set_end {l : List HObj} {o o' : HObj} : (l ++ [o]).set l.length o' = l ++ [o'] := by simp
def LdR (o : Option HObj) (agg : Bool) (sz off : Nat) (K : AV → List (Nat × HObj) → Prop) : Prop := match o with
  | some (.cells cs) => CellsW cs off sz agg K
  | _ => False
theorem ldr_some {cs agg sz off} : LdR (some (.cells cs)) agg sz off K = CellsW cs off sz agg K := rfl
theorem ld_ref {agg sz id off} : LdW hp agg sz (.ref id off) K = LdR (nthH hp id) agg sz off K := by
  simp only [LdW, nthH_eq]; rfl
def StW (hp : List HObj) (sz : Nat) (a x : AV) (K : AV → List (Nat × HObj) → Prop) : Prop := match a with
  | .ref id off => match hp[id]? with
    | some (.cells cs) => (x.cells.length = sz ∧ (x.cells.all AV.isCell) = true ∧ off + sz ≤ cs.length) ∧ K .any [(id, .cells (splice cs off x.cells))]
    | _ => False
  | _ => False
theorem w_st {sz a x} : (AOp.st sz a x).wp P F hp K = StW hp sz (evF F a) (evF F x) K := by
  unfold AOp.wp; simp only [AOp.sem, semSt]
  generalize evF F a = u
  cases u with
  | ref id off =>
    simp only [hpf, StW]
    generalize hp[id]? = o
    cases o with
    | none => exact ex_f
    | some o =>
      cases o with
      | cells cs =>
        apply propext
        constructor
        · rintro ⟨r, ws, ⟨h1, h2, h3, rfl, rfl⟩, k⟩; exact ⟨⟨h1, h2, h3⟩, k⟩
        · rintro ⟨⟨h1, h2, h3⟩, k⟩; exact ⟨_, _, ⟨h1, h2, h3, rfl, rfl⟩, k⟩
      | _ => exact ex_f
  | _ => exact ex_f
def StR (o : Option HObj) (sz id off : Nat) (x : AV) (K : AV → List (Nat × HObj) → Prop) : Prop := match o with
  | some (.cells cs) => (x.cells.length = sz ∧ (x.cells.all AV.isCell) = true ∧ off + sz ≤ cs.length) ∧ K .any [(id, .cells (splice cs off x.cells))]
  | _ => False
theorem str_some {cs sz id off x} : StR (some (.cells cs)) sz id off x K = ((x.cells.length = sz ∧ (x.cells.all AV.isCell) = true ∧ off + sz ≤ cs.length) ∧ K .any [(id, .cells (splice cs off x.cells))]) := rfl
theorem st_ref {sz id off x} : StW hp sz (.ref id off) x K = StR (nthH hp id) sz id off x K := by
  simp only [StW, nthH_eq]; rfl
theorem w_box {d sz x} : (AOp.box d sz x).wp P F hp K = (((evF F x).cells.length = sz ∧ ((evF F x).cells.all AV.isCell) = true) ∧ K (.ref hp.length 0) [(hp.length, .cells (evF F x).cells)]) := by
  unfold AOp.wp; simp only [AOp.sem]
  apply propext
  constructor
  · rintro ⟨r, ws, ⟨h1, h2, rfl, rfl⟩, k⟩; exact ⟨⟨h1, h2⟩, k⟩
  · rintro ⟨⟨h1, h2⟩, k⟩; exact ⟨_, _, ⟨h1, h2, rfl, rfl⟩, k⟩
theorem w_al {d z} : (AOp.al d z).wp P F hp K = K (.ref hp.length 0) [(hp.length, .cells z)] := ex_one
def BslW (P : Program) (hp : List HObj) (n sz : Nat) (zero : List AV) (is : List Nat) (xs : List AV) (K : AV → List (Nat × HObj) → Prop) : Prop :=
  ∃ ys ids, purifyAll (hpf hp) xs = some (ys, ids) ∧ (ys.all fun y => y.cells.all AV.isCell && y.cells.all AV.isPure && (y.cells.length == sz)) = true ∧ K (.sl true n (place (zrep n zero) sz (is.zip ys))) (gones ids)
theorem bsl_of {n sz : Nat} {zero : List AV} {is : List Nat} {xs ys : List AV} {ids : List Nat} (h1 : purifyAll (hpf hp) xs = some (ys, ids)) (h2 : (ys.all fun y => y.cells.all AV.isCell && y.cells.all AV.isPure && (y.cells.length == sz)) = true)
    (h3 : K (.sl true n (place (zrep n zero) sz (is.zip ys))) (gones ids)) : BslW P hp n sz zero is xs K := ⟨ys, ids, h1, h2, h3⟩
theorem place_nil {cs : List AV} {sz : Nat} : place cs sz [] = cs := rfl
theorem place_cons {cs : List AV} {sz i : Nat} {x : AV} {r} : place cs sz ((i, x) :: r) = place (splice cs (i * sz) x.cells) sz r := rfl
theorem placeF_nil {cs : List AV} : placeF cs [] = cs := rfl
theorem placeF_cons {cs : List AV} {off n : Nat} {x : AV} {r} : placeF cs ((off, n, x) :: r) = placeF (splice cs off x.cells) r := rfl
theorem zrep_zero {z : List AV} : zrep 0 z = [] := rfl
theorem zrep_succ {n} {z : List AV} : zrep (n + 1) z = z ++ zrep n z := rfl
theorem w_bsl {d n sz z ps} : (AOp.bsl d n sz z ps).wp P F hp K = BslW P hp n sz z (ps.map (·.1)) (ps.map fun p => evF F p.2) K := by
  apply propext
  constructor
  · rintro ⟨r, ws, ⟨ys, ids, h1, h2, rfl, rfl⟩, k⟩; exact ⟨ys, ids, h1, h2, k⟩
  · rintro ⟨ys, ids, h1, h2, k⟩; exact ⟨_, _, ⟨ys, ids, h1, h2, rfl, rfl⟩, k⟩
theorem w_bld {d z ps} : (AOp.bld d z ps).wp P F hp K = ((ps.all fun p => (evF F p.2.2).cells.all AV.isCell && ((evF F p.2.2).cells.length == p.2.1)) = true ∧ K (.agg (placeF z (ps.map fun p => (p.1, p.2.1, evF F p.2.2)))) []) := ex_two
def FaW (x : AV) (off : Nat) (K : AV → List (Nat × HObj) → Prop) : Prop := match x with
  | .ptr cs o => K (.ptr cs (o + off)) []
  | .ref id o => K (.ref id (o + off)) []
  | _ => False
theorem w_fa {d x off} : (AOp.fa d x off).wp P F hp K = FaW (evF F x) off K := by
  unfold AOp.wp; simp only [AOp.sem]
  generalize evF F x = u
  cases u <;> first | exact ex_one | exact ex_f
theorem fa_ptr {cs o off} : FaW (.ptr cs o) off K = K (.ptr cs (o + off)) [] := rfl
theorem fa_ref {id o off} : FaW (.ref id o) off K = K (.ref id (o + off)) [] := rfl
def FldW (agg : Bool) (sz off : Nat) (x : AV) (K : AV → List (Nat × HObj) → Prop) : Prop := match x with
  | .agg cs => CellsW cs off sz agg K
  | _ => False
theorem w_fld {d agg sz off x} : (AOp.fld d agg sz off x).wp P F hp K = FldW agg sz off (evF F x) K := by
  unfold AOp.wp; simp only [AOp.sem]
  generalize evF F x = u
  cases u <;> first | exact cells_ex (p := True) | exact ex_f
theorem fld_agg {agg sz off cs} : FldW agg sz off (.agg cs) K = CellsW cs off sz agg K := rfl
def IaW (sz : Nat) (x i : AV) (K : AV → List (Nat × HObj) → Prop) : Prop := match x, i with
  | .sl _ n cs, .v (.int _ j) => (0 ≤ j ∧ j < n) ∧ cs.length = n * sz ∧ K (.ptr cs (j.toNat * sz)) []
  | .ms id off n sz', .v (.int _ j) => (0 ≤ j ∧ j < n) ∧ sz' = sz ∧ K (.ref id (off + j.toNat * sz)) []
  | .mc id off n _ sz', .v (.int _ j) => (0 ≤ j ∧ j < n) ∧ sz' = sz ∧ K (.ref id (off + j.toNat * sz)) []
  | _, _ => False
theorem w_ia {d sz x i} : (AOp.ia d sz x i).wp P F hp K = IaW sz (evF F x) (evF F i) K := by
  unfold AOp.wp; simp only [AOp.sem]
  generalize evF F x = u
  generalize evF F i = v
  cases u with
  | sl f n cs =>
    cases v with
    | v y =>
      cases y <;> first | exact ex_f | skip
      apply propext
      constructor
      · rintro ⟨r, ws, ⟨h1, rfl, rfl, h2⟩, k⟩; exact ⟨h1, h2, k⟩
      · rintro ⟨h1, h2, k⟩; exact ⟨_, _, ⟨h1, rfl, rfl, h2⟩, k⟩
    | _ => exact ex_f
  | ms id off n sz' =>
    cases v with
    | v y =>
      cases y <;> first | exact ex_f | skip
      apply propext
      constructor
      · rintro ⟨r, ws, ⟨h1, h2, rfl, rfl⟩, k⟩; exact ⟨h1, h2, k⟩
      · rintro ⟨h1, h2, k⟩; exact ⟨_, _, ⟨h1, h2, rfl, rfl⟩, k⟩
    | _ => exact ex_f
  | mc id off n c sz' =>
    cases v with
    | v y =>
      cases y <;> first | exact ex_f | skip
      apply propext
      constructor
      · rintro ⟨r, ws, ⟨h1, h2, rfl, rfl⟩, k⟩; exact ⟨h1, h2, k⟩
      · rintro ⟨h1, h2, k⟩; exact ⟨_, _, ⟨h1, h2, rfl, rfl⟩, k⟩
    | _ => exact ex_f
  | _ => cases v <;> exact ex_f
theorem ia_mc {sz id off n c sz' j k} : IaW sz (.mc id off n c sz') (.v (.int k j)) K = ((0 ≤ j ∧ j < n) ∧ sz' = sz ∧ K (.ref id (off + j.toNat * sz)) []) := rfl
theorem ia_sl {sz f n cs j k} : IaW sz (.sl f n cs) (.v (.int k j)) K = ((0 ≤ j ∧ j < n) ∧ cs.length = n * sz ∧ K (.ptr cs (j.toNat * sz)) []) := rfl
theorem ia_ms {sz id off n sz' j k} : IaW sz (.ms id off n sz') (.v (.int k j)) K = ((0 ≤ j ∧ j < n) ∧ sz' = sz ∧ K (.ref id (off + j.toNat * sz)) []) := rfl
def IaaW (ln sz : Nat) (x i : AV) (K : AV → List (Nat × HObj) → Prop) : Prop := match x, i with
  | .ptr cs o, .v (.int _ j) => (0 ≤ j ∧ j < ln) ∧ K (.ptr cs (o + j.toNat * sz)) []
  | .ref id o, .v (.int _ j) => (0 ≤ j ∧ j < ln) ∧ K (.ref id (o + j.toNat * sz)) []
  | _, _ => False
theorem w_iaa {d ln sz x i} : (AOp.iaa d ln sz x i).wp P F hp K = IaaW ln sz (evF F x) (evF F i) K := by
  unfold AOp.wp; simp only [AOp.sem]
  generalize evF F x = u
  generalize evF F i = v
  cases u with
  | ptr cs o =>
    cases v with
    | v y => cases y <;> first | exact ex_f | exact ex_two
    | _ => exact ex_f
  | ref id o =>
    cases v with
    | v y => cases y <;> first | exact ex_f | exact ex_two
    | _ => exact ex_f
  | _ => cases v <;> exact ex_f
theorem iaa_ptr {ln sz cs o j k} : IaaW ln sz (.ptr cs o) (.v (.int k j)) K = ((0 ≤ j ∧ j < ln) ∧ K (.ptr cs (o + j.toNat * sz)) []) := rfl
theorem iaa_ref {ln sz id o j k} : IaaW ln sz (.ref id o) (.v (.int k j)) K = ((0 ≤ j ∧ j < ln) ∧ K (.ref id (o + j.toNat * sz)) []) := rfl
def IdxW (ln : Nat) (agg : Bool) (sz : Nat) (x i : AV) (K : AV → List (Nat × HObj) → Prop) : Prop := match x, i with
  | .agg cs, .v (.int _ j) => (0 ≤ j ∧ j < ln) ∧ CellsW cs (j.toNat * sz) sz agg K
  | _, _ => False
theorem w_idx {d ln agg sz x i} : (AOp.idx d ln agg sz x i).wp P F hp K = IdxW ln agg sz (evF F x) (evF F i) K := by
  unfold AOp.wp; simp only [AOp.sem]
  generalize evF F x = u
  generalize evF F i = v
  cases u with
  | agg cs =>
    cases v with
    | v y =>
      cases y <;> first | exact ex_f | skip
      simp only [IdxW]
      rw [← cells_ex (p := True)]
      apply propext
      constructor
      · rintro ⟨r, ws, ⟨h1, h2, h3⟩, k⟩; exact ⟨h1, r, ws, ⟨h2, h3⟩, k⟩
      · rintro ⟨h1, r, ws, ⟨h2, h3⟩, k⟩; exact ⟨r, ws, ⟨h1, h2, h3⟩, k⟩
    | _ => exact ex_f
  | _ => cases v <;> exact ex_f
theorem idx_agg {ln agg sz cs j k} : IdxW ln agg sz (.agg cs) (.v (.int k j)) K = ((0 ≤ j ∧ j < ln) ∧ CellsW cs (j.toNat * sz) sz agg K) := rfl
def LenW (x : AV) (K : AV → List (Nat × HObj) → Prop) : Prop := match x with
  | .sl _ n _ => K (I n) []
  | .ms _ _ n _ => K (I n) []
  | .mc _ _ n _ _ => K (I n) []
  | _ => False
theorem w_len {d x} : (AOp.len d x).wp P F hp K = LenW (evF F x) K := by
  unfold AOp.wp; simp only [AOp.sem]
  generalize evF F x = u
  cases u <;> first | exact ex_one | exact ex_f
theorem len_sl {f n cs} : LenW (.sl f n cs) K = K (I n) [] := rfl
theorem len_mc {id off n c sz} : LenW (.mc id off n c sz) K = K (I n) [] := rfl
theorem len_ms {id off n sz} : LenW (.ms id off n sz) K = K (I n) [] := rfl
def SlcW (sz : Nat) (x : AV) (lo hi mx : Option AV) (K : AV → List (Nat × HObj) → Prop) : Prop := ∃ r ws, semSlc r ws sz x lo hi mx ∧ K r ws
theorem w_slc {d sz x lo hi mx} : (AOp.slc d sz x lo hi mx).wp P F hp K = SlcW sz (evF F x) (lo.map (evF F)) (hi.map (evF F)) (mx.map (evF F)) K := rfl
theorem I_inj {a b : Int} : (I a = I b) = (a = b) := by simp [I]
theorem slc_hi {sz f n cs j} : SlcW sz (.sl f n cs) none (some (I j)) none K = ((0 ≤ j ∧ j ≤ n ∧ cs.length = n * sz) ∧ K (.sl (f && decide (j.toNat = n)) j.toNat (view cs 0 (j.toNat * sz))) []) := by
  apply propext
  constructor
  · rintro ⟨r, ws, ⟨l, h, h1, h2, h3, h4, h5, h6, h7⟩, k⟩
    simp only [I_inj] at h2
    subst h1; subst h2
    simp only [Nat.sub_zero, Nat.zero_mul] at h6
    subst h6; subst h7
    exact ⟨⟨by omega, by omega, h5⟩, by simpa using k⟩
  · rintro ⟨⟨h1, h2, h3⟩, k⟩
    exact ⟨_, _, ⟨0, j.toNat, rfl, by rw [Int.toNat_of_nonneg h1], by omega, by omega, h3, rfl, rfl⟩, by simpa using k⟩
theorem slc_lo {sz f n cs j} : SlcW sz (.sl f n cs) (some (I j)) none none K = ((0 ≤ j ∧ j ≤ n ∧ cs.length = n * sz) ∧ K (.sl f (n - j.toNat) (view cs (j.toNat * sz) ((n - j.toNat) * sz))) []) := by
  apply propext
  constructor
  · rintro ⟨r, ws, ⟨l, h, h1, h2, h3, h4, h5, h6, h7⟩, k⟩
    simp only [I_inj] at h1
    subst h1; subst h2
    simp only [decide_true, Bool.and_true] at h6
    subst h6; subst h7
    exact ⟨⟨by omega, by omega, h5⟩, by simpa using k⟩
  · rintro ⟨⟨h1, h2, h3⟩, k⟩
    exact ⟨_, _, ⟨j.toNat, n, by rw [Int.toNat_of_nonneg h1], rfl, by omega, by omega, h3, rfl, rfl⟩, by simpa using k⟩
theorem slc_lohi {sz f n cs i j} : SlcW sz (.sl f n cs) (some (I i)) (some (I j)) none K = ((0 ≤ i ∧ i ≤ j ∧ j ≤ n ∧ cs.length = n * sz) ∧ K (.sl (f && decide (j.toNat = n)) (j.toNat - i.toNat) (view cs (i.toNat * sz) ((j.toNat - i.toNat) * sz))) []) := by
  apply propext
  constructor
  · rintro ⟨r, ws, ⟨l, h, h1, h2, h3, h4, h5, h6, h7⟩, k⟩
    simp only [I_inj] at h1 h2
    subst h1; subst h2
    subst h6; subst h7
    exact ⟨⟨by omega, by omega, by omega, h5⟩, by simpa using k⟩
  · rintro ⟨⟨h1, h2, h3, h4⟩, k⟩
    exact ⟨_, _, ⟨i.toNat, j.toNat, by rw [Int.toNat_of_nonneg h1], by rw [Int.toNat_of_nonneg (by omega)], by omega, by omega, h4, rfl, rfl⟩, by simpa using k⟩
def CnvW (k : IntKind) (x : AV) (K : AV → List (Nat × HObj) → Prop) : Prop := match x with
  | .v (.int _ n) => K (.v (.int k (k.wrap n))) []
  | _ => False
theorem w_cnv {d k x} : (AOp.cnv d k x).wp P F hp K = CnvW k (evF F x) K := by
  unfold AOp.wp; simp only [AOp.sem]
  generalize evF F x = u
  cases u with
  | v y => cases y <;> first | exact ex_one | exact ex_f
  | _ => exact ex_f
theorem cnv_int {k k' n} : CnvW k (.v (.int k' n)) K = K (.v (.int k (k.wrap n))) [] := rfl
def MxW (max : Bool) (x y : AV) (K : AV → List (Nat × HObj) → Prop) : Prop := match x, y with
  | .v (.int k a), .v (.int _ b) => K (.v (.int k (bif max then (if b > a then b else a) else (if b < a then b else a)))) []
  | _, _ => False
theorem w_mx {d max x y} : (AOp.mx d max x y).wp P F hp K = MxW max (evF F x) (evF F y) K := by
  unfold AOp.wp; simp only [AOp.sem]
  generalize evF F x = u
  generalize evF F y = v
  cases u with
  | v a =>
    cases v with
    | v b => cases a <;> cases b <;> first | exact ex_one | exact ex_f
    | _ => cases a <;> exact ex_f
  | _ => cases v <;> exact ex_f
theorem mx_int {max k a k' b} : MxW max (.v (.int k a)) (.v (.int k' b)) K = K (.v (.int k (bif max then (if b > a then b else a) else (if b < a then b else a)))) [] := rfl
theorem mx_max {k a k' b} : MxW true (.v (.int k a)) (.v (.int k' b)) K = K (.v (.int k (max a b))) [] := by
  rw [mx_int, cond_true]
  have : (if b > a then b else a) = max a b := by by_cases h : b > a <;> simp [h] <;> omega
  rw [this]
theorem mx_min {k a k' b} : MxW false (.v (.int k a)) (.v (.int k' b)) K = K (.v (.int k (min a b))) [] := by
  rw [mx_int, cond_false]
  have : (if b < a then b else a) = min a b := by by_cases h : b < a <;> simp [h] <;> omega
  rw [this]
def NilcW (x : AV) (K : AV → List (Nat × HObj) → Prop) : Prop := match x with
  | .ptr cs o => K (.ptr cs o) []
  | .ref id o => K (.ref id o) []
  | .fn (.func f) as bs => K (.fn (.func f) as bs) []
  | _ => False
theorem w_nilc {d x} : (AOp.nilc d x).wp P F hp K = NilcW (evF F x) K := by
  unfold AOp.wp; simp only [AOp.sem]
  generalize evF F x = u
  cases u with
  | fn f as bs => cases f <;> first | exact ex_one | exact ex_f
  | ptr => exact ex_one
  | ref => exact ex_one
  | _ => exact ex_f
theorem nilc_ptr {cs o} : NilcW (.ptr cs o) K = K (.ptr cs o) [] := rfl
theorem nilc_ref {id o} : NilcW (.ref id o) K = K (.ref id o) [] := rfl
theorem nilc_fn {f as bs} : NilcW (.fn (.func f) as bs) K = K (.fn (.func f) as bs) [] := rfl
theorem w_mkf {d f as bs} : (AOp.mkf d f as bs).wp P F hp K = K (.fn f (as.map (evF F)) (bs.map (evF F))) [] := ex_one
def AppW (hp : List HObj) (sz bytes : Nat) (x y : AV) (K : AV → List (Nat × HObj) → Prop) : Prop := ∃ m ys, elems (hpf hp) sz y = some (m, ys) ∧ (ys.all AV.isPC) = true ∧ ∃ r ws, semApp (hpf hp) hp.length r ws sz bytes x m ys ∧ K r ws
theorem w_app {d sz bytes x y} : (AOp.app d sz bytes x y).wp P F hp K = AppW hp sz bytes (evF F x) (evF F y) K := by
  apply propext
  constructor
  · rintro ⟨r, ws, ⟨m, ys, h1, h2, h3⟩, k⟩; exact ⟨m, ys, h1, h2, r, ws, h3, k⟩
  · rintro ⟨m, ys, h1, h2, r, ws, h3, k⟩; exact ⟨r, ws, ⟨m, ys, h1, h2, h3⟩, k⟩
theorem app_sl {sz bytes n m f g} {cs ys : List AV} : AppW hp sz bytes (.sl f n cs) (.sl g m ys) K =
    ((f = true ∧ ys.length = m * sz ∧ (ys.all AV.isPC) = true ∧ cs.length = n * sz ∧ (n + m) * bytes ≤ 140737488355328 ∧ n + m ≤ 140737488355328 ∧ (n = 0 ∨ 0 < m)) ∧ K (.ms hp.length 0 (n + m) sz) [(hp.length, .cells (cs ++ ys))]) := by
  apply propext
  constructor
  · rintro ⟨m', ys', h1, h2, r, ws, h3, k⟩
    simp only [elems] at h1
    split at h1
    · rename_i hl; cases h1
      obtain ⟨a1, a2, a3, a4, a5, rfl, rfl⟩ := h3
      exact ⟨⟨a1, hl, h2, a2, a3, a4, a5⟩, k⟩
    · cases h1
  · rintro ⟨⟨a1, a2, a3, a4, a5, a6, a7⟩, k⟩
    exact ⟨m, ys, by simp [elems, a2], a3, _, _, ⟨a1, a4, a5, a6, a7, rfl, rfl⟩, k⟩
def AppR (o : Option HObj) (new sz bytes id off n sz' m : Nat) (ys : List AV) (K : AV → List (Nat × HObj) → Prop) : Prop := match o with
  | some (.cells cs) => (ys.length = m * sz ∧ (ys.all AV.isPC) = true ∧ sz' = sz ∧ off + n * sz ≤ cs.length ∧ (n + m) * bytes ≤ 140737488355328 ∧ n + m ≤ 140737488355328) ∧ K (.ms new 0 (n + m) sz) [(id, .gone), (new, .cells (view cs off (n * sz) ++ ys))]
  | _ => False
theorem appr_some {cs new sz bytes id off n sz' m ys} : AppR (some (.cells cs)) new sz bytes id off n sz' m ys K = ((ys.length = m * sz ∧ (ys.all AV.isPC) = true ∧ sz' = sz ∧ off + n * sz ≤ cs.length ∧ (n + m) * bytes ≤ 140737488355328 ∧ n + m ≤ 140737488355328) ∧ K (.ms new 0 (n + m) sz) [(id, .gone), (new, .cells (view cs off (n * sz) ++ ys))]) := rfl
theorem app_ms {sz bytes id off n sz' m g} {ys : List AV} : AppW hp sz bytes (.ms id off n sz') (.sl g m ys) K = AppR (nthH hp id) hp.length sz bytes id off n sz' m ys K := by
  apply propext
  rw [nthH_eq]
  constructor
  · rintro ⟨m', ys', h1, h2, r, ws, h3, k⟩
    simp only [elems] at h1
    split at h1
    · rename_i hl; cases h1
      simp only [semApp, hpf] at h3
      cases ho : hp[id]? with
      | none => rw [ho] at h3; exact h3.elim
      | some o =>
        rw [ho] at h3
        cases o with
        | cells cs =>
          obtain ⟨a1, a2, a3, a4, rfl, rfl⟩ := h3
          exact ⟨⟨hl, h2, a1, a2, a3, a4⟩, k⟩
        | _ => exact h3.elim
    · cases h1
  · intro h
    cases ho : hp[id]? with
    | none => rw [ho] at h; exact h.elim
    | some o =>
      rw [ho] at h
      cases o with
      | cells cs =>
        obtain ⟨⟨a1, a2, a3, a4, a5, a6⟩, k⟩ := h
        refine ⟨m, ys, by simp [elems, a1], a2, _, _, ?_, k⟩
        simp only [semApp, hpf, ho]
        exact ⟨a3, a4, a5, a6, trivial, trivial⟩
      | _ => exact h.elim
def MksW (hp : List HObj) (sz bytes : Nat) (zero : List AV) (x y : AV) (K : AV → List (Nat × HObj) → Prop) : Prop :=
  ∃ k : Nat, x = I k ∧ y = I k ∧ k * bytes ≤ 140737488355328 ∧ k ≤ 140737488355328 ∧ zero.length = sz ∧ K (.ms hp.length 0 k sz) [(hp.length, .cells (zrep k zero))]
theorem w_mks {d sz bytes z n c} : (AOp.mks d sz bytes z n c).wp P F hp K = MksW hp sz bytes z (evF F n) (evF F c) K := by
  apply propext
  constructor
  · rintro ⟨r, ws, ⟨k, h1, h2, h3, h4, h5, rfl, rfl⟩, hk⟩; exact ⟨k, h1, h2, h3, h4, h5, hk⟩
  · rintro ⟨k, h1, h2, h3, h4, h5, hk⟩; exact ⟨_, _, ⟨k, h1, h2, h3, h4, h5, rfl, rfl⟩, hk⟩


/-! ### The later operations -/
theorem xo_cap {a0 a1} : aops P E (.cap a0 a1 :: os) ⟨fr, hp⟩ KS = (AOp.cap a0 a1).wp P (get fr) hp (contA P E os (some a0) fr hp KS) := rfl
theorem xo_clr {a0 a1 a2} : aops P E (.clr a0 a1 a2 :: os) ⟨fr, hp⟩ KS = (AOp.clr a0 a1 a2).wp P (get fr) hp (contA P E os none fr hp KS) := rfl
theorem xo_appz {a0 a1 a2 a3 a4 a5} : aops P E (.appz a0 a1 a2 a3 a4 a5 :: os) ⟨fr, hp⟩ KS = (AOp.appz a0 a1 a2 a3 a4 a5).wp P (get fr) hp (contA P E os (some a0) fr hp KS) := rfl
theorem xo_slp {a0 a1 a2 a3 a4 a5 a6} : aops P E (.slp a0 a1 a2 a3 a4 a5 a6 :: os) ⟨fr, hp⟩ KS = (AOp.slp a0 a1 a2 a3 a4 a5 a6).wp P (get fr) hp (contA P E os (some a0) fr hp KS) := rfl
theorem xo_mkm {a0} : aops P E (.mkm a0 :: os) ⟨fr, hp⟩ KS = (AOp.mkm a0).wp P (get fr) hp (contA P E os (some a0) fr hp KS) := rfl
theorem xo_ins {a0 a1 a2 a3} : aops P E (.ins a0 a1 a2 a3 :: os) ⟨fr, hp⟩ KS = (AOp.ins a0 a1 a2 a3).wp P (get fr) hp (contA P E os none fr hp KS) := rfl
theorem xo_lku {a0 a1 a2 a3 a4 a5} : aops P E (.lku a0 a1 a2 a3 a4 a5 :: os) ⟨fr, hp⟩ KS = (AOp.lku a0 a1 a2 a3 a4 a5).wp P (get fr) hp (contA P E os (some a0) fr hp KS) := rfl
theorem xo_mpe {a0 a1 a2 a3 a4} : aops P E (.mpe a0 a1 a2 a3 a4 :: os) ⟨fr, hp⟩ KS = (AOp.mpe a0 a1 a2 a3 a4).wp P (get fr) hp (contA P E os (some a0) fr hp KS) := rfl
theorem xo_est {a0 a1 a2} : aops P E (.est a0 a1 a2 :: os) ⟨fr, hp⟩ KS = (AOp.est a0 a1 a2).wp P (get fr) hp (contA P E os none fr hp KS) := rfl
theorem xo_del {a0 a1 a2} : aops P E (.del a0 a1 a2 :: os) ⟨fr, hp⟩ KS = (AOp.del a0 a1 a2).wp P (get fr) hp (contA P E os none fr hp KS) := rfl
theorem xo_eqk {a0 a1 a2 a3 a4} : aops P E (.eqk a0 a1 a2 a3 a4 :: os) ⟨fr, hp⟩ KS = (AOp.eqk a0 a1 a2 a3 a4).wp P (get fr) hp (contA P E os (some a0) fr hp KS) := rfl
theorem dx_cap {a0 a1} : dops P (.cap a0 a1 :: os) ⟨fr, hp⟩ tr KD = (AOp.cap a0 a1).wp P (get fr) hp (contD P os (some a0) fr hp tr ((AOp.cap a0 a1).foot (get fr)) KD) := rfl
theorem dx_clr {a0 a1 a2} : dops P (.clr a0 a1 a2 :: os) ⟨fr, hp⟩ tr KD = (AOp.clr a0 a1 a2).wp P (get fr) hp (contD P os none fr hp tr ((AOp.clr a0 a1 a2).foot (get fr)) KD) := rfl
theorem dx_appz {a0 a1 a2 a3 a4 a5} : dops P (.appz a0 a1 a2 a3 a4 a5 :: os) ⟨fr, hp⟩ tr KD = (AOp.appz a0 a1 a2 a3 a4 a5).wp P (get fr) hp (contD P os (some a0) fr hp tr ((AOp.appz a0 a1 a2 a3 a4 a5).foot (get fr)) KD) := rfl
theorem dx_slp {a0 a1 a2 a3 a4 a5 a6} : dops P (.slp a0 a1 a2 a3 a4 a5 a6 :: os) ⟨fr, hp⟩ tr KD = (AOp.slp a0 a1 a2 a3 a4 a5 a6).wp P (get fr) hp (contD P os (some a0) fr hp tr ((AOp.slp a0 a1 a2 a3 a4 a5 a6).foot (get fr)) KD) := rfl
theorem dx_mkm {a0} : dops P (.mkm a0 :: os) ⟨fr, hp⟩ tr KD = (AOp.mkm a0).wp P (get fr) hp (contD P os (some a0) fr hp tr ((AOp.mkm a0).foot (get fr)) KD) := rfl
theorem dx_ins {a0 a1 a2 a3} : dops P (.ins a0 a1 a2 a3 :: os) ⟨fr, hp⟩ tr KD = (AOp.ins a0 a1 a2 a3).wp P (get fr) hp (contD P os none fr hp tr ((AOp.ins a0 a1 a2 a3).foot (get fr)) KD) := rfl
theorem dx_lku {a0 a1 a2 a3 a4 a5} : dops P (.lku a0 a1 a2 a3 a4 a5 :: os) ⟨fr, hp⟩ tr KD = (AOp.lku a0 a1 a2 a3 a4 a5).wp P (get fr) hp (contD P os (some a0) fr hp tr ((AOp.lku a0 a1 a2 a3 a4 a5).foot (get fr)) KD) := rfl
theorem dx_mpe {a0 a1 a2 a3 a4} : dops P (.mpe a0 a1 a2 a3 a4 :: os) ⟨fr, hp⟩ tr KD = (AOp.mpe a0 a1 a2 a3 a4).wp P (get fr) hp (contD P os (some a0) fr hp tr ((AOp.mpe a0 a1 a2 a3 a4).foot (get fr)) KD) := rfl
theorem dx_est {a0 a1 a2} : dops P (.est a0 a1 a2 :: os) ⟨fr, hp⟩ tr KD = (AOp.est a0 a1 a2).wp P (get fr) hp (contD P os none fr hp tr ((AOp.est a0 a1 a2).foot (get fr)) KD) := rfl
theorem dx_del {a0 a1 a2} : dops P (.del a0 a1 a2 :: os) ⟨fr, hp⟩ tr KD = (AOp.del a0 a1 a2).wp P (get fr) hp (contD P os none fr hp tr ((AOp.del a0 a1 a2).foot (get fr)) KD) := rfl
theorem dx_eqk {a0 a1 a2 a3 a4} : dops P (.eqk a0 a1 a2 a3 a4 :: os) ⟨fr, hp⟩ tr KD = (AOp.eqk a0 a1 a2 a3 a4).wp P (get fr) hp (contD P os (some a0) fr hp tr ((AOp.eqk a0 a1 a2 a3 a4).foot (get fr)) KD) := rfl
theorem foot_lku {a0 a1 a2 a3 a4 a5} {G : Nat → AV} : (AOp.lku a0 a1 a2 a3 a4 a5).foot G = (evF G a4).ids ++ (evF G a5).ids := by simp [AOp.foot, AOp.heapy, AOp.opds]
theorem foot_mpe {a0 a1 a2 a3 a4} {G : Nat → AV} : (AOp.mpe a0 a1 a2 a3 a4).foot G = (evF G a3).ids ++ (evF G a4).ids := by simp [AOp.foot, AOp.heapy, AOp.opds]
theorem foot_est {a0 a1 a2} {G : Nat → AV} : (AOp.est a0 a1 a2).foot G = (evF G a0).ids ++ ((evF G a1).ids ++ (evF G a2).ids) := by simp [AOp.foot, AOp.heapy, AOp.opds]
theorem foot_ins {a0 a1 a2 a3} {G : Nat → AV} : (AOp.ins a0 a1 a2 a3).foot G = (evF G a1).ids ++ ((evF G a2).ids ++ (evF G a3).ids) := by simp [AOp.foot, AOp.heapy, AOp.opds]
theorem foot_del {a0 a1 a2} {G : Nat → AV} : (AOp.del a0 a1 a2).foot G = (evF G a1).ids ++ (evF G a2).ids := by simp [AOp.foot, AOp.heapy, AOp.opds]
theorem foot_appz {a0 a1 a2 a3 a4 a5} {G : Nat → AV} : (AOp.appz a0 a1 a2 a3 a4 a5).foot G = (evF G a4).ids ++ (evF G a5).ids := by simp [AOp.foot, AOp.heapy, AOp.opds]
theorem foot_clr {a0 a1 a2} {G : Nat → AV} : (AOp.clr a0 a1 a2).foot G = (evF G a2).ids := by simp [AOp.foot, AOp.heapy, AOp.opds]
theorem foot_eqk {a0 a1 a2 a3 a4} {G : Nat → AV} : (AOp.eqk a0 a1 a2 a3 a4).foot G = [] := rfl
theorem foot_cap {a0 a1} {G : Nat → AV} : (AOp.cap a0 a1).foot G = [] := rfl
theorem foot_mkm {a0} {G : Nat → AV} : (AOp.mkm a0).foot G = [] := rfl

def EqkW (neg : Bool) (ks : Bool × List Leaf) (x y : AV) (K : AV → List (Nat × HObj) → Prop) : Prop := ∃ a b z, x.val = some a ∧ y.val = some b ∧ eqK ks a b = some z ∧ K (B (neg != z)) []
theorem w_eqk {d neg ks x y} : (AOp.eqk d neg ks x y).wp P F hp K = EqkW neg ks (evF F x) (evF F y) K := by
  apply propext
  constructor
  · rintro ⟨r, ws, ⟨a, b, z, h1, h2, h3, rfl, rfl⟩, k⟩; exact ⟨a, b, z, h1, h2, h3, k⟩
  · rintro ⟨a, b, z, h1, h2, h3, k⟩; exact ⟨_, _, ⟨a, b, z, h1, h2, h3, rfl, rfl⟩, k⟩
theorem eqk_of {neg : Bool} {ks : Bool × List Leaf} {x y : AV} {a b : Value} {z : Bool} (hx : x.val = some a) (hy : y.val = some b) (hz : eqK ks a b = some z) : EqkW neg ks x y K = K (B (neg != z)) [] := by
  apply propext
  constructor
  · rintro ⟨a', b', z', e1, e2, e3, k⟩
    rw [hx] at e1; rw [hy] at e2
    cases e1; cases e2
    rw [hz] at e3; cases e3
    exact k
  · exact fun k => ⟨a, b, z, hx, hy, hz, k⟩
theorem eqk_pair {neg : Bool} {a b c d : Int} : EqkW neg (true, [.int, .int]) (.agg [I a, I b]) (.agg [I c, I d]) K = K (B (neg != decide ((a, b) = (c, d)))) [] := by
  refine eqk_of (a := .agg #[.int .i64 a, .int .i64 b]) (b := .agg #[.int .i64 c, .int .i64 d]) rfl rfl ?_
  simp only [eqK, eqLeaves, eqLeaf, if_true]
  have e1 : ∀ x y : Int, (x == y) = decide (x = y) := fun x y => rfl
  rw [e1, e1]
  by_cases h1 : a = c <;> by_cases h2 : b = d <;> simp [h1, h2]

theorem w_cap {d x} : (AOp.cap d x).wp P F hp K = (match evF F x with | .sl full n _ => full = true ∧ K (I n) [] | .mc _ _ _ c _ => K (I c) [] | _ => False) := by
  unfold AOp.wp; simp only [AOp.sem]
  generalize evF F x = u
  cases u <;> first
    | exact ex_one
    | exact ex_f
    | (apply propext; constructor
       · rintro ⟨r, ws, ⟨h1, rfl, rfl⟩, k⟩; exact ⟨h1, k⟩
       · rintro ⟨h1, k⟩; exact ⟨_, _, ⟨h1, rfl, rfl⟩, k⟩)

/-! ### Code -/
variable {Q : Exit → St → Prop} {x y : AC}
def CondB (P : Program) (E : HE) (t : Bool) (x y : AC) (st : St) (Q : Exit → St → Prop) : Prop := (t = true → AWP P E x st Q) ∧ (t = false → AWP P E y st Q)
def CondX (P : Program) (E : HE) (c : AV) (x y : AC) (st : St) (Q : Exit → St → Prop) : Prop := match c with
  | .v (.bool t) => CondB P E t x y st Q
  | _ => False
theorem x_cond {c} : AWP P E (.cond c x y) ⟨fr, hp⟩ Q = CondX P E (evF (get fr) c) x y ⟨fr, hp⟩ Q := by
  simp only [AWP, CondX]
  generalize evF (get fr) c = u
  cases u with
  | v y => cases y <;> rfl
  | _ => rfl
theorem c_bool {t st} : CondX P E (B t) x y st Q = CondB P E t x y st Q := rfl
theorem c_true {st} : CondB P E true x y st Q = AWP P E x st Q := by simp [CondB]
theorem c_false {st} : CondB P E false x y st Q = AWP P E y st Q := by simp [CondB]
theorem c_split {t : Bool} {st : St} (h1 : t = true → AWP P E x st Q) (h2 : t = false → AWP P E y st Q) : CondB P E t x y st Q := ⟨h1, h2⟩
theorem x_skip : AWP P E .skip ⟨fr, hp⟩ Q = Q .normal ⟨fr, hp⟩ := rfl
theorem x_rgn {gs ks} : AWP P E (.rgn gs ks) ⟨fr, hp⟩ Q = agrps P E gs ⟨fr, hp⟩ fun st => Q .normal (st.keep ks) := rfl
theorem x_drw {gs un ks} : AWP P E (.drw gs un ks) ⟨fr, hp⟩ Q = dgrps P gs ⟨fr, hp⟩ [] fun st tr => compat tr un = true ∧ Q .normal (st.keep ks) := rfl
theorem x_seq : AWP P E (.seq x y) ⟨fr, hp⟩ Q = AWP P E x ⟨fr, hp⟩ (Exit.th (fun st => AWP P E y st Q) Q) := rfl
theorem x_block {id} : AWP P E (.block id x) ⟨fr, hp⟩ Q = AWP P E x ⟨fr, hp⟩ (Exit.blk id Q) := rfl
theorem x_exit {id} : AWP P E (.exit id) ⟨fr, hp⟩ Q = Q (.exit id) ⟨fr, hp⟩ := rfl
theorem x_ret : AWP P E .ret ⟨fr, hp⟩ Q = Q .ret ⟨fr, hp⟩ := rfl
theorem x_label {l} : AWP P E (.label l) ⟨fr, hp⟩ Q = Q .normal ⟨fr, hp⟩ := rfl
def cmp2 : Option (List Nat × List Nat) → Option (List Nat × List Nat) → Bool
  | some (ri, wi), some (rj, wj) => disj wi rj && disj wi wj && disj wj ri
  | _, _ => false
def nthT : Tr → Nat → Option (List Nat × List Nat)
  | [], _ => none
  | a :: l, n => if n = 0 then some a else nthT l (n - 1)
theorem nthT_eq : ∀ (l : Tr) (n : Nat), nthT l n = l[n]?
  | [], n => by simp [nthT]
  | a :: l, 0 => by simp [nthT]
  | a :: l, n + 1 => by simp [nthT, nthT_eq l n]
theorem nthT_cons {a : List Nat × List Nat} {l : Tr} {n} : nthT (a :: l) n = if n = 0 then some a else nthT l (n - 1) := rfl
theorem compat_cons {i j un} : compat tr ((i, j) :: un) = (cmp2 (nthT tr i) (nthT tr j) && compat tr un) := by
  simp only [compat, nthT_eq]
  generalize tr[i]? = a
  generalize tr[j]? = b
  cases a <;> cases b <;> rfl
theorem compat_nil : compat tr [] = true := rfl
theorem cmp2_some {ri wi rj wj} : cmp2 (some (ri, wi)) (some (rj, wj)) = (disj wi rj && disj wi wj && disj wj ri) := rfl
theorem disj_nil {b : List Nat} : disj [] b = true := rfl
theorem disj_cons {x : Nat} {a b : List Nat} : disj (x :: a) b = (!b.contains x && disj a b) := rfl
def keepF (fr : List (Nat × AV)) (ks : List Nat) : List (Nat × AV) := ks.map fun t => (t, get fr t)
theorem x_keep {ks} : St.keep ⟨fr, hp⟩ ks = ⟨keepF fr ks, hp⟩ := rfl
theorem keep_cons {k ks} : keepF fr (k :: ks) = (k, get fr k) :: keepF fr ks := rfl
theorem keep_nil : keepF fr [] = [] := rfl
theorem th_n {st : St} : Exit.th KS Q .normal st = KS st := rfl
theorem th_e {st : St} {id} : Exit.th KS Q (.exit id) st = Q (.exit id) st := rfl
theorem th_r {st : St} : Exit.th KS Q .ret st = Q .ret st := rfl
theorem blk_n {st : St} {id} : Exit.blk id Q .normal st = Q .normal st := rfl
theorem blk_r {st : St} {id} : Exit.blk id Q .ret st = Q .ret st := rfl
theorem blk_e {st : St} {id id'} : Exit.blk id Q (.exit id') st = if id' = id then Q .normal st else Q (.exit id') st := rfl
theorem g_nil : agrps P E [] ⟨fr, hp⟩ KS = KS ⟨fr, hp⟩ := rfl
theorem g_none {gs} : agrps P E (⟨none, os⟩ :: gs) ⟨fr, hp⟩ KS = aops P E os ⟨fr, hp⟩ fun st => agrps P E gs st KS := rfl
def GdB (P : Program) (E : HE) (c b : Bool) (os : List AOp) (gs : List Grp) (st : St) (K : St → Prop) : Prop := (c = b → aops P E os st fun st => agrps P E gs st K) ∧ (c ≠ b → agrps P E gs (undefs os st) K)
def GdX (P : Program) (E : HE) (x : AV) (b : Bool) (os : List AOp) (gs : List Grp) (st : St) (K : St → Prop) : Prop := match x with
  | .v (.bool c) => GdB P E c b os gs st K
  | .v (.tuple _) => agrps P E gs (undefs os st) K
  | _ => False
theorem g_some {j b gs} : agrps P E (⟨some (j, b), os⟩ :: gs) ⟨fr, hp⟩ KS = GdX P E (get fr j) b os gs ⟨fr, hp⟩ KS := by
  simp only [agrps, GdX]
  generalize get fr j = u
  cases u with
  | v y => cases y <;> rfl
  | _ => rfl
theorem gd_bool {c b gs st} : GdX P E (B c) b os gs st KS = GdB P E c b os gs st KS := rfl
theorem gd_tuple {c b gs st} : GdX P E (.v (.tuple c)) b os gs st KS = agrps P E gs (undefs os st) KS := rfl
theorem gd_tt {gs st} : GdB P E true true os gs st KS = aops P E os st fun st => agrps P E gs st KS := by simp [GdB]
theorem gd_ff {gs st} : GdB P E false false os gs st KS = aops P E os st fun st => agrps P E gs st KS := by simp [GdB]
theorem gd_tf {gs st} : GdB P E true false os gs st KS = agrps P E gs (undefs os st) KS := by simp [GdB]
theorem gd_ft {gs st} : GdB P E false true os gs st KS = agrps P E gs (undefs os st) KS := by simp [GdB]
theorem gd_split {c b gs} {st : St} (h1 : c = true → GdB P E true b os gs st KS) (h2 : c = false → GdB P E false b os gs st KS) : GdB P E c b os gs st KS := by
  cases c
  · exact h2 rfl
  · exact h1 rfl
def DdB (P : Program) (c b : Bool) (os : List AOp) (gs : List Grp) (st : St) (tr : Tr) (K : St → Tr → Prop) : Prop :=
  (c = b → dops P os st tr fun st tr => dgrps P gs st tr K) ∧ (c ≠ b → dgrps P gs (undefs os st) (tr ++ os.map fun _ => ([], [])) K)
def DdX (P : Program) (x : AV) (b : Bool) (os : List AOp) (gs : List Grp) (st : St) (tr : Tr) (K : St → Tr → Prop) : Prop := match x with
  | .v (.bool c) => DdB P c b os gs st tr K
  | .v (.tuple _) => dgrps P gs (undefs os st) (tr ++ os.map fun _ => ([], [])) K
  | _ => False
theorem d_nil : dgrps P [] ⟨fr, hp⟩ tr KD = KD ⟨fr, hp⟩ tr := rfl
theorem d_none {gs} : dgrps P (⟨none, os⟩ :: gs) ⟨fr, hp⟩ tr KD = dops P os ⟨fr, hp⟩ tr fun st tr => dgrps P gs st tr KD := rfl
theorem d_some {j b gs} : dgrps P (⟨some (j, b), os⟩ :: gs) ⟨fr, hp⟩ tr KD = DdX P (get fr j) b os gs ⟨fr, hp⟩ tr KD := by
  simp only [dgrps, DdX]
  generalize get fr j = u
  cases u with
  | v y => cases y <;> rfl
  | _ => rfl
theorem dd_bool {c b gs st} : DdX P (B c) b os gs st tr KD = DdB P c b os gs st tr KD := rfl
theorem dd_tuple {c b gs st} : DdX P (.v (.tuple c)) b os gs st tr KD = dgrps P gs (undefs os st) (tr ++ os.map fun _ => ([], [])) KD := rfl
theorem dd_tt {gs st} : DdB P true true os gs st tr KD = dops P os st tr fun st tr => dgrps P gs st tr KD := by simp [DdB]
theorem dd_ff {gs st} : DdB P false false os gs st tr KD = dops P os st tr fun st tr => dgrps P gs st tr KD := by simp [DdB]
theorem dd_tf {gs st} : DdB P true false os gs st tr KD = dgrps P gs (undefs os st) (tr ++ os.map fun _ => ([], [])) KD := by simp [DdB]
theorem dd_ft {gs st} : DdB P false true os gs st tr KD = dgrps P gs (undefs os st) (tr ++ os.map fun _ => ([], [])) KD := by simp [DdB]
theorem dd_split {c b gs} {st : St} (h1 : c = true → DdB P true b os gs st tr KD) (h2 : c = false → DdB P false b os gs st tr KD) : DdB P c b os gs st tr KD := by
  cases c
  · exact h2 rfl
  · exact h1 rfl
def undF : List AOp → List (Nat × AV) → List (Nat × AV)
  | [], fr => fr
  | o :: os, fr => undF os (frPut fr o.dst (.v (.tuple #[])))
theorem x_undefs : ∀ {os : List AOp} {fr : List (Nat × AV)}, undefs os ⟨fr, hp⟩ = ⟨undF os fr, hp⟩
  | [], fr => rfl
  | o :: os, fr => by
    rw [undefs_cons]
    have : undefs [o] ⟨fr, hp⟩ = ⟨frPut fr o.dst (.v (.tuple #[])), hp⟩ := by rw [undefs_step]; rfl
    rw [this, x_undefs]; rfl
theorem undF_nil : undF [] fr = fr := rfl
theorem undF_cons {o : AOp} : undF (o :: os) fr = undF os (frPut fr o.dst (.v (.tuple #[]))) := rfl

/-! ### Calls -/
theorem callW_pure {f : FuncId} {xs ys : List AV} {ids : List Nat} {r : AV} {KC : AV → List HObj → Prop} (h1 : purifyAll (hpf hp) xs = some (ys, ids)) (h2 : PureOK P f ys r) (h3 : KC r (writeL hp (bif r.scalar then [] else gones ids))) : CallW P f xs hp KC := by
  intro ro n w g vs hok hvs hrep
  refine (call_pure hok h1 hvs hrep h2).mono ?_
  rintro e w' ⟨v, rfl, g', q1, q2, q3⟩
  have hlen : ∀ p ∈ (bif r.scalar then [] else gones ids), p.1 ≤ hp.length := fun p hpm => by
    cases hs : r.scalar with
    | true => rw [hs] at hpm; simp at hpm
    | false =>
      rw [hs] at hpm
      simp only [cond_false, gones, List.mem_map] at hpm
      obtain ⟨i, hi, rfl⟩ := hpm
      exact Nat.le_of_lt (purifyAll_lt h1 i hi)
  rw [← hpf_write hlen] at q2 q3
  exact ⟨v, r, _, g', rfl, h3, q1, q2, q3⟩
theorem pureW_of {f : FuncId} {xs ys : List AV} {ids : List Nat} {r : AV} (h1 : purifyAll (hpf hp) xs = some (ys, ids)) (h2 : PureOK P f ys r) (h3 : K r (bif r.scalar then [] else gones ids)) : PureW P f xs hp K := ⟨ys, ids, h1, .inl ⟨r, h2, h3⟩⟩
theorem pureW_made {f : FuncId} {xs ys : List AV} {ids : List Nat} {m sz : Nat} {cs : List AV} (h1 : purifyAll (hpf hp) xs = some (ys, ids)) (h2 : MadeOK P f ys m sz cs) (h3 : K (.ms hp.length 0 m sz) (gones ids ++ [(hp.length, .cells cs)])) : PureW P f xs hp K := ⟨ys, ids, h1, .inr ⟨m, sz, cs, h2, h3⟩⟩
theorem callW_made {f : FuncId} {xs ys : List AV} {ids : List Nat} {m sz : Nat} {cs : List AV} {KC : AV → List HObj → Prop} (h1 : purifyAll (hpf hp) xs = some (ys, ids)) (h2 : MadeOK P f ys m sz cs) (h3 : KC (.ms hp.length 0 m sz) (writeL hp (gones ids ++ [(hp.length, .cells cs)]))) : CallW P f xs hp KC := by
  intro ro n w g vs hok hvs hrep
  have hnew : hpf hp hp.length = none := by simp [hpf]
  refine (call_made hok hnew h1 hvs hrep h2).mono ?_
  rintro e w' ⟨v, rfl, g', q1, q2, q3⟩
  have hlen : ∀ p ∈ gones ids ++ [(hp.length, HObj.cells cs)], p.1 ≤ hp.length := fun p hpm => by
    rw [List.mem_append] at hpm
    rcases hpm with hpm | hpm
    · simp only [gones, List.mem_map] at hpm
      obtain ⟨i, hi, rfl⟩ := hpm
      exact Nat.le_of_lt (purifyAll_lt h1 i hi)
    · simp at hpm; subst hpm; exact Nat.le_refl _
  rw [← hpf_write hlen] at q2 q3
  exact ⟨v, _, _, g', rfl, h3, q1, q2, q3⟩

/-- A function that makes a list. -/
theorem made_of {f : FuncId} {xs : List AV} {m sz : Nat} {cs : List AV} (hpc : (cs.all AV.isPC) = true) (h : CallW P f xs [] fun x hp => ∃ id, x = .ms id 0 m sz ∧ hpf hp id = some (.cells cs)) : MadeOK P f xs m sz cs := by
  refine ⟨hpc, ?_⟩
  intro ro n w g vs hok hvs hrep
  have e0 : hpf [] = fun _ => none := by funext i; simp [hpf]
  refine (h ro n w g vs (by rw [e0]; exact hok) hvs (fun i hi => (hrep i hi).of)).mono ?_
  rintro e w' ⟨v, x, hp', g', rfl, ⟨id, rfl, hid⟩, hx, hok', hu⟩
  rw [e0] at hu
  obtain ⟨l, hl, hrl⟩ := hok'.rep id _ hid
  have hpure : ∀ i (hi : i < cs.length) x, Rep w' g' false cs[i] x → Rep w' { S := g'.S, ρ := fun j => if j = 0 then some l else none } false cs[i] x := fun i hi x hr => (((pure_rep (pc_pure (all_get hpc i hi)) hr)).pure rfl _).of
  have hrl' : HRep w' { S := g'.S, ρ := fun j => if j = 0 then some l else none } (.cells cs) l := by
    cases l with
    | virg => exact hrl
    | base L => exact hrl
    | blk c d =>
      obtain ⟨arr, ty, fz, a1, a2, a3, a4, a5⟩ := hrl
      exact ⟨arr, ty, fz, a1, a2, a3, a4, fun i hi => by obtain ⟨x, h1, h2⟩ := a5 i hi; exact ⟨x, h1, hpure i hi x h2⟩⟩
  refine ⟨v, { S := g'.S, ρ := fun j => if j = 0 then some l else none }, rfl, ?_, ?_, ?_⟩
  · cases hx with
    | ms _ _ _ _ c d cap arr ty fz h1 h2 h3 h4 => rw [hl] at h1; cases h1; exact .ms _ _ _ _ c d cap arr ty fz (by simp) h2 h3 h4
    | msz _ _ _ a l' h1 => rw [hl] at h1; cases h1; exact .msz _ _ _ a l (by simp)
  · refine ⟨fun i hi => ?_, fun i o ho => ?_, fun i i' o o' c d d' ho ho' hl1 hl2 hr1 hr2 => ?_, hok'.ex⟩
    · by_cases e : i = 0
      · subst e; simp [made] at hi
      · simp [e]
    · by_cases e : i = 0
      · subst e; simp [made] at ho; subst ho; exact ⟨l, by simp, hrl'⟩
      · simp [made, e] at ho
    · by_cases e : i = 0
      · by_cases e' : i' = 0
        · rw [e, e']
        · simp [e'] at hr2
      · simp [e] at hr1
  · refine ⟨⟨hu.tr.S, hu.tr.cell, fun i l' hl' => (by rw [hok.dom i rfl] at hl'; cases hl'), hu.tr.shp, hu.tr.os, hu.tr.tape, hu.tr.output, hu.tr.size⟩, ?_, hu.S, hu.keep⟩
    rintro c ⟨i, o, d, ho, hlv, hr1⟩
    by_cases e : i = 0
    · subst e
      simp at hr1; subst hr1
      rcases hu.live c ⟨id, _, d, hid, rfl, hl⟩ with ⟨_, _, _, h, _⟩ | h
      · cases h
      · exact .inr h
    · simp [e] at hr1

theorem ret_n {ts : List Nat} {KC : AV → List HObj → Prop} : RetQ ts KC .normal ⟨fr, hp⟩ = KC (resAV ts fr) hp := rfl
theorem ret_r {ts : List Nat} {KC : AV → List HObj → Prop} : RetQ ts KC .ret ⟨fr, hp⟩ = KC (resAV ts fr) hp := rfl

theorem walk {f : FuncId} {fn : Func} {ac : AC} {ts : List Nat} {xs : List AV} {KC : AV → List HObj → Prop} (hf : P.funcs[f]? = some fn) (hc : formOf P fn ts = some ac) (hr : resTmps fn.results.toList = some ts)
    (hl : xs.length ≤ fn.ntmps) (h : AWP P (E1 P) ac ⟨argFr 0 xs, hp⟩ (RetQ ts KC)) : CallW P f xs hp KC := callW_form hf hc hr hl h

/-- What a round of a loop hands on. -/
def Next {α : Type} (I : α → St) (C : α → Prop) (μ : α → Nat) (a : α) (st : St) : Prop := ∃ a', C a' ∧ μ a' < μ a ∧ St.le st (I a')

theorem St.le.rfl' (st : St) : St.le st st := fun N a w g h => ⟨g, h, .refl _ _ _⟩

theorem loop_of {α : Type} (I : α → St) (C : α → Prop) (μ : α → Nat) (a0 : α) {st : St} (h0 : C a0) (hs : St.le st (I a0)) (round : ∀ a, C a → AWP P E x (I a) (Exit.th (Next I C μ a) Q)) : AWP P E (.loop x) st Q :=
  ⟨α, I, C, μ, a0, h0, hs, round⟩

theorem loop_eq {α : Type} (I : α → St) (C : α → Prop) (μ : α → Nat) (a0 : α) {st : St} (h0 : C a0) (hs : st = I a0) (round : ∀ a, C a → AWP P E x (I a) (Exit.th (Next I C μ a) Q)) : AWP P E (.loop x) st Q :=
  loop_of I C μ a0 h0 (hs ▸ St.le.rfl' st) round

theorem next_eq {α : Type} {I : α → St} {C : α → Prop} {μ : α → Nat} {a : α} {st : St} (a' : α) (h : C a') (hm : μ a' < μ a) (hs : st = I a') : Next I C μ a st := ⟨a', h, hm, hs ▸ St.le.rfl' st⟩

theorem cells_ls {l : List Int} {j sz} (h : j < l.length) : CellsW (l.map fun n => I n) j sz false K = K (I (l.getD j 0)) [] := by
  simp [CellsW, h]

theorem out_v {r : AV} {x : Value} : Out r (.v x) hp = (r = .v x) := by
  apply propext
  constructor
  · rintro ⟨is, h⟩; simp [purify, purify1] at h; exact h.1.symm
  · rintro rfl; exact ⟨[], rfl⟩
theorem out_of {r x : AV} {is : List Nat} (h : purify (hpf hp) x = some (r, is)) : Out r x hp := ⟨is, h⟩

end

attribute [simp] xo_mv xo_pick xo_bin xo_bing xo_un xo_ext xo_ld xo_st xo_box xo_al xo_bsl xo_bld xo_fa xo_fld xo_ia xo_iaa xo_idx xo_ids xo_len xo_lns xo_lnm xo_slc xo_sls xo_app xo_cpy xo_mks xo_cnv xo_mx xo_nilc xo_mkf
attribute [simp] dx_mv dx_pick dx_bin dx_bing dx_un dx_ext dx_ld dx_st dx_box dx_al dx_bsl dx_bld dx_fa dx_fld dx_ia dx_iaa dx_idx dx_ids dx_len dx_lns dx_lnm dx_slc dx_sls dx_app dx_cpy dx_mks dx_cnv dx_mx dx_nilc dx_mkf dx_call
attribute [simp low] cells_agg cells_one
attribute [simp] app_sl app_ms appr_some slc_hi slc_lo slc_lohi Option.map_none Option.map_some place_nil place_cons placeF_nil placeF_cons nthA_cons one_some undF_nil undF_cons nthH_end set_end nthH_cons ldr_some str_some w_bing ret_n ret_r out_v
attribute [simp] x_contA x_contC x_contD x_nil x_dnil x_call x_callv cv_fn x_wcall ia_mc len_mc w_mv w_pick w_pickB w_bin b_add b_sub b_mul b_quo b_rem b_and b_or b_xor b_shl b_shr b_eql b_neq b_lss b_leq b_gtr b_geq w_un u_neg u_not w_ext e_tup w_ld ld_ptr ld_ref w_st st_ref w_box w_al w_bsl w_bld w_fa fa_ptr fa_ref w_fld fld_agg w_ia ia_sl ia_ms w_iaa iaa_ptr iaa_ref w_idx idx_agg w_len len_sl len_ms w_slc w_cnv cnv_int w_mx mx_max mx_min w_nilc nilc_ptr nilc_ref nilc_fn w_mkf w_app w_mks x_cond c_bool c_true c_false x_skip x_rgn x_drw x_seq x_block x_exit x_ret x_label x_keep th_n th_e th_r blk_n blk_r blk_e g_nil g_none g_some gd_bool gd_tuple gd_tt gd_ff gd_tf gd_ft d_nil d_none d_some dd_bool dd_tuple dd_tt dd_ff dd_tf dd_ft x_undefs
attribute [simp] keep_cons keep_nil get_cons get_nil ev_t ev_k frPut writeL setL AOp.dst ids_v ids_sl ids_ptr ids_ref ids_ms ids_mp ids_any ids_fn ids_agg ids_tup ids1_v ids1_sl ids1_ptr ids1_ref ids1_ms ids1_mp ids1_any ids1_fn nthT_cons compat_cons compat_nil cmp2_some disj_nil disj_cons argFr resAV AV.cells AV.isCell AV.isPure AV.isPC view splice gones_nil gones_cons AV.scalar

attribute [simp] xo_cap dx_cap xo_clr dx_clr xo_appz dx_appz xo_slp dx_slp xo_mkm dx_mkm xo_ins dx_ins xo_lku dx_lku xo_mpe dx_mpe xo_est dx_est xo_del dx_del xo_eqk dx_eqk foot_lku foot_mpe foot_est foot_ins foot_del foot_appz foot_clr foot_eqk foot_cap foot_mkm w_eqk

end Go.AM

/- ARGUMENTS READ AS DATA: what came in, as abstract values; a law as a row. Own work. -/
set_option linter.unusedSimpArgs false
set_option linter.unusedVariables false
namespace Go.AM
open Go.RowKit

/-- All cells that are there are never written. -/
def gAll (w : World) : G := ⟨fun b o => ∃ v, w.cell? ⟨b, o, none⟩ = some v, fun _ => none⟩

theorem heapOK_all (w : World) : HeapOK (fun _ => none) (gAll w) w :=
  ⟨fun _ _ => rfl, fun _ _ h => (by cases h), fun _ _ _ _ _ _ _ h => (by cases h), fun _ _ h => h⟩

/-- What cells of a type are, read. -/
def Rd (P : Program) (w : World) (t : TypeId) (Q : List AV → Prop) : Prop :=
  ∀ (H : Type) (enc : TypeId × Value → H) (fuel : Nat) (cs : List Value) (x : DataW H × List MemPlace), DataW.trod enc P w 0 (fun _ => true) true fuel t cs = some x →
    ∃ as : List AV, as.length = cs.length ∧ cs.length = P.cellsOf t ∧ Q as ∧ ∀ i (h : i < as.length), Rep w (gAll w) true as[i] (cs.getD i undef)

section
variable {P : Program} {w : World} {t e : TypeId}

theorem rd_mono {Q Q' : List AV → Prop} (h : Rd P w t Q) (hq : ∀ as, Q as → Q' as) : Rd P w t Q' := fun H enc fuel cs x hx => by
  obtain ⟨as, h1, h2, h3, h4⟩ := h H enc fuel cs x hx
  exact ⟨as, h1, h2, hq _ h3, h4⟩

theorem rd_int {k : IntKind} (ht : P.underlying t = some (.int k)) (hc : P.cellsOf t = 1) : Rd P w t fun as => ∃ n, as = [.v (.int k n)] ∧ (Lit.int k n).wf = true := by
  intro H enc fuel cs x hx
  cases fuel with
  | zero => simp [DataW.trod] at hx
  | succ m =>
    unfold DataW.trod at hx
    rw [ht] at hx
    split at hx <;> simp_all
    obtain ⟨⟨rfl, hw⟩, _⟩ := hx
    exact ⟨[.v (.int _ _)], rfl, ⟨_, rfl, hw⟩, fun i hi => by
      have : i = 0 := by simpa using hi
      subst this; exact .v _ _⟩

theorem rd_str (ht : P.underlying t = some .string) (hc : P.cellsOf t = 1) : Rd P w t fun as => ∃ s : ByteArray, as = [.v (.string s)] ∧ s.size ≤ maxLen := by
  intro H enc fuel cs x hx
  cases fuel with
  | zero => simp [DataW.trod] at hx
  | succ m =>
    unfold DataW.trod at hx
    rw [ht] at hx
    split at hx <;> simp_all
    obtain ⟨hw, _⟩ := hx
    exact ⟨[.v (.string _)], rfl, ⟨_, rfl, hw⟩, fun i hi => by
      have : i = 0 := by simpa using hi
      subst this; exact .v _ _⟩

theorem flatten_get {α : Type} {sz : Nat} : ∀ {els : List (List α)}, (∀ x ∈ els, x.length = sz) → ∀ (i : Nat), els.flatten[i]? = (els[i / sz]?).bind fun x => x[i % sz]?
  | [], _, i => by simp
  | x :: els, h, i => by
    have hx : x.length = sz := h x (by simp)
    rw [List.flatten_cons]
    by_cases hi : i < sz
    · rw [List.getElem?_append_left (by omega), Nat.div_eq_of_lt hi, Nat.mod_eq_of_lt hi]; simp
    · by_cases hz : sz = 0
      · subst hz
        have : ∀ (l : List (List α)), (∀ x ∈ l, x.length = 0) → l.flatten = [] := fun l hl => by
          rw [List.flatten_eq_nil_iff]; intro y hy; exact List.eq_nil_of_length_eq_zero (hl y hy)
        have e := this (x :: els) h
        rw [List.flatten_cons] at e
        rw [e]; simp; omega
      · rw [List.getElem?_append_right (by omega), hx, flatten_get (fun y hy => h y (by simp [hy]))]
        have e1 : i / sz = (i - sz) / sz + 1 := by
          have := Nat.div_eq_sub_div (b := sz) (a := i) (by omega) (by omega)
          exact this
        have e2 : i % sz = (i - sz) % sz := by rw [Nat.mod_eq_sub_mod (by omega)]
        rw [e1, e2]; simp

theorem flatten_len {α : Type} {sz : Nat} : ∀ {els : List (List α)}, (∀ x ∈ els, x.length = sz) → els.flatten.length = els.length * sz
  | [], _ => by simp
  | x :: els, h => by
    rw [List.flatten_cons, List.length_append, flatten_len (fun y hy => h y (by simp [hy])), h x (by simp), List.length_cons, Nat.succ_mul]; omega

/-- A choice for each of the first numbers, as a list. -/
theorem choose_list {α : Type} {p : Nat → α → Prop} : ∀ {n : Nat}, (∀ i, i < n → ∃ a, p i a) → ∃ l : List α, l.length = n ∧ ∀ i (h : i < l.length), p i l[i]
  | 0, _ => ⟨[], rfl, fun i h => by simp at h⟩
  | n + 1, h => by
    obtain ⟨l, h1, h2⟩ := choose_list (fun i hi => h i (Nat.lt_succ_of_lt hi))
    obtain ⟨a, ha⟩ := h n (Nat.lt_succ_self n)
    refine ⟨l ++ [a], by simp [h1], fun i hi => ?_⟩
    by_cases e : i < l.length
    · rw [List.getElem_append_left e]; exact h2 i e
    · have : i = n := by simp at hi; omega
      subst this
      rw [List.getElem_append_right (by omega)]
      simpa [h1] using ha

theorem addr_at (a : Addr) (h : a.spot = none) (n : Nat) : a.add n = ⟨a.block, a.off + n, none⟩ := by
  unfold Addr.add
  split
  · rename_i e; subst e; cases a; simp at h; subst h; rfl
  · rfl

theorem rd_slice {sz : Nat} {Q : List AV → Prop} (ht : P.underlying t = some (.slice e)) (hc : P.cellsOf t = 1) (hz : P.cellsOf e = sz) (h0 : 0 < sz) (he : Rd P w e Q) :
    Rd P w t fun as => ∃ els : List (List AV), (∀ x ∈ els, x.length = sz ∧ Q x) ∧ as = [.sl false els.length els.flatten] ∧ els.length ≤ maxLen := by
  intro H enc fuel cs x hx
  rcases Go.Deep.open_slice ht hx with ⟨rfl, rfl⟩ | ⟨a, len, cap, m, n, D, Pl, rfl, hb, hl, hm, hmm, rfl, hel⟩
  · refine ⟨[.sl false 0 []], rfl, by simp [hc], ⟨[], fun x h => by simp at h, rfl, Nat.zero_le _⟩, fun i hi => ?_⟩
    have : i = 0 := by simpa using hi
    subst this
    exact .sl _ _ _ _ _ _ (fun _ => undef) (Nat.le_refl _) (fun h => by cases h) (fun i hi => by simp at hi) (fun i hi => by simp at hi)
  · simp only [if_true] at hmm
    subst hmm
    rw [hz] at hel
    have hel' : ∀ i, i < len → ∃ q : List AV × List Value, q.1.length = sz ∧ Q q.1 ∧ w.cells? 0 (a.add (i * sz)) sz = some q.2 ∧ q.2.length = sz ∧ ∀ j (h : j < q.1.length), Rep w (gAll w) true q.1[j] (q.2.getD j undef) := fun i hi => by
      obtain ⟨cs', h1, h2⟩ := hel i (by omega)
      obtain ⟨as, k1, k2, k3, k4⟩ := he H enc _ _ _ h2
      exact ⟨(as, cs'), by simp only; omega, k3, h1, by simp only; omega, k4⟩
    obtain ⟨qs, q1, q2⟩ := choose_list hel'
    have hlen : ∀ x ∈ qs.map (·.1), x.length = sz := fun x hx => by
      obtain ⟨q, hq, rfl⟩ := List.mem_map.1 hx
      obtain ⟨i, hi, rfl⟩ := List.getElem_of_mem hq
      exact (q2 i hi).1
    refine ⟨[.sl false len (qs.map (·.1)).flatten], rfl, by simp [hc], ⟨qs.map (·.1), fun x hx => ?_, by simp [q1], by simp [q1]; omega⟩, fun i hi => ?_⟩
    · obtain ⟨q, hq, rfl⟩ := List.mem_map.1 hx
      obtain ⟨i, hi, rfl⟩ := List.getElem_of_mem hq
      exact ⟨(q2 i hi).1, (q2 i hi).2.1⟩
    · have : i = 0 := by simpa using hi
      subst this
      have fl := flatten_len hlen
      simp only [List.length_map, q1] at fl
      have cell : ∀ i, i < len * sz → ∃ v, a.spot = none ∧ w.cell? ⟨a.block, a.off + i, none⟩ = some v ∧ ∃ x, (qs.map (·.1)).flatten[i]? = some x ∧ Rep w (gAll w) true x v := fun i hi => by
        have hd : i / sz < len := by rw [Nat.div_lt_iff_lt_mul h0]; exact hi
        have hmo : i % sz < sz := Nat.mod_lt _ h0
        have hlen0 : 0 < len := Nat.lt_of_le_of_lt (Nat.zero_le _) hd
        obtain ⟨r1, r2, r3, r4, r5⟩ := q2 (i / sz) (by omega)
        obtain ⟨_, c2, c3⟩ := World.cells?_some r3
        have c4 := c3 (i % sz) hmo
        rw [List.getElem?_eq_getElem (by omega)] at c4
        have hsp0 : a.spot = none := by
          have c5 := (q2 0 (by omega)).2.2.1
          obtain ⟨_, d2, d3⟩ := World.cells?_some c5
          have d4 := d3 0 h0
          rw [List.getElem?_eq_getElem (by omega)] at d4
          have := World.cell?_spot d4
          simpa [Addr.add] using this
        rw [Deep.add_add, addr_at a hsp0] at c4
        have e1 : i / sz * sz + i % sz = i := by rw [Nat.mul_comm]; exact Nat.div_add_mod i sz
        rw [e1] at c4
        refine ⟨_, hsp0, c4, (qs[i / sz]'(by omega)).1[i % sz]'(by omega), ?_, ?_⟩
        · rw [flatten_get hlen]
          simp [show i / sz < qs.length by omega, show i % sz < (qs[i / sz]'(by omega)).1.length by omega]
        · have := r5 (i % sz) (by omega)
          simpa [show i % sz < (qs[i / sz]'(by omega)).2.length by omega] using this
      refine .sl _ _ _ _ (some a) m (fun i => (w.cell? ⟨a.block, a.off + i, none⟩).getD undef) hl (fun h => by cases h) (fun i hi => ?_) (fun i hi => ?_)
      · obtain ⟨v, s1, s2, _⟩ := cell i (by omega)
        exact ⟨a, rfl, s1, ⟨v, s2⟩, by rw [s2]; rfl⟩
      · obtain ⟨v, s1, s2, x, s3, s4⟩ := cell i (by omega)
        simp only [s2, Option.getD_some]
        rw [List.getElem?_eq_getElem hi] at s3
        cases s3; exact s4

theorem rd_array {sz n : Nat} {Q : List AV → Prop} (ht : P.underlying t = some (.array n e)) (hc : P.cellsOf t = n * sz) (hz : P.cellsOf e = sz) (h0 : 0 < sz) (he : Rd P w e Q) :
    Rd P w t fun as => ∃ els : List (List AV), els.length = n ∧ (∀ x ∈ els, x.length = sz ∧ Q x) ∧ as = els.flatten := by
  intro H enc fuel cs x hx
  obtain ⟨xs, m, _, rfl, hl, hn, hel⟩ := DataW.trod_array ht hx
  rw [hz] at hel
  have hel' : ∀ i, i < n → ∃ as : List AV, as.length = sz ∧ Q as ∧ ∀ j (h : j < as.length), Rep w (gAll w) true as[j] (cs.getD (i * sz + j) undef) := fun i hi => by
    have h1 := hel i hi
    rw [List.getElem?_eq_getElem (by omega)] at h1
    obtain ⟨as, k1, k2, k3, k4⟩ := he H enc _ _ _ h1
    have hbound : i * sz + sz ≤ cs.length := by rw [hl, hc, ← Nat.succ_mul]; exact Nat.mul_le_mul_right _ hi
    refine ⟨as, by omega, k3, fun j hj => ?_⟩
    have := k4 j hj
    have hj' : j < sz := by omega
    simpa [List.getD, List.getElem?_take, List.getElem?_drop, hj'] using this
  obtain ⟨els, q1, q2⟩ := choose_list hel'
  have hlen : ∀ x ∈ els, x.length = sz := fun x hx => by
    obtain ⟨i, hi, rfl⟩ := List.getElem_of_mem hx
    exact (q2 i hi).1
  have fl := flatten_len hlen
  refine ⟨els.flatten, by rw [fl, q1, hl, hc], hl, ⟨els, q1, fun x hx => ?_, rfl⟩, fun i hi => ?_⟩
  · obtain ⟨i, hi, rfl⟩ := List.getElem_of_mem hx
    exact ⟨(q2 i hi).1, (q2 i hi).2.1⟩
  · rw [fl, q1] at hi
    have hd : i / sz < n := by rw [Nat.div_lt_iff_lt_mul h0]; exact hi
    have hmo : i % sz < sz := Nat.mod_lt _ h0
    obtain ⟨r1, r2, r3⟩ := q2 (i / sz) (by omega)
    have h1 := r3 (i % sz) (by omega)
    have e1 : i / sz * sz + i % sz = i := by rw [Nat.mul_comm]; exact Nat.div_add_mod i sz
    rw [e1] at h1
    have h2 : els.flatten[i]? = some ((els[i / sz]'(by omega))[i % sz]'(by omega)) := by
      rw [flatten_get hlen]
      simp [show i / sz < els.length by omega, show i % sz < (els[i / sz]'(by omega)).length by omega]
    rw [List.getElem?_eq_getElem (by rw [fl, q1]; exact hi)] at h2
    rw [Option.some.inj h2]
    exact h1

theorem rd_struct2 {c0 c1 : Nat} {f0 f1 : Field} {Q0 Q1 : List AV → Prop} (ht : P.underlying t = some (.struct #[f0, f1])) (hc : P.cellsOf t = c0 + c1) (ho0 : f0.offset = 0) (ho1 : f1.offset = c0) (hz0 : P.cellsOf f0.type = c0) (hz1 : P.cellsOf f1.type = c1)
    (h0 : Rd P w f0.type Q0) (h1 : Rd P w f1.type Q1) : Rd P w t fun as => ∃ a0 a1, a0.length = c0 ∧ a1.length = c1 ∧ as = a0 ++ a1 ∧ Q0 a0 ∧ Q1 a1 := by
  intro H enc fuel cs x hx
  obtain ⟨xs, n, _, rfl, hl, hn, hf⟩ := DataW.trod_struct ht hx
  have hn' : xs.length = 2 := hn
  have k0 := hf 0 f0 rfl
  have k1 := hf 1 f1 rfl
  rw [List.getElem?_eq_getElem (by omega)] at k0 k1
  obtain ⟨a0, p1, p2, p3, p4⟩ := h0 H enc _ _ _ k0
  obtain ⟨a1, q1, q2, q3, q4⟩ := h1 H enc _ _ _ k1
  rw [hz0] at p1 p2 p4
  rw [hz1] at q1 q2 q4
  rw [ho0] at p1 p2 p4
  rw [ho1] at q1 q2 q4
  refine ⟨a0 ++ a1, by rw [List.length_append]; omega, hl, ⟨a0, a1, by omega, by omega, rfl, p3, q3⟩, fun i hi => ?_⟩
  rw [List.length_append] at hi
  by_cases h : i < a0.length
  · rw [List.getElem_append_left h]
    have := p4 i h
    simpa [List.getD, List.getElem?_take, List.getElem?_drop, show i < c0 by omega] using this
  · rw [List.getElem_append_right (by omega)]
    have := q4 (i - a0.length) (by omega)
    have e : c0 + (i - a0.length) = i := by omega
    simpa [List.getD, List.getElem?_take, List.getElem?_drop, show i - a0.length < c1 by omega, e] using this

theorem rd_struct3 {c0 c1 c2 : Nat} {f0 f1 f2 : Field} {Q0 Q1 Q2 : List AV → Prop} (ht : P.underlying t = some (.struct #[f0, f1, f2])) (hc : P.cellsOf t = c0 + c1 + c2) (ho0 : f0.offset = 0) (ho1 : f1.offset = c0) (ho2 : f2.offset = c0 + c1)
    (hz0 : P.cellsOf f0.type = c0) (hz1 : P.cellsOf f1.type = c1) (hz2 : P.cellsOf f2.type = c2)
    (h0 : Rd P w f0.type Q0) (h1 : Rd P w f1.type Q1) (h2 : Rd P w f2.type Q2) : Rd P w t fun as => ∃ a0 a1 a2, a0.length = c0 ∧ a1.length = c1 ∧ a2.length = c2 ∧ as = a0 ++ a1 ++ a2 ∧ Q0 a0 ∧ Q1 a1 ∧ Q2 a2 := by
  intro H enc fuel cs x hx
  obtain ⟨xs, n, _, rfl, hl, hn, hf⟩ := DataW.trod_struct ht hx
  have hn' : xs.length = 3 := hn
  have k0 := hf 0 f0 rfl
  have k1 := hf 1 f1 rfl
  have k2 := hf 2 f2 rfl
  rw [List.getElem?_eq_getElem (by omega)] at k0 k1 k2
  obtain ⟨a0, p1, p2, p3, p4⟩ := h0 H enc _ _ _ k0
  obtain ⟨a1, q1, q2, q3, q4⟩ := h1 H enc _ _ _ k1
  obtain ⟨a2, r1, r2, r3, r4⟩ := h2 H enc _ _ _ k2
  rw [hz0] at p1 p2 p4
  rw [hz1] at q1 q2 q4
  rw [hz2] at r1 r2 r4
  rw [ho0] at p1 p2 p4
  rw [ho1] at q1 q2 q4
  rw [ho2] at r1 r2 r4
  refine ⟨a0 ++ a1 ++ a2, by rw [List.length_append, List.length_append]; omega, hl, ⟨a0, a1, a2, by omega, by omega, by omega, rfl, p3, q3, r3⟩, fun i hi => ?_⟩
  rw [List.length_append, List.length_append] at hi
  by_cases h : i < a0.length
  · rw [List.getElem_append_left (by rw [List.length_append]; omega), List.getElem_append_left h]
    have := p4 i h
    simpa [List.getD, List.getElem?_take, List.getElem?_drop, show i < c0 by omega] using this
  · by_cases h' : i < a0.length + a1.length
    · rw [List.getElem_append_left (by rw [List.length_append]; omega), List.getElem_append_right (by omega)]
      have := q4 (i - a0.length) (by omega)
      have e : c0 + (i - a0.length) = i := by omega
      simpa [List.getD, List.getElem?_take, List.getElem?_drop, show i - a0.length < c1 by omega, e] using this
    · rw [List.getElem_append_right (by rw [List.length_append]; omega)]
      have hh : i - (a0 ++ a1).length < a2.length := by rw [List.length_append]; omega
      have := r4 (i - (a0 ++ a1).length) hh
      have e : c0 + c1 + (i - (a0 ++ a1).length) = i := by rw [List.length_append]; omega
      have hh2 : i - (a0.length + a1.length) < c2 := by rw [List.length_append] at hh; omega
      have e' : c0 + c1 + (i - (a0.length + a1.length)) = i := by omega
      simpa [List.getD, List.getElem?_take, List.getElem?_drop, hh2, e'] using this

/-- An argument of one cell. -/
theorem arg_one {H : Type} {enc : TypeId × Value → H} {Q : List AV → Prop} {v : Value} {d : DataW H} {p : List MemPlace} (hr : Rd P w t Q) (hv : v.cells = #[v]) (h : DataW.Trod enc P w 0 (fun _ => true) true t v d p) : ∃ x, Q [x] ∧ Rep w (gAll w) true x v := by
  obtain ⟨fuel, hf⟩ := h
  obtain ⟨as, h1, _, h2, h3⟩ := hr H enc _ _ _ hf
  rw [hv] at h1 h3
  match as, h1 with
  | [x], _ => exact ⟨x, h2, by simpa using h3 0 (by simp)⟩

/-- An argument that is an aggregate. -/
theorem arg_agg {H : Type} {enc : TypeId × Value → H} {Q : List AV → Prop} {cs : Array Value} {d : DataW H} {p : List MemPlace} (hr : Rd P w t Q) (h : DataW.Trod enc P w 0 (fun _ => true) true t (.agg cs) d p) : ∃ as, Q as ∧ Rep w (gAll w) true (.agg as) (.agg cs) := by
  obtain ⟨fuel, hf⟩ := h
  obtain ⟨as, h1, _, h2, h3⟩ := hr H enc _ _ _ hf
  refine ⟨as, h2, ?_⟩
  have e : cs = cs.toList.toArray := by simp
  rw [e]
  exact .agg _ as cs.toList (by simpa [Value.cells] using h1.symm) (fun i hi => by simpa [Value.cells] using h3 i hi)

/-- A pure function that answers true, called on arguments that came in. -/
theorem calls_true {f : FuncId} {xs : List AV} {vs : Array Value} (h : PureOK P f xs (B true)) (hn : vs.size = xs.length) (hr : ∀ i (h : i < xs.length), Rep w (gAll w) true xs[i] (vs.getD i undef)) :
    Calls P f vs w fun e w' => e = .returned (.bool true) ∧ Below w.heap.size w w' := by
  have h1 := h none 0 w (gAll w) vs (heapOK_all w) hn hr
  have h2 : CallsIn Fence.wide 0 P f vs w _ := h1
  refine (callsIn_wide.1 h2).mono fun e w' ⟨v, g', e1, e2, e3, e4⟩ => ?_
  subst e1
  have ev : v = .bool true := by cases e2; rfl
  subst ev
  refine ⟨rfl, e4.tr.os, e4.tr.tape, e4.tr.output, e4.tr.size, fun k hk => e4.keep k hk ?_⟩
  rintro ⟨id, o, d, ho, _⟩
  cases ho
end

end Go.AM

/- SLICES OF UNKNOWN CAPACITY: slices.Delete and slices.Insert, for any program and elements of one cell. Own work. -/
set_option linter.unusedSimpArgs false
set_option linter.unusedVariables false
set_option maxRecDepth 100000
namespace Go.AM
open Go.RowKit

theorem wrap_id {n : Int} (h : -9223372036854775808 ≤ n ∧ n < 9223372036854775808) : IntKind.i64.wrap n = n := by
  simp [IntKind.wrap, IntKind.bits, IntKind.signed, Int.bmod]
  omega

variable {P : Program} {hp : List HObj} {K : AV → List (Nat × HObj) → Prop}

theorem pc_take {l : List AV} (h : (l.all AV.isPC) = true) (k : Nat) : ((l.take k).all AV.isPC) = true := by
  rw [List.all_eq_true] at *
  exact fun x hx => h x (List.mem_of_mem_take hx)
theorem pc_drop {l : List AV} (h : (l.all AV.isPC) = true) (k : Nat) : ((l.drop k).all AV.isPC) = true := by
  rw [List.all_eq_true] at *
  exact fun x hx => h x (List.mem_of_mem_drop hx)

/-! ### Cutting private slices -/
theorem slc_mc_of {sz : Nat} {id off n c l h m : Nat} {lo hi mx : Option AV} (hl : match lo with | none => l = 0 | some y => y = I l) (hh : match hi with | none => h = n | some y => y = I h)
    (hm : match mx with | none => m = c | some y => y = I m ∧ hi.isSome) (h1 : l ≤ h) (h2 : h ≤ m) (h3 : m ≤ c) (k : K (.mc id (off + l * sz) (h - l) (m - l) sz) []) : SlcW sz (.mc id off n c sz) lo hi mx K :=
  ⟨_, _, ⟨l, h, m, hl, hh, hm, h1, h2, h3, rfl, rfl, rfl⟩, k⟩
theorem slc_ms_of {sz : Nat} {id off n l h : Nat} {lo hi mx : Option AV} (hl : match lo with | none => l = 0 | some y => y = I l) (hh : match hi with | none => h = n | some y => y = I h)
    (hm : match mx with | none => True | some y => ∃ m : Nat, y = I m ∧ h ≤ m ∧ m ≤ n ∧ hi.isSome) (h1 : l ≤ h) (h2 : h ≤ n) (k : K (.ms id (off + l * sz) (h - l) sz) []) : SlcW sz (.ms id off n sz) lo hi mx K :=
  ⟨_, _, ⟨l, h, hl, hh, h1, h2, rfl, hm, rfl, rfl⟩, k⟩

/-- Appending within the room that is there. -/
theorem app_in {sz bytes id off n c m : Nat} {y : AV} {ys cs : List AV} (hc : nthH hp id = some (.cells cs)) (he : elems (hpf hp) sz y = some (m, ys)) (hp1 : (ys.all AV.isPC) = true) (h1 : off + (n + m) * sz ≤ cs.length)
    (hb : (n + m) * bytes ≤ 140737488355328) (hb2 : n + m ≤ 140737488355328) (hr : n + m ≤ c) (k : K (.mc id off (n + m) c sz) [(id, .cells (splice cs (off + n * sz) ys))]) : AppW hp sz bytes (.mc id off n c sz) y K := by
  have hc : hpf hp id = some (.cells cs) := by rw [nthH_eq] at hc; exact hc
  refine ⟨m, ys, he, hp1, _, _, ?_, k⟩
  simp only [semApp, hc]
  exact ⟨trivial, Nat.le_trans (Nat.add_le_add_left (Nat.mul_le_mul_right _ (Nat.le_add_right _ _)) _) h1, hb, hb2, .inl ⟨hr, h1, trivial, trivial⟩⟩

theorem elems_mc {sz id off n c : Nat} {cs : List AV} (hc : nthH hp id = some (.cells cs)) (h : off + n * sz ≤ cs.length) : elems (hpf hp) sz (.mc id off n c sz) = some (n, view cs off (n * sz)) := by
  have hc : hpf hp id = some (.cells cs) := by rw [nthH_eq] at hc; exact hc
  simp only [elems, hc]; rw [if_pos ⟨trivial, h⟩]

theorem w_clr_mc {sz id off n c : Nat} {z cs : List AV} {F : Nat → AV} {x : Opd} (hx : evF F x = .mc id off n c sz) (hc : nthH hp id = some (.cells cs)) (h : off + n * sz ≤ cs.length) (k : K .any [(id, .cells (splice cs off (zrep n z)))]) :
    (AOp.clr sz z x).wp P F hp K := by
  have hc : hpf hp id = some (.cells cs) := by rw [nthH_eq] at hc; exact hc
  refine ⟨_, _, ?_, k⟩
  simp only [AOp.sem, hx]
  exact ⟨cs, hc, trivial, h, trivial, rfl⟩

/-! ### Any capacity -/
theorem ms_mc {w g id off n sz v} (h : Rep w g false (.ms id off n sz) v) : ∃ c, n ≤ c ∧ Rep w g false (.mc id off n c sz) v := by
  cases h with
  | ms _ _ _ _ c d cap arr ty fz hl hn hb hs => exact ⟨cap, hn, .mc id off n cap sz c d arr ty fz hl hn hb hs⟩
  | msz _ _ _ a l hl => exact ⟨0, Nat.le_refl _, .mcz id off sz a l hl⟩

theorem callW_cap {f : FuncId} {id off n sz : Nat} {xs : List AV} {KC : AV → List HObj → Prop} (h : ∀ c, n ≤ c → CallW P f (.mc id off n c sz :: xs) hp KC) : CallW P f (.ms id off n sz :: xs) hp KC := by
  intro ro m w g vs hok hvs hrep
  obtain ⟨c, hc, h0⟩ := ms_mc (hrep 0 (by simp))
  refine h c hc ro m w g vs hok hvs fun i hi => ?_
  cases i with
  | zero => exact h0
  | succ i => exact hrep (i + 1) (by simpa using hi)

/-- A result of which the capacity is not told. -/
theorem callW_ms {f : FuncId} {xs : List AV} {KC : AV → List HObj → Prop} (h : CallW P f xs hp fun r hp' => ∃ id off n c sz, (r = .mc id off n c sz ∨ r = .ms id off n sz) ∧ KC (.ms id off n sz) hp') : CallW P f xs hp KC := by
  intro ro m w g vs hok hvs hrep
  refine (h ro m w g vs hok hvs hrep).mono ?_
  rintro e w' ⟨v, r, hp', g', rfl, ⟨id, off, n, c, sz, hr, hk⟩, h1, h2, h3⟩
  refine ⟨v, _, hp', g', rfl, hk, ?_, h2, h3⟩
  rcases hr with rfl | rfl
  · exact mc_ms h1
  · exact h1

/-! ### slices.Delete -/
def GDel (by' : Nat) (z : List AV) : AC := (.seq (.rgn [⟨none, [(.mv 6 (.k (.sl true 0 [])))]⟩] [0, 1, 2]) (.seq (.rgn [⟨none, [(.mv 8 (.t 0)), (.mv 9 (.t 1)), (.mv 10 (.t 2)), (.mv 11 (.t 0)), (.len 12 (.t 11)), (.slc 13 1 (.t 8) (some (.t 9)) (some (.t 10)) (some (.t 12)))]⟩] [0, 1, 2]) (.seq (.seq (.rgn [⟨none, [(.mv 14 (.t 1)), (.mv 15 (.t 2)), (.bin 16 .eql (.t 14) (.t 15))]⟩] [0, 1, 2, 16]) (.cond (.t 16) (.seq (.rgn [⟨none, [(.mv 17 (.t 0)), (.mv 6 (.t 17))]⟩] [6]) .ret) .skip)) (.seq (.rgn [⟨none, [(.mv 18 (.t 0)), (.len 19 (.t 18)), (.mv 7 (.t 19))]⟩] [0, 1, 2, 7]) (.seq (.drw [⟨none, [(.mv 20 (.t 0)), (.mv 21 (.t 1)), (.slc 22 1 (.t 20) none (some (.t 21)) none), (.mv 23 (.t 0)), (.mv 24 (.t 2)), (.slc 25 1 (.t 23) (some (.t 24)) none none), (.app 26 1 by' (.t 22) (.t 25)), (.mv 0 (.t 26))]⟩] [] [0, 7]) (.seq (.rgn [⟨none, [(.mv 27 (.t 0)), (.mv 28 (.t 0)), (.len 29 (.t 28)), (.mv 30 (.t 7)), (.slc 31 1 (.t 27) (some (.t 29)) (some (.t 30)) none), (.clr 1 z (.t 31))]⟩] [0]) (.seq (.rgn [⟨none, [(.mv 32 (.t 0)), (.mv 6 (.t 32))]⟩] [6]) .ret)))))))

def delCells (z : List AV) (cs : List AV) (off n i j : Nat) : List AV := cs.take (off + i) ++ (view cs (off + j) (n - j) ++ (zrep (j - i) z ++ cs.drop (off + n)))

theorem zrep_len1 {z : List AV} (hz : z.length = 1) : ∀ k, (zrep k z).length = k
  | 0 => rfl
  | k + 1 => by simp [zrep, zrep_len1 hz k, hz]; omega

theorem del_same {z cs : List AV} {off n i : Nat} (h : i ≤ n) : delCells z cs off n i i = cs := by
  simp only [delCells, view, Nat.sub_self, zrep, List.nil_append]
  have e : cs.drop (off + n) = (cs.drop (off + i)).drop (n - i) := by rw [List.drop_drop]; congr 1; omega
  rw [e, List.take_append_drop, List.take_append_drop]

theorem del_eq {z cs : List AV} {off n i j : Nat} (hz : z.length = 1) (hij : i ≤ j) (hjn : j ≤ n) (hcs : off + n ≤ cs.length) :
    splice (splice cs (off + i) (view cs (off + j) (n - j))) (off + (i + (n - j))) (zrep (j - i) z) = delCells z cs off n i j := by
  have hA : (cs.take (off + i)).length = off + i := by simp; omega
  have hB : (view cs (off + j) (n - j)).length = n - j := by simp [view]; omega
  simp only [splice, delCells, hB]
  generalize hBB : view cs (off + j) (n - j) = B at hB ⊢
  generalize hAA : cs.take (off + i) = A at hA ⊢
  have e : off + (i + (n - j)) = (A ++ B).length := by simp [hA, hB]; omega
  rw [e]
  have t1 : ∀ C : List AV, (A ++ B ++ C).take (A ++ B).length = A ++ B := fun C => by rw [List.take_left']; rfl
  have t2 : ∀ (C : List AV) k, (A ++ B ++ C).drop ((A ++ B).length + k) = C.drop k := fun C k => by rw [← List.drop_drop, List.drop_left']; rfl
  rw [← List.append_assoc A B, t1, t2, List.drop_drop, zrep_len1 hz]
  rw [show off + i + (n - j) + (j - i) = off + n by omega]
  simp

theorem setL_same {l : List HObj} {id : Nat} {o : HObj} (h : nthH l id = some o) : setL l id o = l := by
  rw [nthH_eq] at h
  have hlt : id < l.length := hpf_lt h
  rw [setL, if_pos hlt]
  exact List.ext_getElem? fun k => by
    rw [List.getElem?_set]
    by_cases e : id = k
    · subst e
      rw [List.getElem?_eq_getElem hlt] at h
      simp [hlt]; exact (Option.some.inj h).symm
    · simp [e]

theorem delete_ok {f : FuncId} {fn : Func} {by' : Nat} {z : List AV} (hf : P.funcs[f]? = some fn) (hform : formOf P fn [6] = some (GDel by' z)) (hr : resTmps fn.results.toList = some [6]) (hnt : 3 ≤ fn.ntmps) (hz : z.length = 1)
    {id off n i j : Nat} {cs : List AV} {KC : AV → List HObj → Prop} (hid : nthH hp id = some (.cells cs)) (hij : i ≤ j) (hjn : j ≤ n) (hcs : off + n ≤ cs.length) (hpc : ((view cs (off + j) (n - j)).all AV.isPC) = true)
    (hb : n * by' ≤ 140737488355328) (hb2 : n ≤ 140737488355328) (hK : KC (.ms id off (n - (j - i)) 1) (setL hp id (.cells (delCells z cs off n i j)))) : CallW P f [.ms id off n 1, I i, I j] hp KC := by
  refine callW_cap fun c hc => callW_ms (walk hf hform hr hnt ?_)
  simp (disch := omega) [GDel]
  refine slc_mc_of (l := i) (h := j) (m := n) rfl rfl ⟨rfl, rfl⟩ hij hjn hc ?_
  simp (disch := omega) [GDel]
  refine c_split (fun h => ?_) (fun h => ?_)
  · have h : i = j := by simp at h; omega
    subst h
    simp (disch := omega)
    rw [del_same hjn, setL_same hid, Nat.sub_self, Nat.sub_zero] at hK
    exact ⟨id, off, n, c, 1, by simp, hK⟩
  · have h : i ≠ j := by simp at h; omega
    simp (disch := omega)
    refine slc_mc_of (l := 0) (h := i) (m := c) rfl rfl rfl (by omega) (by omega) (Nat.le_refl _) ?_
    simp (disch := omega)
    refine slc_mc_of (l := j) (h := n) (m := c) rfl rfl rfl (by omega) (by omega) (Nat.le_refl _) ?_
    simp (disch := omega)
    refine app_in hid (elems_mc (by simpa using hid) (by omega)) (by simpa using hpc) (by omega) (Nat.le_trans (Nat.mul_le_mul_right _ (by omega)) hb) (by omega) (by omega) ?_
    simp (disch := omega)
    have hlt : id < hp.length := by rw [nthH_eq] at hid; exact hpf_lt hid
    simp only [hlt, if_true]
    have hset : ∀ o, nthH (hp.set id o) id = some o := fun o => by rw [nthH_eq]; simp [hpf, hlt]
    refine slc_mc_of (l := i + (n - j)) (h := n) (m := c) (by simp) rfl rfl (by omega) (by omega) (Nat.le_refl _) ?_
    simp (disch := omega)
    refine w_clr_mc rfl (hset _) ?_ ?_
    · simp; omega
    simp (disch := omega) [hlt]
    refine ⟨id, off, i + (n - j), c, 1, by simp, ?_⟩
    have e1 : n - (i + (n - j)) = j - i := by omega
    have e2 : n - (j - i) = i + (n - j) := by omega
    rw [← del_eq hz hij hjn hcs, e2, setL, if_pos hlt] at hK
    have e3 : min (n - j) (cs.length - (off + j)) = n - j := by omega
    simp [e1, e3] at hK ⊢
    exact hK

end Go.AM

/- THE EVALUATOR, PART 1: the abstract machine carried out on closed states, and what it finds holds of the machine. Own work. -/
set_option linter.unusedSimpArgs false
set_option linter.unusedVariables false
namespace Go.AM
open Go.RowKit

/-! ### Single operations -/
def natI : AV → Option Nat
  | .v (.int .i64 (.ofNat n)) => some n
  | _ => none

theorem natI_eq {x : AV} {n : Nat} (h : natI x = some n) : x = I n := by
  unfold natI at h
  split at h
  · cases h; rfl
  · cases h

/-- An index. -/
def idxE : AV → Option Nat
  | .v (.int _ (.ofNat n)) => some n
  | _ => none

def cellsE (hp : List HObj) (id : Nat) : Option (List AV) := match hp[id]? with
  | some (.cells cs) => some cs
  | _ => none

theorem cellsE_eq {hp : List HObj} {id cs} (h : cellsE hp id = some cs) : hpf hp id = some (.cells cs) := by
  unfold cellsE at h
  split at h
  · rename_i h1; cases h; exact h1
  · cases h

def aggE (agg : Bool) (sz off : Nat) (cs : List AV) : Option AV :=
  if agg then (if off + sz ≤ cs.length then some (.agg (view cs off sz)) else none) else cs[off]?

theorem aggE_eq {agg sz off cs r} : aggE agg sz off cs = some r → (match agg with | true => off + sz ≤ cs.length ∧ r = .agg (view cs off sz) | false => ∃ y, cs[off]? = some y ∧ r = y) := by
  intro h
  cases agg with
  | true =>
    simp only [aggE, if_true] at h
    split at h
    · rename_i h1; cases h; exact ⟨h1, rfl⟩
    · cases h
  | false => simp only [aggE, Bool.false_eq_true, if_false] at h; exact ⟨r, h, rfl⟩

def lowE (dflt : Nat) : Option AV → Option Nat
  | none => some dflt
  | some y => natI y

theorem lowE_eq {dflt n : Nat} {o : Option AV} : lowE dflt o = some n → (match o with | none => n = dflt | some y => y = I n) := by
  intro h
  cases o with
  | none => simp [lowE] at h; exact h.symm
  | some y => exact natI_eq h

def mxOK (h n : Nat) (hi : Option AV) : Option AV → Bool
  | none => true
  | some y => match natI y with
    | some m => Nat.ble h m && Nat.ble m n && hi.isSome
    | none => false

def slcE (sz : Nat) (x : AV) (lo hi mx : Option AV) : Option AV :=
  match x with
  | .sl full n cs => match lowE 0 lo, lowE n hi with
    | some l, some h => if l ≤ h ∧ h ≤ n ∧ cs.length = n * sz then (match mx with
      | none => some (.sl (full && decide (h = n)) (h - l) (view cs (l * sz) ((h - l) * sz)))
      | some y => if natI y = some h ∧ hi.isSome then some (.sl true (h - l) (view cs (l * sz) ((h - l) * sz))) else none) else none
    | _, _ => none
  | .ms id off n sz' => match lowE 0 lo, lowE n hi with
    | some l, some h => if l ≤ h ∧ h ≤ n ∧ sz' = sz ∧ mxOK h n hi mx = true then some (.ms id (off + l * sz) (h - l) sz) else none
    | _, _ => none
  | .mc id off n c sz' => match lowE 0 lo, lowE n hi, lowE c mx with
    | some l, some h, some m => if l ≤ h ∧ h ≤ m ∧ m ≤ c ∧ sz' = sz ∧ (mx.isNone || hi.isSome) then some (.mc id (off + l * sz) (h - l) (m - l) sz) else none
    | _, _, _ => none
  | _ => none

theorem slcE_eq {sz x lo hi mx r} (h : slcE sz x lo hi mx = some r) : semSlc r [] sz x lo hi mx := by
  unfold slcE at h
  unfold semSlc
  split at h
  · split at h
    · rename_i l hh hl hh'
      split at h
      · rename_i hc
        refine ⟨l, hh, lowE_eq hl, lowE_eq hh', hc.1, hc.2.1, hc.2.2, ?_, rfl⟩
        split at h
        · cases h; rfl
        · split at h
          · rename_i hy; cases h; exact ⟨natI_eq hy.1, hy.2, rfl⟩
          · cases h
      · cases h
    · cases h
  · split at h
    · rename_i l hh hl hh'
      split at h
      · rename_i hc
        cases h
        obtain ⟨c1, c2, c3, c4⟩ := hc
        refine ⟨l, hh, lowE_eq hl, lowE_eq hh', c1, c2, c3, ?_, rfl, rfl⟩
        cases mx with
        | none => trivial
        | some y =>
          simp only [mxOK] at c4
          split at c4
          · rename_i m hm
            simp only [Bool.and_eq_true] at c4
            exact ⟨m, natI_eq hm, Nat.le_of_ble_eq_true c4.1.1, Nat.le_of_ble_eq_true c4.1.2, c4.2⟩
          · cases c4
      · cases h
    · cases h
  · split at h
    · rename_i l hh m hl hh' hm
      split at h
      · rename_i hc
        cases h
        obtain ⟨c1, c2, c3, c4, c5⟩ := hc
        refine ⟨l, hh, m, lowE_eq hl, lowE_eq hh', ?_, c1, c2, c3, c4, rfl, rfl⟩
        have := lowE_eq hm
        cases mx with
        | none => exact this
        | some y => simp at c5; exact ⟨this, c5⟩
      · cases h
    · cases h
  · cases h

def appE (hp : List HObj) (new sz bytes : Nat) (x : AV) (m : Nat) (ys : List AV) : Option (AV × List (Nat × HObj)) :=
  match x with
  | .sl full n cs => if full = true ∧ cs.length = n * sz ∧ (n + m) * bytes ≤ 140737488355328 ∧ n + m ≤ 140737488355328 ∧ (n = 0 ∨ 0 < m) then some (.ms new 0 (n + m) sz, [(new, .cells (cs ++ ys))]) else none
  | .ms id off n sz' => match cellsE hp id with
    | some cs => if sz' = sz ∧ off + n * sz ≤ cs.length ∧ (n + m) * bytes ≤ 140737488355328 ∧ n + m ≤ 140737488355328 then some (.ms new 0 (n + m) sz, [(id, .gone), (new, .cells (view cs off (n * sz) ++ ys))]) else none
    | none => none
  | .mc id off n c sz' => match cellsE hp id with
    | some cs => if sz' = sz ∧ off + n * sz ≤ cs.length ∧ (n + m) * bytes ≤ 140737488355328 ∧ n + m ≤ 140737488355328 then
        (if n + m ≤ c then (if off + (n + m) * sz ≤ cs.length then some (.mc id off (n + m) c sz, [(id, .cells (splice cs (off + n * sz) ys))]) else none)
         else some (.ms new 0 (n + m) sz, [(new, .cells (view cs off (n * sz) ++ ys))])) else none
    | none => none
  | _ => none

theorem appE_eq {hp : List HObj} {new sz bytes x m ys r ws} (h : appE hp new sz bytes x m ys = some (r, ws)) : semApp (hpf hp) new r ws sz bytes x m ys := by
  unfold appE at h
  unfold semApp
  split at h
  · split at h
    · rename_i hc; cases h
      exact ⟨hc.1, hc.2.1, hc.2.2.1, hc.2.2.2.1, hc.2.2.2.2, rfl, rfl⟩
    · cases h
  · split at h
    · rename_i cs hcs
      have := cellsE_eq hcs
      simp only [this]
      split at h
      · rename_i hc; cases h; exact ⟨hc.1, hc.2.1, hc.2.2.1, hc.2.2.2, rfl, rfl⟩
      · cases h
    · cases h
  · split at h
    · rename_i cs hcs
      have := cellsE_eq hcs
      simp only [this]
      split at h
      · rename_i hc
        refine ⟨hc.1, hc.2.1, hc.2.2.1, hc.2.2.2, ?_⟩
        split at h
        · split at h
          · rename_i h1 h2; cases h; exact .inl ⟨h1, h2, rfl, rfl⟩
          · cases h
        · rename_i h1; cases h; exact .inr ⟨by omega, rfl, rfl⟩
      · cases h
    · cases h
  · cases h

def mpE (hp : List HObj) : AV → Option (Nat × List (Value × Nat × AV) × Nat)
  | .mp id => match hp[id]? with
    | some (.mp es clk) => some (id, es, clk)
    | _ => none
  | _ => none

theorem mpE_eq {hp : List HObj} {x id es clk} (h : mpE hp x = some (id, es, clk)) : x = .mp id ∧ hpf hp id = some (.mp es clk) := by
  unfold mpE at h
  split at h
  · split at h
    · rename_i h1; cases h; exact ⟨rfl, h1⟩
    · cases h
  · cases h

/-- A key, fit to be one. -/
def keyE (ks : KS) (x : AV) : Option Value := match x.val with
  | some v => if eqK ks v v = some true then some v else none
  | none => none
theorem keyE_eq {ks x v} (h : keyE ks x = some v) : x.val = some v ∧ eqK ks v v = some true := by
  unfold keyE at h
  split at h
  · split at h
    · rename_i h1 h2; cases h; exact ⟨h1, h2⟩
    · cases h
  · cases h

def sE_mv (x : Opd) (ev : Opd → AV) (hp : List HObj) : Option (AV × List (Nat × HObj)) := some (ev x, [])
def sE_pick (c : Opd) (a : Opd) (b : Opd) (ev : Opd → AV) (hp : List HObj) : Option (AV × List (Nat × HObj)) := match ev c with
    | .v (.bool t) => some (bif t then ev a else ev b, [])
    | _ => none
def sE_bin (op : BinOp) (x : Opd) (y : Opd) (ev : Opd → AV) (hp : List HObj) : Option (AV × List (Nat × HObj)) := match ev x, ev y with
    | .v a, .v b => match binV op a b with
      | some z => some (.v z, [])
      | none => none
    | _, _ => none
def sE_un (op : UnOp) (x : Opd) (ev : Opd → AV) (hp : List HObj) : Option (AV × List (Nat × HObj)) := match ev x with
    | .v a => match unV op a with
      | some z => some (.v z, [])
      | none => none
    | _ => none
def sE_ext (x : Opd) (i : Nat) (ev : Opd → AV) (hp : List HObj) : Option (AV × List (Nat × HObj)) := match ev x with
    | .tup vs => match vs[i]? with
      | some y => some (y, [])
      | none => none
    | _ => none
def sE_ld (agg : Bool) (sz : Nat) (x : Opd) (ev : Opd → AV) (hp : List HObj) : Option (AV × List (Nat × HObj)) := match ev x with
    | .ptr cs off => (aggE agg sz off cs).map (·, [])
    | .ref id off => match cellsE hp id with
      | some cs => (aggE agg sz off cs).map (·, [])
      | none => none
    | _ => none
def sE_st (sz : Nat) (a : Opd) (x : Opd) (ev : Opd → AV) (hp : List HObj) : Option (AV × List (Nat × HObj)) := match ev a with
    | .ref id off => match cellsE hp id with
      | some cs => if (ev x).cells.length = sz ∧ ((ev x).cells.all AV.isCell) = true ∧ off + sz ≤ cs.length then some (.any, [(id, .cells (splice cs off (ev x).cells))]) else none
      | none => none
    | _ => none
def sE_box (sz : Nat) (x : Opd) (ev : Opd → AV) (hp : List HObj) : Option (AV × List (Nat × HObj)) := if (ev x).cells.length = sz ∧ ((ev x).cells.all AV.isCell) = true then some (.ref hp.length 0, [(hp.length, .cells (ev x).cells)]) else none
def sE_al (zero : List AV) (ev : Opd → AV) (hp : List HObj) : Option (AV × List (Nat × HObj)) := some (.ref hp.length 0, [(hp.length, .cells zero)])
def sE_bsl (n : Nat) (sz : Nat) (zero : List AV) (parts : List (Nat × Opd)) (ev : Opd → AV) (hp : List HObj) : Option (AV × List (Nat × HObj)) := match purifyAll (hpf hp) (parts.map fun p => ev p.2) with
    | some (ys, ids) => if (ys.all fun y => y.cells.all AV.isCell && y.cells.all AV.isPure && (y.cells.length == sz)) = true then some (.sl true n (place (zrep n zero) sz ((parts.map (·.1)).zip ys)), gones ids) else none
    | none => none
def sE_bld (zero : List AV) (parts : List (Nat × Nat × Opd)) (ev : Opd → AV) (hp : List HObj) : Option (AV × List (Nat × HObj)) := if (parts.all fun p => (ev p.2.2).cells.all AV.isCell && ((ev p.2.2).cells.length == p.2.1)) = true then some (.agg (placeF zero (parts.map fun p => (p.1, p.2.1, ev p.2.2))), []) else none
def sE_fa (x : Opd) (off : Nat) (ev : Opd → AV) (hp : List HObj) : Option (AV × List (Nat × HObj)) := match ev x with
    | .ptr cs o => some (.ptr cs (o + off), [])
    | .ref id o => some (.ref id (o + off), [])
    | _ => none
def sE_fld (agg : Bool) (sz : Nat) (off : Nat) (x : Opd) (ev : Opd → AV) (hp : List HObj) : Option (AV × List (Nat × HObj)) := match ev x with
    | .agg cs => (aggE agg sz off cs).map (·, [])
    | _ => none
def sE_ia (sz : Nat) (x : Opd) (i : Opd) (ev : Opd → AV) (hp : List HObj) : Option (AV × List (Nat × HObj)) := match ev x, idxE (ev i) with
    | .sl _ n cs, some j => if j < n ∧ cs.length = n * sz then some (.ptr cs (j * sz), []) else none
    | .ms id off n sz', some j => if j < n ∧ sz' = sz then some (.ref id (off + j * sz), []) else none
    | .mc id off n _ sz', some j => if j < n ∧ sz' = sz then some (.ref id (off + j * sz), []) else none
    | _, _ => none
def sE_iaa (ln : Nat) (sz : Nat) (x : Opd) (i : Opd) (ev : Opd → AV) (hp : List HObj) : Option (AV × List (Nat × HObj)) := match ev x, idxE (ev i) with
    | .ptr cs o, some j => if j < ln then some (.ptr cs (o + j * sz), []) else none
    | .ref id o, some j => if j < ln then some (.ref id (o + j * sz), []) else none
    | _, _ => none
def sE_idx (ln : Nat) (agg : Bool) (sz : Nat) (x : Opd) (i : Opd) (ev : Opd → AV) (hp : List HObj) : Option (AV × List (Nat × HObj)) := match ev x, idxE (ev i) with
    | .agg cs, some j => if j < ln then (aggE agg sz (j * sz) cs).map (·, []) else none
    | _, _ => none
def sE_ids (x : Opd) (i : Opd) (ev : Opd → AV) (hp : List HObj) : Option (AV × List (Nat × HObj)) := match ev x, idxE (ev i) with
    | .v (.string s), some j => match s[j]? with
      | some b => some (.v (.int .u8 b.toNat), [])
      | none => none
    | _, _ => none
def sE_len (x : Opd) (ev : Opd → AV) (hp : List HObj) : Option (AV × List (Nat × HObj)) := match ev x with
    | .sl _ n _ => some (I n, [])
    | .ms _ _ n _ => some (I n, [])
    | .mc _ _ n _ _ => some (I n, [])
    | _ => none
def sE_lns (x : Opd) (ev : Opd → AV) (hp : List HObj) : Option (AV × List (Nat × HObj)) := match ev x with
    | .v (.string s) => some (I s.size, [])
    | _ => none
def sE_lnm (x : Opd) (ev : Opd → AV) (hp : List HObj) : Option (AV × List (Nat × HObj)) := match mpE hp (ev x) with
    | some (_, es, _) => some (I es.length, [])
    | none => none
def sE_slc (sz : Nat) (x : Opd) (lo : Option Opd) (hi : Option Opd) (hmx : Option Opd) (ev : Opd → AV) (hp : List HObj) : Option (AV × List (Nat × HObj)) := (slcE sz (ev x) (lo.map ev) (hi.map ev) (hmx.map ev)).map (·, [])
def sE_sls (x : Opd) (lo : Option Opd) (hi : Option Opd) (ev : Opd → AV) (hp : List HObj) : Option (AV × List (Nat × HObj)) := match ev x with
    | .v (.string s) => match lowE 0 (lo.map ev), lowE s.size (hi.map ev) with
      | some l, some h => if l ≤ h ∧ h ≤ s.size then some (.v (.string (s.extract l h)), []) else none
      | _, _ => none
    | _ => none
def sE_app (sz : Nat) (bytes : Nat) (x : Opd) (y : Opd) (ev : Opd → AV) (hp : List HObj) : Option (AV × List (Nat × HObj)) := match elems (hpf hp) sz (ev y) with
    | some (m, ys) => if (ys.all AV.isPC) = true then appE hp hp.length sz bytes (ev x) m ys else none
    | none => none
def sE_cpy (sz : Nat) (x : Opd) (y : Opd) (ev : Opd → AV) (hp : List HObj) : Option (AV × List (Nat × HObj)) := match elems (hpf hp) sz (ev y) with
    | some (m, ys) => if (ys.all AV.isPC) = true then (match ev x with
      | .ms id off n sz' => match cellsE hp id with
        | some cs => if sz' = sz ∧ off + n * sz ≤ cs.length then some (I (Nat.min m n : Nat), [(id, .cells (splice cs off (ys.take (Nat.min m n * sz))))]) else none
        | none => none
      | .mc id off n _ sz' => match cellsE hp id with
        | some cs => if sz' = sz ∧ off + n * sz ≤ cs.length then some (I (Nat.min m n : Nat), [(id, .cells (splice cs off (ys.take (Nat.min m n * sz))))]) else none
        | none => none
      | _ => none) else none
    | none => none
def sE_mks (sz : Nat) (bytes : Nat) (zero : List AV) (n : Opd) (c : Opd) (ev : Opd → AV) (hp : List HObj) : Option (AV × List (Nat × HObj)) := match natI (ev n), natI (ev c) with
    | some k, some k' => if k = k' ∧ k * bytes ≤ 140737488355328 ∧ k ≤ 140737488355328 ∧ zero.length = sz then some (.ms hp.length 0 k sz, [(hp.length, .cells (zrep k zero))]) else none
    | _, _ => none
def sE_cnv (k : IntKind) (x : Opd) (ev : Opd → AV) (hp : List HObj) : Option (AV × List (Nat × HObj)) := match ev x with
    | .v (.int _ n) => some (.v (.int k (k.wrap n)), [])
    | _ => none
def sE_mx (max : Bool) (x : Opd) (y : Opd) (ev : Opd → AV) (hp : List HObj) : Option (AV × List (Nat × HObj)) := match ev x, ev y with
    | .v (.int k a), .v (.int _ b) => some (.v (.int k (bif max then (if b > a then b else a) else (if b < a then b else a))), [])
    | _, _ => none
def sE_nilc (x : Opd) (ev : Opd → AV) (hp : List HObj) : Option (AV × List (Nat × HObj)) := match ev x with
    | .ptr cs o => some (.ptr cs o, [])
    | .ref id o => some (.ref id o, [])
    | .fn (.func f) xs ys => some (.fn (.func f) xs ys, [])
    | _ => none
def sE_mkf (f : Fn) (first : List Opd) (caps : List Opd) (ev : Opd → AV) (hp : List HObj) : Option (AV × List (Nat × HObj)) := some (.fn f (first.map ev) (caps.map ev), [])
def sE_cap (x : Opd) (ev : Opd → AV) (hp : List HObj) : Option (AV × List (Nat × HObj)) := match ev x with
    | .sl full n _ => if full = true then some (I n, []) else none
    | .mc _ _ _ c _ => some (I c, [])
    | _ => none
def sE_clr (sz : Nat) (zero : List AV) (x : Opd) (ev : Opd → AV) (hp : List HObj) : Option (AV × List (Nat × HObj)) := match ev x with
    | .ms id off n sz' => match cellsE hp id with
      | some cs => if sz' = sz ∧ off + n * sz ≤ cs.length then some (.any, [(id, .cells (splice cs off (zrep n zero)))]) else none
      | none => none
    | .mc id off n _ sz' => match cellsE hp id with
      | some cs => if sz' = sz ∧ off + n * sz ≤ cs.length then some (.any, [(id, .cells (splice cs off (zrep n zero)))]) else none
      | none => none
    | _ => none
def sE_appz (sz : Nat) (bytes : Nat) (zero : List AV) (x : Opd) (k : Opd) (ev : Opd → AV) (hp : List HObj) : Option (AV × List (Nat × HObj)) := match natI (ev k) with
    | some m => appE hp hp.length sz bytes (ev x) m (zrep m zero)
    | none => none
def sE_slp (sz : Nat) (ln : Nat) (x : Opd) (lo : Option Opd) (hi : Option Opd) (hmx : Option Opd) (ev : Opd → AV) (hp : List HObj) : Option (AV × List (Nat × HObj)) := match ev x with
    | .ref id off => match cellsE hp id, lowE 0 (lo.map ev), lowE ln (hi.map ev), lowE ln (hmx.map ev) with
      | some cs, some l, some h, some m => if l ≤ h ∧ h ≤ m ∧ m ≤ ln ∧ off + ln * sz ≤ cs.length ∧ (hmx.isNone || hi.isSome) then some (.mc id (off + l * sz) (h - l) (m - l) sz, []) else none
      | _, _, _, _ => none
    | .ptr cs off => match lowE 0 (lo.map ev), lowE ln (hi.map ev) with
      | some l, some h => if hmx.isNone ∧ l ≤ h ∧ h ≤ ln ∧ off + ln * sz ≤ cs.length then some (.sl (decide (h = ln)) (h - l) (view cs (off + l * sz) ((h - l) * sz)), []) else none
      | _, _ => none
    | _ => none
def sE_mkm  (ev : Opd → AV) (hp : List HObj) : Option (AV × List (Nat × HObj)) := some (.mp hp.length, [(hp.length, .mp [] 0)])
def sE_ins (ks : KS) (m : Opd) (k : Opd) (v : Opd) (ev : Opd → AV) (hp : List HObj) : Option (AV × List (Nat × HObj)) := match mpE hp (ev m), keyE ks (ev k) with
    | some (id, es, clk), some kv => match mfind ks kv es 0 with
      | some (some i) => match es[i]? with
        | some e => some (.any, [(id, .mp (es.set i (e.1, e.2.1, ev v)) clk)])
        | none => none
      | some none => some (.any, [(id, .mp (es ++ [(kv, clk, ev v)]) (clk + 1))])
      | none => none
    | _, _ => none
def sE_lku (ks : KS) (zero : AV) (ok : Bool) (m : Opd) (k : Opd) (ev : Opd → AV) (hp : List HObj) : Option (AV × List (Nat × HObj)) := match mpE hp (ev m), keyE ks (ev k) with
    | some (id, es, clk), some kv => match mfind ks kv es 0 with
      | some (some i) => match es[i]? with
        | some e => some (bif ok then .tup [e.2.2, B true] else e.2.2, [])
        | none => none
      | some none => some (bif ok then .tup [zero, B false] else zero, [])
      | none => none
    | _, _ => none
def sE_mpe (ks : KS) (zero : AV) (m : Opd) (k : Opd) (ev : Opd → AV) (hp : List HObj) : Option (AV × List (Nat × HObj)) := match mpE hp (ev m), keyE ks (ev k) with
    | some (id, es, clk), some kv => match mfind ks kv es 0 with
      | some (some i) => match es[i]? with
        | some e => some (.tup [e.2.2, I e.2.1], [])
        | none => none
      | some none => some (.tup [zero, I clk], [(id, .mp (es ++ [(kv, clk, zero)]) (clk + 1))])
      | none => none
    | _, _ => none
def sE_est (m : Opd) (s : Opd) (v : Opd) (ev : Opd → AV) (hp : List HObj) : Option (AV × List (Nat × HObj)) := match mpE hp (ev m), natI (ev s) with
    | some (id, es, clk), some b => match es.findIdx? (fun x => x.2.1 == b) with
      | some i => match es[i]? with
        | some e => if e.2.1 = b then some (.any, [(id, .mp (es.set i (e.1, e.2.1, ev v)) clk)]) else none
        | none => none
      | none => none
    | _, _ => none
def sE_del (ks : KS) (m : Opd) (k : Opd) (ev : Opd → AV) (hp : List HObj) : Option (AV × List (Nat × HObj)) := match mpE hp (ev m), keyE ks (ev k) with
    | some (id, es, clk), some kv => match mfind ks kv es 0 with
      | some (some i) => some (.any, [(id, .mp (es.eraseIdx i) clk)])
      | some none => some (.any, [])
      | none => none
    | _, _ => none
def sE_eqk (neg : Bool) (ks : KS) (x : Opd) (y : Opd) (ev : Opd → AV) (hp : List HObj) : Option (AV × List (Nat × HObj)) := match (ev x).val, (ev y).val with
    | some a, some b => match eqK ks a b with
      | some z => some (B (neg != z), [])
      | none => none
    | _, _ => none

def semE (o : AOp) (ev : Opd → AV) (hp : List HObj) : Option (AV × List (Nat × HObj)) :=
  match o with
  | .mv _ x => sE_mv x ev hp
  | .pick _ c a b => sE_pick c a b ev hp
  | .bin _ op x y => sE_bin op x y ev hp
  | .un _ op x => sE_un op x ev hp
  | .ext _ x i => sE_ext x i ev hp
  | .ld _ agg sz x => sE_ld agg sz x ev hp
  | .st sz a x => sE_st sz a x ev hp
  | .box _ sz x => sE_box sz x ev hp
  | .al _ zero => sE_al zero ev hp
  | .bsl _ n sz zero parts => sE_bsl n sz zero parts ev hp
  | .bld _ zero parts => sE_bld zero parts ev hp
  | .fa _ x off => sE_fa x off ev hp
  | .fld _ agg sz off x => sE_fld agg sz off x ev hp
  | .ia _ sz x i => sE_ia sz x i ev hp
  | .iaa _ ln sz x i => sE_iaa ln sz x i ev hp
  | .idx _ ln agg sz x i => sE_idx ln agg sz x i ev hp
  | .ids _ x i => sE_ids x i ev hp
  | .len _ x => sE_len x ev hp
  | .lns _ x => sE_lns x ev hp
  | .lnm _ x => sE_lnm x ev hp
  | .slc _ sz x lo hi hmx => sE_slc sz x lo hi hmx ev hp
  | .sls _ x lo hi => sE_sls x lo hi ev hp
  | .app _ sz bytes x y => sE_app sz bytes x y ev hp
  | .cpy _ sz x y => sE_cpy sz x y ev hp
  | .mks _ sz bytes zero n c => sE_mks sz bytes zero n c ev hp
  | .cnv _ k x => sE_cnv k x ev hp
  | .mx _ max x y => sE_mx max x y ev hp
  | .nilc _ x => sE_nilc x ev hp
  | .mkf _ f first caps => sE_mkf f first caps ev hp
  | .cap _ x => sE_cap x ev hp
  | .clr sz zero x => sE_clr sz zero x ev hp
  | .appz _ sz bytes zero x k => sE_appz sz bytes zero x k ev hp
  | .slp _ sz ln x lo hi hmx => sE_slp sz ln x lo hi hmx ev hp
  | .mkm _ => sE_mkm  ev hp
  | .ins ks m k v => sE_ins ks m k v ev hp
  | .lku _ ks zero ok m k => sE_lku ks zero ok m k ev hp
  | .mpe _ ks zero m k => sE_mpe ks zero m k ev hp
  | .est m s v => sE_est m s v ev hp
  | .del ks m k => sE_del ks m k ev hp
  | .eqk _ neg ks x y => sE_eqk neg ks x y ev hp
  | _ => none

theorem idxI_eq {x : AV} {n : Nat} (h : idxE x = some n) : ∃ k, x = .v (.int k (n : Int)) := by
  unfold idxE at h
  split at h
  · cases h; exact ⟨_, rfl⟩
  · cases h

theorem all_take {l : List AV} (h : (l.all AV.isPC) = true) (k : Nat) : ((l.take k).all AV.isPC) = true := by
  rw [List.all_eq_true] at *
  exact fun x hx => h x (List.mem_of_mem_take hx)

theorem semE_eq {P : Program} {o : AOp} {ev : Opd → AV} {hp : List HObj} {r : AV} {ws : List (Nat × HObj)} (h : semE o ev hp = some (r, ws)) : o.sem P ev (hpf hp) hp.length r ws := by
  cases o with
  | mv => simp only [semE, sE_mv] at h; cases h; exact ⟨rfl, rfl⟩
  | pick d c a b => simp only [semE, sE_pick] at h; simp only [AOp.sem]; generalize ev c = uc at h ⊢; split at h <;> cases h; exact ⟨rfl, rfl⟩
  | bin d op x y =>
    simp only [semE, sE_bin] at h; simp only [AOp.sem]; generalize ev x = ux at h ⊢; generalize ev y = uy at h ⊢
    split at h
    · split at h
      · rename_i hz; cases h; exact ⟨_, hz, rfl, rfl⟩
      · cases h
    · cases h
  | un d op x =>
    simp only [semE, sE_un] at h; simp only [AOp.sem]; generalize ev x = ux at h ⊢
    split at h
    · split at h
      · rename_i hz; cases h; exact ⟨_, hz, rfl, rfl⟩
      · cases h
    · cases h
  | ext d x i =>
    simp only [semE, sE_ext] at h; simp only [AOp.sem]; generalize ev x = ux at h ⊢
    split at h
    · split at h
      · rename_i hz; cases h; exact ⟨_, hz, rfl, rfl⟩
      · cases h
    · cases h
  | ld d agg sz x =>
    simp only [semE, sE_ld] at h; simp only [AOp.sem, semLd]; generalize ev x = ux at h ⊢
    split at h
    · simp only [Option.map_eq_some_iff] at h
      obtain ⟨y, h1, h2⟩ := h; cases h2
      exact ⟨rfl, aggE_eq h1⟩
    · split at h
      · rename_i cs hcs
        simp only [Option.map_eq_some_iff] at h
        obtain ⟨y, h1, h2⟩ := h; cases h2
        simp only [cellsE_eq hcs]
        exact ⟨trivial, aggE_eq h1⟩
      · cases h
    · cases h
  | st sz a x =>
    simp only [semE, sE_st] at h; simp only [AOp.sem, semSt]; generalize ev a = ua at h ⊢; generalize ev x = ux at h ⊢
    split at h
    · split at h
      · rename_i cs hcs
        split at h
        · rename_i hc; cases h
          simp only [cellsE_eq hcs]
          exact ⟨hc.1, hc.2.1, hc.2.2, trivial, trivial⟩
        · cases h
      · cases h
    · cases h
  | box => simp only [semE, sE_box] at h; split at h <;> first | (rename_i hc; cases h; exact ⟨hc.1, hc.2, rfl, rfl⟩) | cases h
  | al => simp only [semE, sE_al] at h; cases h; exact ⟨rfl, rfl⟩
  | bsl =>
    simp only [semE, sE_bsl] at h
    split at h
    · rename_i ys ids hp1
      split at h
      · rename_i hc; cases h; exact ⟨ys, ids, hp1, hc, rfl, rfl⟩
      · cases h
    · cases h
  | bld => simp only [semE, sE_bld] at h; split at h <;> first | (rename_i hc; cases h; exact ⟨hc, rfl, rfl⟩) | cases h
  | fa d x off => simp only [semE, sE_fa] at h; simp only [AOp.sem]; generalize ev x = ux at h ⊢; split at h <;> cases h <;> exact ⟨rfl, rfl⟩
  | fld d agg sz off x =>
    simp only [semE, sE_fld] at h; simp only [AOp.sem]; generalize ev x = ux at h ⊢
    split at h
    · simp only [Option.map_eq_some_iff] at h
      obtain ⟨y, h1, h2⟩ := h; cases h2
      exact ⟨aggE_eq h1, rfl⟩
    · cases h
  | ia d sz x i =>
    simp only [semE, sE_ia] at h; simp only [AOp.sem]; generalize ev x = ux at h ⊢; generalize ev i = ui at h ⊢
    split at h
    · rename_i hi
      obtain ⟨k, hk⟩ := idxI_eq hi
      split at h
      · rename_i hc; cases h
        rw [hk]
        exact ⟨by omega, by simp, rfl, hc.2⟩
      · cases h
    · rename_i hi
      obtain ⟨k, hk⟩ := idxI_eq hi
      split at h
      · rename_i hc; cases h
        rw [hk]
        exact ⟨by omega, hc.2, by simp, rfl⟩
      · cases h
    · rename_i hi
      obtain ⟨k, hk⟩ := idxI_eq hi
      split at h
      · rename_i hc; cases h
        rw [hk]
        exact ⟨by omega, hc.2, by simp, rfl⟩
      · cases h
    · cases h
  | iaa d ln sz x i =>
    simp only [semE, sE_iaa] at h; simp only [AOp.sem]; generalize ev x = ux at h ⊢; generalize ev i = ui at h ⊢
    split at h
    · rename_i hi
      obtain ⟨k, hk⟩ := idxI_eq hi
      split at h
      · rename_i hc; cases h
        rw [hk]
        exact ⟨by omega, by simp, rfl⟩
      · cases h
    · rename_i hi
      obtain ⟨k, hk⟩ := idxI_eq hi
      split at h
      · rename_i hc; cases h
        rw [hk]
        exact ⟨by omega, by simp, rfl⟩
      · cases h
    · cases h
  | idx d ln agg sz x i =>
    simp only [semE, sE_idx] at h; simp only [AOp.sem]; generalize ev x = ux at h ⊢; generalize ev i = ui at h ⊢
    split at h
    · rename_i hi
      obtain ⟨k, hk⟩ := idxI_eq hi
      split at h
      · rename_i hc
        simp only [Option.map_eq_some_iff] at h
        obtain ⟨y, h1, h2⟩ := h; cases h2
        rw [hk]
        exact ⟨by omega, aggE_eq h1, rfl⟩
      · cases h
    · cases h
  | ids d x i =>
    simp only [semE, sE_ids] at h; simp only [AOp.sem]; generalize ev x = ux at h ⊢; generalize ev i = ui at h ⊢
    split at h
    · rename_i hi
      obtain ⟨k, hk⟩ := idxI_eq hi
      split at h
      · rename_i b hb; cases h
        rw [hk]
        exact ⟨by omega, ⟨b, by simpa using hb, rfl⟩, rfl⟩
      · cases h
    · cases h
  | len d x => simp only [semE, sE_len] at h; simp only [AOp.sem]; generalize ev x = ux at h ⊢; split at h <;> cases h <;> exact ⟨rfl, rfl⟩
  | lns d x => simp only [semE, sE_lns] at h; simp only [AOp.sem]; generalize ev x = ux at h ⊢; split at h <;> cases h <;> exact ⟨rfl, rfl⟩
  | lnm d x =>
    simp only [semE, sE_lnm] at h; simp only [AOp.sem]; generalize ev x = ux at h ⊢
    split at h
    · rename_i hm
      obtain ⟨h1, h2⟩ := mpE_eq hm
      cases h
      simp only [h1, h2]
      first | exact ⟨rfl, rfl⟩ | trivial | simp
    · cases h
  | slc =>
    simp only [semE, sE_slc, Option.map_eq_some_iff] at h
    obtain ⟨y, h1, h2⟩ := h; cases h2
    exact slcE_eq h1
  | sls d x lo hi =>
    simp only [semE, sE_sls] at h; simp only [AOp.sem]; generalize ev x = ux at h ⊢
    split at h
    · split at h
      · rename_i l hh hl hh'
        split at h
        · rename_i hc; cases h
          exact ⟨l, hh, lowE_eq hl, lowE_eq hh', hc.1, hc.2, rfl, rfl⟩
        · cases h
      · cases h
    · cases h
  | app d sz bytes x y =>
    simp only [semE, sE_app] at h; simp only [AOp.sem]; generalize ev x = ux at h ⊢
    split at h
    · rename_i m ys hel
      split at h
      · rename_i hc; exact ⟨m, ys, hel, hc, appE_eq h⟩
      · cases h
    · cases h
  | cpy d sz x y =>
    simp only [semE, sE_cpy] at h; simp only [AOp.sem]; generalize ev x = ux at h ⊢
    split at h
    · rename_i m ys hel
      split at h
      · rename_i hc
        split at h
        · split at h
          · rename_i cs hcs
            split at h
            · rename_i hb; cases h
              exact ⟨m, ys, cs, hel, all_take hc _, cellsE_eq hcs, hb.1, hb.2, rfl, rfl⟩
            · cases h
          · cases h
        · split at h
          · rename_i cs hcs
            split at h
            · rename_i hb; cases h
              exact ⟨m, ys, cs, hel, all_take hc _, cellsE_eq hcs, hb.1, hb.2, rfl, rfl⟩
            · cases h
          · cases h
        · cases h
      · cases h
    · cases h
  | mks =>
    simp only [semE, sE_mks] at h; simp only [AOp.sem]
    split at h
    · rename_i k k' h1 h2
      split at h
      · rename_i hc; cases h
        obtain ⟨rfl, c1, c2, c3⟩ := hc
        exact ⟨k, natI_eq h1, natI_eq h2, c1, c2, c3, rfl, rfl⟩
      · cases h
    · cases h
  | cnv d k x => simp only [semE, sE_cnv] at h; simp only [AOp.sem]; generalize ev x = ux at h ⊢; split at h <;> cases h; exact ⟨rfl, rfl⟩
  | mx d m x y => simp only [semE, sE_mx] at h; simp only [AOp.sem]; generalize ev x = ux at h ⊢; generalize ev y = uy at h ⊢; split at h <;> cases h; exact ⟨rfl, rfl⟩
  | nilc d x => simp only [semE, sE_nilc] at h; simp only [AOp.sem]; generalize ev x = ux at h ⊢; split at h <;> cases h <;> exact ⟨rfl, rfl⟩
  | mkf => simp only [semE, sE_mkf] at h; cases h; exact ⟨rfl, rfl⟩
  | cap d x =>
    simp only [semE, sE_cap] at h; simp only [AOp.sem]; generalize ev x = ux at h ⊢
    split at h
    · split at h
      · rename_i hc; cases h; exact ⟨hc, rfl, rfl⟩
      · cases h
    · cases h; exact ⟨rfl, rfl⟩
    · cases h
  | clr sz z x =>
    simp only [semE, sE_clr] at h; simp only [AOp.sem]; generalize ev x = ux at h ⊢
    split at h
    · split at h
      · rename_i cs hcs
        split at h
        · rename_i hc; cases h; exact ⟨cs, cellsE_eq hcs, hc.1, hc.2, rfl, rfl⟩
        · cases h
      · cases h
    · split at h
      · rename_i cs hcs
        split at h
        · rename_i hc; cases h; exact ⟨cs, cellsE_eq hcs, hc.1, hc.2, rfl, rfl⟩
        · cases h
      · cases h
    · cases h
  | appz =>
    simp only [semE, sE_appz] at h; simp only [AOp.sem]
    split at h
    · rename_i m hm; exact ⟨m, natI_eq hm, appE_eq h⟩
    · cases h
  | slp d sz ln x lo hi hmx =>
    simp only [semE, sE_slp] at h; simp only [AOp.sem]; generalize ev x = ux at h ⊢
    split at h
    · split at h
      · rename_i cs l hh m hcs hl hh' hm
        split at h
        · rename_i hc; cases h
          obtain ⟨c1, c2, c3, c4, c5⟩ := hc
          simp only [cellsE_eq hcs]
          refine ⟨l, hh, m, lowE_eq hl, lowE_eq hh', ?_, c1, c2, c3, c4, rfl, trivial⟩
          have := lowE_eq hm
          cases hmx with
          | none => exact this
          | some y => simp at c5; exact ⟨this, by simpa using c5⟩
        · cases h
      · cases h
    · split at h
      · rename_i l hh hl hh'
        split at h
        · rename_i hc; cases h
          obtain ⟨c1, c2, c3, c4⟩ := hc
          exact ⟨l, hh, lowE_eq hl, lowE_eq hh', by simpa using c1, c2, c3, c4, rfl, rfl⟩
        · cases h
      · cases h
    · cases h
  | mkm => simp only [semE, sE_mkm] at h; cases h; exact ⟨rfl, rfl⟩
  | ins =>
    simp only [semE, sE_ins] at h; simp only [AOp.sem]
    split at h
    · rename_i id es clk kv hm hk
      obtain ⟨h1, h2⟩ := mpE_eq hm
      obtain ⟨k1, k2⟩ := keyE_eq hk
      simp only [h1, h2]
      split at h
      · rename_i i hf
        split at h
        · rename_i e he; cases h; exact ⟨kv, k1, k2, rfl, .inl ⟨i, e, hf, he, rfl⟩⟩
        · cases h
      · rename_i hf; cases h; exact ⟨kv, k1, k2, rfl, .inr ⟨hf, rfl⟩⟩
      · cases h
    · cases h
  | lku =>
    simp only [semE, sE_lku] at h; simp only [AOp.sem]
    split at h
    · rename_i id es clk kv hm hk
      obtain ⟨h1, h2⟩ := mpE_eq hm
      obtain ⟨k1, k2⟩ := keyE_eq hk
      simp only [h1, h2]
      split at h
      · rename_i i hf
        split at h
        · rename_i e he; cases h; exact ⟨kv, k1, k2, rfl, .inl ⟨i, e, hf, he, rfl⟩⟩
        · cases h
      · rename_i hf; cases h; exact ⟨kv, k1, k2, rfl, .inr ⟨hf, rfl⟩⟩
      · cases h
    · cases h
  | mpe =>
    simp only [semE, sE_mpe] at h; simp only [AOp.sem]
    split at h
    · rename_i id es clk kv hm hk
      obtain ⟨h1, h2⟩ := mpE_eq hm
      obtain ⟨k1, k2⟩ := keyE_eq hk
      simp only [h1, h2]
      split at h
      · rename_i i hf
        split at h
        · rename_i e he; cases h; exact ⟨kv, k1, k2, .inl ⟨i, e, hf, he, rfl, rfl⟩⟩
        · cases h
      · rename_i hf; cases h; exact ⟨kv, k1, k2, .inr ⟨hf, rfl, rfl⟩⟩
      · cases h
    · cases h
  | est =>
    simp only [semE, sE_est] at h; simp only [AOp.sem]
    split at h
    · rename_i id es clk b hm hk
      obtain ⟨h1, h2⟩ := mpE_eq hm
      simp only [h1, h2]
      split at h
      · rename_i i hf
        split at h
        · rename_i e he
          split at h
          · rename_i hb; cases h
            exact ⟨i, e, by rw [hb]; exact natI_eq hk, by rw [hb]; exact hf, he, rfl, rfl⟩
          · cases h
        · cases h
      · cases h
    · cases h
  | del =>
    simp only [semE, sE_del] at h; simp only [AOp.sem]
    split at h
    · rename_i id es clk kv hm hk
      obtain ⟨h1, h2⟩ := mpE_eq hm
      obtain ⟨k1, k2⟩ := keyE_eq hk
      simp only [h1, h2]
      split at h
      · rename_i i hf; cases h; exact ⟨kv, k1, k2, rfl, .inl ⟨i, hf, rfl⟩⟩
      · rename_i hf; cases h; exact ⟨kv, k1, k2, rfl, .inr ⟨hf, rfl⟩⟩
      · cases h
    · cases h
  | eqk =>
    simp only [semE, sE_eqk] at h; simp only [AOp.sem]
    split at h
    · rename_i a b ha hb
      split at h
      · rename_i z hz; cases h; exact ⟨a, b, z, ha, hb, hz, rfl, rfl⟩
      · cases h
    · cases h
  | _ => simp [semE] at h

end Go.AM

/- THE EVALUATOR, PART 2: regions, code, calls; what it finds holds of the machine. Own work. -/
set_option linter.unusedSimpArgs false
set_option linter.unusedVariables false
namespace Go.AM
open Go.RowKit

/-! ### Values made plain before they are passed on (for the kernel) -/
section
variable {β : Type}
def fNat (n : Nat) (k : Nat → β) : β := match n with
  | 0 => k 0
  | m + 1 => k (m + 1)
theorem fNat_eq (n : Nat) (k : Nat → β) : fNat n k = k n := by cases n <;> rfl
def fInt (n : Int) (k : Int → β) : β := match n with
  | .ofNat m => fNat m fun m => k (.ofNat m)
  | .negSucc m => fNat m fun m => k (.negSucc m)
theorem fInt_eq (n : Int) (k : Int → β) : fInt n k = k n := by cases n <;> simp only [fInt, fNat_eq]
def fBool (b : Bool) (k : Bool → β) : β := match b with
  | true => k true
  | false => k false
theorem fBool_eq (b : Bool) (k : Bool → β) : fBool b k = k b := by cases b <;> rfl
def fKind (x : IntKind) (k : IntKind → β) : β := match x with
  | .i64 => k .i64
  | .u64 => k .u64
  | .u8 => k .u8
  | x => k x
theorem fKind_eq (x : IntKind) (k : IntKind → β) : fKind x k = k x := by cases x <;> rfl
def fVal (x : Value) (k : Value → β) : β := match x with
  | .int kd n => fKind kd fun kd => fInt n fun n => k (.int kd n)
  | .bool b => fBool b fun b => k (.bool b)
  | x => k x
theorem fVal_eq (x : Value) (k : Value → β) : fVal x k = k x := by cases x <;> simp only [fVal, fKind_eq, fInt_eq, fBool_eq]
def fList {α : Type} (f : α → (α → β) → β) : List α → (List α → β) → β
  | [], k => k []
  | a :: as, k => f a fun a => fList f as fun as => k (a :: as)
theorem fList_eq {α : Type} {f : α → (α → β) → β} (hf : ∀ a k, f a k = k a) : ∀ (l : List α) (k : List α → β), fList f l k = k l
  | [], k => rfl
  | a :: as, k => by simp only [fList, hf, fList_eq hf as]
def fAV : Nat → AV → (AV → β) → β
  | 0 => fun x k => k x
  | d + 1 => fun x k => match x with
    | .v y => fVal y fun y => k (.v y)
    | .sl f n cs => fBool f fun f => fNat n fun n => fList (fAV d) cs fun cs => k (.sl f n cs)
    | .agg cs => fList (fAV d) cs fun cs => k (.agg cs)
    | .tup cs => fList (fAV d) cs fun cs => k (.tup cs)
    | .ptr cs o => fNat o fun o => fList (fAV d) cs fun cs => k (.ptr cs o)
    | .ref i o => fNat i fun i => fNat o fun o => k (.ref i o)
    | .ms i o n z => fNat i fun i => fNat o fun o => fNat n fun n => fNat z fun z => k (.ms i o n z)
    | .mc i o n c z => fNat i fun i => fNat o fun o => fNat n fun n => fNat c fun c => fNat z fun z => k (.mc i o n c z)
    | .fn f as bs => fList (fAV d) as fun as => fList (fAV d) bs fun bs => k (.fn f as bs)
    | .mp i => fNat i fun i => k (.mp i)
    | .yl i => fNat i fun i => k (.yl i)
    | .any => k .any
theorem fAV_eq : ∀ (d : Nat) (x : AV) (k : AV → β), fAV d x k = k x
  | 0, x, k => rfl
  | d + 1, x, k => by cases x <;> simp only [fAV, fVal_eq, fBool_eq, fNat_eq, fList_eq (fAV_eq d)]
def fObj (x : HObj) (k : HObj → β) : β := match x with
  | .cells cs => fList (fAV 4) cs fun cs => k (.cells cs)
  | .mp es c => fList (fun e k => fNat e.2.1 fun b => fAV 4 e.2.2 fun x => k (e.1, b, x)) es fun es => fNat c fun c => k (.mp es c)
  | .it m s l c => fNat m fun m => fNat s fun s => fList fNat l fun l => fNat c fun c => k (.it m s l c)
  | .lp s m => k (.lp s m)
  | .gone => k .gone
theorem fObj_eq (x : HObj) (k : HObj → β) : fObj x k = k x := by
  cases x with
  | cells cs => simp only [fObj, fList_eq (fAV_eq 4)]
  | mp es c => simp only [fObj]; rw [fList_eq (fun a k => by simp only [fNat_eq, fAV_eq])]; rw [fNat_eq]
  | it m s l c => simp only [fObj, fNat_eq, fList_eq fNat_eq]
  | lp => rfl
  | gone => rfl
def fWs (ws : List (Nat × HObj)) (k : List (Nat × HObj) → β) : β := fList (fun p k => fNat p.1 fun i => fObj p.2 fun o => k (i, o)) ws k
theorem fWs_eq (ws : List (Nat × HObj)) (k : List (Nat × HObj) → β) : fWs ws k = k ws := by
  simp only [fWs]; exact fList_eq (fun a k => by simp only [fNat_eq, fObj_eq]) ws k
def fSpine {α : Type} (l : List α) (k : List α → β) : β := fList (fun a k => k a) l k
theorem fSpine_eq {α : Type} (l : List α) (k : List α → β) : fSpine l k = k l := fList_eq (fun _ _ => rfl) l k
def stepE (st : St) (d : Option Nat) (r : AV) (ws : List (Nat × HObj)) (k : St → β) : β := fAV 6 r fun r => match ws with
  | [] => k { fr := frPut st.fr d r, hp := st.hp }
  | ws => fWs ws fun ws => fSpine (writeL st.hp ws) fun hp => k { fr := frPut st.fr d r, hp := hp }
theorem stepE_eq (st : St) (d : Option Nat) (r : AV) (ws : List (Nat × HObj)) (k : St → β) : stepE st d r ws k = k (st.step d r ws) := by
  simp only [stepE, fAV_eq]
  cases ws with
  | nil => rfl
  | cons a l => simp only [fWs_eq, fSpine_eq]; rfl
def fKeep (fr : List (Nat × AV)) : List Nat → (List (Nat × AV) → β) → β
  | [], k => k []
  | t :: ts, k => fAV 6 (get fr t) fun x => fKeep fr ts fun l => k ((t, x) :: l)
theorem fKeep_eq (fr : List (Nat × AV)) : ∀ (ks : List Nat) (k : List (Nat × AV) → β), fKeep fr ks k = k (ks.map fun t => (t, get fr t))
  | [], k => rfl
  | t :: ts, k => by simp only [fKeep, fAV_eq, fKeep_eq fr ts, List.map_cons]
def keepE (st : St) (ks : List Nat) (k : St → β) : β := fKeep st.fr ks fun fr => k { fr := fr, hp := st.hp }
theorem keepE_eq (st : St) (ks : List Nat) (k : St → β) : keepE st ks k = k (st.keep ks) := by simp only [keepE, fKeep_eq]; rfl
end

/-! ### All of several -/
def allE {α β : Type} (f : α → Option (List β)) : List α → Option (List β)
  | [] => some []
  | a :: as => match f a with
    | some x => match as with
      | [] => some x
      | _ => match allE f as with
        | some y => some (x ++ y)
        | none => none
    | none => none

theorem allE_mem {α β : Type} {f : α → Option (List β)} : ∀ {as : List α} {l : List β}, allE f as = some l → ∀ a ∈ as, ∃ la, f a = some la ∧ ∀ b ∈ la, b ∈ l
  | [], l, h, a, ha => by simp at ha
  | x :: as, l, h, a, ha => by
    simp only [allE] at h
    split at h
    · rename_i y hy
      split at h
      · cases h
        simp at ha; subst ha
        exact ⟨_, hy, fun b hb => hb⟩
      · split at h
        · rename_i z hz
          cases h
          rcases List.mem_cons.1 ha with rfl | ha
          · exact ⟨y, hy, fun b hb => List.mem_append_left _ hb⟩
          · obtain ⟨la, h1, h2⟩ := allE_mem hz a ha
            exact ⟨la, h1, fun b hb => List.mem_append_right _ (h2 b hb)⟩
        · cases h
    · cases h

/-! ### Operations with several outcomes -/
def manyE (o : AOp) (ev : Opd → AV) (hp : List HObj) : Option (List (AV × List (Nat × HObj))) :=
  match o with
  | .rng _ x => match mpE hp (ev x) with
    | some (id, _, clk) => some [(.ref hp.length 0, [(hp.length, .it id clk [] clk)])]
    | none => none
  | .nxt _ x => match ev x with
    | .ref id 0 => match hp[id]? with
      | some (.it m since seen last) => match mpE hp (.mp m) with
        | some (_, es, clk) => if (seen.isEmpty || es.isEmpty || !es.all (fun e => decide (last ≤ e.2.1))) = true then
            some ((if (es.filter fun e => !seen.contains e.2.1 && decide (e.2.1 < since)).isEmpty then [(.tup [B false], [])] else []) ++
              (es.filter fun e => !seen.contains e.2.1).map fun e => (.tup [B true, AV.ofValue e.1, e.2.2], [(id, .it m since (seen ++ [e.2.1]) clk)]))
          else none
        | none => none
      | _ => none
    | _ => none
  | .ent _ x => match ev x with
    | .ref id 0 => match hp[id]? with
      | some (.it m _ seen stepped) => match mpE hp (.mp m) with
        | some (_, es, clk) => if clk = stepped then (match seen.getLast? with
          | some b => match es.find? (fun e => e.2.1 == b) with
            | some e => some [(.tup [AV.ofValue e.1, e.2.2], [])]
            | none => none
          | none => none) else none
        | none => none
      | _ => none
    | _ => none
  | .isn _ neg kd x => match kd, ev x with
    | 0, .sl _ _ [] => some [(B false, []), (B true, [])]
    | 0, .sl _ _ (_ :: _) => some [(B neg, [])]
    | 0, .ms _ _ n _ => if n = 0 then some [(B false, []), (B true, [])] else some [(B neg, [])]
    | 1, .ptr .. | 1, .ref .. | 2, .mp _ | 3, .fn .. => some [(B neg, [])]
    | 1, .v (.pointer none) | 2, .v (.map none) | 3, .v .nilFunc => some [(B !neg, [])]
    | _, _ => none
  | _ => none

theorem manyE_eq {o : AOp} {ev : Opd → AV} {hp : List HObj} {l : List (AV × List (Nat × HObj))} (h : manyE o ev hp = some l) : o.many ev (hpf hp) hp.length fun r ws => (r, ws) ∈ l := by
  cases o with
  | rng d x =>
    simp only [manyE] at h; simp only [AOp.many]
    split at h
    · rename_i hm
      obtain ⟨h1, h2⟩ := mpE_eq hm
      cases h
      simp only [h1, h2]
      simp
    · cases h
  | nxt d x =>
    simp only [manyE] at h; simp only [AOp.many]
    generalize ev x = u at h ⊢
    split at h
    · rename_i id
      split at h
      · rename_i m since seen last hid
        split at h
        · rename_i es clk hm
          obtain ⟨h1, h2⟩ := mpE_eq hm
          cases h1
          have hid' : hpf hp id = some (.it m since seen last) := hid
          simp only [hid', h2]
          split at h
          · rename_i hc
            cases h
            refine ⟨hc, fun hz => by rw [if_pos hz]; simp, fun e he hs => ?_⟩
            rw [List.mem_append]
            refine .inr (List.mem_map.2 ⟨e, List.mem_filter.2 ⟨he, by simpa using hs⟩, rfl⟩)
          · cases h
        · cases h
      · cases h
    · cases h
  | ent d x =>
    simp only [manyE] at h; simp only [AOp.many]
    generalize ev x = u at h ⊢
    split at h
    · rename_i id
      split at h
      · rename_i m since seen last hid
        split at h
        · rename_i es clk hm
          obtain ⟨h1, h2⟩ := mpE_eq hm
          cases h1
          have hid' : hpf hp id = some (.it m since seen last) := hid
          simp only [hid', h2]
          split at h
          · rename_i hc
            split at h
            · rename_i b hb
              split at h
              · rename_i e he
                cases h
                exact ⟨hc, b, e, hb, he, by simp⟩
              · cases h
            · cases h
          · cases h
        · cases h
      · cases h
    · cases h
  | isn d neg kd x =>
    simp only [manyE] at h; simp only [AOp.many]
    generalize ev x = u at h ⊢
    split at h
    · cases h; simp
    · cases h; simp
    · split at h
      · rename_i h0; cases h; simp [h0]
      · rename_i h0; cases h; simp [h0]
    all_goals first | (cases h; simp; done) | cases h
  | _ => simp [manyE] at h

/-! ### What is handed in -/
/-- What is known of functions: pure ones, and those that make a list. -/
inductive PR where
  | val (r : AV)
  | made (m sz : Nat) (cs : List AV)

def PRok (P : Program) (f : FuncId) (ys : List AV) : PR → Prop
  | .val r => PureOK P f ys r
  | .made m sz cs => MadeOK P f ys m sz cs

structure Hands where
  C : FuncId → List AV → List HObj → Option (List (AV × List HObj))
  CP : FuncId → List AV → Option PR
  X : FuncId → List AV → List HObj → Option AV
  Y : Nat → List AV → List HObj → Option (List (AV × List HObj))
  R : AV → List HObj → (List AV → List HObj → Option (List (AV × List HObj))) → Option (List (List HObj))
  fok : FuncId → Bool

/-! ### Operations in the text's order -/
def opC (H : Hands) (d : Nat) (f : FuncId) (xs : List AV) (st : St) : Option (List St) := (H.C f xs st.hp).map fun l => l.map fun p => { fr := (d, p.1) :: st.fr, hp := p.2 }
def opY (H : Hands) (d id : Nat) (xs : List AV) (st : St) : Option (List St) := (H.Y id xs st.hp).map fun l => l.map fun p => { fr := (d, p.1) :: st.fr, hp := p.2 }
def opX (H : Hands) (d : Nat) (f : FuncId) (xs : List AV) (st : St) : Option (List St) := (H.X f xs st.hp).map fun r => [{ fr := (d, r) :: st.fr, hp := st.hp }]
def opV (H : Hands) (d : Nat) (x : AV) (xs : List AV) (st : St) : Option (List St) := match x with
  | .fn (.func f) first caps => if H.fok f then opC H d f (first ++ xs ++ caps) st else none
  | .yl id => opY H d id xs st
  | _ => none
def opM (o : AOp) (st : St) : Option (List St) := (manyE o (evF (get st.fr)) st.hp).map fun l => l.map fun p => stepE st o.dst p.1 p.2 fun st => st
def opG (o : AOp) (st : St) : Option (List St) := match semE o (evF (get st.fr)) st.hp with
  | some (r, ws) => stepE st o.dst r ws fun st => some [st]
  | none => none
def opE (H : Hands) (o : AOp) (st : St) : Option (List St) :=
  match o with
  | .call d f args => opC H d f (args.map (evF (get st.fr))) st
  | .callx d f args => opX H d f (args.map (evF (get st.fr))) st
  | .callv d x args => opV H d (evF (get st.fr) x) (args.map (evF (get st.fr))) st
  | .rng .. | .nxt .. | .ent .. | .isn .. => opM o st
  | o => opG o st

def opsE (H : Hands) : List AOp → St → Option (List St)
  | [], st => some [st]
  | o :: os, st => match opE H o st with
    | some l => allE (opsE H os) l
    | none => none

def grpsE (H : Hands) : List Grp → St → Option (List St)
  | [], st => some [st]
  | ⟨none, os⟩ :: gs, st => match opsE H os st with
    | some l => allE (grpsE H gs) l
    | none => none
  | ⟨some (j, b), os⟩ :: gs, st => match get st.fr j with
    | .v (.bool c) => if c = b then (match opsE H os st with
        | some l => allE (grpsE H gs) l
        | none => none) else grpsE H gs (undefs os st)
    | .v (.tuple _) => grpsE H gs (undefs os st)
    | _ => none

/-! ### Operations that draw their order -/
def dopC (H : Hands) (f : FuncId) (xs : List AV) (hp : List HObj) : Option (AV × List (Nat × HObj)) := match purifyAll (hpf hp) xs with
  | some (ys, ids) => match H.CP f ys with
    | some (.val r) => some (r, bif r.scalar then [] else gones ids)
    | some (.made m sz cs) => some (.ms hp.length 0 m sz, gones ids ++ [(hp.length, .cells cs)])
    | none => none
  | none => none
def dopE (H : Hands) (o : AOp) (st : St) : Option (AV × List (Nat × HObj)) :=
  match o with
  | .call _ f args => dopC H f (args.map (evF (get st.fr))) st.hp
  | o => semE o (evF (get st.fr)) st.hp

def dopsE (H : Hands) : List AOp → St → Tr → Option (St × Tr)
  | [], st, tr => some (st, tr)
  | o :: os, st, tr => match dopE H o st with
    | some (r, ws) => stepE st o.dst r ws fun st' => dopsE H os st' (tr ++ [(o.foot (get st.fr), ws.map (·.1))])
    | none => none

def dgrpsE (H : Hands) : List Grp → St → Tr → Option (St × Tr)
  | [], st, tr => some (st, tr)
  | ⟨none, os⟩ :: gs, st, tr => match dopsE H os st tr with
    | some (st, tr) => dgrpsE H gs st tr
    | none => none
  | ⟨some (j, b), os⟩ :: gs, st, tr => match get st.fr j with
    | .v (.bool c) => if c = b then (match dopsE H os st tr with
        | some (st, tr) => dgrpsE H gs st tr
        | none => none) else dgrpsE H gs (undefs os st) (tr ++ os.map fun _ => ([], []))
    | .v (.tuple _) => dgrpsE H gs (undefs os st) (tr ++ os.map fun _ => ([], []))
    | _ => none

/-! ### Code -/
/-- A loop, so many rounds at most. -/
def loopE (body : St → Option (List (Exit × St))) : Nat → St → Option (List (Exit × St))
  | 0, _ => none
  | n + 1, st => match body st with
    | some l => allE (fun p => match p with
      | (.normal, st) => loopE body n st
      | p => some [p]) l
    | none => none

def lpE (hp : List HObj) (id : Nat) : Option (LpSt × Nat) := match hp[id]? with
  | some (.lp s mk) => some (s, mk)
  | _ => none
theorem lpE_eq {hp : List HObj} {id s mk} (h : lpE hp id = some (s, mk)) : hpf hp id = some (.lp s mk) := by
  unfold lpE at h
  split at h
  · rename_i h1; cases h; exact h1
  · cases h

def isReady : Option (LpSt × Nat) → Nat → Bool
  | some (.ready, mk), n => mk == n
  | _, _ => false
def isBusy : Option (LpSt × Nat) → Nat → Bool
  | some (.busy, mk), n => mk == n
  | _, _ => false

def roundE (id : Nat) : Exit × St → Option (List (AV × List HObj))
  | (.normal, st) => if isBusy (lpE st.hp id) (id + 1) then some [(B true, setL st.hp id (.lp .ready (id + 1)))] else none
  | (.ret, st) => if isBusy (lpE st.hp id) (id + 1) then some [(B false, setL st.hp id (.lp (.done none) (id + 1)))] else none
  | (.exit e, st) => if isBusy (lpE st.hp id) (id + 1) then some [(B false, setL st.hp id (.lp (.done (some e)) (id + 1)))] else none
  | _ => none

def rfEndE (id : Nat) (fr : List (Nat × AV)) (ks : List Nat) (hp : List HObj) : Option (List (Exit × St)) := match lpE hp id with
  | some (.ready, _) => some [(.normal, St.keep { fr := fr, hp := setL hp id .gone } ks)]
  | some (.done none, _) => some [(.ret, { fr := fr, hp := setL hp id .gone })]
  | some (.done (some e), _) => some [(.exit e, { fr := fr, hp := setL hp id .gone })]
  | _ => none

def rfE1 (H : Hands) (fx fy : St → Option (List (Exit × St))) (g : AV) (ps ks : List Nat) (st : St) : Option (List (Exit × St)) := match H.R g st.hp (fun xs hp =>
      if isReady (lpE hp st.hp.length) (st.hp.length + 1) ∧ xs.length = ps.length then (match fx { fr := putPs ps xs st.fr, hp := hp } with
        | some l => allE (fun p => match p.1 with
          | .normal => if isReady (lpE p.2.hp st.hp.length) (st.hp.length + 1) then (match fy { fr := p.2.fr, hp := setL p.2.hp st.hp.length (.lp .busy (st.hp.length + 1)) } with
            | some l => allE (roundE st.hp.length) l
            | none => none) else none
          | _ => none) l
        | none => none) else none) with
    | some l => allE (rfEndE st.hp.length st.fr ks) l
    | none => none

def acE (H : Hands) (n : Nat) : AC → St → Option (List (Exit × St))
  | .skip, st => some [(.normal, st)]
  | .rgn gs ks, st => (grpsE H gs st).map fun l => l.map fun st => keepE st ks fun st => (.normal, st)
  | .drw gs un ks, st => match dgrpsE H gs st [] with
    | some (st, tr) => if compat tr un then keepE st ks fun st => some [(.normal, st)] else none
    | none => none
  | .seq x y, st => match acE H n x st with
    | some l => allE (fun p => match p with
      | (.normal, st) => acE H n y st
      | p => some [p]) l
    | none => none
  | .cond c x y, st => match evF (get st.fr) c with
    | .v (.bool t) => if t then acE H n x st else acE H n y st
    | _ => none
  | .block id x, st => (acE H n x st).map fun l => l.map fun p => match p.1 with
    | .exit id' => if id' = id then (.normal, p.2) else p
    | _ => p
  | .loop x, st => loopE (acE H n x) n st
  | .exit id, st => some [(.exit id, st)]
  | .ret, st => some [(.ret, st)]
  | .label _, st => some [(.normal, st)]
  | .scope x, st => match acE H n x st with
    | some l => if l.all (fun p => match p.1 with | .goto _ => false | _ => true) then some l else none
    | none => none
  | .rf g ps x y ks, st => rfE1 H (fun st => acE H n x st) (fun st => acE H n y st) (evF (get st.fr) g) ps ks st
  | .dead, _ => none

/-! ### Soundness -/
section
variable {P : Program} {E : HE} {H : Hands}

structure HOK (P : Program) (E : HE) (H : Hands) : Prop where
  C : ∀ f xs hp l, H.C f xs hp = some l → CallW P f xs hp fun r hp' => (r, hp') ∈ l
  CP : ∀ f ys q, H.CP f ys = some q → PRok P f ys q
  X : ∀ f xs hp r, H.X f xs hp = some r → ExtOK P f xs (hpf hp) r
  Y : ∀ id xs hp l, H.Y id xs hp = some l → ∃ K0, E.Y id xs hp K0 ∧ ∀ r hp', K0 r hp' → (r, hp') ∈ l
  R : ∀ v hp G l, H.R v hp G = some l → ∀ G' : List AV → List HObj → (AV → List HObj → Prop) → Prop, (∀ xs hp' l', G xs hp' = some l' → ∃ K0, G' xs hp' K0 ∧ ∀ r hp'', K0 r hp'' → (r, hp'') ∈ l') → ∃ K0, E.R v hp G' K0 ∧ ∀ hp', K0 hp' → hp' ∈ l
  fok : ∀ f, H.fok f = true → funOK P f = true

theorem callW_mono {f xs hp} {K K' : AV → List HObj → Prop} (hk : ∀ r hp', K r hp' → K' r hp') (h : CallW P f xs hp K) : CallW P f xs hp K' := fun ro n w g vs h1 h2 h3 =>
  (h ro n w g vs h1 h2 h3).mono fun e w' ⟨v, r, hp', g', e1, e2, e3⟩ => ⟨v, r, hp', g', e1, hk _ _ e2, e3⟩

theorem opE_sound (ok : HOK P E H) {o : AOp} {st : St} {l : List St} (h : opE H o st = some l) : aop P E o st fun st' => st' ∈ l := by
  have gen : ∀ {o' : AOp}, (match semE o' (evF (get st.fr)) st.hp with
      | some (r, ws) => stepE st o'.dst r ws fun st => some [st]
      | none => none) = some l → ∃ r ws, o'.sem P (evF (get st.fr)) (hpf st.hp) st.hp.length r ws ∧ st.step o'.dst r ws ∈ l := fun {o'} h => by
    split at h
    · rename_i r ws hs; rw [stepE_eq] at h; cases h
      exact ⟨r, ws, semE_eq hs, by simp⟩
    · cases h
  have calls : ∀ {d : Nat} {f xs}, ((H.C f xs st.hp).map fun l => l.map fun p => ({ fr := (d, p.1) :: st.fr, hp := p.2 } : St)) = some l → CallW P f xs st.hp fun r hp' => ({ fr := (d, r) :: st.fr, hp := hp' } : St) ∈ l := fun {d f xs} h => by
    simp only [Option.map_eq_some_iff] at h
    obtain ⟨l', h1, rfl⟩ := h
    exact callW_mono (fun r hp' hm => List.mem_map.2 ⟨_, hm, rfl⟩) (ok.C _ _ _ _ h1)
  have many : ∀ {o' : AOp}, ((manyE o' (evF (get st.fr)) st.hp).map fun l => l.map fun p => stepE st o'.dst p.1 p.2 fun st => st) = some l → o'.many (evF (get st.fr)) (hpf st.hp) st.hp.length fun r ws => st.step o'.dst r ws ∈ l := fun {o'} h => by
    simp only [Option.map_eq_some_iff] at h
    obtain ⟨l', h1, rfl⟩ := h
    exact many_mono (fun r ws hm => List.mem_map.2 ⟨_, hm, stepE_eq ..⟩) (manyE_eq h1)
  cases o with
  | call d f args => exact calls h
  | callx d f args =>
    simp only [opE, opX, Option.map_eq_some_iff] at h
    obtain ⟨r, h1, rfl⟩ := h
    exact ⟨r, ok.X _ _ _ _ h1, by simp⟩
  | callv d x args =>
    simp only [opE, opV] at h
    simp only [aop]
    generalize evF (get st.fr) x = u at h ⊢
    split at h
    · split at h
      · rename_i hf; exact ⟨ok.fok _ hf, calls h⟩
      · cases h
    · simp only [opY, Option.map_eq_some_iff] at h
      obtain ⟨l', h1, rfl⟩ := h
      obtain ⟨K0, k1, k2⟩ := ok.Y _ _ _ _ h1
      exact ⟨K0, k1, fun r hp' hk => List.mem_map.2 ⟨_, k2 r hp' hk, rfl⟩⟩
    · cases h
  | rng d x => exact many (o' := .rng d x) h
  | nxt d x => exact many (o' := .nxt d x) h
  | ent d x => exact many (o' := .ent d x) h
  | isn d b kd x => exact many (o' := .isn d b kd x) h
  | _ => exact gen h

theorem opsE_sound (ok : HOK P E H) : ∀ {os : List AOp} {st : St} {l : List St}, opsE H os st = some l → aops P E os st fun st' => st' ∈ l
  | [], st, l, h => by simp [opsE] at h; subst h; simp [aops]
  | o :: os, st, l, h => by
    simp only [opsE] at h
    split at h
    · rename_i l1 h1
      refine aop_mono (fun st1 _ hm => ?_) (opE_sound ok h1)
      obtain ⟨la, h2, h3⟩ := allE_mem h st1 hm
      exact aops_mono (fun st' hst => h3 st' hst) (opsE_sound ok h2)
    · cases h

theorem agrps_mono : ∀ {gs : List Grp} {st : St} {K K' : St → Prop}, (∀ st', K st' → K' st') → agrps P E gs st K → agrps P E gs st K'
  | [], st, K, K', hk, h => hk st h
  | ⟨none, os⟩ :: gs, st, K, K', hk, h => aops_mono (fun st' h => agrps_mono hk h) h
  | ⟨some (j, b), os⟩ :: gs, st, K, K', hk, h => by
    simp only [agrps] at h ⊢
    split at h
    · exact ⟨fun e => aops_mono (fun st' h => agrps_mono hk h) (h.1 e), fun e => agrps_mono hk (h.2 e)⟩
    · exact agrps_mono hk h
    · exact h.elim

theorem grpsE_sound (ok : HOK P E H) : ∀ {gs : List Grp} {st : St} {l : List St}, grpsE H gs st = some l → agrps P E gs st fun st' => st' ∈ l
  | [], st, l, h => by simp [grpsE] at h; subst h; simp [agrps]
  | ⟨none, os⟩ :: gs, st, l, h => by
    simp only [grpsE] at h
    split at h
    · rename_i l1 h1
      refine aops_mono (fun st1 hm => ?_) (opsE_sound ok h1)
      obtain ⟨la, h2, h3⟩ := allE_mem h st1 hm
      exact agrps_mono (fun st' hst => h3 st' hst) (grpsE_sound ok h2)
    · cases h
  | ⟨some (j, b), os⟩ :: gs, st, l, h => by
    simp only [grpsE] at h
    simp only [agrps]
    generalize get st.fr j = u at h ⊢
    split at h
    · rename_i c
      split at h
      · rename_i e
        refine ⟨fun _ => ?_, fun hne => absurd e hne⟩
        split at h
        · rename_i l1 h1
          refine aops_mono (fun st1 hm => ?_) (opsE_sound ok h1)
          obtain ⟨la, h2, h3⟩ := allE_mem h st1 hm
          exact agrps_mono (fun st' hst => h3 st' hst) (grpsE_sound ok h2)
        · cases h
      · rename_i e
        exact ⟨fun h' => absurd h' e, fun _ => grpsE_sound ok h⟩
    · exact grpsE_sound ok h
    · cases h

theorem dopE_sound (ok : HOK P E H) {o : AOp} {st : St} {r : AV} {ws : List (Nat × HObj)} (h : dopE H o st = some (r, ws)) : o.sem P (evF (get st.fr)) (hpf st.hp) st.hp.length r ws := by
  cases o with
  | call d f args =>
    simp only [dopE, dopC] at h
    split at h
    · rename_i ys ids hp1
      split at h
      · rename_i q hq; cases h
        exact ⟨ys, ids, hp1, .inl ⟨ok.CP _ _ _ hq, rfl⟩⟩
      · rename_i m sz cs hq; cases h
        exact ⟨ys, ids, hp1, .inr ⟨m, sz, cs, ok.CP _ _ _ hq, rfl, rfl⟩⟩
      · cases h
    · cases h
  | _ => exact semE_eq h

theorem dops_mono : ∀ {os : List AOp} {st : St} {tr : Tr} {K K' : St → Tr → Prop}, (∀ st' tr', K st' tr' → K' st' tr') → dops P os st tr K → dops P os st tr K'
  | [], st, tr, K, K', hk, h => hk _ _ h
  | o :: os, st, tr, K, K', hk, ⟨r, ws, h1, h2⟩ => ⟨r, ws, h1, dops_mono hk h2⟩

theorem dgrps_mono : ∀ {gs : List Grp} {st : St} {tr : Tr} {K K' : St → Tr → Prop}, (∀ st' tr', K st' tr' → K' st' tr') → dgrps P gs st tr K → dgrps P gs st tr K'
  | [], st, tr, K, K', hk, h => hk _ _ h
  | ⟨none, os⟩ :: gs, st, tr, K, K', hk, h => dops_mono (fun st' tr' h => dgrps_mono hk h) h
  | ⟨some (j, b), os⟩ :: gs, st, tr, K, K', hk, h => by
    simp only [dgrps] at h ⊢
    split at h
    · exact ⟨fun e => dops_mono (fun st' tr' h => dgrps_mono hk h) (h.1 e), fun e => dgrps_mono hk (h.2 e)⟩
    · exact dgrps_mono hk h
    · exact h.elim

theorem dopsE_sound (ok : HOK P E H) : ∀ {os : List AOp} {st st' : St} {tr tr' : Tr}, dopsE H os st tr = some (st', tr') → dops P os st tr fun s t => s = st' ∧ t = tr'
  | [], st, st', tr, tr', h => by simp [dopsE] at h; exact h
  | o :: os, st, st', tr, tr', h => by
    simp only [dopsE] at h
    split at h
    · rename_i r ws h1; rw [stepE_eq] at h; exact ⟨r, ws, dopE_sound ok h1, dopsE_sound ok h⟩
    · cases h

theorem dgrpsE_sound (ok : HOK P E H) : ∀ {gs : List Grp} {st st' : St} {tr tr' : Tr}, dgrpsE H gs st tr = some (st', tr') → dgrps P gs st tr fun s t => s = st' ∧ t = tr'
  | [], st, st', tr, tr', h => by simp [dgrpsE] at h; exact h
  | ⟨none, os⟩ :: gs, st, st', tr, tr', h => by
    simp only [dgrpsE] at h
    split at h
    · rename_i s1 t1 h1
      refine dops_mono (fun s t ⟨e1, e2⟩ => ?_) (dopsE_sound ok h1)
      subst e1 e2; exact dgrpsE_sound ok h
    · cases h
  | ⟨some (j, b), os⟩ :: gs, st, st', tr, tr', h => by
    simp only [dgrpsE] at h
    simp only [dgrps]
    generalize get st.fr j = u at h ⊢
    split at h
    · split at h
      · rename_i e
        refine ⟨fun _ => ?_, fun hne => absurd e hne⟩
        split at h
        · rename_i s1 t1 h1
          refine dops_mono (fun s t ⟨e1, e2⟩ => ?_) (dopsE_sound ok h1)
          subst e1 e2; exact dgrpsE_sound ok h
        · cases h
      · rename_i e
        exact ⟨fun h' => absurd h' e, fun _ => dgrpsE_sound ok h⟩
    · exact dgrpsE_sound ok h
    · cases h

theorem rfEnd_mono {id fr ks} {Q Q' : Exit → St → Prop} {hp} (hk : ∀ e st, Q e st → Q' e st) (h : RfEnd id fr ks Q hp) : RfEnd id fr ks Q' hp := by
  simp only [RfEnd] at h ⊢
  split at h <;> first | exact hk _ _ h | exact h

theorem awp_mono {ac : AC} : ∀ {st : St} {Q Q' : Exit → St → Prop}, (∀ e st, Q e st → Q' e st) → AWP P E ac st Q → AWP P E ac st Q' := by
  induction ac with
  | skip => intro st Q Q' hk h; exact hk _ _ h
  | rgn gs ks => intro st Q Q' hk h; exact agrps_mono (fun st' h => hk _ _ h) h
  | drw gs un ks => intro st Q Q' hk h; exact dgrps_mono (fun st' tr' h => ⟨h.1, hk _ _ h.2⟩) h
  | seq x y ih1 ih2 => intro st Q Q' hk h; exact ih1 (fun e st' h => by cases e <;> first | exact ih2 hk h | exact hk _ _ h) h
  | cond c x y ih1 ih2 =>
    intro st Q Q' hk h
    simp only [AWP] at h ⊢
    split at h
    · exact ⟨fun e => ih1 hk (h.1 e), fun e => ih2 hk (h.2 e)⟩
    · exact h.elim
  | block id x ih =>
    intro st Q Q' hk h
    refine ih (fun e st' h => ?_) h
    cases e with
    | exit id' =>
      simp only [Exit.blk] at h ⊢
      by_cases hc : id' = id
      · rw [if_pos hc] at h ⊢; exact hk _ _ h
      · rw [if_neg hc] at h ⊢; exact hk _ _ h
    | _ => exact hk _ _ h
  | loop x ih => intro st Q Q' hk ⟨α, I, C, μ, a0, h0, hle, hr⟩; exact ⟨α, I, C, μ, a0, h0, hle, fun a ha => ih (fun e st' h => by cases e <;> first | exact h | exact hk _ _ h) (hr a ha)⟩
  | exit id => intro st Q Q' hk h; exact hk _ _ h
  | ret => intro st Q Q' hk h; exact hk _ _ h
  | label _ => intro st Q Q' hk h; exact hk _ _ h
  | scope x ih => intro st Q Q' hk h; exact ih (fun e st' h => by cases e <;> first | exact hk _ _ h | exact h.elim) h
  | rf g ps x y ks ih1 ih2 => intro st Q Q' hk ⟨K0, h1, h2⟩; exact ⟨K0, h1, fun hp' hh => rfEnd_mono hk (h2 hp' hh)⟩
  | dead => intro st Q Q' hk h; exact h.elim

theorem loopE_sound {x : AC} {f : St → Option (List (Exit × St))} (hf : ∀ st l, f st = some l → AWP P E x st fun e st' => (e, st') ∈ l) {n : Nat} {st : St} {l : List (Exit × St)} (h : loopE f n st = some l) :
    AWP P E (.loop x) st fun e st' => (e, st') ∈ l := by
  refine ⟨Nat × St, fun a => a.2, fun a => ∃ l', loopE f a.1 a.2 = some l' ∧ ∀ p ∈ l', p ∈ l, fun a => a.1, (n, st), ⟨l, h, fun p hp => hp⟩, St.le.rfl' _, ?_⟩
  rintro ⟨k, s⟩ ⟨l', h1, h2⟩
  cases k with
  | zero => simp [loopE] at h1
  | succ k =>
    simp only [loopE] at h1
    split at h1
    · rename_i l1 hl1
      refine awp_mono (fun e st' hm => ?_) (hf _ _ hl1)
      obtain ⟨la, q1, q2⟩ := allE_mem h1 _ hm
      cases e with
      | normal => exact ⟨(k, st'), ⟨la, q1, fun p hp => h2 p (q2 p hp)⟩, by simp, St.le.rfl' _⟩
      | _ => cases q1; exact h2 _ (q2 _ (by simp))
    · cases h1

theorem isReady_eq {o : Option (LpSt × Nat)} {n : Nat} (h : isReady o n = true) : o = some (.ready, n) := by
  unfold isReady at h
  split at h
  · rw [eq_of_beq h]
  · cases h
theorem isBusy_eq {o : Option (LpSt × Nat)} {n : Nat} (h : isBusy o n = true) : o = some (.busy, n) := by
  unfold isBusy at h
  split at h
  · rw [eq_of_beq h]
  · cases h

theorem acE_sound (ok : HOK P E H) {n : Nat} {ac : AC} : ∀ {st : St} {l : List (Exit × St)}, acE H n ac st = some l → AWP P E ac st fun e st' => (e, st') ∈ l := by
  induction ac with
  | skip => intro st l h; simp [acE] at h; subst h; simp [AWP]
  | rgn gs ks =>
    intro st l h
    simp only [acE, Option.map_eq_some_iff] at h
    obtain ⟨l', h1, rfl⟩ := h
    exact agrps_mono (fun st' hm => List.mem_map.2 ⟨_, hm, by rw [keepE_eq]⟩) (grpsE_sound ok h1)
  | drw gs un ks =>
    intro st l h
    simp only [acE] at h
    split at h
    · rename_i s1 t1 h1
      split at h
      · rename_i hc; rw [keepE_eq] at h; cases h
        refine dgrps_mono (fun s t ⟨e1, e2⟩ => ?_) (dgrpsE_sound ok h1)
        subst e1 e2; exact ⟨hc, by simp⟩
      · cases h
    · cases h
  | seq x y ih1 ih2 =>
    intro st l h
    simp only [acE] at h
    split at h
    · rename_i l1 h1
      refine awp_mono (ac := x) (fun e st' hm => ?_) (ih1 h1)
      obtain ⟨la, q1, q2⟩ := allE_mem h _ hm
      cases e with
      | normal => exact awp_mono (fun e s hp => q2 _ hp) (ih2 q1)
      | _ => cases q1; exact q2 _ (by simp)
    · cases h
  | cond c x y ih1 ih2 =>
    intro st l h
    simp only [acE] at h
    simp only [AWP]
    generalize evF (get st.fr) c = u at h ⊢
    split at h
    · rename_i t
      cases t with
      | true => simp only [if_true] at h; exact ⟨fun _ => ih1 h, fun e => (by cases e)⟩
      | false => simp only [Bool.false_eq_true, if_false] at h; exact ⟨fun e => (by cases e), fun _ => ih2 h⟩
    · cases h
  | block id x ih =>
    intro st l h
    simp only [acE, Option.map_eq_some_iff] at h
    obtain ⟨l', h1, rfl⟩ := h
    refine awp_mono (ac := x) (fun e st' hm => ?_) (ih h1)
    cases e with
    | exit id' =>
      simp only [Exit.blk]
      split
      · rename_i hc; exact List.mem_map.2 ⟨_, hm, by simp [hc]⟩
      · rename_i hc; exact List.mem_map.2 ⟨_, hm, by simp [hc]⟩
    | _ => exact List.mem_map.2 ⟨_, hm, rfl⟩
  | loop x ih => intro st l h; exact loopE_sound (fun st l h => ih h) h
  | exit id => intro st l h; simp [acE] at h; subst h; simp [AWP]
  | ret => intro st l h; simp [acE] at h; subst h; simp [AWP]
  | label _ => intro st l h; simp [acE] at h; subst h; simp [AWP]
  | scope x ih =>
    intro st l h
    simp only [acE] at h
    split at h
    · rename_i l1 h1
      split at h
      · rename_i hc; cases h
        refine awp_mono (ac := x) (fun e st' hm => ?_) (ih h1)
        have := List.all_eq_true.1 hc _ hm
        cases e with
        | goto i => cases this
        | _ => exact hm
      · cases h
    · cases h
  | rf g ps x y ks ih1 ih2 =>
    intro st l h
    simp only [acE, rfE1] at h
    split at h
    · rename_i l1 h1
      obtain ⟨K0, k1, k2⟩ := ok.R _ _ _ _ h1 (fun xs hp K => hpf hp st.hp.length = some (.lp .ready (st.hp.length + 1)) ∧ xs.length = ps.length ∧
          AWP P E x { fr := putPs ps xs st.fr, hp := hp } (Exit.th (fun st1 => hpf st1.hp st.hp.length = some (.lp .ready (st.hp.length + 1)) ∧
            AWP P E y { fr := st1.fr, hp := setL st1.hp st.hp.length (.lp .busy (st.hp.length + 1)) } (RoundQ st.hp.length K)) (fun _ _ => False))) (fun xs hp' l' hl => by
        split at hl
        · rename_i hc
          refine ⟨fun r hp'' => (r, hp'') ∈ l', ⟨lpE_eq (isReady_eq hc.1), hc.2, ?_⟩, fun _ _ h => h⟩
          split at hl
          · rename_i l2 h2
            refine awp_mono (fun e st1 hm => ?_) (ih1 h2)
            obtain ⟨la, q1, q2⟩ := allE_mem hl _ hm
            cases e with
            | normal =>
              simp only at q1
              split at q1
              · rename_i hr
                refine ⟨lpE_eq (isReady_eq hr), ?_⟩
                split at q1
                · rename_i l3 h3
                  refine awp_mono (fun e st2 hm2 => ?_) (ih2 h3)
                  obtain ⟨lb, r1, r2⟩ := allE_mem q1 _ hm2
                  cases e with
                  | normal =>
                    simp only [roundE] at r1
                    split at r1
                    · rename_i hb; cases r1; exact ⟨lpE_eq (isBusy_eq hb), q2 _ (r2 _ (by simp))⟩
                    · cases r1
                  | ret =>
                    simp only [roundE] at r1
                    split at r1
                    · rename_i hb; cases r1; exact ⟨lpE_eq (isBusy_eq hb), q2 _ (r2 _ (by simp))⟩
                    · cases r1
                  | exit i =>
                    simp only [roundE] at r1
                    split at r1
                    · rename_i hb; cases r1; exact ⟨lpE_eq (isBusy_eq hb), q2 _ (r2 _ (by simp))⟩
                    · cases r1
                  | _ => cases r1
                · cases q1
              · cases q1
            | _ => cases q1
          · cases hl
        · cases hl)
      refine ⟨K0, k1, fun hp' hh => ?_⟩
      obtain ⟨la, q1, q2⟩ := allE_mem h _ (k2 hp' hh)
      simp only [rfEndE] at q1
      simp only [RfEnd]
      split at q1
      · rename_i hl; cases q1; rw [lpE_eq hl]; exact q2 _ (by simp)
      · rename_i hl; cases q1; rw [lpE_eq hl]; exact q2 _ (by simp)
      · rename_i hl; cases q1; rw [lpE_eq hl]; exact q2 _ (by simp)
      · cases q1
    · cases h
  | dead => intro st l h; simp [acE] at h

end
end Go.AM

/- SLICES OF UNKNOWN CAPACITY, PART 2: the room behind a private slice; results in a new place; slices.Insert. Own work. -/
set_option linter.unusedSimpArgs false
set_option linter.unusedVariables false
set_option maxRecDepth 100000
namespace Go.AM
open Go.RowKit

/-! ### Other cells for a private row -/
theorem live_recell {hp : Hp} {g : G} {id : Nat} {cs cs' : List AV} (ho : hp id = some (.cells cs)) (c : Nat) : Live (Hp.set hp id (.cells cs')) g c ↔ Live hp g c := by
  constructor
  · rintro ⟨i, o, d, h1, h2, h3⟩
    by_cases e : i = id
    · subst e; exact ⟨i, _, d, ho, rfl, h3⟩
    · rw [Hp.set_other _ _ e] at h1; exact ⟨i, o, d, h1, h2, h3⟩
  · rintro ⟨i, o, d, h1, h2, h3⟩
    by_cases e : i = id
    · subst e; exact ⟨i, _, d, Hp.set_same _ _ _, rfl, h3⟩
    · exact ⟨i, o, d, by rw [Hp.set_other _ _ e]; exact h1, h2, h3⟩

theorem HeapOK.recell {hp g w} (h : HeapOK hp g w) {id : Nat} {cs cs' : List AV} {l : Loc} (ho : hp id = some (.cells cs)) (hl : g.ρ id = some l) (hr : HRep w g (.cells cs') l) : HeapOK (Hp.set hp id (.cells cs')) g w := by
  refine ⟨fun i hi => ?_, fun i o hi => ?_, fun i i' o o' c d d' h1 h2 h3 h4 h5 h6 => ?_, h.ex⟩
  · by_cases e : i = id
    · subst e; rw [Hp.set_same] at hi; cases hi
    · rw [Hp.set_other _ _ e] at hi; exact h.dom i hi
  · by_cases e : i = id
    · subst e; rw [Hp.set_same] at hi; cases hi; exact ⟨l, hl, hr⟩
    · rw [Hp.set_other _ _ e] at hi; exact h.rep i o hi
  · have k : ∀ i o c d, Hp.set hp id (.cells cs') i = some o → o.live = true → g.ρ i = some (.blk c d) → ∃ o2, hp i = some o2 ∧ o2.live = true := fun i o c d h1 h2 h3 => by
      by_cases e : i = id
      · subst e; exact ⟨_, ho, rfl⟩
      · rw [Hp.set_other _ _ e] at h1; exact ⟨o, h1, h2⟩
    obtain ⟨o2, k1, k2⟩ := k i o c d h1 h3 h5
    obtain ⟨o3, k3, k4⟩ := k i' o' c d' h2 h4 h6
    exact h.inj i i' o2 o3 c d d' k1 k3 k2 k4 h5 h6

theorem Upd.recell {hp g w id cs cs' hp' g' w'} (ho : hp id = some (.cells cs)) (h : Upd (Hp.set hp id (.cells cs')) g w hp' g' w') : Upd hp g w hp' g' w' :=
  ⟨h.tr, fun c hc => (h.live c hc).imp_left (live_recell ho c).1, fun b o hs => (h.S b o hs).imp_right fun k => k.imp_left (live_recell ho b).1, fun b hb hn => h.keep b hb fun k => hn ((live_recell ho b).1 k)⟩
theorem Upd.recell2 {hp g w id cs cs' hp' g' w'} (ho : hp' id = some (.cells cs)) (h : Upd hp g w hp' g' w') : Upd hp g w (Hp.set hp' id (.cells cs')) g' w' :=
  ⟨h.tr, fun c hc => h.live c ((live_recell ho c).1 hc), h.S, h.keep⟩

/-- Cells of which nothing is known, up to a length. -/
def ext (cs : List AV) (L : Nat) : List AV := cs ++ List.replicate (L - cs.length) .any
theorem ext_len {cs : List AV} {L : Nat} : (ext cs L).length = max cs.length L := by simp [ext]; omega
theorem ext_view {cs : List AV} {L off n : Nat} (h : off + n ≤ cs.length) : view (ext cs L) off n = view cs off n := by
  simp only [ext, view]
  rw [List.drop_append_of_le_length (by omega), List.take_append_of_le_length (by simp; omega)]

variable {P : Program} {hp : List HObj}

/-- A private slice with all its room in sight. -/
theorem callW_ext {f : FuncId} {id off n sz : Nat} {cs : List AV} {xs : List AV} {KC : AV → List HObj → Prop} (hid : nthH hp id = some (.cells cs)) (hcs : off + n * sz ≤ cs.length)
    (h : ∀ c, n ≤ c → CallW P f (.mc id off n c sz :: xs) (setL hp id (.cells (ext cs (off + c * sz)))) KC) : CallW P f (.ms id off n sz :: xs) hp KC := by
  intro ro m w g vs hok hvs hrep
  have hid' : hpf hp id = some (.cells cs) := by rw [nthH_eq] at hid; exact hid
  have hlt := hpf_lt hid'
  obtain ⟨l, hl, hr⟩ := hok.rep id _ hid'
  have hrest : ∀ (c : Nat) (_ : Rep w g false (.mc id off n c sz) (vs.getD 0 undef)) i (hi : i < (AV.mc id off n c sz :: xs).length), Rep w g false (AV.mc id off n c sz :: xs)[i] (vs.getD i undef) := fun c h0 i hi => by
    cases i with
    | zero => exact h0
    | succ i => exact hrep (i + 1) (by simpa using hi)
  have fin : ∀ c, n ≤ c → Rep w g false (.mc id off n c sz) (vs.getD 0 undef) → HRep w g (.cells (ext cs (off + c * sz))) l → CallsIn (W ro) m P f vs w fun e w' => ∃ v r hp' g', e = .returned v ∧ KC r hp' ∧ Rep w' g' false r v ∧ HeapOK (hpf hp') g' w' ∧ Upd (hpf hp) g w (hpf hp') g' w' := fun c hc h0 h1 => by
    have hset := hpf_set (l := hp) (id := id) (o := .cells (ext cs (off + c * sz))) (Nat.le_of_lt hlt)
    refine (h c hc ro m w g vs (by rw [hset]; exact hok.recell hid' hl h1) hvs (hrest c h0)).mono ?_
    rintro e w' ⟨v, r, hp', g', rfl, k1, k2, k3, k4⟩
    rw [hset] at k4
    exact ⟨v, r, hp', g', rfl, k1, k2, k3, k4.recell hid'⟩
  have h0 := hrep 0 (by simp)
  simp only [List.getElem_cons_zero] at h0
  cases hv : vs.getD 0 undef <;> rw [hv] at h0 <;> try (cases h0; done)
  rename_i base nn cap
  cases h0 with
  | ms _ _ _ _ c d _ arr ty fz hl' hn hb hs =>
    rw [hl'] at hl; cases hl
    refine fin cap hn (by rw [hv]; exact .mc id off n cap sz c d arr ty fz hl' hn hb hs) ?_
    obtain ⟨arr', ty', fz', g1, g2, g3, g4, g5⟩ := hr
    rw [hb] at g1; cases g1
    refine ⟨arr, ty, fz, hb, by rw [ext_len]; omega, g3, g4, fun i hi => ?_⟩
    rw [ext_len] at hi
    by_cases e : i < cs.length
    · obtain ⟨x, h1, h2⟩ := g5 i e
      refine ⟨x, h1, ?_⟩
      simp only [ext]
      rw [List.getElem_append_left e]; exact h2
    · refine ⟨arr[d + i]'(by omega), by simp [show d + i < arr.size by omega], ?_⟩
      simp only [ext]
      rw [List.getElem_append_right (by omega), List.getElem_replicate]
      exact .any _ _
  | msz _ _ _ a l' hl' =>
    refine fin 0 (Nat.le_refl _) (by rw [hv]; exact .mcz id off sz _ l' hl') ?_
    have : ext cs (off + 0 * sz) = cs := by simp only [ext]; rw [show off + 0 * sz - cs.length = 0 by omega]; simp
    rw [this]; exact hr

theorem callW_mono' {f : FuncId} {xs : List AV} {K K' : AV → List HObj → Prop} (hk : ∀ r hp', K r hp' → K' r hp') (h : CallW P f xs hp K) : CallW P f xs hp K' := fun ro n w g vs h1 h2 h3 =>
  (h ro n w g vs h1 h2 h3).mono fun e w' ⟨v, r, hp', g', e1, e2, e3⟩ => ⟨v, r, hp', g', e1, hk _ _ e2, e3⟩

theorem callW_drop {f : FuncId} {xs : List AV} {KC : AV → List HObj → Prop} (h : CallW P f xs hp fun r hp' => KC r hp' ∨ ∃ id o, nthH hp' id = some o ∧ KC r (setL hp' id .gone)) : CallW P f xs hp KC := by
  intro ro m w g vs hok hvs hrep
  refine (h ro m w g vs hok hvs hrep).mono ?_
  rintro e w' ⟨v, r, hp', g', rfl, hk | ⟨id, o, ho, hk⟩, h1, h2, h3⟩
  · exact ⟨v, r, hp', g', rfl, hk, h1, h2, h3⟩
  · rw [nthH_eq] at ho
    have ho' : hpf hp' id = some o := ho
    obtain ⟨s1, s2⟩ := h2.drop ho'
    rw [← hpf_set (Nat.le_of_lt (hpf_lt ho'))] at s1 s2
    exact ⟨v, r, _, g', rfl, hk, h1, s1, h3.trans s2⟩

/-- A result that is part of a private row, moved to a place of its own. -/
theorem callW_move {f : FuncId} {xs : List AV} {KC : AV → List HObj → Prop} (h : CallW P f xs hp fun r hp' => KC r hp' ∨ ∃ id off n c sz cs, r = .mc id off n c sz ∧ nthH hp' id = some (.cells cs) ∧ off + n * sz ≤ cs.length ∧
      KC (.ms hp'.length 0 n sz) (writeL hp' [(id, .gone), (hp'.length, .cells (view cs off (n * sz)))])) : CallW P f xs hp KC := by
  intro ro m w g vs hok hvs hrep
  refine (h ro m w g vs hok hvs hrep).mono ?_
  rintro e w' ⟨v, r, hp', g', rfl, hk | ⟨id, off, n, c, sz, cs, rfl, ho, hle, hk⟩, h1, h2, h3⟩
  · exact ⟨v, r, hp', g', rfl, hk, h1, h2, h3⟩
  · rw [nthH_eq] at ho
    have ho' : hpf hp' id = some (.cells cs) := ho
    have hlt := hpf_lt ho'
    have hn : hpf hp' hp'.length = none := by simp [hpf]
    have hne : id ≠ hp'.length := by omega
    have hw : hpf (writeL hp' [(id, .gone), (hp'.length, .cells (view cs off (n * sz)))]) = Hp.set (Hp.set (hpf hp') id .gone) hp'.length (.cells (view cs off (n * sz))) := by
      rw [hpf_write (by simp; omega)]; rfl
    cases h1 with
    | mc _ _ _ _ _ cb dd arr ty fz hl hn' hb hsz =>
      obtain ⟨s1, s2⟩ := h2.rename ho' hl hn (show off ≤ cs.length by omega)
      have hview : view cs off (n * sz) = (cs.drop off).take (n * sz) := rfl
      have hset : Hp.set (Hp.set (hpf hp') id .gone) hp'.length (.cells (cs.drop off)) hp'.length = some (.cells (cs.drop off)) := Hp.set_same _ _ _
      obtain ⟨l, q1, q2⟩ := s1.rep _ _ hset
      simp [G.home] at q1; subst q1
      obtain ⟨arr', ty', fz', g1, g2, g3, g4, g5⟩ := q2
      have s3 := s1.recell (cs' := view cs off (n * sz)) hset (l := .blk cb (dd + off)) (by simp [G.home]) ⟨arr', ty', fz', g1, by rw [hview]; simp at g2 ⊢; omega, g3, g4, fun i hi => by
        rw [hview] at hi
        have hi2 := hi
        rw [List.length_take] at hi2
        obtain ⟨x, k1, k2⟩ := g5 i (by omega)
        refine ⟨x, k1, ?_⟩
        simp only [hview, List.getElem_take]
        exact k2⟩
      have s4 := s2.recell2 (cs' := view cs off (n * sz)) hset
      rw [Hp.set_set] at s3 s4
      refine ⟨_, _, _, _, rfl, hk, ?_, by rw [hw]; exact s3, by rw [hw]; exact h3.trans s4⟩
      have := Rep.ms (w := w') (g := g'.home hp'.length (.blk cb (dd + off))) hp'.length 0 n sz cb (dd + off) c arr ty fz (by simp [G.home]) hn' hb (by omega)
      simpa using this
    | mcz _ _ _ a l hl =>
      obtain ⟨s1, s2⟩ := h2.drop ho'
      obtain ⟨s3, s4⟩ := s1.virgin (id := hp'.length) (by rw [Hp.set_other _ _ (Ne.symm hne)]; exact hn)
      have hv0 : view cs off (0 * sz) = [] := by simp [view]
      rw [hv0] at hw hk
      exact ⟨_, _, _, _, rfl, hk, Rep.msz (w := w') (g := g'.home hp'.length .virg) hp'.length 0 sz a .virg (by simp [G.home]), by rw [hw]; exact s3, by rw [hw]; exact (h3.trans s2).trans s4⟩

variable {E : HE} {K : AV → List (Nat × HObj) → Prop}
theorem app_grow {sz bytes id off n c m : Nat} {y : AV} {ys cs : List AV} (hc : nthH hp id = some (.cells cs)) (he : elems (hpf hp) sz y = some (m, ys)) (hp1 : (ys.all AV.isPC) = true) (h1 : off + n * sz ≤ cs.length)
    (hb : (n + m) * bytes ≤ 140737488355328) (hb2 : n + m ≤ 140737488355328) (hr : c < n + m) (k : K (.ms hp.length 0 (n + m) sz) [(hp.length, .cells (view cs off (n * sz) ++ ys))]) : AppW hp sz bytes (.mc id off n c sz) y K := by
  have hc : hpf hp id = some (.cells cs) := by rw [nthH_eq] at hc; exact hc
  refine ⟨m, ys, he, hp1, _, _, ?_, k⟩
  simp only [semApp, hc]
  exact ⟨trivial, h1, hb, hb2, .inr ⟨hr, trivial, trivial⟩⟩

theorem w_appz_grow {d sz bytes id off n c m : Nat} {z : List AV} {cs : List AV} {x k : Opd} {F : Nat → AV} (hx : evF F x = .mc id off n c sz) (hk : evF F k = I m) (hc : nthH hp id = some (.cells cs)) (h1 : off + n * sz ≤ cs.length)
    (hb : (n + m) * bytes ≤ 140737488355328) (hb2 : n + m ≤ 140737488355328) (hr : c < n + m) (kk : K (.ms hp.length 0 (n + m) sz) [(hp.length, .cells (view cs off (n * sz) ++ zrep m z))]) : (AOp.appz d sz bytes z x k).wp P F hp K := by
  have hc : hpf hp id = some (.cells cs) := by rw [nthH_eq] at hc; exact hc
  refine ⟨_, _, ⟨m, hk, ?_⟩, kk⟩
  simp only [semApp, hx, hc]
  exact ⟨trivial, h1, hb, hb2, .inr ⟨hr, trivial, trivial⟩⟩

theorem w_cpy_of {d sz id off n m : Nat} {ys cs : List AV} {x y : Opd} {F : Nat → AV} (hx : evF F x = .ms id off n sz ∨ ∃ c, evF F x = .mc id off n c sz) (hy : elems (hpf hp) sz (evF F y) = some (m, ys)) (hpc : ((ys.take (min m n * sz)).all AV.isPC) = true)
    (hc : nthH hp id = some (.cells cs)) (h1 : off + n * sz ≤ cs.length) (k : K (I (min m n : Nat)) [(id, .cells (splice cs off (ys.take (min m n * sz))))]) : (AOp.cpy d sz x y).wp P F hp K := by
  have hc : hpf hp id = some (.cells cs) := by rw [nthH_eq] at hc; exact hc
  refine ⟨_, _, ?_, k⟩
  rcases hx with hx | ⟨c, hx⟩
  · simp only [AOp.sem, hx]; exact ⟨m, ys, cs, hy, hpc, hc, trivial, h1, rfl, rfl⟩
  · simp only [AOp.sem, hx]; exact ⟨m, ys, cs, hy, hpc, hc, trivial, h1, rfl, rfl⟩

theorem callx_of {d : Nat} {f : FuncId} {args : List Opd} {os : List AOp} {fr : List (Nat × AV)} {r : AV} {KS : St → Prop} (h : ExtOK P f (args.map (evF (get fr))) (hpf hp) r) (k : aops P E os ⟨(d, r) :: fr, hp⟩ KS) : aops P E (.callx d f args :: os) ⟨fr, hp⟩ KS :=
  ⟨r, h, k⟩

theorem fin_move {id : Nat} {o x : HObj} (hlt : id < hp.length) : writeL (hp.set id o) [(id, .gone), ((hp.set id o).length, x)] = writeL hp [(id, .gone), (hp.length, x)] := by
  simp [writeL, setL, hlt]
theorem fin_drop {id : Nat} {o x : HObj} (hlt : id < hp.length) : setL (hp.set id o ++ [x]) id .gone = writeL hp [(id, .gone), (hp.length, x)] := by
  have : id < hp.length + 1 := by omega
  simp [writeL, setL, hlt, this, List.set_append]

def InsK (KC : AV → List HObj → Prop) (r : AV) (hp' : List HObj) : Prop := (KC r hp' ∨ ∃ id o, nthH hp' id = some o ∧ KC r (setL hp' id .gone)) ∨ ∃ id off n c sz cs, r = .mc id off n c sz ∧ nthH hp' id = some (.cells cs) ∧ off + n * sz ≤ cs.length ∧
      KC (.ms hp'.length 0 n sz) (writeL hp' [(id, .gone), (hp'.length, .cells (view cs off (n * sz)))])

theorem callW_insK {f : FuncId} {xs : List AV} {KC : AV → List HObj → Prop} (h : CallW P f xs hp (InsK KC)) : CallW P f xs hp KC := by
  refine callW_drop (callW_move (callW_mono' (fun r hp' hk => ?_) h))
  rcases hk with (hk | hk) | hk
  · exact .inl (.inl hk)
  · exact .inl (.inr hk)
  · obtain ⟨id, off, n, c, sz, cs, h1, h2, h3, h4⟩ := hk; exact .inr ⟨id, off, n, c, sz, cs, h1, h2, h3, .inl h4⟩

theorem insK_move {KC : AV → List HObj → Prop} {id off n c sz : Nat} {cs : List AV} (hlt : id < hp.length) (h3 : off + n * sz ≤ cs.length) (h4 : KC (.ms hp.length 0 n sz) (writeL hp [(id, .gone), (hp.length, .cells (view cs off (n * sz)))])) :
    InsK KC (.mc id off n c sz) (hp.set id (.cells cs)) := by
  refine .inr ⟨id, off, n, c, sz, cs, rfl, by rw [nthH_eq]; simp [hlt], h3, ?_⟩
  rw [fin_move hlt, List.length_set]; exact h4
theorem insK_drop {KC : AV → List HObj → Prop} {id : Nat} {r : AV} {o x : HObj} (hlt : id < hp.length) (h4 : KC r (writeL hp [(id, .gone), (hp.length, x)])) : InsK KC r (hp.set id o ++ [x]) := by
  refine .inl (.inr ⟨id, o, ?_, ?_⟩)
  · rw [nthH_eq, List.getElem?_append_left (by simpa using hlt)]; simp [hlt]
  · rw [fin_drop hlt]; exact h4

/-! ### slices.Insert -/
def GIns (by' : Nat) (z : List AV) (xf rf : FuncId) : AC := (.seq (.rgn [⟨none, [(.mv 6 (.k (.sl true 0 [])))]⟩] [0, 1, 2]) (.seq (.rgn [⟨none, [(.mv 10 (.t 0)), (.mv 11 (.t 1)), (.slc 12 1 (.t 10) (some (.t 11)) none none)]⟩] [0, 1, 2]) (.seq (.rgn [⟨none, [(.mv 13 (.t 2)), (.len 14 (.t 13)), (.mv 7 (.t 14))]⟩] [0, 1, 2, 7]) (.seq (.seq (.rgn [⟨none, [(.mv 15 (.t 7)), (.bin 16 .eql (.t 15) (.k (I 0)))]⟩] [0, 1, 2, 7, 16]) (.cond (.t 16) (.seq (.rgn [⟨none, [(.mv 17 (.t 0)), (.mv 6 (.t 17))]⟩] [6]) .ret) .skip)) (.seq (.rgn [⟨none, [(.mv 18 (.t 0)), (.len 19 (.t 18)), (.mv 8 (.t 19))]⟩] [0, 1, 2, 7, 8]) (.seq (.seq (.rgn [⟨none, [(.mv 20 (.t 1)), (.mv 21 (.t 8)), (.bin 22 .eql (.t 20) (.t 21))]⟩] [0, 1, 2, 7, 8, 22]) (.cond (.t 22) (.seq (.rgn [⟨none, [(.mv 23 (.t 0)), (.mv 24 (.t 2)), (.app 25 1 by' (.t 23) (.t 24)), (.mv 6 (.t 25))]⟩] [6]) .ret) .skip)) (.seq (.seq (.rgn [⟨none, [(.mv 26 (.t 8)), (.mv 27 (.t 7)), (.bin 28 .add (.t 26) (.t 27)), (.mv 29 (.t 0)), (.cap 30 (.t 29)), (.bin 31 .gtr (.t 28) (.t 30))]⟩] [0, 1, 2, 7, 8, 31]) (.cond (.t 31) (.seq (.rgn [⟨none, [(.mv 32 (.t 0)), (.mv 33 (.t 1)), (.slc 34 1 (.t 32) none (some (.t 33)) none), (.mv 35 (.t 8)), (.mv 36 (.t 7)), (.bin 37 .add (.t 35) (.t 36)), (.mv 38 (.t 1)), (.bin 39 .sub (.t 37) (.t 38)), (.appz 40 1 by' z (.t 34) (.t 39)), (.mv 9 (.t 40))]⟩] [0, 1, 2, 7, 9]) (.seq (.rgn [⟨none, [(.mv 41 (.t 9)), (.mv 42 (.t 1)), (.slc 43 1 (.t 41) (some (.t 42)) none none), (.mv 44 (.t 2)), (.cpy 45 1 (.t 43) (.t 44))]⟩] [0, 1, 7, 9]) (.seq (.drw [⟨none, [(.mv 46 (.t 9)), (.mv 47 (.t 1)), (.mv 48 (.t 7)), (.bin 49 .add (.t 47) (.t 48)), (.slc 50 1 (.t 46) (some (.t 49)) none none), (.mv 51 (.t 0)), (.mv 52 (.t 1)), (.slc 53 1 (.t 51) (some (.t 52)) none none), (.cpy 54 1 (.t 50) (.t 53))]⟩] [] [9]) (.seq (.rgn [⟨none, [(.mv 55 (.t 9)), (.mv 6 (.t 55))]⟩] [6]) .ret)))) .skip)) (.seq (.rgn [⟨none, [(.mv 56 (.t 0)), (.mv 57 (.t 8)), (.mv 58 (.t 7)), (.bin 59 .add (.t 57) (.t 58)), (.slc 60 1 (.t 56) none (some (.t 59)) none), (.mv 0 (.t 60))]⟩] [0, 1, 2, 7, 8]) (.seq (.seq (.rgn [⟨none, [(.mv 61 (.t 2)), (.mv 62 (.t 0)), (.mv 63 (.t 1)), (.mv 64 (.t 7)), (.bin 65 .add (.t 63) (.t 64)), (.slc 66 1 (.t 62) (some (.t 65)) none none), (.callx 67 xf [(.t 61), (.t 66)]), (.un 68 .not (.t 67))]⟩] [0, 1, 2, 7, 8, 68]) (.cond (.t 68) (.seq (.drw [⟨none, [(.mv 69 (.t 0)), (.mv 70 (.t 1)), (.mv 71 (.t 7)), (.bin 72 .add (.t 70) (.t 71)), (.slc 73 1 (.t 69) (some (.t 72)) none none), (.mv 74 (.t 0)), (.mv 75 (.t 1)), (.slc 76 1 (.t 74) (some (.t 75)) none none), (.cpy 77 1 (.t 73) (.t 76))]⟩] [] [0, 1, 2]) (.seq (.rgn [⟨none, [(.mv 78 (.t 0)), (.mv 79 (.t 1)), (.slc 80 1 (.t 78) (some (.t 79)) none none), (.mv 81 (.t 2)), (.cpy 82 1 (.t 80) (.t 81))]⟩] [0]) (.seq (.rgn [⟨none, [(.mv 83 (.t 0)), (.mv 6 (.t 83))]⟩] [6]) .ret))) .skip)) (.seq (.rgn [⟨none, [(.mv 84 (.t 0)), (.mv 85 (.t 8)), (.slc 86 1 (.t 84) (some (.t 85)) none none), (.mv 87 (.t 2)), (.cpy 88 1 (.t 86) (.t 87))]⟩] [0, 1, 7]) (.seq (.rgn [⟨none, [(.mv 89 (.t 0)), (.mv 90 (.t 1)), (.slc 91 1 (.t 89) (some (.t 90)) none none), (.mv 92 (.t 7)), (.call 93 rf [(.t 91), (.t 92)])]⟩] [0]) (.seq (.rgn [⟨none, [(.mv 94 (.t 0)), (.mv 6 (.t 94))]⟩] [6]) .ret))))))))))))

theorem view_put {A ys D : List AV} {off n : Nat} (h : off + n ≤ A.length) : view (A.take (off + n) ++ (ys ++ D)) off (n + ys.length) = view A off n ++ ys := by
  simp only [view]
  rw [List.drop_append_of_le_length (by simp; omega), List.drop_take, show off + n - off = n by omega, ← List.append_assoc, List.take_left']
  simp; omega

def insCells (V : List AV) (i : Nat) (ys : List AV) : List AV := V.take i ++ (ys ++ V.drop i)

theorem ins_view {xs V ys : List AV} {off n i m : Nat} (hV : view xs off n = V) (hl : off + n + m ≤ xs.length) (hys : ys.length = m) (hi : i ≤ n) :
    view (splice (splice xs (off + (i + m)) (V.drop i)) (off + i) ys) off (n + m) = insCells V i ys := by
  have hVl : V.length = n := by rw [← hV]; simp [view]; omega
  simp only [splice, insCells, List.append_assoc]
  generalize xs.drop (off + (i + m) + (V.drop i).length) = D
  have t1 : (xs.take (off + (i + m)) ++ (V.drop i ++ D)).take (off + i) = xs.take (off + i) := by
    rw [List.take_append_of_le_length (by simp; omega), List.take_take, Nat.min_eq_left (by omega)]
  have t2 : (xs.take (off + (i + m)) ++ (V.drop i ++ D)).drop (off + i + ys.length) = V.drop i ++ D := List.drop_left' (by simp; omega)
  rw [t1, t2]
  have t3 : (xs.take (off + i)).drop off = V.take i := by rw [List.drop_take, show off + i - off = i by omega, ← hV, view, List.take_take, Nat.min_eq_left hi]
  simp only [view]
  rw [List.drop_append_of_le_length (by simp; omega), t3]
  rw [show V.take i ++ (ys ++ (V.drop i ++ D)) = (V.take i ++ (ys ++ V.drop i)) ++ D by simp]
  exact List.take_left' (by simp; omega)

theorem insert_ok {f : FuncId} {fn : Func} {by' : Nat} {z : List AV} {xf rf : FuncId} (hf : P.funcs[f]? = some fn) (hform : formOf P fn [6] = some (GIns by' z xf rf)) (hr : resTmps fn.results.toList = some [6]) (hnt : 3 ≤ fn.ntmps) (hz : z.length = 1) (hzpc : (z.all AV.isPC) = true)
    {id off n i m : Nat} {g : Bool} {cs ys : List AV} {KC : AV → List HObj → Prop} (hx : ∀ (h : Hp) (id' off' n' c' : Nat) (bs : List AV), h id' = some (.cells bs) → ExtOK P xf [.sl g m ys, .mc id' off' n' c' 1] h (B false))
    (hid : nthH hp id = some (.cells cs)) (hi : i ≤ n) (hcs : off + n ≤ cs.length) (hpc : ((view cs off n).all AV.isPC) = true) (hys : ys.length = m) (hypc : (ys.all AV.isPC) = true) (hb : (n + m) * by' ≤ 140737488355328) (hb2 : n + m ≤ 140737488355328)
    (hK : KC (.ms hp.length 0 (n + m) 1) (writeL hp [(id, .gone), (hp.length, .cells (insCells (view cs off n) i ys))])) : CallW P f [.ms id off n 1, I i, .sl g m ys] hp KC := by
  refine callW_ext hid (by omega) fun c hc => callW_insK ?_
  have hlt : id < hp.length := by rw [nthH_eq] at hid; exact hpf_lt hid
  have hne : id ≠ hp.length := by omega
  simp only [Nat.mul_one]
  have hE : setL hp id (.cells (ext cs (off + c))) = hp.set id (.cells (ext cs (off + c))) := by rw [setL, if_pos hlt]
  rw [hE]
  have hX : nthH (hp.set id (.cells (ext cs (off + c)))) id = some (.cells (ext cs (off + c))) := by rw [nthH_eq]; simp [hlt]
  have hXl : off + c ≤ (ext cs (off + c)).length := by rw [ext_len]; omega
  have hXv : view (ext cs (off + c)) off n = view cs off n := ext_view hcs
  generalize ext cs (off + c) = xs at hX hXl hXv ⊢
  have hVl : (view cs off n).length = n := by simp [view]; omega
  generalize view cs off n = V at hpc hK hXv hVl
  have K1 : ∀ x, x = insCells V i ys → KC (.ms hp.length 0 (n + m) 1) (writeL hp [(id, .gone), (hp.length, .cells x)]) := fun x e => by rw [e]; exact hK
  refine walk hf hform hr hnt ?_
  simp (disch := omega) [GIns]
  refine slc_mc_of (l := i) (h := n) (m := c) rfl rfl rfl hi hc (Nat.le_refl _) ?_
  simp (disch := omega)
  refine c_split (fun h => ?_) (fun h => ?_)
  · -- nothing to put in
    have h : m = 0 := by simp at h; omega
    subst h
    simp (disch := omega)
    have hy0 : ys = [] := List.eq_nil_of_length_eq_zero hys
    subst hy0
    refine insK_move hlt (by omega) (K1 _ ?_)
    rw [Nat.mul_one, hXv]; simp [insCells]
  · have h : m ≠ 0 := by simp at h; omega
    simp (disch := omega)
    refine c_split (fun h1 => ?_) (fun h1 => ?_)
    · -- at the end
      have h1 : i = n := by simp at h1; omega
      subst h1
      simp (disch := omega)
      by_cases hroom : i + m ≤ c
      · refine app_in hX (by simp [elems, hys]) hypc (by omega) hb hb2 hroom ?_
        simp (disch := omega) [hlt]
        refine insK_move hlt ?_ (K1 _ ?_)
        · simp; omega
        · have := view_put (A := xs) (ys := ys) (D := xs.drop (off + i + ys.length)) (off := off) (n := i) (by omega)
          rw [hys, hXv] at this
          rw [Nat.mul_one, hys, this, insCells, List.take_of_length_le (by omega), List.drop_of_length_le (by omega)]; simp
      · refine app_grow hX (by simp [elems, hys]) hypc (by omega) hb hb2 (by omega) ?_
        simp (disch := omega) [hlt]
        refine insK_drop hlt (K1 _ ?_)
        rw [show List.take i (List.drop off xs) = V from hXv, insCells, List.take_of_length_le (by omega), List.drop_of_length_le (by omega)]; simp
    · have h1 : i ≠ n := by simp at h1; omega
      simp (disch := omega) [w_cap, wrap_id]
      refine c_split (fun h2 => ?_) (fun h2 => ?_)
      · -- a new row
        have h2 : c < n + m := by simp at h2; omega
        simp (disch := omega) [wrap_id]
        refine slc_mc_of (l := 0) (h := i) (m := c) rfl rfl rfl (Nat.zero_le _) (by omega) (Nat.le_refl _) ?_
        simp (disch := omega) [wrap_id]
        refine w_appz_grow (m := n + m - i) rfl (by simp [I_inj]; omega) hX (by omega) (by rw [show i + (n + m - i) = n + m by omega]; exact hb) (by omega) (by omega) ?_
        rw [show i + (n + m - i) = n + m by omega]
        simp (disch := omega) [wrap_id]
        have hPl : (List.take i (List.drop off xs)).length = i := by simp; omega
        have hzl : (zrep (n + m - i) z).length = n + m - i := zrep_len1 hz _
        have hPV : List.take i (List.drop off xs) = V.take i := by rw [← hXv, view, List.take_take, Nat.min_eq_left hi]
        generalize List.take i (List.drop off xs) = p0 at hPl hPV ⊢
        generalize zrep (n + m - i) z = z0 at hzl ⊢
        have hE2 : ∀ X Y, setL (hp.set id (.cells xs) ++ [.cells X]) hp.length (.cells Y) = hp.set id (.cells xs) ++ [.cells Y] := fun X Y => by simp [setL, List.set_append]
        have hN : ∀ X, nthH (hp.set id (.cells xs) ++ [.cells X]) hp.length = some (.cells X) := fun X => by rw [nthH_eq]; simp
        have hO : ∀ X, nthH (hp.set id (.cells xs) ++ [.cells X]) id = some (.cells xs) := fun X => by rw [nthH_eq, List.getElem?_append_left (by simpa using hlt)]; simp [hlt]
        have hsub : ∀ h : List HObj, nthH h id = some (.cells xs) → elems (hpf h) 1 (.mc id (off + i) (n - i) (c - i) 1) = some (n - i, V.drop i) := fun h hh => by
          rw [elems_mc hh (by omega), Nat.mul_one, ← hXv]
          simp only [view, List.drop_take, List.drop_drop]
        refine slc_ms_of (l := i) (h := n + m) rfl rfl trivial (by omega) (Nat.le_refl _) ?_
        simp (disch := omega) [wrap_id, -setL]
        refine w_cpy_of (m := m) (.inl rfl) (by simp [elems, hys]) (pc_take hypc _) (hN _) (by simp; omega) ?_
        simp (disch := omega) [wrap_id, -setL, hE2]
        rw [show ys.take m = ys from List.take_of_length_le (by omega)]
        refine slc_ms_of (l := i + m) (h := n + m) (by simp [I_inj]) rfl trivial (by omega) (Nat.le_refl _) ?_
        simp (disch := omega) [wrap_id, -setL]
        refine slc_mc_of (l := i) (h := n) (m := c) rfl rfl rfl hi hc (Nat.le_refl _) ?_
        simp (disch := omega) [wrap_id, -setL]
        refine w_cpy_of (m := n - i) (.inl rfl) (by simp; exact hsub _ (hO _)) (pc_take (pc_drop hpc _) _) (hN _) (by simp; omega) ?_
        simp (disch := omega) [wrap_id, -setL, hE2]
        refine insK_drop hlt (K1 _ ?_)
        have a1 : List.take (n - i) (List.drop i V) = List.drop i V := List.take_of_length_le (by rw [List.length_drop]; omega)
        have a2 : ∀ R : List AV, List.take (i + m) (p0 ++ (ys ++ R)) = p0 ++ ys := fun R => by rw [← List.append_assoc]; exact List.take_left' (by rw [List.length_append]; omega)
        have a3 : List.drop (i + m + (n - i)) (p0 ++ (ys ++ List.drop (i + m) (p0 ++ z0))) = [] := List.drop_of_length_le (by rw [List.length_append, List.length_append, List.length_drop, List.length_append]; omega)
        rw [a1, a2, a3, hPV]
        simp [insCells]
      · -- in place
        have h2 : n + m ≤ c := by simp at h2; omega
        simp (disch := omega) [wrap_id]
        refine slc_mc_of (l := 0) (h := n + m) (m := c) rfl (by simp) rfl (Nat.zero_le _) (by omega) (Nat.le_refl _) ?_
        simp (disch := omega) [wrap_id]
        refine slc_mc_of (l := i + m) (h := n + m) (m := c) (by simp) rfl rfl (by omega) (by omega) (Nat.le_refl _) ?_
        simp (disch := omega) [wrap_id]
        have hE2 : ∀ X Y : List AV, setL (hp.set id (.cells X)) id (.cells Y) = hp.set id (.cells Y) := fun X Y => by simp [setL, hlt]
        have hN : ∀ X : List AV, nthH (hp.set id (.cells X)) id = some (.cells X) := fun X => by rw [nthH_eq]; simp [hlt]
        refine callx_of (r := B false) (by simp; exact hx _ _ _ _ _ xs (by rw [nthH_eq] at hX; exact hX)) ?_
        simp (disch := omega) [wrap_id]
        refine slc_mc_of (l := i + m) (h := n + m) (m := c) (by simp [I_inj]) rfl rfl (by omega) (by omega) (Nat.le_refl _) ?_
        simp (disch := omega) [wrap_id, -setL]
        refine slc_mc_of (l := i) (h := n + m) (m := c) rfl rfl rfl (by omega) (by omega) (Nat.le_refl _) ?_
        simp (disch := omega) [wrap_id, -setL]
        have hmin : min (n + m - i) (n + m - (i + m)) * 1 = n - i := by omega
        have htk : (view xs (off + i) ((n + m - i) * 1)).take (min (n + m - i) (n + m - (i + m)) * 1) = V.drop i := by
          rw [hmin, ← hXv]
          simp only [view, List.drop_take, List.drop_drop, List.take_take]
          congr 1; omega
        have hel : elems (hpf (hp.set id (.cells xs))) 1 (.mc id (off + i) (n + m - i) (c - i) 1) = some (n + m - i, view xs (off + i) ((n + m - i) * 1)) := elems_mc hX (by omega)
        refine w_cpy_of (id := id) (off := off + (i + m)) (n := n + m - (i + m)) (m := n + m - i) (ys := view xs (off + i) ((n + m - i) * 1)) (.inr ⟨_, rfl⟩) (by simp; simpa using hel) (by rw [htk]; exact pc_drop hpc _) hX (by omega) ?_
        rw [htk]
        simp (disch := omega) [wrap_id, -setL, hE2, -splice]
        refine slc_mc_of (l := i) (h := n + m) (m := c) rfl rfl rfl (by omega) (by omega) (Nat.le_refl _) ?_
        simp (disch := omega) [wrap_id, -setL, -splice]
        refine w_cpy_of (id := id) (off := off + i) (n := n + m - i) (m := m) (ys := ys) (.inr ⟨_, rfl⟩) (by simp [elems, hys]) (pc_take hypc _) (hN _) (by simp; omega) ?_
        simp (disch := omega) [wrap_id, -setL, hE2, -splice]
        rw [show ys.take m = ys from List.take_of_length_le (by omega)]
        refine insK_move hlt ?_ (K1 _ ?_)
        · simp; omega
        · rw [Nat.mul_one]; exact ins_view hXv (by omega) hys hi

end Go.AM

/- THE EVALUATOR, PART 3: a table of functions; what it finds holds of their calls. Own work. -/
set_option linter.unusedSimpArgs false
set_option linter.unusedVariables false
namespace Go.AM
open Go.RowKit

/-- A function as the evaluator knows it. md: run alone in an empty heap when nothing of the heap is handed to it. -/
structure Code where
  f : FuncId
  md : Bool
  n : Nat
  rc : RC
  ac : AC

def CodeOK (P : Program) (c : Code) : Prop := ∃ fn ts, P.funcs[c.f]? = some fn ∧ formOf P fn ts = some c.ac ∧ resCs P fn.results.toList = some c.rc ∧ c.n ≤ fn.ntmps ∧ funOK P c.f = true

theorem codeOK {P : Program} {c : Code} {fn : Func} {ts : List Nat} (h1 : P.funcs[c.f]? = some fn) (h2 : formOf P fn ts = some c.ac) (h3 : resCs P fn.results.toList = some c.rc) (h4 : Nat.ble c.n fn.ntmps = true) (h5 : funOK P c.f = true) : CodeOK P c :=
  ⟨fn, ts, h1, h2, h3, Nat.le_of_ble_eq_true h4, h5⟩

/-- Results of a call. -/
def resE (hp : List HObj) (fr : List (Nat × AV)) : RC → Option (List AV)
  | [] => some []
  | (t, none) :: r => match resE hp fr r with
    | some xs => some (get fr t :: xs)
    | none => none
  | (a, some (agg, sz)) :: r => match semE (.ld 0 agg sz (.t a)) (evF (get fr)) hp, resE hp fr r with
    | some (x, []), some xs => some (x :: xs)
    | _, _ => none

theorem resE_eq {hp fr} : ∀ {rc : RC} {xs : List AV}, resE hp fr rc = some xs → resC (hpf hp) fr rc xs
  | [], xs, h => by simp [resE] at h; subst h; trivial
  | (t, none) :: r, xs, h => by
    simp only [resE] at h
    split at h
    · rename_i ys hy; cases h; exact ⟨rfl, resE_eq hy⟩
    · cases h
  | (a, some (agg, sz)) :: r, xs, h => by
    simp only [resE] at h
    split at h
    · rename_i x ys h1 h2; cases h
      exact ⟨semE_eq (P := default) h1, resE_eq h2⟩
    · cases h

def retE (rc : RC) : Exit × St → Option (List (AV × List HObj))
  | (.normal, st) | (.ret, st) => match resE st.hp st.fr rc with
    | some xs => fList (fAV 6) xs fun xs => some [(tupOf xs, st.hp)]
    | none => none
  | _ => none

def runE (H : Hands) (n : Nat) (c : Code) (xs : List AV) (hp : List HObj) : Option (List (AV × List HObj)) :=
  if Nat.ble xs.length c.n then match acE H n c.ac { fr := argFr 0 xs, hp := hp } with
    | some l => allE (retE c.rc) l
    | none => none
  else none

section
variable {P : Program} {H : Hands}

theorem retE_sound {E : HE} {ac : AC} {st : St} {rc : RC} {l : List (Exit × St)} {l' : List (AV × List HObj)} (h1 : AWP P E ac st fun e st' => (e, st') ∈ l) (h2 : allE (retE rc) l = some l') : AWP P E ac st (RetC rc fun r hp' => (r, hp') ∈ l') := by
  refine awp_mono (fun e st' hm => ?_) h1
  obtain ⟨la, q1, q2⟩ := allE_mem h2 _ hm
  have go : (match resE st'.hp st'.fr rc with | some xs => fList (fAV 6) xs fun xs => some [(tupOf xs, st'.hp)] | none => none) = some la → ∃ xs, resC (hpf st'.hp) st'.fr rc xs ∧ (tupOf xs, st'.hp) ∈ l' := fun h => by
    split at h
    · rename_i xs hx; rw [fList_eq (fAV_eq 6)] at h; cases h; exact ⟨xs, resE_eq hx, q2 _ (by simp)⟩
    · cases h
  cases e with
  | normal => exact go q1
  | ret => exact go q1
  | _ => cases q1

theorem runE_sound (ok : HOK P (E1 P) H) {n : Nat} {c : Code} (hc : CodeOK P c) {xs : List AV} {hp : List HObj} {l : List (AV × List HObj)} (h : runE H n c xs hp = some l) : CallW P c.f xs hp fun r hp' => (r, hp') ∈ l := by
  obtain ⟨fn, ts, h1, h2, h3, h4, h5⟩ := hc
  unfold runE at h
  split at h
  · rename_i hl
    split at h
    · rename_i l1 hl1
      exact callW_of h1 h2 h3 (Nat.le_trans (Nat.le_of_ble_eq_true hl) h4) (retE_sound (acE_sound ok hl1) h)
    · cases h
  · cases h
end

/-! ### Equal results -/
def vEq : Value → Value → Bool
  | .int k a, .int k' b => decide (k = k') && a == b
  | .bool a, .bool b => a == b
  | _, _ => false
theorem vEq_eq {x y : Value} (h : vEq x y = true) : x = y := by
  unfold vEq at h
  split at h
  · simp at h; rw [h.1, h.2]
  · simp at h; rw [h]
  · cases h
def eqL {α : Type} (f : α → α → Bool) : List α → List α → Bool
  | [], [] => true
  | a :: as, b :: bs => f a b && eqL f as bs
  | _, _ => false
theorem eqL_eq {α : Type} {f : α → α → Bool} (hf : ∀ a b, f a b = true → a = b) : ∀ {as bs : List α}, eqL f as bs = true → as = bs
  | [], [], _ => rfl
  | [], b :: bs, h => by cases h
  | a :: as, [], h => by cases h
  | a :: as, b :: bs, h => by
    simp only [eqL, Bool.and_eq_true] at h
    rw [hf _ _ h.1, eqL_eq hf h.2]
def avEq : Nat → AV → AV → Bool
  | 0 => fun _ _ => false
  | k + 1 => fun x y => match x, y with
    | .v x, .v y => vEq x y
    | .sl f n cs, .sl f' n' cs' => (f == f' && Nat.beq n n') && eqL (avEq k) cs cs'
    | .agg cs, .agg cs' => eqL (avEq k) cs cs'
    | .tup cs, .tup cs' => eqL (avEq k) cs cs'
    | _, _ => false
theorem avEq_eq : ∀ {k : Nat} {x y : AV}, avEq k x y = true → x = y := by
  intro k
  induction k with
  | zero => intro x y h; cases h
  | succ k ih =>
    intro x y h
    have L : ∀ {as bs : List AV}, eqL (avEq k) as bs = true → as = bs := fun h => eqL_eq (fun a b hab => ih hab) h
    simp only [avEq] at h
    split at h
    · rw [vEq_eq h]
    · simp only [Bool.and_eq_true, beq_iff_eq] at h; rw [h.1.1, Nat.eq_of_beq_eq_true h.1.2, L h.2]
    · rw [L h]
    · rw [L h]
    · cases h

/-! ### A function alone -/
def outE : Option (List (AV × List HObj)) → Option PR
  | some [(.ms id 0 m sz, hp)] => match cellsE hp id with
    | some cs => if cs.all AV.isPC then some (.made m sz cs) else none
    | none => none
  | some ((x, hp) :: l) => match purify (hpf hp) x with
    | some (y, _) => if l.all (fun p => match purify (hpf p.2) p.1 with
        | some (y', _) => avEq 8 y y'
        | none => false) then some (.val y) else none
    | none => none
  | _ => none

theorem outE_sound {P : Program} {f : FuncId} {ys : List AV} {o : Option (List (AV × List HObj))} {q : PR} (h : outE o = some q) (hc : ∀ l, o = some l → CallW P f ys [] fun r hp' => (r, hp') ∈ l) : PRok P f ys q := by
  unfold outE at h
  split at h
  · rename_i id m sz hp
    split at h
    · rename_i cs hcs
      split at h
      · rename_i hall; cases h
        refine made_of hall (callW_mono (fun r hp' hm => ?_) (hc _ rfl))
        simp only [List.mem_singleton, Prod.mk.injEq] at hm
        obtain ⟨rfl, rfl⟩ := hm
        exact ⟨id, rfl, cellsE_eq hcs⟩
      · cases h
    · cases h
  · rename_i x hp l hne
    split at h
    · rename_i y is hy
      split at h
      · rename_i hall
        cases h
        refine pure_of (callW_mono (fun r hp' hm => ?_) (hc _ rfl))
        rcases List.mem_cons.1 hm with hm | hm
        · cases hm; exact ⟨is, hy⟩
        · have := List.all_eq_true.1 hall _ hm
          dsimp only at this
          split at this
          · rename_i y' is' hy'
            rw [avEq_eq this]; exact ⟨is', hy'⟩
          · cases this
      · cases h
    · cases h
  · cases h

/-! ### Functions known by hand: slices.Delete and slices.Insert -/
inductive KnF where
  | del
  | ins (xf rf : FuncId)
structure Kn where
  f : FuncId
  k : KnF
  by' : Nat
  z : List AV

def KnF.form (k : KnF) (by' : Nat) (z : List AV) : AC := match k with
  | .del => GDel by' z
  | .ins xf rf => GIns by' z xf rf

structure KnOK (P : Program) (k : Kn) : Prop where
  ex : ∃ fn, P.funcs[k.f]? = some fn ∧ formOf P fn [6] = some (k.k.form k.by' k.z) ∧ resTmps fn.results.toList = some [6] ∧ 3 ≤ fn.ntmps
  z : k.z.length = 1
  zp : (k.z.all AV.isPC) = true
  x : ∀ xf rf, k.k = .ins xf rf → ∀ (g : Bool) (m : Nat) (ys : List AV), ys.length = m → ∀ (h : Hp) (id' off' n' c' : Nat) (bs : List AV), h id' = some (.cells bs) → ExtOK P xf [.sl g m ys, .mc id' off' n' c' 1] h (B false)

def knMs (k : Kn) (id off n : Nat) (xs : List AV) (hp : List HObj) : Option (List (AV × List HObj)) := match cellsE hp id with
  | none => none
  | some cs => if off + n ≤ cs.length ∧ ((view cs off n).all AV.isPC) = true then (match k.k, xs with
    | .del, [a, b] => match natI a, natI b with
      | some i, some j => if i ≤ j ∧ j ≤ n ∧ n * k.by' ≤ 140737488355328 ∧ n ≤ 140737488355328 then some [(.ms id off (n - (j - i)) 1, setL hp id (.cells (delCells k.z cs off n i j)))] else none
      | _, _ => none
    | .ins _ _, [a, .sl _ m ys] => match natI a with
      | some i => if i ≤ n ∧ ys.length = m ∧ (ys.all AV.isPC) = true ∧ (n + m) * k.by' ≤ 140737488355328 ∧ n + m ≤ 140737488355328 then some [(.ms hp.length 0 (n + m) 1, writeL hp [(id, .gone), (hp.length, .cells (insCells (view cs off n) i ys))])] else none
      | none => none
    | _, _ => none) else none

def knE (k : Kn) (xs : List AV) (hp : List HObj) : Option (List (AV × List HObj)) := match xs with
  | .ms id off n 1 :: xs => knMs k id off n xs hp
  | .mc id off n _ 1 :: xs => knMs k id off n xs hp
  | _ => none

def findK (f : FuncId) : List Kn → Option Kn
  | [] => none
  | k :: ks => if Nat.beq k.f f then some k else findK f ks

theorem findK_eq {f : FuncId} : ∀ {ks : List Kn} {k : Kn}, findK f ks = some k → k ∈ ks ∧ k.f = f
  | [], c, h => by cases h
  | d :: cs, c, h => by
    simp only [findK] at h
    split at h
    · rename_i he; cases h; exact ⟨by simp, Nat.eq_of_beq_eq_true he⟩
    · obtain ⟨h1, h2⟩ := findK_eq h; exact ⟨by simp [h1], h2⟩

theorem callW_mc {P : Program} {f : FuncId} {id off n c sz : Nat} {xs : List AV} {hp : List HObj} {KC : AV → List HObj → Prop} (h : CallW P f (.ms id off n sz :: xs) hp KC) : CallW P f (.mc id off n c sz :: xs) hp KC := by
  intro ro m w g vs hok hvs hrep
  refine h ro m w g vs hok hvs fun i hi => ?_
  cases i with
  | zero => exact mc_ms (hrep 0 (by simp))
  | succ i => exact hrep (i + 1) (by simpa using hi)

theorem knMs_ok {P : Program} {k : Kn} (hk : KnOK P k) {id off n : Nat} {xs : List AV} {hp : List HObj} {l : List (AV × List HObj)} (h : knMs k id off n xs hp = some l) : CallW P k.f (.ms id off n 1 :: xs) hp fun r hp' => (r, hp') ∈ l := by
  obtain ⟨⟨fn, h1, h2, h3, h4⟩, hz, hzp, hx⟩ := hk
  unfold knMs at h
  split at h
  · cases h
  · rename_i cs hcs
    have hcs' : nthH hp id = some (.cells cs) := by rw [nthH_eq]; exact cellsE_eq hcs
    split at h
    · rename_i hc
      obtain ⟨c1, c2⟩ := hc
      split at h
      · rename_i a b hkk
        split at h
        · rename_i i j hi hj
          split at h
          · rename_i hc; cases h
            obtain ⟨d1, d2, d3, d4⟩ := hc
            rw [natI_eq hi, natI_eq hj]
            rw [hkk] at h2
            refine delete_ok h1 h2 h3 h4 hz hcs' d1 d2 c1 ?_ d3 d4 (by simp)
            have e : view cs (off + j) (n - j) = (view cs off n).drop j := by simp only [view, List.drop_take, List.drop_drop]
            rw [e]; exact pc_drop c2 _
          · cases h
        · cases h
      · rename_i xf rf a g m ys hkk
        split at h
        · rename_i i hi
          split at h
          · rename_i hc; cases h
            obtain ⟨d1, d2, d3, d4, d5⟩ := hc
            rw [natI_eq hi]
            rw [hkk] at h2
            exact insert_ok h1 h2 h3 h4 hz hzp (fun h id' off' n' c' bs hb => hx xf rf hkk g m ys d2 h id' off' n' c' bs hb) hcs' d1 c1 c2 d2 d3 d4 d5 (by simp)
          · cases h
        · cases h
      · cases h
    · cases h

theorem knE_ok {P : Program} {k : Kn} (hk : KnOK P k) {xs : List AV} {hp : List HObj} {l : List (AV × List HObj)} (h : knE k xs hp = some l) : CallW P k.f xs hp fun r hp' => (r, hp') ∈ l := by
  unfold knE at h
  split at h
  · exact knMs_ok hk h
  · exact callW_mc (knMs_ok hk h)
  · cases h

/-! ### Functions whose answers are known -/
structure Hk where
  f : FuncId
  g : List AV → Option AV
def HkOK (P : Program) (h : Hk) : Prop := ∀ ys r, h.g ys = some r → PureOK P h.f ys r

def findH (f : FuncId) : List Hk → Option Hk
  | [] => none
  | k :: ks => if Nat.beq k.f f then some k else findH f ks

theorem findH_eq {f : FuncId} : ∀ {ks : List Hk} {k : Hk}, findH f ks = some k → k ∈ ks ∧ k.f = f
  | [], c, h => by cases h
  | d :: cs, c, h => by
    simp only [findH] at h
    split at h
    · rename_i he; cases h; exact ⟨by simp, Nat.eq_of_beq_eq_true he⟩
    · obtain ⟨h1, h2⟩ := findH_eq h; exact ⟨by simp [h1], h2⟩

def hookE (hs : List Hk) (f : FuncId) (xs : List AV) (hp : List HObj) : Option (List (AV × List HObj)) := match findH f hs with
  | some h => (match purifyAll (hpf hp) xs with
    | some (ys, ids) => (match h.g ys with
      | some r => fAV 6 r fun r => some [(r, writeL hp (bif r.scalar then [] else gones ids))]
      | none => none)
    | none => none)
  | none => none
def hookP (hs : List Hk) (f : FuncId) (ys : List AV) : Option PR := match findH f hs with
  | some h => (match h.g ys with
    | some r => fAV 6 r fun r => some (.val r)
    | none => none)
  | none => none

theorem hookE_ok {P : Program} {hs : List Hk} (ok : ∀ h ∈ hs, HkOK P h) {f xs hp l} (h : hookE hs f xs hp = some l) : CallW P f xs hp fun r hp' => (r, hp') ∈ l := by
  unfold hookE at h
  split at h
  · rename_i k hk
    obtain ⟨h1, rfl⟩ := findH_eq hk
    split at h
    · rename_i ys ids hp1
      split at h
      · rename_i r hr
        rw [fAV_eq] at h; cases h
        exact callW_pure hp1 (ok k h1 _ _ hr) (by simp)
      · cases h
    · cases h
  · cases h
theorem hookP_ok {P : Program} {hs : List Hk} (ok : ∀ h ∈ hs, HkOK P h) {f ys q} (h : hookP hs f ys = some q) : PRok P f ys q := by
  unfold hookP at h
  split at h
  · rename_i k hk
    obtain ⟨h1, rfl⟩ := findH_eq hk
    split at h
    · rename_i r hr
      rw [fAV_eq] at h; cases h
      exact ok k h1 _ _ hr
    · cases h
  · cases h

/-! ### A table -/
structure Tab (P : Program) where
  hks : List Hk
  hok : ∀ h ∈ hks, HkOK P h
  codes : List Code
  ok : ∀ c ∈ codes, CodeOK P c
  kns : List Kn
  kok : ∀ k ∈ kns, KnOK P k
  x : FuncId → List AV → List HObj → Option AV
  xok : ∀ f xs hp r, x f xs hp = some r → ExtOK P f xs (hpf hp) r

def findE (f : FuncId) : List Code → Option Code
  | [] => none
  | c :: cs => if Nat.beq c.f f then some c else findE f cs

theorem findE_eq {f : FuncId} : ∀ {cs : List Code} {c : Code}, findE f cs = some c → c ∈ cs ∧ c.f = f
  | [], c, h => by cases h
  | d :: cs, c, h => by
    simp only [findE] at h
    split at h
    · rename_i he; cases h; exact ⟨by simp, Nat.eq_of_beq_eq_true he⟩
    · obtain ⟨h1, h2⟩ := findE_eq h; exact ⟨by simp [h1], h2⟩

def pureE (H : Hands) (n : Nat) (c : Code) (ys : List AV) : Option PR := outE (runE H n c ys [])

def callE (cs : List Code) (ks : List Kn) (H : Hands) (n : Nat) (f : FuncId) (xs : List AV) (hp : List HObj) : Option (List (AV × List HObj)) := match findK f ks with
  | some k => knE k xs hp
  | none => match findE f cs with
  | none => none
  | some c => if c.md then (match purifyAll (hpf hp) xs with
      | some (ys, []) => match pureE H n c ys with
        | some (.val r) => some [(r, hp)]
        | some (.made m sz cs) => some [(.ms hp.length 0 m sz, writeL hp [(hp.length, .cells cs)])]
        | none => none
      | _ => runE H n c xs hp) else runE H n c xs hp

def rfE (cs : List Code) (H : Hands) (n : Nat) (v : AV) (hp : List HObj) (G : List AV → List HObj → Option (List (AV × List HObj))) : Option (List (List HObj)) := match v with
  | .fn (.func f) [] caps => match findE f cs with
    | some c => if Nat.ble (caps.length + 1) c.n then (match acE { H with Y := fun id xs hp' => if Nat.beq id hp.length then G xs hp' else none, R := fun _ _ _ => none } n c.ac { fr := argFr 0 (.yl hp.length :: caps), hp := hp ++ [.lp .ready (hp.length + 1), .gone] } with
        | some l => (allE (retE c.rc) l).map fun l => l.map (·.2)
        | none => none) else none
    | none => none
  | _ => none

def hands (hs : List Hk) (cs : List Code) (ks : List Kn) (x : FuncId → List AV → List HObj → Option AV) (n : Nat) : Nat → Hands
  | 0 => ⟨fun _ _ _ => none, fun _ _ => none, fun _ _ _ => none, fun _ _ _ => none, fun _ _ _ => none, fun _ => false⟩
  | k + 1 => { C := fun f xs hp => (match hookE hs f xs hp with
                 | some l => some l
                 | none => callE cs ks (hands hs cs ks x n k) n f xs hp),
               CP := fun f ys => match hookP hs f ys with
                 | some q => some q
                 | none => (match findE f cs with
                   | some c => pureE (hands hs cs ks x n k) n c ys
                   | none => none),
               X := x, Y := fun _ _ _ => none, R := rfE cs (hands hs cs ks x n k) n, fok := fun f => (findE f cs).isSome }

theorem hands_ok {P : Program} (T : Tab P) {n : Nat} : ∀ k, HOK P (E1 P) (hands T.hks T.codes T.kns T.x n k)
  | 0 => ⟨fun _ _ _ _ h => (by cases h), fun _ _ _ h => (by cases h), fun _ _ _ _ h => (by cases h), fun _ _ _ _ h => (by cases h), fun _ _ _ _ h => (by cases h), fun _ h => (by cases h)⟩
  | k + 1 => by
    have ih := hands_ok T (n := n) k
    have pureS : ∀ {c : Code} {ys q}, c ∈ T.codes → pureE (hands T.hks T.codes T.kns T.x n k) n c ys = some q → PRok P c.f ys q := fun {c ys q} hc h => outE_sound h fun l hl => runE_sound ih (T.ok c hc) hl
    refine ⟨?_, ?_, T.xok, fun _ _ _ _ h => (by cases h), ?_, ?_⟩
    · intro f xs hp l h
      simp only [hands] at h
      split at h
      · rename_i l' hl'; cases h; exact hookE_ok T.hok hl'
      simp only [callE] at h
      split at h
      · rename_i kk hkf
        obtain ⟨hk, rfl⟩ := findK_eq hkf
        exact knE_ok (T.kok kk hk) h
      split at h
      · cases h
      · rename_i c hcf
        obtain ⟨hc, rfl⟩ := findE_eq hcf
        split at h
        · split at h
          · rename_i ys hpur
            split at h
            · rename_i r hr; cases h
              refine callW_pure hpur (pureS hc hr) ?_
              cases r.scalar <;> simp [gones, writeL]
            · rename_i m sz cs hr; cases h
              refine callW_made hpur (pureS hc hr) ?_
              simp [gones]
            · cases h
          · exact runE_sound ih (T.ok c hc) h
        · exact runE_sound ih (T.ok c hc) h
    · intro f ys q h
      simp only [hands] at h
      split at h
      · rename_i q' hq'; cases h; exact hookP_ok T.hok hq'
      split at h
      · rename_i c hcf
        obtain ⟨hc, rfl⟩ := findE_eq hcf
        exact pureS hc h
      · cases h
    · intro v hp G l h G' hG
      simp only [hands, rfE] at h
      split at h
      · rename_i f caps
        split at h
        · rename_i c hcf
          obtain ⟨hc, rfl⟩ := findE_eq hcf
          split at h
          · rename_i hl
            split at h
            · rename_i l1 hl1
              simp only [Option.map_eq_some_iff] at h
              obtain ⟨l2, hl2, rfl⟩ := h
              obtain ⟨fn, ts, h1, h2, h3, h4, h5⟩ := T.ok c hc
              refine ⟨fun hp' => hp' ∈ l2.map (·.2), ⟨c.f, caps, fn, c.ac, ts, c.rc, rfl, h5, h1, h2, h3, Nat.le_trans (Nat.le_of_ble_eq_true hl) h4, ?_⟩, fun _ h => h⟩
              have hok : HOK P ⟨fun id xs hp' K => id = hp.length ∧ G' xs hp' K, noR⟩ { hands T.hks T.codes T.kns T.x n k with Y := fun id xs hp' => if Nat.beq id hp.length then G xs hp' else none, R := fun _ _ _ => none } :=
                ⟨ih.C, ih.CP, ih.X, fun id xs hp' l h => (by
                  dsimp only at h
                  split at h
                  · rename_i he
                    obtain ⟨K0, k1, k2⟩ := hG _ _ _ h
                    exact ⟨K0, ⟨Nat.eq_of_beq_eq_true he, k1⟩, k2⟩
                  · cases h), fun _ _ _ _ h => (by cases h), ih.fok⟩
              refine awp_mono (fun e st' hm => ?_) (retE_sound (acE_sound hok hl1) hl2)
              cases e with
              | normal => obtain ⟨xs, q1, q2⟩ := hm; exact ⟨xs, q1, List.mem_map.2 ⟨_, q2, rfl⟩⟩
              | ret => obtain ⟨xs, q1, q2⟩ := hm; exact ⟨xs, q1, List.mem_map.2 ⟨_, q2, rfl⟩⟩
              | _ => exact hm.elim
            · cases h
          · cases h
        · cases h
      · cases h
    · intro f h
      simp only [hands, Option.isSome_iff_exists] at h
      obtain ⟨c, hcf⟩ := h
      obtain ⟨hc, rfl⟩ := findE_eq hcf
      exact (T.ok c hc).elim fun _ ⟨_, _, _, _, _, h⟩ => h

/-- What the evaluator finds for a function alone holds. -/
def evalE (hs : List Hk) (cs : List Code) (ks : List Kn) (x : FuncId → List AV → List HObj → Option AV) (n k : Nat) (f : FuncId) (ys : List AV) : Option PR := (hands hs cs ks x n (k + 1)).CP f ys

theorem evalE_ok {P : Program} (T : Tab P) {n k : Nat} {f : FuncId} {ys : List AV} {r : AV} (h : evalE T.hks T.codes T.kns T.x n k f ys = some (.val r)) : PureOK P f ys r := (hands_ok T (k + 1)).CP _ _ _ h

end Go.AM
