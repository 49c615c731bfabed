/-
  Kk3: texts joined: Am17d Am18 Sl1 Gn1 To1 To2 To3 To4 To5 Gn2 To6 Gn3 Mp2 To7 To8 To9 To10. Own work.
-/
import Derived.Test.YtelokgilhpjbhaaKk2
import Derived.ChangeKeysEq
import Derived.Laws.StructEq

set_option linter.unusedSimpArgs false
set_option linter.unusedVariables false
namespace Go.AM
open Go.RowKit
section
variable {P : Program} {E : HE} {N : Nat} {ro : Option Nat} {n : Nat}
def argFr : Nat → List AV → List (Nat × AV)
  | _, [] => []
  | k, x :: xs => (k, x) :: argFr (k + 1) xs
theorem argFr_get : ∀ (xs : List AV) (k t : Nat), get (argFr k xs) t = if k ≤ t then xs.getD (t - k) .any else .any
  | [], k, t => by simp [argFr, get]
  | x :: xs, k, t => by
    simp only [argFr, get]
    split
    · rename_i e; subst e; simp
    · rename_i e
      rw [argFr_get xs (k + 1) t]
      by_cases h : k + 1 ≤ t
      · rw [if_pos h, if_pos (by omega)]
        obtain ⟨d, rfl⟩ : ∃ d, t = k + 1 + d := ⟨t - (k + 1), by omega⟩
        rw [show k + 1 + d - (k + 1) = d by omega, show k + 1 + d - k = d + 1 by omega]
        rfl
      · rw [if_neg h, if_neg (by omega)]
def resTmps : List ResultVar → Option (List Nat)
  | [] => some []
  | .tmp t :: r => (resTmps r).map (t :: ·)
  | _ => none
def resAV (ts : List Nat) (fr : List (Nat × AV)) : AV := match ts with
  | [t] => get fr t
  | _ => .tup (ts.map (get fr))
abbrev RC := List (Nat × Option (Bool × Nat))
def resCs (P : Program) : List ResultVar → Option RC
  | [] => some []
  | .tmp t :: r => (resCs P r).map ((t, none) :: ·)
  | .cell a t :: r => match tInfo P t, resCs P r with
    | some i, some l => some ((a, some i) :: l)
    | _, _ => none
def resC (hp : Hp) (fr : List (Nat × AV)) : RC → List AV → Prop
  | [], [] => True
  | (t, none) :: r, x :: xs => x = get fr t ∧ resC hp fr r xs
  | (a, some (agg, sz)) :: r, x :: xs => semLd hp x [] agg sz (get fr a) ∧ resC hp fr r xs
  | _, _ => False
def tupOf : List AV → AV
  | [x] => x
  | xs => .tup xs
theorem run_resC {hp g w} (hok : HeapOK hp g w) {fr : List (Nat × AV)} {a : Act} (hF : FrOK w g (get fr) a) : ∀ {rs : List ResultVar} {rc : RC} {xs : List AV} (f : ResultVar → Sem Value),
    (∀ t, f (.tmp t) = pure (a.tmps.getD t undef)) → (∀ b t, f (.cell b t) = (do loadVar t (← asAddr (a.tmps.getD b undef)))) → resCs P rs = some rc → resC hp fr rc xs →
    ∃ vs : List Value, (rs.mapM f).run P w = .ok vs w ∧ vs.length = xs.length ∧ ∀ i (h : i < xs.length), Rep w g false xs[i] (vs.getD i undef)
  | [], rc, xs, f, h1, h2, h, hx => by
    simp [resCs] at h; subst h
    cases xs with
    | nil => exact ⟨[], rfl, rfl, fun i hi => by simp at hi⟩
    | cons _ _ => exact hx.elim
  | .tmp t :: rs, rc, xs, f, h1, h2, h, hx => by
    simp only [resCs, Option.map_eq_some_iff] at h
    obtain ⟨l, h', rfl⟩ := h
    cases xs with
    | nil => exact hx.elim
    | cons x xs =>
      obtain ⟨rfl, hx⟩ := hx
      obtain ⟨vs, k1, k2, k3⟩ := run_resC hok hF f h1 h2 h' hx
      refine ⟨a.tmps.getD t undef :: vs, ?_, by simp [k2], fun i hi => ?_⟩
      · rw [List.mapM_cons, h1]
        simp only [Sem.run_bind, Sem.run_pure, Result.andThen_ok, k1]
      · cases i with
        | zero => exact hF t
        | succ i => simpa using k3 i (by simpa using hi)
  | .cell b t :: rs, rc, xs, f, h1, h2, h, hx => by
    simp only [resCs] at h
    split at h
    · rename_i i l hi hl
      cases h
      obtain ⟨agg, sz⟩ := i
      cases xs with
      | nil => exact hx.elim
      | cons x xs =>
        obtain ⟨hld, hx⟩ := hx
        obtain ⟨vs, k1, k2, k3⟩ := run_resC hok hF f h1 h2 hl hx
        have e1 := hF b
        have main : ∃ v, ((do loadVar t (← asAddr (a.tmps.getD b undef)) : Sem Value)).run P w = .ok v w ∧ Rep w g false x v := by
          simp only [semLd] at hld
          split at hld
          · rename_i cs off hu
            rw [hu] at e1
            obtain ⟨c, q, hv, hrow⟩ := row_of_ptr e1
            obtain ⟨v, j1, j2⟩ := run_loadVar hi hrow hld.2
            exact ⟨v, by rw [hv]; simp [asAddr, j1], j2⟩
          · rename_i id off hu
            split at hld
            · rename_i cs hid
              rw [hu] at e1
              obtain ⟨c, q, hv, hrow, _⟩ := row_of_ref e1 hok hid
              obtain ⟨v, j1, j2⟩ := run_loadVar hi hrow hld.2
              exact ⟨v, by rw [hv]; simp [asAddr, j1], j2⟩
            · exact hld.elim
          · exact hld.elim
        obtain ⟨v, m1, m2⟩ := main
        refine ⟨v :: vs, ?_, by simp [k2], fun i hi => ?_⟩
        · rw [List.mapM_cons, h2]
          simp only [Sem.run_bind, Result.andThen_ok] at m1 ⊢
          rw [m1]
          simp only [Result.andThen_ok, k1, Sem.run_pure]
        · cases i with
          | zero => exact m2
          | succ i => simpa using k3 i (by simpa using hi)
    · cases h
theorem run_resultsC {hp g w} (hok : HeapOK hp g w) {fr : List (Nat × AV)} {a : Act} (hF : FrOK w g (get fr) a) {fn : Func} {rc : RC} {xs : List AV} (h : resCs P fn.results.toList = some rc) (hx : resC hp fr rc xs) :
    ∃ v, (results fn a.tmps).run P w = .ok v w ∧ Rep w g false (tupOf xs) v := by
  simp only [results]
  rw [Array.mapM_eq_mapM_toList]
  simp only [Sem.run_bind, Sem.run_pure, map_eq_pure_bind]
  obtain ⟨vs, k1, k2, k3⟩ := run_resC hok hF (fun x => match x with | .tmp t => pure (a.tmps.getD t undef) | .cell b t => do loadVar t (← asAddr (a.tmps.getD b undef))) (fun _ => rfl) (fun _ _ => rfl) h hx
  have gen : xs.length ≠ 1 → ∃ v, (Result.ok (if h : vs.toArray.size = 1 then vs.toArray[0] else Value.tuple vs.toArray) w : Result Value) = .ok v w ∧ Rep w g false (.tup xs) v := fun hne => by
    refine ⟨.tuple vs.toArray, ?_, .tup _ _ _ k2 k3⟩
    have : ¬ vs.toArray.size = 1 := by simp; omega
    rw [dif_neg this]
  have key : ∃ v, (Result.ok (if h : vs.toArray.size = 1 then vs.toArray[0] else Value.tuple vs.toArray) w : Result Value) = .ok v w ∧ Rep w g false (tupOf xs) v := by
    match xs, k2, k3, gen with
    | [], k2, k3, gen => exact gen (by simp)
    | [x], k2, k3, _ =>
      obtain ⟨v, rfl⟩ : ∃ v, vs = [v] := by
        cases vs with
        | nil => simp at k2
        | cons v vs => cases vs with
          | nil => exact ⟨v, rfl⟩
          | cons _ _ => simp at k2
      exact ⟨v, by simp, k3 0 (by simp)⟩
    | x :: y :: xs, k2, k3, gen => exact gen (by simp)
  obtain ⟨v, h1, h2⟩ := key
  refine ⟨v, ?_, h2⟩
  refine (congrArg (fun r => Result.andThen (Result.andThen r (fun a w' => Result.ok a.toArray w')) (fun (a : Array Value) w' => Result.ok (if h : a.size = 1 then a[0] else Value.tuple a) w')) k1).trans ?_
  simp only [Result.andThen_ok, Sem.run_pure]
  exact h1
def RetC (rc : RC) (K : AV → List HObj → Prop) : Exit → St → Prop
  | .normal, st | .ret, st => ∃ xs, resC (hpf st.hp) st.fr rc xs ∧ K (tupOf xs) st.hp
  | _, _ => False
theorem leaves_marks {fn : Func} {tmps : Array Value} {R : Ending → World → Prop} : ∀ (ms : List Nat) (w : World), ms.Nodup → (∀ D ∈ ms, w.heap[D]? = some (.deferred (some []))) →
    (∃ v, (results fn tmps).run P (ms.foldl (fun w D => w.putObj D (.deferred none)) w) = .ok v (ms.foldl (fun w D => w.putObj D (.deferred none)) w) ∧ R (.returned v) (ms.foldl (fun w D => w.putObj D (.deferred none)) w)) →
    LeavesInM (W ro) n P fn tmps R (ms.map mark) .returning w
  | [], w, hn, hD, h => h
  | D :: ms, w, hn, hD, h => by
    refine ⟨by simp, .inl ⟨D, _, rfl, run_takeDeferred (hD D (by simp)), ?_⟩⟩
    rw [List.nodup_cons] at hn
    exact leaves_marks ms _ hn.2 (fun D' hD' => (World.putObj_heap_other (fun e => hn.1 (by rw [← e]; exact hD'))).trans (hD D' (by simp [hD']))) h
theorem take_marks {hp0 g0 w0 hp g} : ∀ (ms : List Nat) (w : World), ms.Nodup → (∀ D ∈ ms, w0.heap.size ≤ D ∧ w.heap[D]? = some (.deferred (some [])) ∧ ¬ Live hp g D) → HeapOK hp g w → Upd hp0 g0 w0 hp g w →
    HeapOK hp g (ms.foldl (fun w D => w.putObj D (.deferred none)) w) ∧ Upd hp0 g0 w0 hp g (ms.foldl (fun w D => w.putObj D (.deferred none)) w) ∧ Trans w g (ms.foldl (fun w D => w.putObj D (.deferred none)) w) g
  | [], w, hn, hD, h, u => ⟨h, u, .refl _ _⟩
  | D :: ms, w, hn, hD, h, u => by
    rw [List.nodup_cons] at hn
    obtain ⟨k1, k2, k3⟩ := hD D (by simp)
    obtain ⟨h1, u1, t1⟩ := take_mark h u k2 k3 k1
    obtain ⟨h2, u2, t2⟩ := take_marks ms _ hn.2 (fun D' hD' => by
      obtain ⟨q1, q2, q3⟩ := hD D' (by simp [hD'])
      exact ⟨q1, (World.putObj_heap_other (fun e => hn.1 (by rw [← e]; exact hD'))).trans q2, q3⟩) h1 u1
    exact ⟨h2, u2, t1.trans t2⟩
theorem callG_of {w1 : World} {g1 : G} (hY : YS P E w1 g1) (hR : RS P E) {f : FuncId} {fn : Func} {c : Code} {ac : AC} {rc : RC} {xs : List AV} {hp : List HObj} {K : AV → List HObj → Prop} (hf : P.funcs[f]? = some fn) (hb : fn.body = some c) (hc : Fits P fn.ntmps c ac)
    (hr : resCs P fn.results.toList = some rc) (hl : xs.length ≤ fn.ntmps) (h : AWP P E ac { fr := argFr 0 xs, hp := hp } (RetC rc K)) : CallG P w1 g1 f xs hp K := by
  intro ro n w g vs hok htr hvs hrep
  have go : CallsIn (W none) n P f vs w fun e w' => ∃ v r hp' g', e = .returned v ∧ K r hp' ∧ Rep w' g' false r v ∧ HeapOK (hpf hp') g' w' ∧ Upd (hpf hp) g w (hpf hp') g' w' := by
    refine callsIn_of_wp_marks hf hb trivial (fits_sound hY hR hc (.inl rfl) h htr (g := g) ?_ ?_) rfl
    · refine ⟨by simp [hvs]; omega, fun t => ?_, hok⟩
      show Rep w g false (get (argFr 0 xs) t) _
      rw [argFr_get]
      simp only [Nat.zero_le, if_true, Nat.sub_zero]
      by_cases ht : t < xs.length
      · have e1 : xs.getD t .any = xs[t] := by simp [ht]
        rw [e1]
        have := hrep t ht
        simp only [Array.getD_eq_getD_getElem?] at this ⊢
        rw [Array.getElem?_append_left (by omega)]
        exact this
      · have e1 : xs.getD t .any = .any := by simp [Nat.le_of_not_lt ht]
        rw [e1]; exact .any _ _
    · intro e st' a' w' g' hq hs hu hd
      obtain ⟨ms, d1, d2, d3⟩ := hd
      simp only [List.append_nil] at d1
      have fin : (∃ xs, resC (hpf st'.hp) st'.fr rc xs ∧ K (tupOf xs) st'.hp) → LeavesInM (W none) n P fn a'.tmps (fun e w' => ∃ v r hp' g', e = .returned v ∧ K r hp' ∧ Rep w' g' false r v ∧ HeapOK (hpf hp') g' w' ∧ Upd (hpf hp) g w (hpf hp') g' w') a'.defers .returning w' := fun ⟨ys, hy, hK⟩ => by
        rw [d1]
        obtain ⟨k1, k2, k3⟩ := take_marks ms w' d2 d3 hs.2.2 hu
        refine leaves_marks ms w' d2 (fun D hD => (d3 D hD).2.1) ?_
        obtain ⟨v, j1, j2⟩ := run_resultsC (P := P) k1 (fun i => (hs.2.1 i).mono k3) hr hy
        exact ⟨v, j1, v, _, _, g', rfl, hK, j2, k1, k2⟩
      cases e with
      | normal => exact fin hq
      | ret => exact fin hq
      | _ => exact hq.elim
  exact go
def noY : Nat → List AV → List HObj → (AV → List HObj → Prop) → Prop := fun _ _ _ _ => False
def noR : AV → List HObj → (List AV → List HObj → (AV → List HObj → Prop) → Prop) → (List HObj → Prop) → Prop := fun _ _ _ _ => False
def formOf (P : Program) (fn : Func) (ts : List Nat) : Option AC := fn.body.map fun c => (ann ts (comp P fn.ntmps c) [] ts).1
def R1 (P : Program) : AV → List HObj → (List AV → List HObj → (AV → List HObj → Prop) → Prop) → (List HObj → Prop) → Prop := fun v hp H K0 =>
  ∃ f caps fn ac ts rc, v = .fn (.func f) [] caps ∧ funOK P f = true ∧ P.funcs[f]? = some fn ∧ formOf P fn ts = some ac ∧ resCs P fn.results.toList = some rc ∧ caps.length + 1 ≤ fn.ntmps ∧
    AWP P ⟨fun id xs hp' K => id = hp.length ∧ H xs hp' K, noR⟩ ac { fr := argFr 0 (.yl hp.length :: caps), hp := hp ++ [.lp .ready (hp.length + 1), .gone] } (RetC rc fun _ hp' => K0 hp')
def E1 (P : Program) : HE := ⟨noY, R1 P⟩
theorem rs_none {Y} : RS P ⟨Y, noR⟩ := fun _ _ _ _ h => h.elim
theorem rs_E1 : RS P (E1 P) := by
  rintro v hp H K0 ⟨f, caps, fn, ac, ts, rc, rfl, hfun, hf, hc, hr, hl, h⟩
  refine ⟨f, caps, rfl, hfun, fun w1 g1 hH => ?_⟩
  simp only [formOf, Option.map_eq_some_iff] at hc
  obtain ⟨c, hb, rfl⟩ := hc
  exact callG_of (E := ⟨fun id xs hp' K => id = hp.length ∧ H xs hp' K, noR⟩) (fun id xs hp' K ⟨e, hh⟩ => by subst e; exact hH xs hp' K hh) rs_none hf hb (ann_fits (comp_fits c)) hr (by simp; omega) h
theorem ys_E1 {w1 g1} : YS P (E1 P) w1 g1 := fun _ _ _ _ h => h.elim
theorem callW_of {f : FuncId} {fn : Func} {ac : AC} {ts : List Nat} {rc : RC} {xs : List AV} {hp : List HObj} {K : AV → List HObj → Prop} (hf : P.funcs[f]? = some fn) (hc : formOf P fn ts = some ac)
    (hr : resCs P fn.results.toList = some rc) (hl : xs.length ≤ fn.ntmps) (h : AWP P (E1 P) ac { fr := argFr 0 xs, hp := hp } (RetC rc K)) : CallW P f xs hp K := by
  simp only [formOf, Option.map_eq_some_iff] at hc
  obtain ⟨c, hb, rfl⟩ := hc
  exact fun ro n w g vs hok hvs hrep => callG_of (E := E1 P) (w1 := w) (g1 := g) ys_E1 rs_E1 hf hb (ann_fits (comp_fits c)) hr hl h ro n w g vs hok (.refl _ _) hvs hrep
theorem resTmps_C : ∀ {rs : List ResultVar} {ts : List Nat}, resTmps rs = some ts → resCs P rs = some (ts.map (·, none))
  | [], ts, h => by simp [resTmps] at h; subst h; rfl
  | .tmp t :: r, ts, h => by
    simp only [resTmps, Option.map_eq_some_iff] at h
    obtain ⟨ts', h', rfl⟩ := h
    simp [resCs, resTmps_C h']
  | .cell a t :: r, ts, h => by cases h
theorem resC_tmps {hp : Hp} {fr : List (Nat × AV)} : ∀ (ts : List Nat) (xs : List AV), resC hp fr (ts.map (·, none)) xs ↔ xs = ts.map (get fr)
  | [], [] => by simp [resC]
  | [], x :: xs => by simp [resC]
  | t :: ts, [] => by simp [resC]
  | t :: ts, x :: xs => by simp [resC, resC_tmps ts xs]
theorem resAV_tup (ts : List Nat) (fr : List (Nat × AV)) : tupOf (ts.map (get fr)) = resAV ts fr := by
  match ts with
  | [] => rfl
  | [t] => rfl
  | t :: u :: r => rfl
def RetQ (ts : List Nat) (K : AV → List HObj → Prop) : Exit → St → Prop
  | .normal, st | .ret, st => K (resAV ts st.fr) st.hp
  | _, _ => False
theorem retC_tmps {ts : List Nat} {K : AV → List HObj → Prop} : RetC (ts.map (·, none)) K = RetQ ts K := by
  have key : ∀ st : St, (∃ xs, resC (hpf st.hp) st.fr (ts.map (·, none)) xs ∧ K (tupOf xs) st.hp) = K (resAV ts st.fr) st.hp := fun st => propext ⟨fun ⟨xs, h1, h2⟩ => by
    rw [resC_tmps] at h1; subst h1; rw [resAV_tup] at h2; exact h2, fun h => ⟨_, (resC_tmps _ _).2 rfl, by rw [resAV_tup]; exact h⟩⟩
  funext e st
  cases e <;> first | exact key st | rfl
theorem callW_form {f : FuncId} {fn : Func} {ac : AC} {ts : List Nat} {xs : List AV} {hp : List HObj} {K : AV → List HObj → Prop} (hf : P.funcs[f]? = some fn) (hc : formOf P fn ts = some ac) (hr : resTmps fn.results.toList = some ts)
    (hl : xs.length ≤ fn.ntmps) (h : AWP P (E1 P) ac { fr := argFr 0 xs, hp := hp } (RetQ ts K)) : CallW P f xs hp K :=
  callW_of hf hc (resTmps_C hr) hl (by rw [retC_tmps]; exact h)
def G.bare (g : G) : G := { S := g.S, ρ := fun _ => none }
theorem HeapOK.bare {hp g w} (h : HeapOK hp g w) : HeapOK (fun _ => none) g.bare w :=
  ⟨fun _ _ => rfl, fun _ _ h => (by cases h), fun _ _ _ _ _ _ _ h => (by cases h), h.ex⟩
theorem Upd.bare {g w hp' g' w'} (h0 : HeapOK (fun _ => none) g w) (h : Upd (fun _ => none) g w hp' g' w') : Upd (fun _ => none) g w (fun _ => none) g'.bare w' :=
  ⟨⟨h.tr.S, h.tr.cell, fun id l hl => (by rw [h0.dom id rfl] at hl; cases hl), h.tr.shp, h.tr.os, h.tr.tape, h.tr.output, h.tr.size, h.tr.drawn⟩, fun c ⟨_, _, _, h, _⟩ => (by cases h), h.S, h.keep⟩
theorem Rep.bare {w g v x} (h : Rep w g true x v) : Rep w g.bare true x v := by
  generalize hp : true = p at h
  induction h with
  | v p x => exact .v _ x
  | any p x => exact .any _ x
  | sl p full n cs a cap vs hn hf hc hr ih => exact .sl _ full n cs a cap vs hn hf hc (fun i h => ih i h rfl)
  | agg p cs vs hl hr ih => exact .agg _ cs vs hl (fun i h => ih i h hp)
  | tup p cs vs hl hr ih => exact .tup _ cs vs hl (fun i h => ih i h hp)
  | ptr p cs off b o vs hc hr ih => exact .ptr _ cs off b o vs hc (fun i h => ih i h rfl)
  | ref => cases hp
  | ms => cases hp
  | msz => cases hp
  | fn p f as bs xs ys hl hl' hr hr' ih ih' => exact .fn _ f as bs xs ys hl hl' (fun i h => ih i h hp) (fun i h => ih' i h hp)
  | mp => cases hp
  | mc => cases hp
  | mcz => cases hp
  | yl => cases hp
def Out (r : AV) (x : AV) (hp : List HObj) : Prop := ∃ is, purify (hpf hp) x = some (r, is)
theorem pure_of {f : FuncId} {xs : List AV} {r : AV} (h : CallW P f xs [] (Out r)) : PureOK P f xs r := by
  intro ro n w g vs hok hvs hrep
  have e0 : hpf [] = fun _ => none := by funext i; simp [hpf]
  refine (h ro n w g vs (by rw [e0]; exact hok) hvs (fun i hi => (hrep i hi).of)).mono ?_
  rintro e w' ⟨v, x, hp', g', rfl, ⟨is, hpur⟩, hx, hok', hu⟩
  rw [e0] at hu
  have q := purify_rep hok' (ids := is) hpur (fun i hi => hi) hx
  obtain ⟨k1, k2⟩ := hok'.giveAll is (purify_ids hpur)
  exact ⟨v, _, rfl, q.bare, k1.bare, (hu.trans k2).bare hok⟩
end
end Go.AM

set_option linter.unusedSimpArgs false
set_option linter.unusedVariables false
namespace Go.AM
open Go.RowKit
def PureW (P : Program) (f : FuncId) (xs : List AV) (hp : List HObj) (K : AV → List (Nat × HObj) → Prop) : Prop :=
  ∃ ys ids, purifyAll (hpf hp) xs = some (ys, ids) ∧ ((∃ r, PureOK P f ys r ∧ K r (bif r.scalar then [] else gones ids)) ∨ (∃ m sz cs, MadeOK P f ys m sz cs ∧ K (.ms hp.length 0 m sz) (gones ids ++ [(hp.length, .cells cs)])) ∨ ∃ Φ, MapOK P f ys Φ ∧ K (.mp hp.length) (gones ids ++ [(hp.length, .mpp Φ)]))
def AOp.wp (P : Program) (o : AOp) (F : Nat → AV) (hp : List HObj) (K : AV → List (Nat × HObj) → Prop) : Prop :=
  ∃ r ws, o.sem P (evF F) (hpf hp) hp.length r ws ∧ K r ws
def contA (P : Program) (E : HE) (os : List AOp) (d : Option Nat) (fr : List (Nat × AV)) (hp : List HObj) (K : St → Prop) (r : AV) (ws : List (Nat × HObj)) : Prop := aops P E os ⟨frPut fr d r, writeL hp ws⟩ K
def contC (P : Program) (E : HE) (os : List AOp) (d : Nat) (fr : List (Nat × AV)) (K : St → Prop) (r : AV) (hp : List HObj) : Prop := aops P E os ⟨(d, r) :: fr, hp⟩ K
def contD (P : Program) (os : List AOp) (d : Option Nat) (fr : List (Nat × AV)) (hp : List HObj) (tr : Tr) (ft : List Nat) (K : St → Tr → Prop) (r : AV) (ws : List (Nat × HObj)) : Prop :=
  dops P os ⟨frPut fr d r, writeL hp ws⟩ (tr ++ [(ft, ws.map (·.1))]) K
section
variable {P : Program} {E : HE} {fr : List (Nat × AV)} {hp : List HObj} {F : Nat → AV} {os : List AOp} {KS : St → Prop} {KD : St → Tr → Prop} {tr : Tr} {K : AV → List (Nat × HObj) → Prop}
theorem gones_nil : gones [] = [] := rfl
theorem gones_cons {i is} : gones (i :: is) = (i, .gone) :: gones is := rfl
theorem get_cons {k t x} : get ((k, x) :: fr) t = if k = t then x else get fr t := rfl
theorem get_nil {t} : get [] t = .any := rfl
theorem ev_t {t} : evF F (.t t) = F t := rfl
theorem ev_k {x} : evF F (.k x) = x := rfl
theorem x_contA {d : Option Nat} {r ws} : contA P E os d fr hp KS r ws = aops P E os ⟨frPut fr d r, writeL hp ws⟩ KS := rfl
theorem x_contC {d : Nat} {r hp} : contC P E os d fr KS r hp = aops P E os ⟨(d, r) :: fr, hp⟩ KS := rfl
theorem x_contD {d : Option Nat} {ft r ws} : contD P os d fr hp tr ft KD r ws = dops P os ⟨frPut fr d r, writeL hp ws⟩ (tr ++ [(ft, ws.map (·.1))]) KD := rfl
theorem x_nil : aops P E [] ⟨fr, hp⟩ KS = KS ⟨fr, hp⟩ := rfl
theorem x_dnil : dops P [] ⟨fr, hp⟩ tr KD = KD ⟨fr, hp⟩ tr := rfl
theorem x_call {d f args} : aops P E (.call d f args :: os) ⟨fr, hp⟩ KS = CallW P f (args.map (evF (get fr))) hp (contC P E os d fr KS) := rfl
def CallvW (P : Program) (E : HE) (x : AV) (args : List AV) (hp : List HObj) (KC : AV → List HObj → Prop) : Prop := match x with
  | .fn (.func f) first caps => funOK P f = true ∧ CallW P f (first ++ args ++ caps) hp KC
  | .yl id => ∃ K0, E.Y id args hp K0 ∧ ∀ r hp', K0 r hp' → KC r hp'
  | _ => False
theorem x_callv {d x args} : aops P E (.callv d x args :: os) ⟨fr, hp⟩ KS = CallvW P E (evF (get fr) x) (args.map (evF (get fr))) hp (contC P E os d fr KS) := by
  simp only [aops, aop, CallvW]
  generalize evF (get fr) x = u
  cases u with
  | fn f as bs => cases f <;> rfl
  | _ => rfl
theorem cv_fn {f first caps args} {KC : AV → List HObj → Prop} : CallvW P E (.fn (.func f) first caps) args hp KC = (funOK P f = true ∧ CallW P f (first ++ args ++ caps) hp KC) := rfl
theorem dx_mv {a0 a1} : dops P (.mv a0 a1 :: os) ⟨fr, hp⟩ tr KD = (AOp.mv a0 a1).wp P (get fr) hp (contD P os (some a0) fr hp tr ([]) KD) := rfl
theorem dx_pick {a0 a1 a2 a3} : dops P (.pick a0 a1 a2 a3 :: os) ⟨fr, hp⟩ tr KD = (AOp.pick a0 a1 a2 a3).wp P (get fr) hp (contD P os (some a0) fr hp tr ([]) KD) := rfl
theorem dx_bin {a0 a1 a2 a3} : dops P (.bin a0 a1 a2 a3 :: os) ⟨fr, hp⟩ tr KD = (AOp.bin a0 a1 a2 a3).wp P (get fr) hp (contD P os (some a0) fr hp tr ([]) KD) := rfl
theorem dx_bing {a0 a1 a2 a3 a4} : dops P (.bing a0 a1 a2 a3 a4 :: os) ⟨fr, hp⟩ tr KD = (AOp.bing a0 a1 a2 a3 a4).wp P (get fr) hp (contD P os (some a0) fr hp tr ([]) KD) := rfl
theorem dx_un {a0 a1 a2} : dops P (.un a0 a1 a2 :: os) ⟨fr, hp⟩ tr KD = (AOp.un a0 a1 a2).wp P (get fr) hp (contD P os (some a0) fr hp tr ([]) KD) := rfl
theorem dx_ext {a0 a1 a2} : dops P (.ext a0 a1 a2 :: os) ⟨fr, hp⟩ tr KD = (AOp.ext a0 a1 a2).wp P (get fr) hp (contD P os (some a0) fr hp tr ([]) KD) := rfl
theorem dx_ld {a0 a1 a2 a3} : dops P (.ld a0 a1 a2 a3 :: os) ⟨fr, hp⟩ tr KD = (AOp.ld a0 a1 a2 a3).wp P (get fr) hp (contD P os (some a0) fr hp tr ((evF (get fr) a3).ids) KD) := by simp [dops, AOp.wp, contD, AOp.foot, AOp.heapy, AOp.opds, AOp.dst, St.step]
theorem dx_st {a0 a1 a2} : dops P (.st a0 a1 a2 :: os) ⟨fr, hp⟩ tr KD = (AOp.st a0 a1 a2).wp P (get fr) hp (contD P os none fr hp tr ((evF (get fr) a1).ids ++ (evF (get fr) a2).ids) KD) := by simp [dops, AOp.wp, contD, AOp.foot, AOp.heapy, AOp.opds, AOp.dst, St.step]
theorem dx_box {a0 a1 a2} : dops P (.box a0 a1 a2 :: os) ⟨fr, hp⟩ tr KD = (AOp.box a0 a1 a2).wp P (get fr) hp (contD P os (some a0) fr hp tr ([]) KD) := rfl
theorem dx_al {a0 a1} : dops P (.al a0 a1 :: os) ⟨fr, hp⟩ tr KD = (AOp.al a0 a1).wp P (get fr) hp (contD P os (some a0) fr hp tr ([]) KD) := rfl
theorem dx_bsl {a0 a1 a2 a3 a4} : dops P (.bsl a0 a1 a2 a3 a4 :: os) ⟨fr, hp⟩ tr KD = (AOp.bsl a0 a1 a2 a3 a4).wp P (get fr) hp (contD P os (some a0) fr hp tr ((a4.map (·.2)).flatMap fun x => (evF (get fr) x).ids) KD) := rfl
theorem dx_bld {a0 a1 a2} : dops P (.bld a0 a1 a2 :: os) ⟨fr, hp⟩ tr KD = (AOp.bld a0 a1 a2).wp P (get fr) hp (contD P os (some a0) fr hp tr ([]) KD) := rfl
theorem dx_fa {a0 a1 a2} : dops P (.fa a0 a1 a2 :: os) ⟨fr, hp⟩ tr KD = (AOp.fa a0 a1 a2).wp P (get fr) hp (contD P os (some a0) fr hp tr ([]) KD) := rfl
theorem dx_fld {a0 a1 a2 a3 a4} : dops P (.fld a0 a1 a2 a3 a4 :: os) ⟨fr, hp⟩ tr KD = (AOp.fld a0 a1 a2 a3 a4).wp P (get fr) hp (contD P os (some a0) fr hp tr ([]) KD) := rfl
theorem dx_ia {a0 a1 a2 a3} : dops P (.ia a0 a1 a2 a3 :: os) ⟨fr, hp⟩ tr KD = (AOp.ia a0 a1 a2 a3).wp P (get fr) hp (contD P os (some a0) fr hp tr ([]) KD) := rfl
theorem dx_iaa {a0 a1 a2 a3 a4} : dops P (.iaa a0 a1 a2 a3 a4 :: os) ⟨fr, hp⟩ tr KD = (AOp.iaa a0 a1 a2 a3 a4).wp P (get fr) hp (contD P os (some a0) fr hp tr ([]) KD) := rfl
theorem dx_idx {a0 a1 a2 a3 a4 a5} : dops P (.idx a0 a1 a2 a3 a4 a5 :: os) ⟨fr, hp⟩ tr KD = (AOp.idx a0 a1 a2 a3 a4 a5).wp P (get fr) hp (contD P os (some a0) fr hp tr ([]) KD) := rfl
theorem dx_ids {a0 a1 a2} : dops P (.ids a0 a1 a2 :: os) ⟨fr, hp⟩ tr KD = (AOp.ids a0 a1 a2).wp P (get fr) hp (contD P os (some a0) fr hp tr ([]) KD) := rfl
theorem dx_len {a0 a1} : dops P (.len a0 a1 :: os) ⟨fr, hp⟩ tr KD = (AOp.len a0 a1).wp P (get fr) hp (contD P os (some a0) fr hp tr ([]) KD) := rfl
theorem dx_lns {a0 a1} : dops P (.lns a0 a1 :: os) ⟨fr, hp⟩ tr KD = (AOp.lns a0 a1).wp P (get fr) hp (contD P os (some a0) fr hp tr ([]) KD) := rfl
theorem dx_lnm {a0 a1} : dops P (.lnm a0 a1 :: os) ⟨fr, hp⟩ tr KD = (AOp.lnm a0 a1).wp P (get fr) hp (contD P os (some a0) fr hp tr ((evF (get fr) a1).ids) KD) := by simp [dops, AOp.wp, contD, AOp.foot, AOp.heapy, AOp.opds, AOp.dst, St.step]
theorem dx_slc {a0 a1 a2 a3 a4 a5} : dops P (.slc a0 a1 a2 a3 a4 a5 :: os) ⟨fr, hp⟩ tr KD = (AOp.slc a0 a1 a2 a3 a4 a5).wp P (get fr) hp (contD P os (some a0) fr hp tr ([]) KD) := rfl
theorem dx_sls {a0 a1 a2 a3} : dops P (.sls a0 a1 a2 a3 :: os) ⟨fr, hp⟩ tr KD = (AOp.sls a0 a1 a2 a3).wp P (get fr) hp (contD P os (some a0) fr hp tr ([]) KD) := rfl
theorem dx_app {a0 a1 a2 a3 a4} : dops P (.app a0 a1 a2 a3 a4 :: os) ⟨fr, hp⟩ tr KD = (AOp.app a0 a1 a2 a3 a4).wp P (get fr) hp (contD P os (some a0) fr hp tr ((evF (get fr) a3).ids ++ (evF (get fr) a4).ids) KD) := by simp [dops, AOp.wp, contD, AOp.foot, AOp.heapy, AOp.opds, AOp.dst, St.step]
theorem dx_cpy {a0 a1 a2 a3} : dops P (.cpy a0 a1 a2 a3 :: os) ⟨fr, hp⟩ tr KD = (AOp.cpy a0 a1 a2 a3).wp P (get fr) hp (contD P os (some a0) fr hp tr ((evF (get fr) a2).ids ++ (evF (get fr) a3).ids) KD) := by simp [dops, AOp.wp, contD, AOp.foot, AOp.heapy, AOp.opds, AOp.dst, St.step]
theorem dx_mks {a0 a1 a2 a3 a4 a5} : dops P (.mks a0 a1 a2 a3 a4 a5 :: os) ⟨fr, hp⟩ tr KD = (AOp.mks a0 a1 a2 a3 a4 a5).wp P (get fr) hp (contD P os (some a0) fr hp tr ([]) KD) := rfl
theorem dx_cnv {a0 a1 a2} : dops P (.cnv a0 a1 a2 :: os) ⟨fr, hp⟩ tr KD = (AOp.cnv a0 a1 a2).wp P (get fr) hp (contD P os (some a0) fr hp tr ([]) KD) := rfl
theorem dx_mx {a0 a1 a2 a3} : dops P (.mx a0 a1 a2 a3 :: os) ⟨fr, hp⟩ tr KD = (AOp.mx a0 a1 a2 a3).wp P (get fr) hp (contD P os (some a0) fr hp tr ([]) KD) := rfl
theorem dx_nilc {a0 a1} : dops P (.nilc a0 a1 :: os) ⟨fr, hp⟩ tr KD = (AOp.nilc a0 a1).wp P (get fr) hp (contD P os (some a0) fr hp tr ([]) KD) := rfl
theorem dx_mkf {a0 a1 a2 a3} : dops P (.mkf a0 a1 a2 a3 :: os) ⟨fr, hp⟩ tr KD = (AOp.mkf a0 a1 a2 a3).wp P (get fr) hp (contD P os (some a0) fr hp tr ([]) KD) := rfl
theorem dx_call {a0 a1 a2} : dops P (.call a0 a1 a2 :: os) ⟨fr, hp⟩ tr KD = (AOp.call a0 a1 a2).wp P (get fr) hp (contD P os (some a0) fr hp tr (a2.flatMap fun x => (evF (get fr) x).ids) KD) := rfl
theorem ids_v {x} : (AV.v x).ids = [] := rfl
theorem ids_sl {a b c} : (AV.sl a b c).ids = [] := rfl
theorem ids_ptr {a b} : (AV.ptr a b).ids = [] := rfl
theorem ids_ref {a b} : (AV.ref a b).ids = [a] := rfl
theorem ids_ms {a b c d} : (AV.ms a b c d).ids = [a] := rfl
theorem ids_mp {a} : (AV.mp a).ids = [a] := rfl
theorem ids_any : AV.any.ids = [] := rfl
theorem ids_fn {a b c} : (AV.fn a b c).ids = b.flatMap AV.ids0 ++ c.flatMap AV.ids0 := rfl
theorem ids1_agg {cs} : (AV.agg cs).ids1 = cs.flatMap AV.ids0 := rfl
theorem ids0_v {x} : (AV.v x).ids0 = [] := rfl
theorem ids0_sl {a b c} : (AV.sl a b c).ids0 = [] := rfl
theorem ids0_ptr {a b} : (AV.ptr a b).ids0 = [] := rfl
theorem ids0_ref {a b} : (AV.ref a b).ids0 = [a] := rfl
theorem ids0_ms {a b c d} : (AV.ms a b c d).ids0 = [a] := rfl
theorem ids0_mp {a} : (AV.mp a).ids0 = [a] := rfl
theorem ids_agg {cs} : (AV.agg cs).ids = cs.flatMap AV.ids1 := rfl
theorem ids_tup {cs} : (AV.tup cs).ids = cs.flatMap AV.ids1 := rfl
theorem ids1_v {x} : (AV.v x).ids1 = [] := rfl
theorem ids1_sl {a b c} : (AV.sl a b c).ids1 = [] := rfl
theorem ids1_ptr {a b} : (AV.ptr a b).ids1 = [] := rfl
theorem ids1_ref {a b} : (AV.ref a b).ids1 = [a] := rfl
theorem ids1_ms {a b c d} : (AV.ms a b c d).ids1 = [a] := rfl
theorem ids1_mp {a} : (AV.mp a).ids1 = [a] := rfl
theorem ids1_any : AV.any.ids1 = [] := rfl
theorem ids1_fn {a b c} : (AV.fn a b c).ids1 = b.flatMap AV.ids0 ++ c.flatMap AV.ids0 := rfl
theorem x_wcall {d f args} : (AOp.call d f args).wp P F hp K = PureW P f (args.map (evF F)) hp K := by
  apply propext
  constructor
  · rintro ⟨r, ws, ⟨ys, ids, h1, h2⟩, h3⟩
    rcases h2 with ⟨h2, rfl⟩ | ⟨m, sz, cs, h2, rfl, rfl⟩ | ⟨Φ, h2, rfl, rfl⟩
    · exact ⟨ys, ids, h1, .inl ⟨r, h2, h3⟩⟩
    · exact ⟨ys, ids, h1, .inr (.inl ⟨m, sz, cs, h2, h3⟩)⟩
    · exact ⟨ys, ids, h1, .inr (.inr ⟨Φ, h2, h3⟩)⟩
  · rintro ⟨ys, ids, h1, h2⟩
    rcases h2 with ⟨r, h2, h3⟩ | ⟨m, sz, cs, h2, h3⟩ | ⟨Φ, h2, h3⟩
    · exact ⟨r, _, ⟨ys, ids, h1, .inl ⟨h2, rfl⟩⟩, h3⟩
    · exact ⟨_, _, ⟨ys, ids, h1, .inr (.inl ⟨m, sz, cs, h2, rfl, rfl⟩)⟩, h3⟩
    · exact ⟨_, _, ⟨ys, ids, h1, .inr (.inr ⟨Φ, h2, rfl, rfl⟩)⟩, h3⟩
theorem xo_mv {a0 a1} : aops P E (.mv a0 a1 :: os) ⟨fr, hp⟩ KS = (AOp.mv a0 a1).wp P (get fr) hp (contA P E os (some a0) fr hp KS) := rfl
theorem xo_pick {a0 a1 a2 a3} : aops P E (.pick a0 a1 a2 a3 :: os) ⟨fr, hp⟩ KS = (AOp.pick a0 a1 a2 a3).wp P (get fr) hp (contA P E os (some a0) fr hp KS) := rfl
theorem xo_bin {a0 a1 a2 a3} : aops P E (.bin a0 a1 a2 a3 :: os) ⟨fr, hp⟩ KS = (AOp.bin a0 a1 a2 a3).wp P (get fr) hp (contA P E os (some a0) fr hp KS) := rfl
theorem xo_bing {a0 a1 a2 a3 a4} : aops P E (.bing a0 a1 a2 a3 a4 :: os) ⟨fr, hp⟩ KS = (AOp.bing a0 a1 a2 a3 a4).wp P (get fr) hp (contA P E os (some a0) fr hp KS) := rfl
theorem xo_un {a0 a1 a2} : aops P E (.un a0 a1 a2 :: os) ⟨fr, hp⟩ KS = (AOp.un a0 a1 a2).wp P (get fr) hp (contA P E os (some a0) fr hp KS) := rfl
theorem xo_ext {a0 a1 a2} : aops P E (.ext a0 a1 a2 :: os) ⟨fr, hp⟩ KS = (AOp.ext a0 a1 a2).wp P (get fr) hp (contA P E os (some a0) fr hp KS) := rfl
theorem xo_ld {a0 a1 a2 a3} : aops P E (.ld a0 a1 a2 a3 :: os) ⟨fr, hp⟩ KS = (AOp.ld a0 a1 a2 a3).wp P (get fr) hp (contA P E os (some a0) fr hp KS) := rfl
theorem xo_st {a0 a1 a2} : aops P E (.st a0 a1 a2 :: os) ⟨fr, hp⟩ KS = (AOp.st a0 a1 a2).wp P (get fr) hp (contA P E os none fr hp KS) := rfl
theorem xo_box {a0 a1 a2} : aops P E (.box a0 a1 a2 :: os) ⟨fr, hp⟩ KS = (AOp.box a0 a1 a2).wp P (get fr) hp (contA P E os (some a0) fr hp KS) := rfl
theorem xo_al {a0 a1} : aops P E (.al a0 a1 :: os) ⟨fr, hp⟩ KS = (AOp.al a0 a1).wp P (get fr) hp (contA P E os (some a0) fr hp KS) := rfl
theorem xo_bsl {a0 a1 a2 a3 a4} : aops P E (.bsl a0 a1 a2 a3 a4 :: os) ⟨fr, hp⟩ KS = (AOp.bsl a0 a1 a2 a3 a4).wp P (get fr) hp (contA P E os (some a0) fr hp KS) := rfl
theorem xo_bld {a0 a1 a2} : aops P E (.bld a0 a1 a2 :: os) ⟨fr, hp⟩ KS = (AOp.bld a0 a1 a2).wp P (get fr) hp (contA P E os (some a0) fr hp KS) := rfl
theorem xo_fa {a0 a1 a2} : aops P E (.fa a0 a1 a2 :: os) ⟨fr, hp⟩ KS = (AOp.fa a0 a1 a2).wp P (get fr) hp (contA P E os (some a0) fr hp KS) := rfl
theorem xo_fld {a0 a1 a2 a3 a4} : aops P E (.fld a0 a1 a2 a3 a4 :: os) ⟨fr, hp⟩ KS = (AOp.fld a0 a1 a2 a3 a4).wp P (get fr) hp (contA P E os (some a0) fr hp KS) := rfl
theorem xo_ia {a0 a1 a2 a3} : aops P E (.ia a0 a1 a2 a3 :: os) ⟨fr, hp⟩ KS = (AOp.ia a0 a1 a2 a3).wp P (get fr) hp (contA P E os (some a0) fr hp KS) := rfl
theorem xo_iaa {a0 a1 a2 a3 a4} : aops P E (.iaa a0 a1 a2 a3 a4 :: os) ⟨fr, hp⟩ KS = (AOp.iaa a0 a1 a2 a3 a4).wp P (get fr) hp (contA P E os (some a0) fr hp KS) := rfl
theorem xo_idx {a0 a1 a2 a3 a4 a5} : aops P E (.idx a0 a1 a2 a3 a4 a5 :: os) ⟨fr, hp⟩ KS = (AOp.idx a0 a1 a2 a3 a4 a5).wp P (get fr) hp (contA P E os (some a0) fr hp KS) := rfl
theorem xo_ids {a0 a1 a2} : aops P E (.ids a0 a1 a2 :: os) ⟨fr, hp⟩ KS = (AOp.ids a0 a1 a2).wp P (get fr) hp (contA P E os (some a0) fr hp KS) := rfl
theorem xo_len {a0 a1} : aops P E (.len a0 a1 :: os) ⟨fr, hp⟩ KS = (AOp.len a0 a1).wp P (get fr) hp (contA P E os (some a0) fr hp KS) := rfl
theorem xo_lns {a0 a1} : aops P E (.lns a0 a1 :: os) ⟨fr, hp⟩ KS = (AOp.lns a0 a1).wp P (get fr) hp (contA P E os (some a0) fr hp KS) := rfl
theorem xo_lnm {a0 a1} : aops P E (.lnm a0 a1 :: os) ⟨fr, hp⟩ KS = (AOp.lnm a0 a1).wp P (get fr) hp (contA P E os (some a0) fr hp KS) := rfl
theorem xo_slc {a0 a1 a2 a3 a4 a5} : aops P E (.slc a0 a1 a2 a3 a4 a5 :: os) ⟨fr, hp⟩ KS = (AOp.slc a0 a1 a2 a3 a4 a5).wp P (get fr) hp (contA P E os (some a0) fr hp KS) := rfl
theorem xo_sls {a0 a1 a2 a3} : aops P E (.sls a0 a1 a2 a3 :: os) ⟨fr, hp⟩ KS = (AOp.sls a0 a1 a2 a3).wp P (get fr) hp (contA P E os (some a0) fr hp KS) := rfl
theorem xo_app {a0 a1 a2 a3 a4} : aops P E (.app a0 a1 a2 a3 a4 :: os) ⟨fr, hp⟩ KS = (AOp.app a0 a1 a2 a3 a4).wp P (get fr) hp (contA P E os (some a0) fr hp KS) := rfl
theorem xo_cpy {a0 a1 a2 a3} : aops P E (.cpy a0 a1 a2 a3 :: os) ⟨fr, hp⟩ KS = (AOp.cpy a0 a1 a2 a3).wp P (get fr) hp (contA P E os (some a0) fr hp KS) := rfl
theorem xo_mks {a0 a1 a2 a3 a4 a5} : aops P E (.mks a0 a1 a2 a3 a4 a5 :: os) ⟨fr, hp⟩ KS = (AOp.mks a0 a1 a2 a3 a4 a5).wp P (get fr) hp (contA P E os (some a0) fr hp KS) := rfl
theorem xo_cnv {a0 a1 a2} : aops P E (.cnv a0 a1 a2 :: os) ⟨fr, hp⟩ KS = (AOp.cnv a0 a1 a2).wp P (get fr) hp (contA P E os (some a0) fr hp KS) := rfl
theorem xo_mx {a0 a1 a2 a3} : aops P E (.mx a0 a1 a2 a3 :: os) ⟨fr, hp⟩ KS = (AOp.mx a0 a1 a2 a3).wp P (get fr) hp (contA P E os (some a0) fr hp KS) := rfl
theorem xo_nilc {a0 a1} : aops P E (.nilc a0 a1 :: os) ⟨fr, hp⟩ KS = (AOp.nilc a0 a1).wp P (get fr) hp (contA P E os (some a0) fr hp KS) := rfl
theorem xo_mkf {a0 a1 a2 a3} : aops P E (.mkf a0 a1 a2 a3 :: os) ⟨fr, hp⟩ KS = (AOp.mkf a0 a1 a2 a3).wp P (get fr) hp (contA P E os (some a0) fr hp KS) := rfl
theorem ex_two {α β : Type} {a : α} {b : β} {K : α → β → Prop} {p : Prop} : (∃ r ws, (p ∧ r = a ∧ ws = b) ∧ K r ws) = (p ∧ K a b) :=
  propext ⟨fun ⟨_, _, ⟨h, e1, e2⟩, k⟩ => ⟨h, by subst e1; subst e2; exact k⟩, fun ⟨h, k⟩ => ⟨a, b, ⟨h, rfl, rfl⟩, k⟩⟩
theorem ex_one {α β : Type} {a : α} {b : β} {K : α → β → Prop} : (∃ r ws, (r = a ∧ ws = b) ∧ K r ws) = K a b :=
  propext ⟨fun ⟨_, _, ⟨e1, e2⟩, k⟩ => by subst e1; subst e2; exact k, fun k => ⟨a, b, ⟨rfl, rfl⟩, k⟩⟩
theorem ex_z {α β γ : Type} {p : γ → Prop} {f : γ → α} {b : β} {K : α → β → Prop} : (∃ r ws, (∃ z, p z ∧ r = f z ∧ ws = b) ∧ K r ws) = ∃ z, p z ∧ K (f z) b :=
  propext ⟨fun ⟨_, _, ⟨z, h, e1, e2⟩, k⟩ => ⟨z, h, by subst e1; subst e2; exact k⟩, fun ⟨z, h, k⟩ => ⟨_, _, ⟨z, h, rfl, rfl⟩, k⟩⟩
theorem ex_f {α β : Type} {K : α → β → Prop} : (∃ r ws, False ∧ K r ws) = False := by simp
theorem w_mv {d x} : (AOp.mv d x).wp P F hp K = K (evF F x) [] := ex_one
def PickW (c a b : AV) (K : AV → List (Nat × HObj) → Prop) : Prop := match c with
  | .v (.bool t) => K (bif t then a else b) []
  | _ => False
theorem w_pick {d c a b} : (AOp.pick d c a b).wp P F hp K = PickW (evF F c) (evF F a) (evF F b) K := by
  unfold AOp.wp; simp only [AOp.sem]
  generalize evF F c = u
  cases u with
  | v x => cases x <;> first | exact ex_one | exact ex_f
  | _ => exact ex_f
theorem w_pickB {t a b} : PickW (B t) a b K = K (bif t then a else b) [] := rfl
def BinW (op : BinOp) (x y : AV) (K : AV → List (Nat × HObj) → Prop) : Prop := match x, y with
  | .v a, .v b => ∃ z, binV op a b = some z ∧ K (.v z) []
  | _, _ => False
theorem w_bin {d op x y} : (AOp.bin d op x y).wp P F hp K = BinW op (evF F x) (evF F y) K := by
  unfold AOp.wp; simp only [AOp.sem]
  generalize evF F x = u
  generalize evF F y = v
  cases u <;> cases v <;> first | exact ex_z | exact ex_f
theorem bin_of {op a b z} (h : binV op a b = some z) : BinW op (.v a) (.v b) K = K (.v z) [] := by
  unfold BinW; simp only [h, Option.some.injEq, exists_eq_left']
theorem b_add {k : IntKind} {a b : Int} : BinW .add (.v (.int k a)) (.v (.int k b)) K = K (.v (.int k (k.wrap (a + b)))) [] := bin_of (by simp [binV])
theorem b_sub {k : IntKind} {a b : Int} : BinW .sub (.v (.int k a)) (.v (.int k b)) K = K (.v (.int k (k.wrap (a - b)))) [] := bin_of (by simp [binV])
theorem b_mul {k : IntKind} {a b : Int} : BinW .mul (.v (.int k a)) (.v (.int k b)) K = K (.v (.int k (k.wrap (a * b)))) [] := bin_of (by simp [binV])
theorem b_quo {k : IntKind} {a b : Int} (h : b ≠ 0) : BinW .quo (.v (.int k a)) (.v (.int k b)) K = K (.v (.int k (k.wrap (a.tdiv b)))) [] := bin_of (by simp [binV, h])
theorem b_rem {k : IntKind} {a b : Int} (h : b ≠ 0) : BinW .rem (.v (.int k a)) (.v (.int k b)) K = K (.v (.int k (a.tmod b))) [] := bin_of (by simp [binV, h])
theorem b_and {k : IntKind} {a b : Int} : BinW .and (.v (.int k a)) (.v (.int k b)) K = K (.v (.int k (k.wrap (BitVec.ofInt k.bits a &&& BitVec.ofInt k.bits b).toNat))) [] := bin_of (by simp [binV])
theorem b_or {k : IntKind} {a b : Int} : BinW .or (.v (.int k a)) (.v (.int k b)) K = K (.v (.int k (k.wrap (BitVec.ofInt k.bits a ||| BitVec.ofInt k.bits b).toNat))) [] := bin_of (by simp [binV])
theorem b_xor {k : IntKind} {a b : Int} : BinW .xor (.v (.int k a)) (.v (.int k b)) K = K (.v (.int k (k.wrap (BitVec.ofInt k.bits a ^^^ BitVec.ofInt k.bits b).toNat))) [] := bin_of (by simp [binV])
theorem b_shl {k k' : IntKind} {a b : Int} (h : 0 ≤ b) : BinW .shl (.v (.int k a)) (.v (.int k' b)) K = K (.v (.int k (k.wrap (a * 2 ^ (min b.toNat k.bits))))) [] := bin_of (by simp [binV]; omega)
theorem b_shr {k k' : IntKind} {a b : Int} (h : 0 ≤ b) : BinW .shr (.v (.int k a)) (.v (.int k' b)) K = K (.v (.int k (a.fdiv (2 ^ (min b.toNat k.bits))))) [] := bin_of (by simp [binV]; omega)
theorem b_eql {k : IntKind} {a b : Int} : BinW .eql (.v (.int k a)) (.v (.int k b)) K = K (B (a == b)) [] := bin_of (by simp [binV])
theorem b_neq {k : IntKind} {a b : Int} : BinW .neq (.v (.int k a)) (.v (.int k b)) K = K (B (a != b)) [] := bin_of (by simp [binV])
theorem b_lss {k : IntKind} {a b : Int} : BinW .lss (.v (.int k a)) (.v (.int k b)) K = K (B (decide (a < b))) [] := bin_of (by simp [binV])
theorem b_leq {k : IntKind} {a b : Int} : BinW .leq (.v (.int k a)) (.v (.int k b)) K = K (B (decide (a ≤ b))) [] := bin_of (by simp [binV])
theorem b_gtr {k : IntKind} {a b : Int} : BinW .gtr (.v (.int k a)) (.v (.int k b)) K = K (B (decide (a > b))) [] := bin_of (by simp [binV])
theorem b_geq {k : IntKind} {a b : Int} : BinW .geq (.v (.int k a)) (.v (.int k b)) K = K (B (decide (a ≥ b))) [] := bin_of (by simp [binV])
def BingW (P : Program) (op : BinOp) (ty : TypeId) (x y : AV) (K : AV → List (Nat × HObj) → Prop) : Prop :=
  ∃ a b z, x.val = some a ∧ y.val = some b ∧ (∀ w, (binOp op ty a b).run P w = .ok z w) ∧ (∀ p q w, (eqGuard op ty p q a b).run P w = .ok () w) ∧ K (.v z) []
theorem w_bing {d op ty x y} : (AOp.bing d op ty x y).wp P F hp K = BingW P op ty (evF F x) (evF F y) K := by
  apply propext
  constructor
  · rintro ⟨r, ws, ⟨a, b, z, h1, h2, h3, h4, rfl, rfl⟩, k⟩; exact ⟨a, b, z, h1, h2, h3, h4, k⟩
  · rintro ⟨a, b, z, h1, h2, h3, h4, k⟩; exact ⟨_, _, ⟨a, b, z, h1, h2, h3, h4, rfl, rfl⟩, k⟩
def UnW (op : UnOp) (x : AV) (K : AV → List (Nat × HObj) → Prop) : Prop := match x with
  | .v a => ∃ z, unV op a = some z ∧ K (.v z) []
  | _ => False
theorem w_un {d op x} : (AOp.un d op x).wp P F hp K = UnW op (evF F x) K := by
  unfold AOp.wp; simp only [AOp.sem]
  generalize evF F x = u
  cases u <;> first | exact ex_z | exact ex_f
theorem u_neg {k : IntKind} {a : Int} : UnW .neg (.v (.int k a)) K = K (.v (.int k (k.wrap (0 - a)))) [] := by unfold UnW; simp [unV]
theorem u_not {b : Bool} : UnW .not (B b) K = K (B !b) [] := by unfold UnW; simp [unV]
def ExtW (x : AV) (i : Nat) (K : AV → List (Nat × HObj) → Prop) : Prop := match x with
  | .tup vs => ∃ y, vs[i]? = some y ∧ K y []
  | _ => False
theorem w_ext {d x i} : (AOp.ext d x i).wp P F hp K = ExtW (evF F x) i K := by
  unfold AOp.wp; simp only [AOp.sem]
  generalize evF F x = u
  cases u <;> first | exact ex_z | exact ex_f
def nthA : List AV → Nat → Option AV
  | [], _ => none
  | a :: l, n => if n = 0 then some a else nthA l (n - 1)
theorem nthA_eq : ∀ (l : List AV) (n : Nat), nthA l n = l[n]?
  | [], n => by simp [nthA]
  | a :: l, 0 => by simp [nthA]
  | a :: l, n + 1 => by simp [nthA, nthA_eq l n]
theorem nthA_cons {a : AV} {l : List AV} {n} : nthA (a :: l) n = if n = 0 then some a else nthA l (n - 1) := rfl
def OneW (o : Option AV) (K : AV → List (Nat × HObj) → Prop) : Prop := match o with
  | some y => K y []
  | none => False
theorem one_some {y : AV} : OneW (some y) K = K y [] := rfl
theorem one_ex {o : Option AV} : (∃ y, o = some y ∧ K y []) = OneW o K := by
  cases o <;> simp [OneW]
theorem e_tup {vs : List AV} {i} : ExtW (.tup vs) i K = OneW (nthA vs i) K := by rw [nthA_eq]; exact one_ex
def CellsW (cs : List AV) (off sz : Nat) (agg : Bool) (K : AV → List (Nat × HObj) → Prop) : Prop := match agg with
  | true => off + sz ≤ cs.length ∧ K (.agg (view cs off sz)) []
  | false => ∃ y, cs[off]? = some y ∧ K y []
theorem cells_agg {cs : List AV} {off sz} : CellsW cs off sz true K = (off + sz ≤ cs.length ∧ K (.agg (view cs off sz)) []) := rfl
theorem cells_one {cs : List AV} {off sz} : CellsW cs off sz false K = OneW (nthA cs off) K := by rw [nthA_eq]; exact one_ex
theorem cells_ex {cs : List AV} {off sz agg} {p : Prop} : (∃ r ws, ((match agg with | true => off + sz ≤ cs.length ∧ r = .agg (view cs off sz) | false => ∃ y, cs[off]? = some y ∧ r = y) ∧ ws = []) ∧ K r ws) = CellsW cs off sz agg K := by
  apply propext
  cases agg with
  | true =>
    constructor
    · rintro ⟨r, ws, ⟨⟨h, rfl⟩, rfl⟩, k⟩; exact ⟨h, k⟩
    · rintro ⟨h, k⟩; exact ⟨_, _, ⟨⟨h, rfl⟩, rfl⟩, k⟩
  | false =>
    constructor
    · rintro ⟨r, ws, ⟨⟨y, h, rfl⟩, rfl⟩, k⟩; exact ⟨_, h, k⟩
    · rintro ⟨y, h, k⟩; exact ⟨_, _, ⟨⟨y, h, rfl⟩, rfl⟩, k⟩
def LdW (hp : List HObj) (agg : Bool) (sz : Nat) (x : AV) (K : AV → List (Nat × HObj) → Prop) : Prop := match x with
  | .ptr cs off => CellsW cs off sz agg K
  | .ref id off => match hp[id]? with
    | some (.cells cs) => CellsW cs off sz agg K
    | _ => False
  | _ => False
theorem w_ld {d agg sz x} : (AOp.ld d agg sz x).wp P F hp K = LdW hp agg sz (evF F x) K := by
  unfold AOp.wp; simp only [AOp.sem, semLd]
  have sw : ∀ (cs : List AV) (off : Nat), (∃ r ws, (ws = [] ∧ (match agg with | true => off + sz ≤ cs.length ∧ r = .agg (view cs off sz) | false => ∃ y, cs[off]? = some y ∧ r = y)) ∧ K r ws) = CellsW cs off sz agg K := fun cs off => by
    rw [← cells_ex (p := True)]
    exact propext ⟨fun ⟨r, ws, ⟨a, b⟩, k⟩ => ⟨r, ws, ⟨b, a⟩, k⟩, fun ⟨r, ws, ⟨a, b⟩, k⟩ => ⟨r, ws, ⟨b, a⟩, k⟩⟩
  generalize evF F x = u
  cases u with
  | ptr cs off => exact sw cs off
  | ref id off =>
    simp only [hpf, LdW]
    generalize hp[id]? = o
    cases o with
    | none => exact ex_f
    | some o => cases o <;> first | exact sw _ _ | exact ex_f
  | _ => exact ex_f
theorem ld_ptr {agg sz cs off} : LdW hp agg sz (.ptr cs off) K = CellsW cs off sz agg K := rfl
def nthH : List HObj → Nat → Option HObj
  | [], _ => none
  | a :: l, n => if n = 0 then some a else nthH l (n - 1)
theorem nthH_eq : ∀ (l : List HObj) (n : Nat), nthH l n = l[n]?
  | [], n => by simp [nthH]
  | a :: l, 0 => by simp [nthH]
  | a :: l, n + 1 => by simp [nthH, nthH_eq l n]
theorem nthH_cons {a : HObj} {l : List HObj} {n} : nthH (a :: l) n = if n = 0 then some a else nthH l (n - 1) := rfl
theorem nthH_end {l : List HObj} {o : HObj} : nthH (l ++ [o]) l.length = some o := by simp [nthH_eq]
theorem nthH_front {l k : List HObj} {n} (h : n < l.length) : nthH (l ++ k) n = nthH l n := by rw [nthH_eq, nthH_eq, List.getElem?_append_left h]
theorem set_end {l : List HObj} {o o' : HObj} : (l ++ [o]).set l.length o' = l ++ [o'] := by simp
def LdR (o : Option HObj) (agg : Bool) (sz off : Nat) (K : AV → List (Nat × HObj) → Prop) : Prop := match o with
  | some (.cells cs) => CellsW cs off sz agg K
  | _ => False
theorem ldr_some {cs agg sz off} : LdR (some (.cells cs)) agg sz off K = CellsW cs off sz agg K := rfl
theorem ld_ref {agg sz id off} : LdW hp agg sz (.ref id off) K = LdR (nthH hp id) agg sz off K := by
  simp only [LdW, nthH_eq]; rfl
def StW (hp : List HObj) (sz : Nat) (a x : AV) (K : AV → List (Nat × HObj) → Prop) : Prop := match a with
  | .ref id off => match hp[id]? with
    | some (.cells cs) => (x.cells.length = sz ∧ (x.cells.all AV.isCell) = true ∧ off + sz ≤ cs.length) ∧ K .any [(id, .cells (splice cs off x.cells))]
    | _ => False
  | _ => False
theorem w_st {sz a x} : (AOp.st sz a x).wp P F hp K = StW hp sz (evF F a) (evF F x) K := by
  unfold AOp.wp; simp only [AOp.sem, semSt]
  generalize evF F a = u
  cases u with
  | ref id off =>
    simp only [hpf, StW]
    generalize hp[id]? = o
    cases o with
    | none => exact ex_f
    | some o =>
      cases o with
      | cells cs =>
        apply propext
        constructor
        · rintro ⟨r, ws, ⟨h1, h2, h3, rfl, rfl⟩, k⟩; exact ⟨⟨h1, h2, h3⟩, k⟩
        · rintro ⟨⟨h1, h2, h3⟩, k⟩; exact ⟨_, _, ⟨h1, h2, h3, rfl, rfl⟩, k⟩
      | _ => exact ex_f
  | _ => exact ex_f
def StR (o : Option HObj) (sz id off : Nat) (x : AV) (K : AV → List (Nat × HObj) → Prop) : Prop := match o with
  | some (.cells cs) => (x.cells.length = sz ∧ (x.cells.all AV.isCell) = true ∧ off + sz ≤ cs.length) ∧ K .any [(id, .cells (splice cs off x.cells))]
  | _ => False
theorem str_some {cs sz id off x} : StR (some (.cells cs)) sz id off x K = ((x.cells.length = sz ∧ (x.cells.all AV.isCell) = true ∧ off + sz ≤ cs.length) ∧ K .any [(id, .cells (splice cs off x.cells))]) := rfl
theorem st_ref {sz id off x} : StW hp sz (.ref id off) x K = StR (nthH hp id) sz id off x K := by
  simp only [StW, nthH_eq]; rfl
theorem w_box {d sz x} : (AOp.box d sz x).wp P F hp K = (((evF F x).cells.length = sz ∧ ((evF F x).cells.all AV.isCell) = true) ∧ K (.ref hp.length 0) [(hp.length, .cells (evF F x).cells)]) := by
  unfold AOp.wp; simp only [AOp.sem]
  apply propext
  constructor
  · rintro ⟨r, ws, ⟨h1, h2, rfl, rfl⟩, k⟩; exact ⟨⟨h1, h2⟩, k⟩
  · rintro ⟨⟨h1, h2⟩, k⟩; exact ⟨_, _, ⟨h1, h2, rfl, rfl⟩, k⟩
theorem w_al {d z} : (AOp.al d z).wp P F hp K = K (.ref hp.length 0) [(hp.length, .cells z)] := ex_one
def BslW (P : Program) (hp : List HObj) (n sz : Nat) (zero : List AV) (is : List Nat) (xs : List AV) (K : AV → List (Nat × HObj) → Prop) : Prop :=
  ∃ ys ids, purifyAll (hpf hp) xs = some (ys, ids) ∧ (ys.all fun y => y.cells.all AV.isCell && y.cells.all AV.isPure && (y.cells.length == sz)) = true ∧ K (.sl true n (place (zrep n zero) sz (is.zip ys))) (gones ids)
theorem bsl_of {n sz : Nat} {zero : List AV} {is : List Nat} {xs ys : List AV} {ids : List Nat} (h1 : purifyAll (hpf hp) xs = some (ys, ids)) (h2 : (ys.all fun y => y.cells.all AV.isCell && y.cells.all AV.isPure && (y.cells.length == sz)) = true)
    (h3 : K (.sl true n (place (zrep n zero) sz (is.zip ys))) (gones ids)) : BslW P hp n sz zero is xs K := ⟨ys, ids, h1, h2, h3⟩
theorem place_nil {cs : List AV} {sz : Nat} : place cs sz [] = cs := rfl
theorem place_cons {cs : List AV} {sz i : Nat} {x : AV} {r} : place cs sz ((i, x) :: r) = place (splice cs (i * sz) x.cells) sz r := rfl
theorem placeF_nil {cs : List AV} : placeF cs [] = cs := rfl
theorem placeF_cons {cs : List AV} {off n : Nat} {x : AV} {r} : placeF cs ((off, n, x) :: r) = placeF (splice cs off x.cells) r := rfl
theorem zrep_succ {n} {z : List AV} : zrep (n + 1) z = z ++ zrep n z := rfl
theorem w_bsl {d n sz z ps} : (AOp.bsl d n sz z ps).wp P F hp K = BslW P hp n sz z (ps.map (·.1)) (ps.map fun p => evF F p.2) K := by
  apply propext
  constructor
  · rintro ⟨r, ws, ⟨ys, ids, h1, h2, rfl, rfl⟩, k⟩; exact ⟨ys, ids, h1, h2, k⟩
  · rintro ⟨ys, ids, h1, h2, k⟩; exact ⟨_, _, ⟨ys, ids, h1, h2, rfl, rfl⟩, k⟩
theorem w_bld {d z ps} : (AOp.bld d z ps).wp P F hp K = ((ps.all fun p => (evF F p.2.2).cells.all AV.isCell && ((evF F p.2.2).cells.length == p.2.1)) = true ∧ K (.agg (placeF z (ps.map fun p => (p.1, p.2.1, evF F p.2.2)))) []) := ex_two
def FaW (x : AV) (off : Nat) (K : AV → List (Nat × HObj) → Prop) : Prop := match x with
  | .ptr cs o => K (.ptr cs (o + off)) []
  | .ref id o => K (.ref id (o + off)) []
  | _ => False
theorem w_fa {d x off} : (AOp.fa d x off).wp P F hp K = FaW (evF F x) off K := by
  unfold AOp.wp; simp only [AOp.sem]
  generalize evF F x = u
  cases u <;> first | exact ex_one | exact ex_f
theorem fa_ptr {cs o off} : FaW (.ptr cs o) off K = K (.ptr cs (o + off)) [] := rfl
theorem fa_ref {id o off} : FaW (.ref id o) off K = K (.ref id (o + off)) [] := rfl
def FldW (agg : Bool) (sz off : Nat) (x : AV) (K : AV → List (Nat × HObj) → Prop) : Prop := match x with
  | .agg cs => CellsW cs off sz agg K
  | _ => False
theorem w_fld {d agg sz off x} : (AOp.fld d agg sz off x).wp P F hp K = FldW agg sz off (evF F x) K := by
  unfold AOp.wp; simp only [AOp.sem]
  generalize evF F x = u
  cases u <;> first | exact cells_ex (p := True) | exact ex_f
theorem fld_agg {agg sz off cs} : FldW agg sz off (.agg cs) K = CellsW cs off sz agg K := rfl
def IaW (sz : Nat) (x i : AV) (K : AV → List (Nat × HObj) → Prop) : Prop := match x, i with
  | .sl _ n cs, .v (.int _ j) => (0 ≤ j ∧ j < n) ∧ cs.length = n * sz ∧ K (.ptr cs (j.toNat * sz)) []
  | .ms id off n sz', .v (.int _ j) => (0 ≤ j ∧ j < n) ∧ sz' = sz ∧ K (.ref id (off + j.toNat * sz)) []
  | .mc id off n _ sz', .v (.int _ j) => (0 ≤ j ∧ j < n) ∧ sz' = sz ∧ K (.ref id (off + j.toNat * sz)) []
  | _, _ => False
theorem w_ia {d sz x i} : (AOp.ia d sz x i).wp P F hp K = IaW sz (evF F x) (evF F i) K := by
  unfold AOp.wp; simp only [AOp.sem]
  generalize evF F x = u
  generalize evF F i = v
  cases u with
  | sl f n cs =>
    cases v with
    | v y =>
      cases y <;> first | exact ex_f | skip
      apply propext
      constructor
      · rintro ⟨r, ws, ⟨h1, rfl, rfl, h2⟩, k⟩; exact ⟨h1, h2, k⟩
      · rintro ⟨h1, h2, k⟩; exact ⟨_, _, ⟨h1, rfl, rfl, h2⟩, k⟩
    | _ => exact ex_f
  | ms id off n sz' =>
    cases v with
    | v y =>
      cases y <;> first | exact ex_f | skip
      apply propext
      constructor
      · rintro ⟨r, ws, ⟨h1, h2, rfl, rfl⟩, k⟩; exact ⟨h1, h2, k⟩
      · rintro ⟨h1, h2, k⟩; exact ⟨_, _, ⟨h1, h2, rfl, rfl⟩, k⟩
    | _ => exact ex_f
  | mc id off n c sz' =>
    cases v with
    | v y =>
      cases y <;> first | exact ex_f | skip
      apply propext
      constructor
      · rintro ⟨r, ws, ⟨h1, h2, rfl, rfl⟩, k⟩; exact ⟨h1, h2, k⟩
      · rintro ⟨h1, h2, k⟩; exact ⟨_, _, ⟨h1, h2, rfl, rfl⟩, k⟩
    | _ => exact ex_f
  | _ => cases v <;> exact ex_f
theorem ia_mc {sz id off n c sz' j k} : IaW sz (.mc id off n c sz') (.v (.int k j)) K = ((0 ≤ j ∧ j < n) ∧ sz' = sz ∧ K (.ref id (off + j.toNat * sz)) []) := rfl
theorem ia_sl {sz f n cs j k} : IaW sz (.sl f n cs) (.v (.int k j)) K = ((0 ≤ j ∧ j < n) ∧ cs.length = n * sz ∧ K (.ptr cs (j.toNat * sz)) []) := rfl
theorem ia_ms {sz id off n sz' j k} : IaW sz (.ms id off n sz') (.v (.int k j)) K = ((0 ≤ j ∧ j < n) ∧ sz' = sz ∧ K (.ref id (off + j.toNat * sz)) []) := rfl
def IaaW (ln sz : Nat) (x i : AV) (K : AV → List (Nat × HObj) → Prop) : Prop := match x, i with
  | .ptr cs o, .v (.int _ j) => (0 ≤ j ∧ j < ln) ∧ K (.ptr cs (o + j.toNat * sz)) []
  | .ref id o, .v (.int _ j) => (0 ≤ j ∧ j < ln) ∧ K (.ref id (o + j.toNat * sz)) []
  | _, _ => False
theorem w_iaa {d ln sz x i} : (AOp.iaa d ln sz x i).wp P F hp K = IaaW ln sz (evF F x) (evF F i) K := by
  unfold AOp.wp; simp only [AOp.sem]
  generalize evF F x = u
  generalize evF F i = v
  cases u with
  | ptr cs o =>
    cases v with
    | v y => cases y <;> first | exact ex_f | exact ex_two
    | _ => exact ex_f
  | ref id o =>
    cases v with
    | v y => cases y <;> first | exact ex_f | exact ex_two
    | _ => exact ex_f
  | _ => cases v <;> exact ex_f
theorem iaa_ptr {ln sz cs o j k} : IaaW ln sz (.ptr cs o) (.v (.int k j)) K = ((0 ≤ j ∧ j < ln) ∧ K (.ptr cs (o + j.toNat * sz)) []) := rfl
theorem iaa_ref {ln sz id o j k} : IaaW ln sz (.ref id o) (.v (.int k j)) K = ((0 ≤ j ∧ j < ln) ∧ K (.ref id (o + j.toNat * sz)) []) := rfl
def IdxW (ln : Nat) (agg : Bool) (sz : Nat) (x i : AV) (K : AV → List (Nat × HObj) → Prop) : Prop := match x, i with
  | .agg cs, .v (.int _ j) => (0 ≤ j ∧ j < ln) ∧ CellsW cs (j.toNat * sz) sz agg K
  | _, _ => False
theorem w_idx {d ln agg sz x i} : (AOp.idx d ln agg sz x i).wp P F hp K = IdxW ln agg sz (evF F x) (evF F i) K := by
  unfold AOp.wp; simp only [AOp.sem]
  generalize evF F x = u
  generalize evF F i = v
  cases u with
  | agg cs =>
    cases v with
    | v y =>
      cases y <;> first | exact ex_f | skip
      simp only [IdxW]
      rw [← cells_ex (p := True)]
      apply propext
      constructor
      · rintro ⟨r, ws, ⟨h1, h2, h3⟩, k⟩; exact ⟨h1, r, ws, ⟨h2, h3⟩, k⟩
      · rintro ⟨h1, r, ws, ⟨h2, h3⟩, k⟩; exact ⟨r, ws, ⟨h1, h2, h3⟩, k⟩
    | _ => exact ex_f
  | _ => cases v <;> exact ex_f
theorem idx_agg {ln agg sz cs j k} : IdxW ln agg sz (.agg cs) (.v (.int k j)) K = ((0 ≤ j ∧ j < ln) ∧ CellsW cs (j.toNat * sz) sz agg K) := rfl
def LenW (x : AV) (K : AV → List (Nat × HObj) → Prop) : Prop := match x with
  | .sl _ n _ => K (I n) []
  | .ms _ _ n _ => K (I n) []
  | .mc _ _ n _ _ => K (I n) []
  | _ => False
theorem w_len {d x} : (AOp.len d x).wp P F hp K = LenW (evF F x) K := by
  unfold AOp.wp; simp only [AOp.sem]
  generalize evF F x = u
  cases u <;> first | exact ex_one | exact ex_f
theorem len_sl {f n cs} : LenW (.sl f n cs) K = K (I n) [] := rfl
theorem len_mc {id off n c sz} : LenW (.mc id off n c sz) K = K (I n) [] := rfl
theorem len_ms {id off n sz} : LenW (.ms id off n sz) K = K (I n) [] := rfl
def SlcW (sz : Nat) (x : AV) (lo hi mx : Option AV) (K : AV → List (Nat × HObj) → Prop) : Prop := ∃ r ws, semSlc r ws sz x lo hi mx ∧ K r ws
theorem w_slc {d sz x lo hi mx} : (AOp.slc d sz x lo hi mx).wp P F hp K = SlcW sz (evF F x) (lo.map (evF F)) (hi.map (evF F)) (mx.map (evF F)) K := rfl
theorem I_inj {a b : Int} : (I a = I b) = (a = b) := by simp [I]
theorem slc_hi {sz f n cs j} : SlcW sz (.sl f n cs) none (some (I j)) none K = ((0 ≤ j ∧ j ≤ n ∧ cs.length = n * sz) ∧ K (.sl (f && decide (j.toNat = n)) j.toNat (view cs 0 (j.toNat * sz))) []) := by
  apply propext
  constructor
  · rintro ⟨r, ws, ⟨l, h, h1, h2, h3, h4, h5, h6, h7⟩, k⟩
    simp only [I_inj] at h2
    subst h1; subst h2
    simp only [Nat.sub_zero, Nat.zero_mul] at h6
    subst h6; subst h7
    exact ⟨⟨by omega, by omega, h5⟩, by simpa using k⟩
  · rintro ⟨⟨h1, h2, h3⟩, k⟩
    exact ⟨_, _, ⟨0, j.toNat, rfl, by rw [Int.toNat_of_nonneg h1], by omega, by omega, h3, rfl, rfl⟩, by simpa using k⟩
theorem slc_lo {sz f n cs j} : SlcW sz (.sl f n cs) (some (I j)) none none K = ((0 ≤ j ∧ j ≤ n ∧ cs.length = n * sz) ∧ K (.sl f (n - j.toNat) (view cs (j.toNat * sz) ((n - j.toNat) * sz))) []) := by
  apply propext
  constructor
  · rintro ⟨r, ws, ⟨l, h, h1, h2, h3, h4, h5, h6, h7⟩, k⟩
    simp only [I_inj] at h1
    subst h1; subst h2
    simp only [decide_true, Bool.and_true] at h6
    subst h6; subst h7
    exact ⟨⟨by omega, by omega, h5⟩, by simpa using k⟩
  · rintro ⟨⟨h1, h2, h3⟩, k⟩
    exact ⟨_, _, ⟨j.toNat, n, by rw [Int.toNat_of_nonneg h1], rfl, by omega, by omega, h3, rfl, rfl⟩, by simpa using k⟩
theorem slc_lohi {sz f n cs i j} : SlcW sz (.sl f n cs) (some (I i)) (some (I j)) none K = ((0 ≤ i ∧ i ≤ j ∧ j ≤ n ∧ cs.length = n * sz) ∧ K (.sl (f && decide (j.toNat = n)) (j.toNat - i.toNat) (view cs (i.toNat * sz) ((j.toNat - i.toNat) * sz))) []) := by
  apply propext
  constructor
  · rintro ⟨r, ws, ⟨l, h, h1, h2, h3, h4, h5, h6, h7⟩, k⟩
    simp only [I_inj] at h1 h2
    subst h1; subst h2
    subst h6; subst h7
    exact ⟨⟨by omega, by omega, by omega, h5⟩, by simpa using k⟩
  · rintro ⟨⟨h1, h2, h3, h4⟩, k⟩
    exact ⟨_, _, ⟨i.toNat, j.toNat, by rw [Int.toNat_of_nonneg h1], by rw [Int.toNat_of_nonneg (by omega)], by omega, by omega, h4, rfl, rfl⟩, by simpa using k⟩
def CnvW (k : IntKind) (x : AV) (K : AV → List (Nat × HObj) → Prop) : Prop := match x with
  | .v (.int _ n) => K (.v (.int k (k.wrap n))) []
  | _ => False
theorem w_cnv {d k x} : (AOp.cnv d k x).wp P F hp K = CnvW k (evF F x) K := by
  unfold AOp.wp; simp only [AOp.sem]
  generalize evF F x = u
  cases u with
  | v y => cases y <;> first | exact ex_one | exact ex_f
  | _ => exact ex_f
theorem cnv_int {k k' n} : CnvW k (.v (.int k' n)) K = K (.v (.int k (k.wrap n))) [] := rfl
def MxW (max : Bool) (x y : AV) (K : AV → List (Nat × HObj) → Prop) : Prop := match x, y with
  | .v (.int k a), .v (.int _ b) => K (.v (.int k (bif max then (if b > a then b else a) else (if b < a then b else a)))) []
  | _, _ => False
theorem w_mx {d max x y} : (AOp.mx d max x y).wp P F hp K = MxW max (evF F x) (evF F y) K := by
  unfold AOp.wp; simp only [AOp.sem]
  generalize evF F x = u
  generalize evF F y = v
  cases u with
  | v a =>
    cases v with
    | v b => cases a <;> cases b <;> first | exact ex_one | exact ex_f
    | _ => cases a <;> exact ex_f
  | _ => cases v <;> exact ex_f
theorem mx_int {max k a k' b} : MxW max (.v (.int k a)) (.v (.int k' b)) K = K (.v (.int k (bif max then (if b > a then b else a) else (if b < a then b else a)))) [] := rfl
theorem mx_max {k a k' b} : MxW true (.v (.int k a)) (.v (.int k' b)) K = K (.v (.int k (max a b))) [] := by
  rw [mx_int, cond_true]
  have : (if b > a then b else a) = max a b := by by_cases h : b > a <;> simp [h] <;> omega
  rw [this]
theorem mx_min {k a k' b} : MxW false (.v (.int k a)) (.v (.int k' b)) K = K (.v (.int k (min a b))) [] := by
  rw [mx_int, cond_false]
  have : (if b < a then b else a) = min a b := by by_cases h : b < a <;> simp [h] <;> omega
  rw [this]
def NilcW (x : AV) (K : AV → List (Nat × HObj) → Prop) : Prop := match x with
  | .ptr cs o => K (.ptr cs o) []
  | .ref id o => K (.ref id o) []
  | .fn (.func f) as bs => K (.fn (.func f) as bs) []
  | _ => False
theorem w_nilc {d x} : (AOp.nilc d x).wp P F hp K = NilcW (evF F x) K := by
  unfold AOp.wp; simp only [AOp.sem]
  generalize evF F x = u
  cases u with
  | fn f as bs => cases f <;> first | exact ex_one | exact ex_f
  | ptr => exact ex_one
  | ref => exact ex_one
  | _ => exact ex_f
theorem nilc_ptr {cs o} : NilcW (.ptr cs o) K = K (.ptr cs o) [] := rfl
theorem nilc_ref {id o} : NilcW (.ref id o) K = K (.ref id o) [] := rfl
theorem nilc_fn {f as bs} : NilcW (.fn (.func f) as bs) K = K (.fn (.func f) as bs) [] := rfl
theorem w_mkf {d f as bs} : (AOp.mkf d f as bs).wp P F hp K = K (.fn f (as.map (evF F)) (bs.map (evF F))) [] := ex_one
def AppW (hp : List HObj) (sz bytes : Nat) (x y : AV) (K : AV → List (Nat × HObj) → Prop) : Prop := ∃ m ys, elems (hpf hp) sz y = some (m, ys) ∧ (ys.all AV.isPC) = true ∧ ∃ r ws, semApp (hpf hp) hp.length r ws sz bytes x m ys ∧ K r ws
theorem w_app {d sz bytes x y} : (AOp.app d sz bytes x y).wp P F hp K = AppW hp sz bytes (evF F x) (evF F y) K := by
  apply propext
  constructor
  · rintro ⟨r, ws, ⟨m, ys, h1, h2, h3⟩, k⟩; exact ⟨m, ys, h1, h2, r, ws, h3, k⟩
  · rintro ⟨m, ys, h1, h2, r, ws, h3, k⟩; exact ⟨r, ws, ⟨m, ys, h1, h2, h3⟩, k⟩
theorem app_sl {sz bytes n m f g} {cs ys : List AV} : AppW hp sz bytes (.sl f n cs) (.sl g m ys) K =
    ((f = true ∧ ys.length = m * sz ∧ (ys.all AV.isPC) = true ∧ cs.length = n * sz ∧ (n + m) * bytes ≤ 140737488355328 ∧ n + m ≤ 140737488355328 ∧ (n = 0 ∨ 0 < m)) ∧ K (.ms hp.length 0 (n + m) sz) [(hp.length, .cells (cs ++ ys))]) := by
  apply propext
  constructor
  · rintro ⟨m', ys', h1, h2, r, ws, h3, k⟩
    simp only [elems] at h1
    split at h1
    · rename_i hl; cases h1
      obtain ⟨a1, a2, a3, a4, a5, rfl, rfl⟩ := h3
      exact ⟨⟨a1, hl, h2, a2, a3, a4, a5⟩, k⟩
    · cases h1
  · rintro ⟨⟨a1, a2, a3, a4, a5, a6, a7⟩, k⟩
    exact ⟨m, ys, by simp [elems, a2], a3, _, _, ⟨a1, a4, a5, a6, a7, rfl, rfl⟩, k⟩
def AppR (o : Option HObj) (new sz bytes id off n sz' m : Nat) (ys : List AV) (K : AV → List (Nat × HObj) → Prop) : Prop := match o with
  | some (.cells cs) => (ys.length = m * sz ∧ (ys.all AV.isPC) = true ∧ sz' = sz ∧ off + n * sz ≤ cs.length ∧ (n + m) * bytes ≤ 140737488355328 ∧ n + m ≤ 140737488355328) ∧ K (.ms new 0 (n + m) sz) [(id, .gone), (new, .cells (view cs off (n * sz) ++ ys))]
  | _ => False
theorem appr_some {cs new sz bytes id off n sz' m ys} : AppR (some (.cells cs)) new sz bytes id off n sz' m ys K = ((ys.length = m * sz ∧ (ys.all AV.isPC) = true ∧ sz' = sz ∧ off + n * sz ≤ cs.length ∧ (n + m) * bytes ≤ 140737488355328 ∧ n + m ≤ 140737488355328) ∧ K (.ms new 0 (n + m) sz) [(id, .gone), (new, .cells (view cs off (n * sz) ++ ys))]) := rfl
theorem app_ms {sz bytes id off n sz' m g} {ys : List AV} : AppW hp sz bytes (.ms id off n sz') (.sl g m ys) K = AppR (nthH hp id) hp.length sz bytes id off n sz' m ys K := by
  apply propext
  rw [nthH_eq]
  constructor
  · rintro ⟨m', ys', h1, h2, r, ws, h3, k⟩
    simp only [elems] at h1
    split at h1
    · rename_i hl; cases h1
      simp only [semApp, hpf] at h3
      cases ho : hp[id]? with
      | none => rw [ho] at h3; exact h3.elim
      | some o =>
        rw [ho] at h3
        cases o with
        | cells cs =>
          obtain ⟨a1, a2, a3, a4, rfl, rfl⟩ := h3
          exact ⟨⟨hl, h2, a1, a2, a3, a4⟩, k⟩
        | _ => exact h3.elim
    · cases h1
  · intro h
    cases ho : hp[id]? with
    | none => rw [ho] at h; exact h.elim
    | some o =>
      rw [ho] at h
      cases o with
      | cells cs =>
        obtain ⟨⟨a1, a2, a3, a4, a5, a6⟩, k⟩ := h
        refine ⟨m, ys, by simp [elems, a1], a2, _, _, ?_, k⟩
        simp only [semApp, hpf, ho]
        exact ⟨a3, a4, a5, a6, trivial, trivial⟩
      | _ => exact h.elim
def MksW (hp : List HObj) (sz bytes : Nat) (zero : List AV) (x y : AV) (K : AV → List (Nat × HObj) → Prop) : Prop :=
  ∃ k : Nat, x = I k ∧ y = I k ∧ k * bytes ≤ 140737488355328 ∧ k ≤ 140737488355328 ∧ zero.length = sz ∧ K (.ms hp.length 0 k sz) [(hp.length, .cells (zrep k zero))]
theorem w_mks {d sz bytes z n c} : (AOp.mks d sz bytes z n c).wp P F hp K = MksW hp sz bytes z (evF F n) (evF F c) K := by
  apply propext
  constructor
  · rintro ⟨r, ws, ⟨k, h1, h2, h3, h4, h5, rfl, rfl⟩, hk⟩; exact ⟨k, h1, h2, h3, h4, h5, hk⟩
  · rintro ⟨k, h1, h2, h3, h4, h5, hk⟩; exact ⟨_, _, ⟨k, h1, h2, h3, h4, h5, rfl, rfl⟩, hk⟩
theorem xo_cap {a0 a1} : aops P E (.cap a0 a1 :: os) ⟨fr, hp⟩ KS = (AOp.cap a0 a1).wp P (get fr) hp (contA P E os (some a0) fr hp KS) := rfl
theorem xo_clr {a0 a1 a2} : aops P E (.clr a0 a1 a2 :: os) ⟨fr, hp⟩ KS = (AOp.clr a0 a1 a2).wp P (get fr) hp (contA P E os none fr hp KS) := rfl
theorem xo_appz {a0 a1 a2 a3 a4 a5} : aops P E (.appz a0 a1 a2 a3 a4 a5 :: os) ⟨fr, hp⟩ KS = (AOp.appz a0 a1 a2 a3 a4 a5).wp P (get fr) hp (contA P E os (some a0) fr hp KS) := rfl
theorem xo_slp {a0 a1 a2 a3 a4 a5 a6} : aops P E (.slp a0 a1 a2 a3 a4 a5 a6 :: os) ⟨fr, hp⟩ KS = (AOp.slp a0 a1 a2 a3 a4 a5 a6).wp P (get fr) hp (contA P E os (some a0) fr hp KS) := rfl
theorem xo_mkm {a0} : aops P E (.mkm a0 :: os) ⟨fr, hp⟩ KS = (AOp.mkm a0).wp P (get fr) hp (contA P E os (some a0) fr hp KS) := rfl
theorem xo_ins {a0 a1 a2 a3} : aops P E (.ins a0 a1 a2 a3 :: os) ⟨fr, hp⟩ KS = (AOp.ins a0 a1 a2 a3).wp P (get fr) hp (contA P E os none fr hp KS) := rfl
theorem xo_lku {a0 a1 a2 a3 a4 a5} : aops P E (.lku a0 a1 a2 a3 a4 a5 :: os) ⟨fr, hp⟩ KS = (AOp.lku a0 a1 a2 a3 a4 a5).wp P (get fr) hp (contA P E os (some a0) fr hp KS) := rfl
theorem xo_mpe {a0 a1 a2 a3 a4} : aops P E (.mpe a0 a1 a2 a3 a4 :: os) ⟨fr, hp⟩ KS = (AOp.mpe a0 a1 a2 a3 a4).wp P (get fr) hp (contA P E os (some a0) fr hp KS) := rfl
theorem xo_est {a0 a1 a2} : aops P E (.est a0 a1 a2 :: os) ⟨fr, hp⟩ KS = (AOp.est a0 a1 a2).wp P (get fr) hp (contA P E os none fr hp KS) := rfl
theorem xo_del {a0 a1 a2} : aops P E (.del a0 a1 a2 :: os) ⟨fr, hp⟩ KS = (AOp.del a0 a1 a2).wp P (get fr) hp (contA P E os none fr hp KS) := rfl
theorem xo_eqk {a0 a1 a2 a3 a4} : aops P E (.eqk a0 a1 a2 a3 a4 :: os) ⟨fr, hp⟩ KS = (AOp.eqk a0 a1 a2 a3 a4).wp P (get fr) hp (contA P E os (some a0) fr hp KS) := rfl
theorem dx_cap {a0 a1} : dops P (.cap a0 a1 :: os) ⟨fr, hp⟩ tr KD = (AOp.cap a0 a1).wp P (get fr) hp (contD P os (some a0) fr hp tr ((AOp.cap a0 a1).foot (get fr)) KD) := rfl
theorem dx_clr {a0 a1 a2} : dops P (.clr a0 a1 a2 :: os) ⟨fr, hp⟩ tr KD = (AOp.clr a0 a1 a2).wp P (get fr) hp (contD P os none fr hp tr ((AOp.clr a0 a1 a2).foot (get fr)) KD) := rfl
theorem dx_appz {a0 a1 a2 a3 a4 a5} : dops P (.appz a0 a1 a2 a3 a4 a5 :: os) ⟨fr, hp⟩ tr KD = (AOp.appz a0 a1 a2 a3 a4 a5).wp P (get fr) hp (contD P os (some a0) fr hp tr ((AOp.appz a0 a1 a2 a3 a4 a5).foot (get fr)) KD) := rfl
theorem dx_slp {a0 a1 a2 a3 a4 a5 a6} : dops P (.slp a0 a1 a2 a3 a4 a5 a6 :: os) ⟨fr, hp⟩ tr KD = (AOp.slp a0 a1 a2 a3 a4 a5 a6).wp P (get fr) hp (contD P os (some a0) fr hp tr ((AOp.slp a0 a1 a2 a3 a4 a5 a6).foot (get fr)) KD) := rfl
theorem dx_mkm {a0} : dops P (.mkm a0 :: os) ⟨fr, hp⟩ tr KD = (AOp.mkm a0).wp P (get fr) hp (contD P os (some a0) fr hp tr ((AOp.mkm a0).foot (get fr)) KD) := rfl
theorem dx_ins {a0 a1 a2 a3} : dops P (.ins a0 a1 a2 a3 :: os) ⟨fr, hp⟩ tr KD = (AOp.ins a0 a1 a2 a3).wp P (get fr) hp (contD P os none fr hp tr ((AOp.ins a0 a1 a2 a3).foot (get fr)) KD) := rfl
theorem dx_lku {a0 a1 a2 a3 a4 a5} : dops P (.lku a0 a1 a2 a3 a4 a5 :: os) ⟨fr, hp⟩ tr KD = (AOp.lku a0 a1 a2 a3 a4 a5).wp P (get fr) hp (contD P os (some a0) fr hp tr ((AOp.lku a0 a1 a2 a3 a4 a5).foot (get fr)) KD) := rfl
theorem dx_mpe {a0 a1 a2 a3 a4} : dops P (.mpe a0 a1 a2 a3 a4 :: os) ⟨fr, hp⟩ tr KD = (AOp.mpe a0 a1 a2 a3 a4).wp P (get fr) hp (contD P os (some a0) fr hp tr ((AOp.mpe a0 a1 a2 a3 a4).foot (get fr)) KD) := rfl
theorem dx_est {a0 a1 a2} : dops P (.est a0 a1 a2 :: os) ⟨fr, hp⟩ tr KD = (AOp.est a0 a1 a2).wp P (get fr) hp (contD P os none fr hp tr ((AOp.est a0 a1 a2).foot (get fr)) KD) := rfl
theorem dx_del {a0 a1 a2} : dops P (.del a0 a1 a2 :: os) ⟨fr, hp⟩ tr KD = (AOp.del a0 a1 a2).wp P (get fr) hp (contD P os none fr hp tr ((AOp.del a0 a1 a2).foot (get fr)) KD) := rfl
theorem dx_eqk {a0 a1 a2 a3 a4} : dops P (.eqk a0 a1 a2 a3 a4 :: os) ⟨fr, hp⟩ tr KD = (AOp.eqk a0 a1 a2 a3 a4).wp P (get fr) hp (contD P os (some a0) fr hp tr ((AOp.eqk a0 a1 a2 a3 a4).foot (get fr)) KD) := rfl
theorem foot_lku {a0 a1 a2 a3 a4 a5} {G : Nat → AV} : (AOp.lku a0 a1 a2 a3 a4 a5).foot G = (evF G a4).ids ++ (evF G a5).ids := by simp [AOp.foot, AOp.heapy, AOp.opds]
theorem foot_mpe {a0 a1 a2 a3 a4} {G : Nat → AV} : (AOp.mpe a0 a1 a2 a3 a4).foot G = (evF G a3).ids ++ (evF G a4).ids := by simp [AOp.foot, AOp.heapy, AOp.opds]
theorem foot_est {a0 a1 a2} {G : Nat → AV} : (AOp.est a0 a1 a2).foot G = (evF G a0).ids ++ ((evF G a1).ids ++ (evF G a2).ids) := by simp [AOp.foot, AOp.heapy, AOp.opds]
theorem foot_ins {a0 a1 a2 a3} {G : Nat → AV} : (AOp.ins a0 a1 a2 a3).foot G = (evF G a1).ids ++ ((evF G a2).ids ++ (evF G a3).ids) := by simp [AOp.foot, AOp.heapy, AOp.opds]
theorem foot_del {a0 a1 a2} {G : Nat → AV} : (AOp.del a0 a1 a2).foot G = (evF G a1).ids ++ (evF G a2).ids := by simp [AOp.foot, AOp.heapy, AOp.opds]
theorem foot_appz {a0 a1 a2 a3 a4 a5} {G : Nat → AV} : (AOp.appz a0 a1 a2 a3 a4 a5).foot G = (evF G a4).ids ++ (evF G a5).ids := by simp [AOp.foot, AOp.heapy, AOp.opds]
theorem foot_clr {a0 a1 a2} {G : Nat → AV} : (AOp.clr a0 a1 a2).foot G = (evF G a2).ids := by simp [AOp.foot, AOp.heapy, AOp.opds]
theorem foot_eqk {a0 a1 a2 a3 a4} {G : Nat → AV} : (AOp.eqk a0 a1 a2 a3 a4).foot G = [] := rfl
theorem foot_cap {a0 a1} {G : Nat → AV} : (AOp.cap a0 a1).foot G = [] := rfl
theorem foot_mkm {a0} {G : Nat → AV} : (AOp.mkm a0).foot G = [] := rfl
def EqkW (neg : Bool) (ks : Bool × List Leaf) (x y : AV) (K : AV → List (Nat × HObj) → Prop) : Prop := ∃ a b z, x.val = some a ∧ y.val = some b ∧ eqK ks a b = some z ∧ K (B (neg != z)) []
theorem w_eqk {d neg ks x y} : (AOp.eqk d neg ks x y).wp P F hp K = EqkW neg ks (evF F x) (evF F y) K := by
  apply propext
  constructor
  · rintro ⟨r, ws, ⟨a, b, z, h1, h2, h3, rfl, rfl⟩, k⟩; exact ⟨a, b, z, h1, h2, h3, k⟩
  · rintro ⟨a, b, z, h1, h2, h3, k⟩; exact ⟨_, _, ⟨a, b, z, h1, h2, h3, rfl, rfl⟩, k⟩
theorem eqk_of {neg : Bool} {ks : Bool × List Leaf} {x y : AV} {a b : Value} {z : Bool} (hx : x.val = some a) (hy : y.val = some b) (hz : eqK ks a b = some z) : EqkW neg ks x y K = K (B (neg != z)) [] := by
  apply propext
  constructor
  · rintro ⟨a', b', z', e1, e2, e3, k⟩
    rw [hx] at e1; rw [hy] at e2
    cases e1; cases e2
    rw [hz] at e3; cases e3
    exact k
  · exact fun k => ⟨a, b, z, hx, hy, hz, k⟩
variable {Q : Exit → St → Prop} {x y : AC}
def CondB (P : Program) (E : HE) (t : Bool) (x y : AC) (st : St) (Q : Exit → St → Prop) : Prop := (t = true → AWP P E x st Q) ∧ (t = false → AWP P E y st Q)
def CondX (P : Program) (E : HE) (c : AV) (x y : AC) (st : St) (Q : Exit → St → Prop) : Prop := match c with
  | .v (.bool t) => CondB P E t x y st Q
  | _ => False
theorem x_cond {c} : AWP P E (.cond c x y) ⟨fr, hp⟩ Q = CondX P E (evF (get fr) c) x y ⟨fr, hp⟩ Q := by
  simp only [AWP, CondX]
  generalize evF (get fr) c = u
  cases u with
  | v y => cases y <;> rfl
  | _ => rfl
theorem c_bool {t st} : CondX P E (B t) x y st Q = CondB P E t x y st Q := rfl
theorem c_true {st} : CondB P E true x y st Q = AWP P E x st Q := by simp [CondB]
theorem c_false {st} : CondB P E false x y st Q = AWP P E y st Q := by simp [CondB]
theorem c_split {t : Bool} {st : St} (h1 : t = true → AWP P E x st Q) (h2 : t = false → AWP P E y st Q) : CondB P E t x y st Q := ⟨h1, h2⟩
theorem x_skip : AWP P E .skip ⟨fr, hp⟩ Q = Q .normal ⟨fr, hp⟩ := rfl
theorem x_rgn {gs ks} : AWP P E (.rgn gs ks) ⟨fr, hp⟩ Q = agrps P E gs ⟨fr, hp⟩ fun st => Q .normal (st.keep ks) := rfl
theorem x_drw {gs un ks} : AWP P E (.drw gs un ks) ⟨fr, hp⟩ Q = dgrps P gs ⟨fr, hp⟩ [] fun st tr => compat tr un = true ∧ Q .normal (st.keep ks) := rfl
theorem x_seq : AWP P E (.seq x y) ⟨fr, hp⟩ Q = AWP P E x ⟨fr, hp⟩ (Exit.th (fun st => AWP P E y st Q) Q) := rfl
theorem x_block {id} : AWP P E (.block id x) ⟨fr, hp⟩ Q = AWP P E x ⟨fr, hp⟩ (Exit.blk id Q) := rfl
theorem x_exit {id} : AWP P E (.exit id) ⟨fr, hp⟩ Q = Q (.exit id) ⟨fr, hp⟩ := rfl
theorem x_ret : AWP P E .ret ⟨fr, hp⟩ Q = Q .ret ⟨fr, hp⟩ := rfl
theorem x_label {l} : AWP P E (.label l) ⟨fr, hp⟩ Q = Q .normal ⟨fr, hp⟩ := rfl
def cmp2 : Option (List Nat × List Nat) → Option (List Nat × List Nat) → Bool
  | some (ri, wi), some (rj, wj) => disj wi rj && disj wi wj && disj wj ri
  | _, _ => false
def nthT : Tr → Nat → Option (List Nat × List Nat)
  | [], _ => none
  | a :: l, n => if n = 0 then some a else nthT l (n - 1)
theorem nthT_eq : ∀ (l : Tr) (n : Nat), nthT l n = l[n]?
  | [], n => by simp [nthT]
  | a :: l, 0 => by simp [nthT]
  | a :: l, n + 1 => by simp [nthT, nthT_eq l n]
theorem nthT_cons {a : List Nat × List Nat} {l : Tr} {n} : nthT (a :: l) n = if n = 0 then some a else nthT l (n - 1) := rfl
theorem compat_cons {i j un} : compat tr ((i, j) :: un) = (cmp2 (nthT tr i) (nthT tr j) && compat tr un) := by
  simp only [compat, nthT_eq]
  generalize tr[i]? = a
  generalize tr[j]? = b
  cases a <;> cases b <;> rfl
theorem compat_nil : compat tr [] = true := rfl
theorem cmp2_some {ri wi rj wj} : cmp2 (some (ri, wi)) (some (rj, wj)) = (disj wi rj && disj wi wj && disj wj ri) := rfl
theorem disj_nil {b : List Nat} : disj [] b = true := rfl
theorem disj_cons {x : Nat} {a b : List Nat} : disj (x :: a) b = (!b.contains x && disj a b) := rfl
def keepF (fr : List (Nat × AV)) (ks : List Nat) : List (Nat × AV) := ks.map fun t => (t, get fr t)
theorem x_keep {ks} : St.keep ⟨fr, hp⟩ ks = ⟨keepF fr ks, hp⟩ := rfl
theorem keep_cons {k ks} : keepF fr (k :: ks) = (k, get fr k) :: keepF fr ks := rfl
theorem keep_nil : keepF fr [] = [] := rfl
theorem th_n {st : St} : Exit.th KS Q .normal st = KS st := rfl
theorem th_e {st : St} {id} : Exit.th KS Q (.exit id) st = Q (.exit id) st := rfl
theorem th_r {st : St} : Exit.th KS Q .ret st = Q .ret st := rfl
theorem blk_n {st : St} {id} : Exit.blk id Q .normal st = Q .normal st := rfl
theorem blk_r {st : St} {id} : Exit.blk id Q .ret st = Q .ret st := rfl
theorem blk_e {st : St} {id id'} : Exit.blk id Q (.exit id') st = if id' = id then Q .normal st else Q (.exit id') st := rfl
theorem g_nil : agrps P E [] ⟨fr, hp⟩ KS = KS ⟨fr, hp⟩ := rfl
theorem g_none {gs} : agrps P E (⟨none, os⟩ :: gs) ⟨fr, hp⟩ KS = aops P E os ⟨fr, hp⟩ fun st => agrps P E gs st KS := rfl
def GdB (P : Program) (E : HE) (c b : Bool) (os : List AOp) (gs : List Grp) (st : St) (K : St → Prop) : Prop := (c = b → aops P E os st fun st => agrps P E gs st K) ∧ (c ≠ b → agrps P E gs (undefs os st) K)
def GdX (P : Program) (E : HE) (x : AV) (b : Bool) (os : List AOp) (gs : List Grp) (st : St) (K : St → Prop) : Prop := match x with
  | .v (.bool c) => GdB P E c b os gs st K
  | .v (.tuple _) => agrps P E gs (undefs os st) K
  | _ => False
theorem g_some {j b gs} : agrps P E (⟨some (j, b), os⟩ :: gs) ⟨fr, hp⟩ KS = GdX P E (get fr j) b os gs ⟨fr, hp⟩ KS := by
  simp only [agrps, GdX]
  generalize get fr j = u
  cases u with
  | v y => cases y <;> rfl
  | _ => rfl
theorem gd_bool {c b gs st} : GdX P E (B c) b os gs st KS = GdB P E c b os gs st KS := rfl
theorem gd_tuple {c b gs st} : GdX P E (.v (.tuple c)) b os gs st KS = agrps P E gs (undefs os st) KS := rfl
theorem gd_tt {gs st} : GdB P E true true os gs st KS = aops P E os st fun st => agrps P E gs st KS := by simp [GdB]
theorem gd_ff {gs st} : GdB P E false false os gs st KS = aops P E os st fun st => agrps P E gs st KS := by simp [GdB]
theorem gd_tf {gs st} : GdB P E true false os gs st KS = agrps P E gs (undefs os st) KS := by simp [GdB]
theorem gd_ft {gs st} : GdB P E false true os gs st KS = agrps P E gs (undefs os st) KS := by simp [GdB]
def DdB (P : Program) (c b : Bool) (os : List AOp) (gs : List Grp) (st : St) (tr : Tr) (K : St → Tr → Prop) : Prop :=
  (c = b → dops P os st tr fun st tr => dgrps P gs st tr K) ∧ (c ≠ b → dgrps P gs (undefs os st) (tr ++ os.map fun _ => ([], [])) K)
def DdX (P : Program) (x : AV) (b : Bool) (os : List AOp) (gs : List Grp) (st : St) (tr : Tr) (K : St → Tr → Prop) : Prop := match x with
  | .v (.bool c) => DdB P c b os gs st tr K
  | .v (.tuple _) => dgrps P gs (undefs os st) (tr ++ os.map fun _ => ([], [])) K
  | _ => False
theorem d_nil : dgrps P [] ⟨fr, hp⟩ tr KD = KD ⟨fr, hp⟩ tr := rfl
theorem d_none {gs} : dgrps P (⟨none, os⟩ :: gs) ⟨fr, hp⟩ tr KD = dops P os ⟨fr, hp⟩ tr fun st tr => dgrps P gs st tr KD := rfl
theorem d_some {j b gs} : dgrps P (⟨some (j, b), os⟩ :: gs) ⟨fr, hp⟩ tr KD = DdX P (get fr j) b os gs ⟨fr, hp⟩ tr KD := by
  simp only [dgrps, DdX]
  generalize get fr j = u
  cases u with
  | v y => cases y <;> rfl
  | _ => rfl
theorem dd_bool {c b gs st} : DdX P (B c) b os gs st tr KD = DdB P c b os gs st tr KD := rfl
theorem dd_tuple {c b gs st} : DdX P (.v (.tuple c)) b os gs st tr KD = dgrps P gs (undefs os st) (tr ++ os.map fun _ => ([], [])) KD := rfl
theorem dd_tt {gs st} : DdB P true true os gs st tr KD = dops P os st tr fun st tr => dgrps P gs st tr KD := by simp [DdB]
theorem dd_ff {gs st} : DdB P false false os gs st tr KD = dops P os st tr fun st tr => dgrps P gs st tr KD := by simp [DdB]
theorem dd_tf {gs st} : DdB P true false os gs st tr KD = dgrps P gs (undefs os st) (tr ++ os.map fun _ => ([], [])) KD := by simp [DdB]
theorem dd_ft {gs st} : DdB P false true os gs st tr KD = dgrps P gs (undefs os st) (tr ++ os.map fun _ => ([], [])) KD := by simp [DdB]
def undF : List AOp → List (Nat × AV) → List (Nat × AV)
  | [], fr => fr
  | o :: os, fr => undF os (frPut fr o.dst (.v (.tuple #[])))
theorem x_undefs : ∀ {os : List AOp} {fr : List (Nat × AV)}, undefs os ⟨fr, hp⟩ = ⟨undF os fr, hp⟩
  | [], fr => rfl
  | o :: os, fr => by
    rw [undefs_cons]
    have : undefs [o] ⟨fr, hp⟩ = ⟨frPut fr o.dst (.v (.tuple #[])), hp⟩ := by rw [undefs_step]; rfl
    rw [this, x_undefs]; rfl
theorem undF_nil : undF [] fr = fr := rfl
theorem undF_cons {o : AOp} : undF (o :: os) fr = undF os (frPut fr o.dst (.v (.tuple #[]))) := rfl
theorem callW_pure {f : FuncId} {xs ys : List AV} {ids : List Nat} {r : AV} {KC : AV → List HObj → Prop} (h1 : purifyAll (hpf hp) xs = some (ys, ids)) (h2 : PureOK P f ys r) (h3 : KC r (writeL hp (bif r.scalar then [] else gones ids))) : CallW P f xs hp KC := by
  intro ro n w g vs hok hvs hrep
  refine (call_pure hok h1 hvs hrep h2).mono ?_
  rintro e w' ⟨v, rfl, g', q1, q2, q3⟩
  have hlen : ∀ p ∈ (bif r.scalar then [] else gones ids), p.1 ≤ hp.length := fun p hpm => by
    cases hs : r.scalar with
    | true => rw [hs] at hpm; simp at hpm
    | false =>
      rw [hs] at hpm
      simp only [cond_false, gones, List.mem_map] at hpm
      obtain ⟨i, hi, rfl⟩ := hpm
      exact Nat.le_of_lt (purifyAll_lt h1 i hi)
  rw [← hpf_write hlen] at q2 q3
  exact ⟨v, r, _, g', rfl, h3, q1, q2, q3⟩
theorem pureW_of {f : FuncId} {xs ys : List AV} {ids : List Nat} {r : AV} (h1 : purifyAll (hpf hp) xs = some (ys, ids)) (h2 : PureOK P f ys r) (h3 : K r (bif r.scalar then [] else gones ids)) : PureW P f xs hp K := ⟨ys, ids, h1, .inl ⟨r, h2, h3⟩⟩
theorem pureW_map {f : FuncId} {xs ys : List AV} {ids : List Nat} {Φ : List (Value × Nat × AV) → Nat → Prop} (h1 : purifyAll (hpf hp) xs = some (ys, ids)) (h2 : MapOK P f ys Φ) (h3 : K (.mp hp.length) (gones ids ++ [(hp.length, .mpp Φ)])) : PureW P f xs hp K := ⟨ys, ids, h1, .inr (.inr ⟨Φ, h2, h3⟩)⟩
theorem map_of {f : FuncId} {xs : List AV} {Φ : List (Value × Nat × AV) → Nat → Prop} (hpc : ∀ es clk, Φ es clk → (es.all fun e => e.2.2.isPC) = true) (h : CallW P f xs [] fun x hp => ∃ id es clk, x = .mp id ∧ hpf hp id = some (.mp es clk) ∧ Φ es clk) : MapOK P f xs Φ := by
  refine ⟨hpc, ?_⟩
  intro ro n w g vs hok hvs hrep
  have e0 : hpf [] = fun _ => none := by funext i; simp [hpf]
  refine (h ro n w g vs (by rw [e0]; exact hok) hvs (fun i hi => (hrep i hi).of)).mono ?_
  rintro e w' ⟨v, x, hp', g', rfl, ⟨id, es, clk, rfl, hid, hΦ⟩, hx, hok', hu⟩
  rw [e0] at hu
  obtain ⟨l, hl, hrl⟩ := hok'.rep id _ hid
  have hrl' : HRep w' { S := g'.S, ρ := fun j => if j = 0 then some l else none } (.mpp Φ) l := by
    cases l with
    | virg => exact hrl
    | base L => exact hrl
    | blk c d =>
      obtain ⟨ents, a1, a2, a3, a4, a5⟩ := hrl
      exact ⟨es, clk, hΦ, ents, a1, a2, a3, a4, fun i hi => by
        obtain ⟨x, h1, h2, h3, h4⟩ := a5 i hi
        exact ⟨x, h1, h2, h3, ((pure_rep (pc_pure (List.all_eq_true.1 (hpc es clk hΦ) es[i] (List.getElem_mem hi))) h4).pure rfl _).of⟩⟩
  refine ⟨v, { S := g'.S, ρ := fun j => if j = 0 then some l else none }, rfl, ?_, ?_, ?_⟩
  · cases hx with
    | mp _ c d h1 => rw [hl] at h1; cases h1; exact .mp _ c d (by simp)
  · refine ⟨fun i hi => ?_, fun i o ho => ?_, fun i i' o o' c d d' ho ho' hl1 hl2 hr1 hr2 => ?_, hok'.ex⟩
    · by_cases e : i = 0
      · subst e; simp [madeM] at hi
      · simp [e]
    · by_cases e : i = 0
      · subst e; simp [madeM] at ho; subst ho; exact ⟨l, by simp, hrl'⟩
      · simp [madeM, e] at ho
    · by_cases e : i = 0
      · by_cases e' : i' = 0
        · rw [e, e']
        · simp [e'] at hr2
      · simp [e] at hr1
  · refine ⟨⟨hu.tr.S, hu.tr.cell, fun i l' hl' => (by rw [hok.dom i rfl] at hl'; cases hl'), hu.tr.shp, hu.tr.os, hu.tr.tape, hu.tr.output, hu.tr.size, hu.tr.drawn⟩, ?_, hu.S, hu.keep⟩
    rintro c ⟨i, o, d, ho, hlv, hr1⟩
    by_cases e : i = 0
    · subst e
      simp at hr1; subst hr1
      rcases hu.live c ⟨id, _, d, hid, rfl, hl⟩ with ⟨_, _, _, h, _⟩ | h
      · cases h
      · exact .inr h
    · simp [e] at hr1
theorem ret_n {ts : List Nat} {KC : AV → List HObj → Prop} : RetQ ts KC .normal ⟨fr, hp⟩ = KC (resAV ts fr) hp := rfl
theorem ret_r {ts : List Nat} {KC : AV → List HObj → Prop} : RetQ ts KC .ret ⟨fr, hp⟩ = KC (resAV ts fr) hp := rfl
theorem walk {f : FuncId} {fn : Func} {ac : AC} {ts : List Nat} {xs : List AV} {KC : AV → List HObj → Prop} (hf : P.funcs[f]? = some fn) (hc : formOf P fn ts = some ac) (hr : resTmps fn.results.toList = some ts)
    (hl : xs.length ≤ fn.ntmps) (h : AWP P (E1 P) ac ⟨argFr 0 xs, hp⟩ (RetQ ts KC)) : CallW P f xs hp KC := callW_form hf hc hr hl h
def Next {α : Type} (I : α → St) (C : α → Prop) (μ : α → Nat) (a : α) (st : St) : Prop := ∃ a', C a' ∧ μ a' < μ a ∧ St.le st (I a')
theorem St.le.rfl' (st : St) : St.le st st := fun N a w g h => ⟨g, h, .refl _ _ _⟩
theorem loop_of {α : Type} (I : α → St) (C : α → Prop) (μ : α → Nat) (a0 : α) {st : St} (h0 : C a0) (hs : St.le st (I a0)) (round : ∀ a, C a → AWP P E x (I a) (Exit.th (Next I C μ a) Q)) : AWP P E (.loop x) st Q :=
  ⟨α, I, C, μ, a0, h0, hs, round⟩
theorem loop_eq {α : Type} (I : α → St) (C : α → Prop) (μ : α → Nat) (a0 : α) {st : St} (h0 : C a0) (hs : st = I a0) (round : ∀ a, C a → AWP P E x (I a) (Exit.th (Next I C μ a) Q)) : AWP P E (.loop x) st Q :=
  loop_of I C μ a0 h0 (hs ▸ St.le.rfl' st) round
theorem next_eq {α : Type} {I : α → St} {C : α → Prop} {μ : α → Nat} {a : α} {st : St} (a' : α) (h : C a') (hm : μ a' < μ a) (hs : st = I a') : Next I C μ a st := ⟨a', h, hm, hs ▸ St.le.rfl' st⟩
theorem cells_ls {l : List Int} {j sz} (h : j < l.length) : CellsW (l.map fun n => I n) j sz false K = K (I (l.getD j 0)) [] := by
  simp [CellsW, h]
theorem out_v {r : AV} {x : Value} : Out r (.v x) hp = (r = .v x) := by
  apply propext
  constructor
  · rintro ⟨is, h⟩; simp [purify, purify1, purify0] at h; exact h.1.symm
  · rintro rfl; exact ⟨[], rfl⟩
theorem out_of {r x : AV} {is : List Nat} (h : purify (hpf hp) x = some (r, is)) : Out r x hp := ⟨is, h⟩
end
attribute [simp] xo_mv xo_pick xo_bin xo_bing xo_un xo_ext xo_ld xo_st xo_box xo_al xo_bsl xo_bld xo_fa xo_fld xo_ia xo_iaa xo_idx xo_ids xo_len xo_lns xo_lnm xo_slc xo_sls xo_app xo_cpy xo_mks xo_cnv xo_mx xo_nilc xo_mkf
attribute [simp] dx_mv dx_pick dx_bin dx_bing dx_un dx_ext dx_ld dx_st dx_box dx_al dx_bsl dx_bld dx_fa dx_fld dx_ia dx_iaa dx_idx dx_ids dx_len dx_lns dx_lnm dx_slc dx_sls dx_app dx_cpy dx_mks dx_cnv dx_mx dx_nilc dx_mkf dx_call
attribute [simp low] cells_agg cells_one
attribute [simp] app_sl app_ms appr_some slc_hi slc_lo slc_lohi Option.map_none Option.map_some place_nil place_cons placeF_nil placeF_cons nthA_cons one_some undF_nil undF_cons nthH_end set_end nthH_cons ldr_some str_some w_bing ret_n ret_r out_v
attribute [simp] x_contA x_contC x_contD x_nil x_dnil x_call x_callv cv_fn x_wcall ia_mc len_mc w_mv w_pick w_pickB w_bin b_add b_sub b_mul b_quo b_rem b_and b_or b_xor b_shl b_shr b_eql b_neq b_lss b_leq b_gtr b_geq w_un u_neg u_not w_ext e_tup w_ld ld_ptr ld_ref w_st st_ref w_box w_al w_bsl w_bld w_fa fa_ptr fa_ref w_fld fld_agg w_ia ia_sl ia_ms w_iaa iaa_ptr iaa_ref w_idx idx_agg w_len len_sl len_ms w_slc w_cnv cnv_int w_mx mx_max mx_min w_nilc nilc_ptr nilc_ref nilc_fn w_mkf w_app w_mks x_cond c_bool c_true c_false x_skip x_rgn x_drw x_seq x_block x_exit x_ret x_label x_keep th_n th_e th_r blk_n blk_r blk_e g_nil g_none g_some gd_bool gd_tuple gd_tt gd_ff gd_tf gd_ft d_nil d_none d_some dd_bool dd_tuple dd_tt dd_ff dd_tf dd_ft x_undefs
attribute [simp] keep_cons keep_nil get_cons get_nil ev_t ev_k frPut writeL setL AOp.dst ids_v ids_sl ids_ptr ids_ref ids_ms ids_mp ids_any ids_fn ids_agg ids_tup ids1_agg ids0_v ids0_sl ids0_ptr ids0_ref ids0_ms ids0_mp ids1_v ids1_sl ids1_ptr ids1_ref ids1_ms ids1_mp ids1_any ids1_fn nthT_cons compat_cons compat_nil cmp2_some disj_nil disj_cons argFr resAV AV.cells AV.isCell AV.isPure AV.isPure0 AV.isPC view splice gones_nil gones_cons AV.scalar
attribute [simp] xo_cap dx_cap xo_clr dx_clr xo_appz dx_appz xo_slp dx_slp xo_mkm dx_mkm xo_ins dx_ins xo_lku dx_lku xo_mpe dx_mpe xo_est dx_est xo_del dx_del xo_eqk dx_eqk foot_lku foot_mpe foot_est foot_ins foot_del foot_appz foot_clr foot_eqk foot_cap foot_mkm w_eqk
end Go.AM

set_option linter.unusedSimpArgs false
set_option linter.unusedVariables false
set_option maxRecDepth 100000
namespace Go.AM
open Go.RowKit
theorem wrap_id {n : Int} (h : -9223372036854775808 ≤ n ∧ n < 9223372036854775808) : IntKind.i64.wrap n = n := by
  simp [IntKind.wrap, IntKind.bits, IntKind.signed, Int.bmod]
  omega
variable {P : Program} {hp : List HObj} {K : AV → List (Nat × HObj) → Prop}
end Go.AM

set_option linter.unusedSimpArgs false
set_option linter.unusedVariables false
namespace Go.AM
open Go.RowKit
abbrev Ls (f : Bool) (l : List Int) : AV := .sl f l.length (l.map fun n => I n)
def idxI {α : Type} (p : α → Bool) (l : List α) : Int := match l.findIdx? p with
  | some k => k
  | none => -1
theorem idxI_some {α : Type} {p : α → Bool} {l : List α} {i : Nat} (h : i < l.length) (hp : p l[i] = true) (hn : ∀ k (hk : k < l.length), k < i → p l[k] = false) : idxI p l = i := by
  have : l.findIdx? p = some i := List.findIdx?_eq_some_iff_getElem.2 ⟨h, hp, fun j hj => by simpa using hn j (by omega) hj⟩
  simp [idxI, this]
theorem idxI_none {α : Type} {p : α → Bool} {l : List α} (hn : ∀ k (hk : k < l.length), p l[k] = false) : idxI p l = -1 := by
  have : l.findIdx? p = none := List.findIdx?_eq_none_iff.2 fun x hx => by
    obtain ⟨k, hk, rfl⟩ := List.getElem_of_mem hx
    exact hn k hk
  simp [idxI, this]
theorem idxI_any {α : Type} (p : α → Bool) (l : List α) : decide (idxI p l ≥ 0) = l.any p := by
  cases h : l.findIdx? p with
  | some k =>
    have h1 : idxI p l = k := by simp [idxI, h]
    obtain ⟨hk, h2, _⟩ := List.findIdx?_eq_some_iff_getElem.1 h
    rw [h1]
    have : l.any p = true := List.any_eq_true.2 ⟨l[k], List.getElem_mem hk, h2⟩
    rw [this]; simp
  | none =>
    have h1 : idxI p l = -1 := by simp [idxI, h]
    have : l.any p = false := by
      rw [List.any_eq_false]; intro x hx
      have := List.findIdx?_eq_none_iff.1 h x hx
      simp [this]
    rw [h1, this]; rfl
def allIn (lo hi : Int) (l : List Int) : Bool := l.all fun x => decide (lo ≤ x) && decide (x ≤ hi)
theorem allIn_any (lo hi : Int) (l : List Int) : allIn lo hi l = !(l.any fun x => decide (x < lo) || decide (hi < x)) := by
  induction l with
  | nil => rfl
  | cons x l ih =>
    simp only [allIn, List.all_cons, List.any_cons] at ih ⊢
    rw [ih]
    by_cases h1 : lo ≤ x
    · by_cases h2 : x ≤ hi
      · simp [h1, h2, show ¬ x < lo by omega, show ¬ hi < x by omega]
      · simp [h1, h2, show hi < x by omega]
    · simp [h1, show x < lo by omega]
def flat2 (c : List (Int × Int)) : List AV := c.flatMap fun p => [I p.1, I p.2]
abbrev Ps (f : Bool) (c : List (Int × Int)) : AV := .sl f c.length (flat2 c)
abbrev Pr (p : Int × Int) : AV := .agg [I p.1, I p.2]
theorem flat2_len (c : List (Int × Int)) : (flat2 c).length = c.length * 2 := by
  induction c with
  | nil => rfl
  | cons p c ih => simp [flat2] at ih ⊢; omega
theorem flat2_drop (c : List (Int × Int)) (i : Nat) : (flat2 c).drop (i * 2) = flat2 (c.drop i) := by
  induction i generalizing c with
  | zero => simp
  | succ i ih =>
    cases c with
    | nil => simp [flat2]
    | cons p c =>
      have : (i + 1) * 2 = i * 2 + 1 + 1 := by omega
      rw [this]
      simp only [List.drop_succ_cons]
      rw [← ih c]
      rfl
theorem flat2_view {c : List (Int × Int)} {i : Nat} (h : i < c.length) : ((flat2 c).drop (i * 2)).take 2 = [I c[i].1, I c[i].2] := by
  rw [flat2_drop, List.drop_eq_getElem_cons h]
  rfl
@[simp high] theorem ls_isPC (l : List Int) : (l.map fun n => I n).all AV.isPC = true := by simp [List.all_eq_true]
@[simp high] theorem ls_isPure (l : List Int) : (l.map fun n => I n).all AV.isPure = true := by simp [List.all_eq_true]
theorem out_ls {id n : Nat} {l : List Int} {hp : List HObj} (h : nthH hp id = some (.cells (l.map fun n => I n))) (hn : n = l.length) : Out (Ls false l) (.ms id 0 n 1) hp := by
  subst hn
  rw [nthH_eq] at h
  refine out_of (is := [id]) ?_
  simp only [purify, purify1, purify0, hpf, h]
  rw [if_pos ⟨by simp, ls_isPure l⟩]
  simp only [view, List.drop_zero, Nat.mul_one]
  rw [List.take_of_length_le (by simp)]
def Small (l : List Int) : Prop := ∀ x ∈ l, -1000000 ≤ x ∧ x ≤ 1000000
theorem Small.at {l : List Int} (h : Small l) {i : Nat} (hi : i < l.length) : -1000000 ≤ l[i] ∧ l[i] ≤ 1000000 := h _ (List.getElem_mem hi)
theorem purifyAll2 {hp : Hp} {a x a' y : AV} {i1 i2 : List Nat} (h1 : purify hp a = some (a', i1)) (h2 : purify hp x = some (y, i2)) : purifyAll hp [a, x] = some ([a', y], i1 ++ i2) := by
  simp [purifyAll, h1, h2]
def Holds (hp : List HObj) (x : AV) (l : List Int) : Prop := ∃ ids, purify (hpf hp) x = some (Ls false l, ids) ∧ 0 ∉ ids
theorem nthH_writeL {hp : List HObj} {ws : List (Nat × HObj)} (h : ∀ p ∈ ws, p.1 ≤ hp.length) (i : Nat) : nthH (writeL hp ws) i = Hp.write (hpf hp) ws i := by
  rw [nthH_eq]; exact congrFun (hpf_write h) i
def weak1 : AV → AV
  | .sl _ n cs => .sl false n cs
  | x => x
def weak : AV → AV
  | .tup vs => .tup (vs.map weak1)
  | .agg vs => .agg (vs.map weak1)
  | x => weak1 x
theorem weak1_rep {w g p x v} (h : Rep w g p x v) : Rep w g p (weak1 x) v := by
  cases x with
  | sl f n cs =>
    cases h with
    | sl _ _ _ _ a cap vs hn hf hc hr => exact .sl _ false n cs a cap vs hn (fun e => by cases e) hc hr
  | _ => exact h
theorem weak_rep {w g p x v} (h : Rep w g p x v) : Rep w g p (weak x) v := by
  cases x with
  | tup us =>
    cases h with
    | tup _ _ vs hl hr => exact .tup _ _ vs (by simp [hl]) (fun i hi => by simpa using weak1_rep (hr i (by simpa using hi)))
  | agg us =>
    cases h with
    | agg _ _ vs hl hr => exact .agg _ _ vs (by simp [hl]) (fun i hi => by simpa using weak1_rep (hr i (by simpa using hi)))
  | _ => exact weak1_rep h
theorem splice_ls {l : List Int} {k : Nat} {v : Int} (h : k < l.length) : splice (l.map fun n => I n) k [I v] = (l.set k v).map fun n => I n := by
  simp only [splice, List.length_singleton]
  rw [List.set_eq_take_append_cons_drop, if_pos h]
  simp [List.map_take, List.map_drop]
theorem nthH_set_same {hp : List HObj} {id : Nat} {o : HObj} (h : id < hp.length) : nthH (hp.set id o) id = some o := by
  rw [nthH_eq, List.getElem?_set_self h]
theorem nthH_set_ne {hp : List HObj} {id j : Nat} {o : HObj} (h : id ≠ j) : nthH (hp.set id o) j = nthH hp j := by
  rw [nthH_eq, nthH_eq, List.getElem?_set_ne h]
def rid : AV → Option Nat
  | .ms id _ _ _ => some id
  | _ => none
def RowIs (hp : List HObj) (x : AV) (l : List Int) : Prop :=
  (x = .sl true 0 [] ∧ l = []) ∨ ∃ id off cs, x = .ms id off l.length 1 ∧ nthH hp id = some (.cells cs) ∧ off + l.length ≤ cs.length ∧ view cs off l.length = l.map fun n => I n
def Fr (hp hp' : List HObj) (o : Nat → Prop) : Prop := hp.length ≤ hp'.length ∧ ∀ i, i < hp.length → ¬ o i → nthH hp' i = nthH hp i
theorem Fr.refl (hp : List HObj) (o : Nat → Prop) : Fr hp hp o := ⟨Nat.le_refl _, fun _ _ _ => rfl⟩
theorem nthH_lt {hp : List HObj} {i : Nat} {o : HObj} (h : nthH hp i = some o) : i < hp.length := by rw [nthH_eq] at h; exact hpf_lt h
theorem RowIs.lt {hp x l i} (h : RowIs hp x l) (hi : rid x = some i) : i < hp.length := by
  rcases h with ⟨rfl, _⟩ | ⟨id, off, cs, rfl, h2, _⟩
  · cases hi
  · cases hi; exact nthH_lt h2
theorem RowIs.mono {hp H x l} (h : RowIs hp x l) (hk : ∀ i, rid x = some i → nthH H i = nthH hp i) : RowIs H x l := by
  rcases h with h | ⟨id, off, cs, rfl, h2, h3⟩
  · exact .inl h
  · exact .inr ⟨id, off, cs, rfl, (hk id rfl).trans h2, h3⟩
section
variable {hp : List HObj} {K : AV → List (Nat × HObj) → Prop}
end
theorem app_row {hp : List HObj} {x : AV} {l : List Int} {v : Int} {K : AV → List (Nat × HObj) → Prop} (h : RowIs hp x l) (hl : l.length ≤ 1000000)
    (hK : ∀ ws, (∀ i, i < hp.length → rid x ≠ some i → nthH (writeL hp ws) i = nthH hp i) → hp.length < (writeL hp ws).length → nthH (writeL hp ws) hp.length = some (.cells ((l ++ [v]).map fun n => I n)) → K (.ms hp.length 0 (l.length + 1) 1) ws) :
    AppW hp 1 8 x (.sl true 1 [I v]) K := by
  rcases h with ⟨rfl, rfl⟩ | ⟨id, off, cs, rfl, h2, h3, h4⟩
  · rw [app_sl]
    refine ⟨by simp, hK _ (fun i hi _ => ?_) ?_ ?_⟩
    · rw [nthH_writeL (by simp), nthH_eq]; simp only [Hp.write]; rw [Hp.set_other _ _ (by omega)]; rfl
    · have := nthH_lt (hp := writeL hp [(hp.length, HObj.cells ([] ++ [I v]))]) (i := hp.length) (o := .cells [I v]) (by rw [nthH_writeL (by simp)]; simp [Hp.write, Hp.set_same])
      exact this
    · rw [nthH_writeL (by simp)]; simp [Hp.write, Hp.set_same]
  · have hlt := nthH_lt h2
    rw [app_ms, h2, appr_some]
    have hn : nthH (writeL hp [(id, HObj.gone), (hp.length, HObj.cells (view cs off (l.length * 1) ++ [I v]))]) hp.length = some (.cells ((l ++ [v]).map fun n => I n)) := by
      rw [nthH_writeL (by simp; omega)]
      simp only [Hp.write, Hp.set_same, Nat.mul_one, h4]
      simp
    refine ⟨by simp; omega, hK _ (fun i hi hr => ?_) (nthH_lt hn) hn⟩
    rw [nthH_writeL (by simp; omega), nthH_eq]; simp only [Hp.write]
    rw [Hp.set_other _ _ (by omega), Hp.set_other _ _ (fun e => hr (by rw [e]; rfl))]; rfl
def AccR (hp : List HObj) (x : AV) (l : List Int) : Prop := (x = .sl true 0 [] ∧ l = []) ∨ ∃ id, x = .ms id 0 l.length 1 ∧ l ≠ [] ∧ nthH hp id = some (.cells (l.map fun n => I n))
theorem AccR.row {hp x l} (h : AccR hp x l) : RowIs hp x l := by
  rcases h with h | ⟨id, rfl, _, h⟩
  · exact .inl h
  · exact .inr ⟨id, 0, _, rfl, h, by simp, by simp [view]; rw [List.take_of_length_le (by simp)]⟩
theorem AccR.mono {hp H x l} (h : AccR hp x l) (hk : ∀ i, rid x = some i → nthH H i = nthH hp i) : AccR H x l := by
  rcases h with h | ⟨id, rfl, h1, h2⟩
  · exact .inl h
  · exact .inr ⟨id, rfl, h1, (hk id rfl).trans h2⟩
theorem AccR.out {hp x l} (h : AccR hp x l) : Out (Ls l.isEmpty l) x hp := by
  rcases h with ⟨rfl, rfl⟩ | ⟨id, rfl, h1, h2⟩
  · exact ⟨[], rfl⟩
  · have e : l.isEmpty = false := by simpa using h1
    rw [e]; exact out_ls h2 rfl
theorem rf_of {P : Program} {E : HE} {g : Opd} {ps ks : List Nat} {x y : AC} {fr : List (Nat × AV)} {hp : List HObj} {Q : Exit → St → Prop} {K0 : List HObj → Prop}
    (h1 : E.R (evF (get fr) g) hp (fun xs hp' K => hpf hp' hp.length = some (.lp .ready (hp.length + 1)) ∧ xs.length = ps.length ∧
          AWP P E x { fr := putPs ps xs fr, hp := hp' } (Exit.th (fun st1 => hpf st1.hp hp.length = some (.lp .ready (hp.length + 1)) ∧
            AWP P E y { fr := st1.fr, hp := setL st1.hp hp.length (.lp .busy (hp.length + 1)) } (RoundQ hp.length K)) (fun _ _ => False))) K0)
    (h2 : ∀ hp', K0 hp' → RfEnd hp.length fr ks Q hp') : AWP P E (.rf g ps x y ks) ⟨fr, hp⟩ Q := ⟨K0, h1, h2⟩
theorem hpf_nthH (hp : List HObj) (i : Nat) : hpf hp i = nthH hp i := (nthH_eq hp i).symm
theorem rfEnd_ready {id : Nat} {fr : List (Nat × AV)} {ks : List Nat} {Q : Exit → St → Prop} {hp : List HObj} {m : Nat} (h : nthH hp id = some (.lp .ready m)) (hq : Q .normal (St.keep { fr := fr, hp := hp.set id .gone } ks)) : RfEnd id fr ks Q hp := by
  simp only [RfEnd, hpf_nthH, h]
  have := nthH_lt h
  simp only [setL, this, if_true]
  exact hq
abbrev LLs (g : Bool) (ls : List (Bool × List Int)) : AV := .sl g ls.length (ls.map fun p => Ls p.1 p.2)
theorem cpy_of {P : Program} {F : Nat → AV} {hp : List HObj} {K : AV → List (Nat × HObj) → Prop} {d sz : Nat} {x y : Opd} {id off n m : Nat} {cs ys : List AV} (hx : evF F x = .ms id off n sz) (hy : elems (hpf hp) sz (evF F y) = some (m, ys)) (hpc : ((ys.take (Nat.min m n * sz)).all AV.isPC) = true)
    (hcs : nthH hp id = some (.cells cs)) (hl : off + n * sz ≤ cs.length) (k : K (I (Nat.min m n : Nat)) [(id, .cells (splice cs off (ys.take (Nat.min m n * sz))))]) : (AOp.cpy d sz x y).wp P F hp K := by
  refine ⟨_, _, ?_, k⟩
  simp only [AOp.sem, hx]
  exact ⟨m, ys, cs, hy, hpc, by rw [hpf_nthH]; exact hcs, trivial, hl, rfl, rfl⟩
theorem zrep_one : ∀ (n : Nat) (x : AV), zrep n [x] = List.replicate n x
  | 0, _ => rfl
  | n + 1, x => by simp [zrep, zrep_one n x, List.replicate_succ]
theorem AccR.pur {hp x l} (h : AccR hp x l) : ∃ f ids, purify (hpf hp) x = some (Ls f l, ids) ∧ ∀ i ∈ ids, rid x = some i ∧ i < hp.length := by
  rcases h with ⟨rfl, rfl⟩ | ⟨id, rfl, _, h2⟩
  · exact ⟨true, [], rfl, fun i hi => by simp at hi⟩
  · refine ⟨false, [id], ?_, fun i hi => by simp at hi; subst hi; exact ⟨rfl, nthH_lt h2⟩⟩
    simp only [purify, purify1, purify0, hpf_nthH, h2]
    rw [if_pos ⟨by simp, ls_isPure l⟩]
    simp only [view, List.drop_zero, Nat.mul_one]
    rw [List.take_of_length_le (by simp)]
theorem ms_pur {hp : List HObj} {id n : Nat} {l : List Int} (h : nthH hp id = some (.cells (l.map fun n => I n))) (hn : n = l.length) : purify (hpf hp) (.ms id 0 n 1) = some (Ls false l, [id]) := by
  subst hn
  simp only [purify, purify1, purify0, hpf_nthH, h]
  rw [if_pos ⟨by simp, ls_isPure l⟩]
  simp only [view, List.drop_zero, Nat.mul_one]
  rw [List.take_of_length_le (by simp)]
theorem ls_pur {hp : Hp} {f : Bool} {l : List Int} : purify hp (Ls f l) = some (Ls f l, []) := rfl
def MkR (hp : List HObj) (x : AV) (l : List Int) : Prop := (x = .sl true 0 [] ∧ l = []) ∨ ∃ id, x = .ms id 0 l.length 1 ∧ nthH hp id = some (.cells (l.map fun n => I n))
theorem AccR.mk {hp x l} (h : AccR hp x l) : MkR hp x l := by
  rcases h with h | ⟨id, h1, _, h2⟩
  · exact .inl h
  · exact .inr ⟨id, h1, h2⟩
theorem MkR.row {hp x l} (h : MkR hp x l) : RowIs hp x l := by
  rcases h with h | ⟨id, rfl, h⟩
  · exact .inl h
  · exact .inr ⟨id, 0, _, rfl, h, by simp, by simp [view]; rw [List.take_of_length_le (by simp)]⟩
theorem MkR.mono {hp H x l} (h : MkR hp x l) (hk : ∀ i, rid x = some i → nthH H i = nthH hp i) : MkR H x l := by
  rcases h with h | ⟨id, rfl, h2⟩
  · exact .inl h
  · exact .inr ⟨id, rfl, (hk id rfl).trans h2⟩
theorem MkR.pur {hp x l} (h : MkR hp x l) : ∃ f ids, purify (hpf hp) x = some (Ls f l, ids) ∧ ∀ i ∈ ids, rid x = some i ∧ i < hp.length := by
  rcases h with ⟨rfl, rfl⟩ | ⟨id, rfl, h2⟩
  · exact ⟨true, [], rfl, fun i hi => by simp at hi⟩
  · exact ⟨false, [id], ms_pur h2 rfl, fun i hi => by simp at hi; subst hi; exact ⟨rfl, nthH_lt h2⟩⟩
theorem out_msB {hp : List HObj} {id n : Nat} {l : List Int} {x : Bool} (h : nthH hp id = some (.cells (l.map fun n => I n))) (hn : n = l.length) : Out (.tup [Ls false l, B x]) (.tup [.ms id 0 n 1, B x]) hp := by
  subst hn
  rw [nthH_eq] at h
  refine out_of (is := [id]) ?_
  simp only [purify, purifyL, purify1, purify0, hpf, h]
  rw [if_pos ⟨by simp, ls_isPure _⟩]
  simp [view]
  rw [List.take_of_length_le (by simp)]
def Fzn (hp : List HObj) (ids : List Nat) (fr fr' : List (Nat × AV)) : Prop :=
  ∀ t, get fr' t = get fr t ∨ ∃ is, purify (hpf hp) (get fr t) = some (get fr' t, is) ∧ ∀ i ∈ is, i ∈ ids
theorem Fzn.refl {hp ids fr} : Fzn hp ids fr fr := fun _ => .inl rfl
theorem Fzn.keep {hp ids fr fr'} {k : Nat} {x : AV} (h : Fzn hp ids fr fr') : Fzn hp ids ((k, x) :: fr) ((k, x) :: fr') := fun t => by
  rw [get_cons, get_cons]; split
  · exact .inl rfl
  · exact h t
theorem Fzn.new {hp ids fr fr'} {k : Nat} {x y : AV} {is : List Nat} (hx : purify (hpf hp) x = some (y, is)) (hs : ∀ i ∈ is, i ∈ ids) (h : Fzn hp ids fr fr') : Fzn hp ids ((k, x) :: fr) ((k, y) :: fr') := fun t => by
  rw [get_cons, get_cons]; split
  · exact .inr ⟨is, hx, hs⟩
  · exact h t
theorem freezeCell {hp : Hp} {g : G} {w : World} (h : HeapOK hp g w) {id : Nat} {cs cs' : List AV} {is : List Nat} (h1 : hp id = some (.cells cs)) (h2 : purifyL hp cs = some (cs', is)) (hid : id ∉ is)
    (hids : ∀ i ∈ is, ∃ cs, hp i = some (.cells cs)) (hrep : cs'.length = cs.length ∧ ∀ j (hj : j < cs.length) (hj' : j < cs'.length) v, Rep w g false cs[j] v → Rep w (g.pub (given hp g is)) true cs'[j] v) :
    HeapOK (Hp.set (Hp.write hp (gones is)) id (.cells cs')) (g.pub (given hp g is)) w ∧ Upd hp g w (Hp.set (Hp.write hp (gones is)) id (.cells cs')) (g.pub (given hp g is)) w := by
  obtain ⟨hokA, updA⟩ := h.giveAll is hids
  have hA : Hp.write hp (gones is) id = some (.cells cs) := by rw [write_gones, if_neg hid]; exact h1
  obtain ⟨l0, r1, r2⟩ := hokA.rep id _ hA
  have T := updA.tr
  have hl0 : g.ρ id = some l0 := r1
  obtain ⟨l1, s1, s2⟩ := h.rep id _ h1
  rw [hl0] at s1; cases s1
  have new : HRep w (g.pub (given hp g is)) (.cells cs') l0 := by
    cases l0 with
    | virg =>
      have e : cs = [] := s2
      have : cs' = [] := List.eq_nil_of_length_eq_zero (by rw [hrep.1, e]; rfl)
      exact this
    | base L => exact r2.elim
    | blk c d =>
      obtain ⟨arr, ty, fz, a1, a2, a3, a4, a5⟩ := r2
      obtain ⟨arr', ty', fz', b1, b2, b3, b4, b5⟩ := s2
      rw [a1] at b1; cases b1
      refine ⟨arr, ty, fz, a1, by rw [hrep.1]; exact a2, a3, a4, fun i hi => ?_⟩
      have hi' : i < cs.length := by rw [← hrep.1]; exact hi
      obtain ⟨x, x1, x2⟩ := b5 i hi'
      exact ⟨x, x1, (hrep.2 i hi' hi x x2).of⟩
  have tr : Trans w (g.pub (given hp g is)) w (g.pub (given hp g is)) := .refl _ _
  have live : (HObj.cells cs').live = (HObj.cells cs).live := rfl
  refine ⟨hokA.change (fun i => i = id) tr (fun i hi => Hp.set_other _ _ hi) (fun _ _ => rfl) (fun _ _ _ _ _ _ _ _ => rfl) (fun _ _ _ _ _ _ _ _ _ hq => hq) ?_ ?_ hokA.ex, updA.trans ⟨tr, ?_, fun b q hs => .inl hs, fun b hb _ => rfl⟩⟩
  · rintro i rfl
    exact ⟨_, l0, Hp.set_same _ _ _, r1, new⟩
  · intro i i' o o' c d d' hi ho ho' hl hl' hr hr'
    subst hi
    by_cases e : i' = i
    · exact e.symm
    · rw [Hp.set_other _ _ e] at ho'
      exact hokA.inj i i' _ o' c d d' hA ho' rfl hl' hr hr'
  · rintro c ⟨i, o, d, ho, hl, hr⟩
    by_cases e : i = id
    · subst e
      exact .inl ⟨i, _, d, hA, rfl, hr⟩
    · rw [Hp.set_other _ _ e] at ho
      exact .inl ⟨i, o, d, ho, hl, hr⟩
theorem out_acc {H : List HObj} {a : AV} {l : List Int} (h : AccR H a l) : Out (Ls l.isEmpty l) a H := by
  rcases h with ⟨rfl, rfl⟩ | ⟨id, rfl, h2, h3⟩
  · exact out_of (is := []) rfl
  · have e : l.isEmpty = false := by cases l <;> simp_all
    rw [e]; exact out_ls h3 rfl
theorem hideK' {P : Program} {E : HE} {c : AC} {st : St} {K : Exit → St → Prop} (h : ∀ K', K' = K → AWP P E c st K') : AWP P E c st K := h K rfl
theorem le_drop {fr fr' : List (Nat × AV)} {hp : List HObj} (h : ∀ t, get fr' t = get fr t ∨ get fr' t = .any) : St.le ⟨fr, hp⟩ ⟨fr', hp⟩ := by
  rintro N a w g ⟨h1, hF, hok⟩
  refine ⟨g, ⟨h1, fun t => ?_, hok⟩, .refl _ _ _⟩
  show Rep _ _ _ (get fr' t) _
  rcases h t with e | e
  · rw [e]; exact hF t
  · rw [e]; exact .any _ _
variable {P : Program}
variable {P : Program}
def RowM (hp : List HObj) (x : AV) (l : List Int) : Prop := ∃ id off cs, x = .ms id off l.length 1 ∧ nthH hp id = some (.cells cs) ∧ off + l.length ≤ cs.length ∧ view cs off l.length = (l.map fun n => I n) ∧ (cs.all AV.isPC) = true
theorem RowM.row {hp x l} (h : RowM hp x l) : RowIs hp x l := by
  obtain ⟨id, off, cs, h1, h2, h3, h4, _⟩ := h
  exact .inr ⟨id, off, cs, h1, h2, h3, h4⟩
theorem pcL_pure {l : List AV} (h : (l.all AV.isPC) = true) : (l.all AV.isPure) = true := by
  rw [List.all_eq_true] at h ⊢
  exact fun x hx => pc_pure (h x hx)
theorem RowM.mono {hp H x l} (h : RowM hp x l) (hk : ∀ i, rid x = some i → nthH H i = nthH hp i) : RowM H x l := by
  obtain ⟨id, off, cs, rfl, h1, h2⟩ := h
  exact ⟨id, off, cs, rfl, (hk id rfl).trans h1, h2⟩
theorem RowM.lt {hp x l i} (h : RowM hp x l) (hi : rid x = some i) : i < hp.length := h.row.lt hi
theorem RowM.pur {hp x l} (h : RowM hp x l) : ∃ ids, purify (hpf hp) x = some (Ls false l, ids) := by
  obtain ⟨id, off, cs, rfl, h1, h2, h3, h4⟩ := h
  refine ⟨[id], ?_⟩
  simp only [purify, purify1, purify0, hpf_nthH, h1]
  rw [Nat.mul_one, h3, if_pos ⟨h2, pcL_pure h4⟩]
section
variable {K : AV → List (Nat × HObj) → Prop}
end
end Go.AM

set_option linter.unusedSimpArgs false
set_option linter.unusedVariables false
namespace Go.AM
open Go.RowKit
def aft (s r : List Int) : List Int := s.map fun i => r.getD i.toNat 0
theorem aft_len {s r : List Int} : (aft s r).length = s.length := by simp [aft]
def allS (S : List (List Int)) : List Nat → List Int → List Int
  | [], r => r
  | s :: l, r => allS S l (aft (S.getD s []) r)
theorem allS_append {S : List (List Int)} : ∀ {l m : List Nat} {r : List Int}, allS S (l ++ m) r = allS S m (allS S l r)
  | [], _, _ => rfl
  | s :: l, m, r => by simp only [List.cons_append, allS]; exact allS_append
def Wd (S : List (List Int)) (r x : List Int) (l : List Nat) : Prop := (∀ s ∈ l, s < S.length) ∧ allS S l r = x
theorem Wd.nil {S : List (List Int)} {r : List Int} : Wd S r r [] := ⟨by simp, rfl⟩
theorem Wd.cons {S : List (List Int)} {r x : List Int} {s : Nat} {l : List Nat} : Wd S r x (s :: l) ↔ s < S.length ∧ Wd S (aft (S.getD s []) r) x l := by
  unfold Wd
  simp only [List.mem_cons, forall_eq_or_imp, allS, and_assoc]
theorem Wd.append {S : List (List Int)} {r y x : List Int} {l m : List Nat} (h1 : Wd S r y l) (h2 : Wd S y x m) : Wd S r x (l ++ m) := by
  refine ⟨fun s hs => ?_, by rw [allS_append, h1.2]; exact h2.2⟩
  rcases List.mem_append.1 hs with hs | hs
  · exact h1.1 s hs
  · exact h2.1 s hs
theorem Wd.split {S : List (List Int)} {r x : List Int} {l m : List Nat} (h : Wd S r x (l ++ m)) : Wd S r (allS S l r) l ∧ Wd S (allS S l r) x m := by
  obtain ⟨h1, h2⟩ := h
  rw [allS_append] at h2
  exact ⟨⟨fun s hs => h1 s (by simp [hs]), rfl⟩, ⟨fun s hs => h1 s (by simp [hs]), h2⟩⟩
def Dist (S : List (List Int)) (r x : List Int) (n : Nat) : Prop := (∃ l, Wd S r x l ∧ l.length = n) ∧ ∀ l, Wd S r x l → n ≤ l.length
theorem Dist.uniq {S : List (List Int)} {r x : List Int} {n m : Nat} (h1 : Dist S r x n) (h2 : Dist S r x m) : n = m := by
  obtain ⟨⟨l, a1, a2⟩, a3⟩ := h1
  obtain ⟨⟨k, b1, b2⟩, b3⟩ := h2
  have := a3 k b1
  have := b3 l a1
  omega
theorem Dist.of {S : List (List Int)} {r x : List Int} {l : List Nat} (h : Wd S r x l) : ∃ n, Dist S r x n ∧ n ≤ l.length := by
  have key : ∀ k, ∀ l : List Nat, Wd S r x l → l.length = k → ∃ n, Dist S r x n ∧ n ≤ l.length := by
    intro k
    induction k using Nat.strongRecOn with
    | ind k ih =>
      intro l h hk
      by_cases e : ∃ m, Wd S r x m ∧ m.length < l.length
      · obtain ⟨m, hm, hlt⟩ := e
        obtain ⟨n, h1, h2⟩ := ih m.length (by omega) m hm rfl
        exact ⟨n, h1, by omega⟩
      · refine ⟨l.length, ⟨⟨l, h, rfl⟩, fun m hm => ?_⟩, Nat.le_refl _⟩
        refine Classical.byContradiction fun hn => e ⟨m, hm, by omega⟩
  exact key _ l h rfl
theorem Dist.zero {S : List (List Int)} {r : List Int} : Dist S r r 0 := ⟨⟨[], .nil, rfl⟩, fun l _ => Nat.zero_le _⟩
theorem Dist.zero_iff {S : List (List Int)} {r x : List Int} : Dist S r x 0 ↔ r = x := by
  constructor
  · rintro ⟨⟨l, h1, h2⟩, _⟩
    rw [List.length_eq_zero_iff] at h2
    subst h2
    exact h1.2
  · rintro rfl; exact .zero
theorem Dist.step {S : List (List Int)} {r x : List Int} {n s : Nat} (hs : s < S.length) (h : Dist S (aft (S.getD s []) r) x n) : ∃ m, Dist S r x m ∧ m ≤ n + 1 := by
  obtain ⟨⟨l, h1, h2⟩, _⟩ := h
  obtain ⟨m, h3, h4⟩ := Dist.of (Wd.cons.2 ⟨hs, h1⟩)
  exact ⟨m, h3, by simp only [List.length_cons] at h4; omega⟩
theorem Dist.stepR {S : List (List Int)} {r x : List Int} {n s : Nat} (hs : s < S.length) (h : Dist S r x n) : ∃ m, Dist S r (aft (S.getD s []) x) m ∧ m ≤ n + 1 := by
  obtain ⟨⟨l, h1, h2⟩, _⟩ := h
  obtain ⟨m, h3, h4⟩ := Dist.of (h1.append (Wd.cons.2 ⟨hs, .nil⟩))
  exact ⟨m, h3, by rw [List.length_append, List.length_singleton] at h4; omega⟩
theorem Dist.pred {S : List (List Int)} {r x : List Int} {n : Nat} (h : Dist S r x (n + 1)) : ∃ s, s < S.length ∧ Dist S (aft (S.getD s []) r) x n := by
  obtain ⟨⟨l, h1, h2⟩, h3⟩ := h
  match l, h2 with
  | s :: l, h2 =>
    obtain ⟨hs, hw⟩ := Wd.cons.1 h1
    refine ⟨s, hs, ⟨l, hw, by simpa using h2⟩, fun m hm => ?_⟩
    have := h3 (s :: m) (Wd.cons.2 ⟨hs, hm⟩)
    simpa using this
theorem Dist.predR {S : List (List Int)} {r x : List Int} {n : Nat} (h : Dist S r x (n + 1)) : ∃ y s, s < S.length ∧ Dist S r y n ∧ aft (S.getD s []) y = x := by
  obtain ⟨⟨l, h1, h2⟩, h3⟩ := h
  have hne : l ≠ [] := fun e => by subst e; simp at h2
  have e := (List.dropLast_concat_getLast hne).symm
  rw [e] at h1
  obtain ⟨a1, a2⟩ := h1.split
  obtain ⟨hs, hw⟩ := Wd.cons.1 a2
  have hl : l.dropLast.length = n := by rw [List.length_dropLast]; omega
  refine ⟨_, l.getLast hne, hs, ⟨⟨l.dropLast, a1, hl⟩, fun m hm => ?_⟩, hw.2⟩
  have := h3 (m ++ [l.getLast hne]) (hm.append a2)
  rw [List.length_append, List.length_singleton] at this; omega
def sumL {α : Type} (f : α → Nat) : List α → Nat
  | [] => 0
  | x :: l => f x + sumL f l
def cntW (S : List (List Int)) : Nat → List Int → List Int → Nat
  | 0, r, x => if r = x then 1 else 0
  | n + 1, r, x => sumL (fun s => cntW S n (aft s r) x) S
theorem sumL_zero {α : Type} {f : α → Nat} : ∀ {l : List α}, sumL f l = 0 ↔ ∀ x ∈ l, f x = 0
  | [] => by simp [sumL]
  | x :: l => by
    simp only [sumL, List.mem_cons, forall_eq_or_imp, ← sumL_zero (l := l)]
    omega
theorem cntW_zero {S : List (List Int)} : ∀ {n : Nat} {r x : List Int}, cntW S n r x = 0 ↔ ∀ l, Wd S r x l → l.length ≠ n
  | 0, r, x => by
    simp only [cntW]
    constructor
    · intro h l hw hl
      rw [List.length_eq_zero_iff] at hl
      subst hl
      rw [if_pos (show r = x from hw.2)] at h; cases h
    · intro h
      rw [if_neg]
      rintro rfl
      exact h [] .nil rfl
  | n + 1, r, x => by
    simp only [cntW]
    rw [sumL_zero]
    constructor
    · intro h l hw hl
      match l, hl with
      | s :: l, hl =>
        obtain ⟨hs, hw⟩ := Wd.cons.1 hw
        have hm : S.getD s [] ∈ S := by
          rw [List.getD_eq_getElem?_getD, List.getElem?_eq_getElem hs]; exact List.getElem_mem hs
        exact cntW_zero.1 (h _ hm) l hw (by simpa using hl)
    · intro h s hs
      refine cntW_zero.2 fun l hw hl => ?_
      obtain ⟨k, hk, rfl⟩ := List.getElem_of_mem hs
      refine h (k :: l) (Wd.cons.2 ⟨hk, ?_⟩) (by simp [hl])
      rw [List.getD_eq_getElem?_getD, List.getElem?_eq_getElem hk]; exact hw
end Go.AM

set_option linter.unusedSimpArgs false
set_option linter.unusedVariables false
namespace Go.AM
open Go.RowKit
def plcL (n : Nat) : List Int := (List.range n).map fun (i : Nat) => (i : Int)
theorem plcL_len {n : Nat} : (plcL n).length = n := by simp [plcL]
theorem plcL_get {n i : Nat} (h : i < (plcL n).length) : (plcL n)[i] = (i : Int) := by simp [plcL]
theorem plc_mem {n : Nat} {x : Int} : x ∈ plcL n ↔ 0 ≤ x ∧ x < n := by
  unfold plcL
  rw [List.mem_map]
  constructor
  · rintro ⟨k, hk, rfl⟩
    have := List.mem_range.1 hk; omega
  · rintro ⟨h1, h2⟩
    exact ⟨x.toNat, List.mem_range.2 (by omega), by omega⟩
theorem plc_nodup {n : Nat} : (plcL n).Nodup := by
  unfold plcL
  rw [List.Nodup, List.pairwise_map]
  exact List.Pairwise.imp (fun h e => h (Int.ofNat_inj.1 e)) List.nodup_range
structure Pm (n : Nat) (s : List Int) : Prop where
  len : s.length = n
  rng : ∀ x ∈ s, 0 ≤ x ∧ x < n
  nd : s.Nodup
theorem Pm.mem {n : Nat} {s : List Int} (h : Pm n s) {k : Nat} (hk : k < n) : (k : Int) ∈ s := by
  refine Classical.byContradiction fun hn => ?_
  have sub : (k : Int) :: s ⊆ plcL n := fun x hx => by
    rw [plc_mem]
    rcases List.mem_cons.1 hx with rfl | hx
    · omega
    · exact h.rng x hx
  have := (List.nodup_cons.2 ⟨hn, h.nd⟩).length_le_of_subset sub
  rw [plcL_len, List.length_cons, h.len] at this
  omega
theorem pm_of {n : Nat} {s : List Int} (hl : s.length = n) (ho : ∀ k, k < n → s.count (k : Int) = 1) : Pm n s := by
  have rng : ∀ x ∈ s, 0 ≤ x ∧ x < (n : Int) := fun x hx => by
    refine Classical.byContradiction fun hn => ?_
    obtain ⟨i, hi, rfl⟩ := List.getElem_of_mem hx
    have sub : plcL n ⊆ s.eraseIdx i := fun y hy => by
      obtain ⟨y1, y2⟩ := plc_mem.1 hy
      obtain ⟨k, rfl⟩ : ∃ k : Nat, y = k := ⟨y.toNat, by omega⟩
      have hc := ho k (by omega)
      have hm : (k : Int) ∈ s := by rw [← List.count_pos_iff]; omega
      obtain ⟨j, hj, e⟩ := List.getElem_of_mem hm
      rw [List.mem_eraseIdx_iff_getElem]
      refine ⟨j, hj, fun e2 => ?_, e⟩
      subst e2
      rw [e] at hn
      omega
    have := plc_nodup.length_le_of_subset sub
    rw [plcL_len, List.length_eraseIdx, if_pos hi] at this
    omega
  refine ⟨hl, rng, List.nodup_iff_count.2 fun a => ?_⟩
  by_cases ha : a ∈ s
  · obtain ⟨a1, a2⟩ := rng a ha
    have := ho a.toNat (by omega)
    rw [show ((a.toNat : Nat) : Int) = a by omega] at this
    omega
  · rw [List.count_eq_zero_of_not_mem ha]; omega
theorem Pm.plc {n : Nat} : Pm n (plcL n) := ⟨plcL_len, fun x hx => plc_mem.1 hx, plc_nodup⟩
theorem aft_getD {s r : List Int} {i : Nat} (h : i < s.length) : (aft s r).getD i 0 = r.getD s[i].toNat 0 := by
  unfold aft
  rw [List.getD_eq_getElem?_getD, List.getElem?_map, List.getElem?_eq_getElem h]; rfl
theorem ext_getD {l m : List Int} (h : l.length = m.length) (he : ∀ i, i < l.length → l.getD i 0 = m.getD i 0) : l = m := by
  refine List.ext_getElem h fun i h1 h2 => ?_
  have := he i h1
  rw [List.getD_eq_getElem?_getD, List.getD_eq_getElem?_getD, List.getElem?_eq_getElem h1, List.getElem?_eq_getElem h2] at this
  exact this
theorem aft_aft {s t r : List Int} {n : Nat} (hs : s.length = n) (ht : ∀ x ∈ t, 0 ≤ x ∧ x < n) : aft t (aft s r) = aft (aft t s) r := by
  unfold aft
  rw [List.map_map]
  refine List.map_congr_left fun x hx => ?_
  have h1 := ht x hx
  have h2 : x.toNat < s.length := by omega
  simp only [Function.comp, List.getD_eq_getElem?_getD, List.getElem?_map, List.getElem?_eq_getElem h2]
  rfl
theorem aft_plc {n : Nat} {r : List Int} (h : r.length = n) : aft (plcL n) r = r := by
  refine ext_getD (by rw [aft_len, plcL_len, h]) fun i hi => ?_
  rw [aft_len] at hi
  rw [aft_getD hi, plcL_get hi]
  simp
theorem aft_plc' {n : Nat} {s : List Int} (hs : ∀ x ∈ s, 0 ≤ x ∧ x < n) : aft s (plcL n) = s := by
  unfold aft
  conv => rhs; rw [← List.map_id s]
  refine List.map_congr_left fun x hx => ?_
  obtain ⟨h1, h2⟩ := hs x hx
  have h : x.toNat < (plcL n).length := by rw [plcL_len]; omega
  rw [List.getD_eq_getElem?_getD, List.getElem?_eq_getElem h, plcL_get h]
  simp; omega
theorem Pm.comp {n : Nat} {s t : List Int} (hs : Pm n s) (ht : Pm n t) : Pm n (aft s t) := by
  refine ⟨by rw [aft_len, hs.len], fun x hx => ?_, ?_⟩
  · obtain ⟨y, hy, rfl⟩ := List.mem_map.1 hx
    have h1 := hs.rng y hy
    have h2 : y.toNat < t.length := by rw [ht.len]; omega
    rw [List.getD_eq_getElem?_getD, List.getElem?_eq_getElem h2]
    exact ht.rng _ (List.getElem_mem h2)
  · unfold aft
    rw [List.Nodup, List.pairwise_map]
    refine List.Pairwise.imp_of_mem (fun {a b} ha hb hne e => hne ?_) hs.nd
    have a1 := hs.rng a ha
    have b1 := hs.rng b hb
    have a2 : a.toNat < t.length := by rw [ht.len]; omega
    have b2 : b.toNat < t.length := by rw [ht.len]; omega
    rw [List.getD_eq_getElem?_getD, List.getElem?_eq_getElem a2, List.getD_eq_getElem?_getD, List.getElem?_eq_getElem b2] at e
    simp only [Option.getD_some] at e
    have := ht.nd.idxOf_getElem a.toNat a2
    rw [e, ht.nd.idxOf_getElem b.toNat b2] at this
    omega
def inv (s : List Int) : List Int := (List.range s.length).map fun (k : Nat) => ((s.idxOf (k : Int) : Nat) : Int)
theorem inv_len {s : List Int} : (inv s).length = s.length := by simp [inv]
theorem inv_get {s : List Int} {k : Nat} (h : k < (inv s).length) : (inv s)[k] = ((s.idxOf (k : Int) : Nat) : Int) := by simp [inv]
theorem inv_at {n : Nat} {s : List Int} (h : Pm n s) {i : Nat} (hi : i < s.length) : (inv s).getD s[i].toNat 0 = i := by
  have h1 := h.rng s[i] (List.getElem_mem hi)
  have h2 : s[i].toNat < (inv s).length := by rw [inv_len, h.len]; omega
  rw [List.getD_eq_getElem?_getD, List.getElem?_eq_getElem h2, inv_get h2, show ((s[i].toNat : Nat) : Int) = s[i] by omega, h.nd.idxOf_getElem i hi]
  rfl
theorem inv_pm {n : Nat} {s : List Int} (h : Pm n s) : Pm n (inv s) := by
  refine ⟨by rw [inv_len, h.len], fun x hx => ?_, ?_⟩
  · obtain ⟨k, hk, rfl⟩ := List.mem_map.1 hx
    have := List.idxOf_lt_length_of_mem (h.mem (k := k) (by have := List.mem_range.1 hk; have := h.len; omega))
    have := h.len; omega
  · unfold inv
    rw [List.Nodup, List.pairwise_map]
    refine List.Pairwise.imp_of_mem (fun {a b} ha hb hne e => hne ?_) List.nodup_range
    have ha := h.mem (k := a) (by have := List.mem_range.1 ha; have := h.len; omega)
    have hb := h.mem (k := b) (by have := List.mem_range.1 hb; have := h.len; omega)
    have e1 := List.getElem_idxOf (List.idxOf_lt_length_of_mem ha)
    have e2 := List.getElem_idxOf (List.idxOf_lt_length_of_mem hb)
    have e' : s.idxOf (a : Int) = s.idxOf (b : Int) := by omega
    have : ((a : Nat) : Int) = b := by
      rw [← e1, ← e2]
      simp only [e']
    omega
theorem aft_inv {n : Nat} {s : List Int} (h : Pm n s) : aft s (inv s) = plcL n := by
  refine ext_getD (by rw [aft_len, plcL_len, h.len]) fun i hi => ?_
  rw [aft_len] at hi
  have h2 : i < (plcL n).length := by rw [plcL_len, ← h.len]; exact hi
  rw [aft_getD hi, inv_at h hi, List.getD_eq_getElem?_getD, List.getElem?_eq_getElem h2, plcL_get h2]; rfl
theorem inv_aft {n : Nat} {s : List Int} (h : Pm n s) : aft (inv s) s = plcL n := by
  refine ext_getD (by rw [aft_len, inv_len, plcL_len, h.len]) fun i hi => ?_
  rw [aft_len] at hi
  have h2 : i < (plcL n).length := by rw [plcL_len, ← h.len, ← inv_len]; exact hi
  have hm := List.idxOf_lt_length_of_mem (h.mem (k := i) (by rw [← h.len, ← inv_len]; exact hi))
  rw [aft_getD hi, inv_get hi, List.getD_eq_getElem?_getD, List.getD_eq_getElem?_getD, List.getElem?_eq_getElem h2, plcL_get h2]
  rw [show (((s.idxOf (i : Int) : Nat) : Int)).toNat = s.idxOf (i : Int) by omega, List.getElem?_eq_getElem hm, List.getElem_idxOf]
theorem aft_back {n : Nat} {s r : List Int} (h : Pm n s) (hr : r.length = n) : aft s (aft (inv s) r) = r := by
  rw [aft_aft (n := n) (by rw [inv_len, h.len]) h.rng, aft_inv h, aft_plc hr]
theorem back_aft {n : Nat} {s r : List Int} (h : Pm n s) (hr : r.length = n) : aft (inv s) (aft s r) = r := by
  rw [aft_aft (n := n) h.len (inv_pm h).rng, inv_aft h, aft_plc hr]
theorem inv_inv {n : Nat} {s : List Int} (h : Pm n s) : inv (inv s) = s := by
  have h1 := inv_pm h
  have e := aft_inv h1
  have := congrArg (aft s) e
  rw [aft_aft (n := n) h1.len h.rng, aft_inv h, aft_plc (by rw [inv_len, h1.len]), aft_plc' h.rng] at this
  exact this
def PmS (n : Nat) (S : List (List Int)) : Prop := ∀ s ∈ S, Pm n s
theorem PmS.at {n : Nat} {S : List (List Int)} (h : PmS n S) {k : Nat} (hk : k < S.length) : Pm n (S.getD k []) := by
  rw [List.getD_eq_getElem?_getD, List.getElem?_eq_getElem hk]
  exact h _ (List.getElem_mem hk)
theorem PmS.inv {n : Nat} {S : List (List Int)} (h : PmS n S) : PmS n (S.map inv) := fun s hs => by
  obtain ⟨t, ht, rfl⟩ := List.mem_map.1 hs
  exact inv_pm (h t ht)
theorem getD_map {S : List (List Int)} {f : List Int → List Int} {k : Nat} (hk : k < S.length) : (S.map f).getD k [] = f (S.getD k []) := by
  rw [List.getD_eq_getElem?_getD, List.getD_eq_getElem?_getD, List.getElem?_map, List.getElem?_eq_getElem hk]; rfl
theorem allS_len {n : Nat} {S : List (List Int)} (h : PmS n S) : ∀ {l : List Nat} {r : List Int}, (∀ s ∈ l, s < S.length) → r.length = n → (allS S l r).length = n
  | [], _, _, hr => hr
  | s :: l, r, hl, hr => allS_len h (l := l) (fun t ht => hl t (by simp [ht])) (by rw [aft_len]; exact (h.at (hl s (by simp))).len)
theorem Wd.rev {n : Nat} {S : List (List Int)} (h : PmS n S) : ∀ {l : List Nat} {r x : List Int}, r.length = n → Wd S r x l → Wd (S.map inv) x r l.reverse
  | [], r, x, hr, hw => by
    have : r = x := hw.2
    subst this; exact .nil
  | s :: l, r, x, hr, hw => by
    obtain ⟨h1, h2⟩ := Wd.cons.1 hw
    have ps := h.at h1
    have := Wd.rev h (l := l) (by rw [aft_len]; exact ps.len) h2
    rw [List.reverse_cons]
    refine this.append (Wd.cons.2 ⟨by rw [List.length_map]; exact h1, ?_⟩)
    rw [getD_map h1, back_aft ps hr]
    exact .nil
theorem map_inv_inv {n : Nat} {S : List (List Int)} (h : PmS n S) : (S.map inv).map inv = S := by
  rw [List.map_map]
  conv => rhs; rw [← List.map_id S]
  exact List.map_congr_left fun s hs => inv_inv (h s hs)
theorem Wd.len {n : Nat} {S : List (List Int)} (h : PmS n S) {l : List Nat} {r x : List Int} (hr : r.length = n) (hw : Wd S r x l) : x.length = n := by
  rw [← hw.2]; exact allS_len h hw.1 hr
theorem Dist.rev {n m : Nat} {S : List (List Int)} (h : PmS n S) {r x : List Int} (hr : r.length = n) (hd : Dist S r x m) : Dist (S.map inv) x r m := by
  obtain ⟨⟨l, h1, h2⟩, h3⟩ := hd
  refine ⟨⟨l.reverse, h1.rev h hr, by simp [h2]⟩, fun k hk => ?_⟩
  have := hk.rev h.inv (h1.len h hr)
  rw [map_inv_inv h] at this
  have := h3 _ this
  simpa using this
theorem Dist.rev_iff {n m : Nat} {S : List (List Int)} (h : PmS n S) {r x : List Int} (hr : r.length = n) (hx : x.length = n) : Dist (S.map inv) x r m ↔ Dist S r x m := by
  refine ⟨fun hd => ?_, fun hd => hd.rev h hr⟩
  have := hd.rev h.inv hx
  rw [map_inv_inv h] at this
  exact this
def pad (r : List Int) : List Int := r ++ List.replicate (6 - r.length) 0
theorem pad_len {r : List Int} (h : r.length ≤ 6) : (pad r).length = 6 := by simp [pad]; omega
theorem pad_inj {r x : List Int} (h : r.length = x.length) (e : pad r = pad x) : r = x := by
  unfold pad at e
  exact (List.append_inj e h).1
theorem pad_getD {r : List Int} {i : Nat} (h : i < r.length) : (pad r).getD i 0 = r.getD i 0 := by
  unfold pad
  rw [List.getD_eq_getElem?_getD, List.getD_eq_getElem?_getD, List.getElem?_append_left h]
theorem pad_getD' {r : List Int} {i : Nat} (h : r.length ≤ i) : (pad r).getD i 0 = 0 := by
  unfold pad
  rw [List.getD_eq_getElem?_getD, List.getElem?_append_right h, List.getElem?_replicate]
  split <;> rfl
def allRows (C : List Int) : Nat → List (List Int)
  | 0 => [[]]
  | n + 1 => (allRows C n).flatMap fun l => C.map fun c => c :: l
theorem mem_allRows {C : List Int} : ∀ {n : Nat} {l : List Int}, l.length = n → (∀ x ∈ l, x ∈ C) → l ∈ allRows C n
  | 0, l, hl, _ => by
    rw [List.length_eq_zero_iff] at hl
    subst hl; simp [allRows]
  | n + 1, x :: l, hl, hx => by
    rw [allRows, List.mem_flatMap]
    exact ⟨l, mem_allRows (by simpa using hl) (fun y hy => hx y (by simp [hy])), List.mem_map.2 ⟨x, hx x (by simp), rfl⟩⟩
theorem allRows_len {C : List Int} : ∀ {n : Nat}, (allRows C n).length = C.length ^ n
  | 0 => rfl
  | n + 1 => by
    have ih := allRows_len (C := C) (n := n)
    rw [allRows, List.length_flatMap]
    simp only [List.length_map, List.map_const', List.sum_replicate_nat, ih]
    rw [Nat.pow_succ]
theorem aft_col {s r : List Int} {n : Nat} (hs : ∀ x ∈ s, 0 ≤ x ∧ x < n) (hr : r.length = n) {C : List Int} (hc : ∀ x ∈ r, x ∈ C) : ∀ x ∈ aft s r, x ∈ C := fun x hx => by
  obtain ⟨y, hy, rfl⟩ := List.mem_map.1 hx
  have := hs y hy
  have h2 : y.toNat < r.length := by omega
  rw [List.getD_eq_getElem?_getD, List.getElem?_eq_getElem h2]
  exact hc _ (List.getElem_mem h2)
theorem allS_col {n : Nat} {S : List (List Int)} (h : PmS n S) {C : List Int} : ∀ {l : List Nat} {r : List Int}, (∀ s ∈ l, s < S.length) → r.length = n → (∀ x ∈ r, x ∈ C) → ∀ x ∈ allS S l r, x ∈ C
  | [], _, _, _, hc => hc
  | s :: l, r, hl, hr, hc => by
    have ps := h.at (hl s (by simp))
    exact allS_col h (l := l) (fun t ht => hl t (by simp [ht])) (by rw [aft_len]; exact ps.len) (aft_col ps.rng hr hc)
theorem dist_lt {n m : Nat} {S : List (List Int)} (h : PmS n S) {C : List Int} {r x : List Int} (hr : r.length = n) (hc : ∀ y ∈ r, y ∈ C) (hd : Dist S r x m) : m < C.length ^ n := by
  obtain ⟨⟨l, h1, h2⟩, h3⟩ := hd
  have nd : ((List.range (m + 1)).map fun i => allS S (l.take i) r).Nodup := by
    rw [List.Nodup, List.pairwise_map]
    refine List.Pairwise.imp_of_mem (fun {a b} ha hb hab e => ?_) (List.pairwise_lt_range)
    have ha := List.mem_range.1 ha
    have hb := List.mem_range.1 hb
    have w1 : Wd S r (allS S (l.take a) r) (l.take a) := (Wd.split (m := l.drop a) (by rw [List.take_append_drop]; exact h1)).1
    have w2 : Wd S (allS S (l.take b) r) x (l.drop b) := (Wd.split (m := l.drop b) (by rw [List.take_append_drop]; exact h1)).2
    have := h3 _ ((e ▸ w1).append w2)
    rw [List.length_append, List.length_take, List.length_drop] at this
    omega
  have sub : ((List.range (m + 1)).map fun i => allS S (l.take i) r) ⊆ allRows C n := fun y hy => by
    obtain ⟨i, hi, rfl⟩ := List.mem_map.1 hy
    have hw : ∀ s ∈ l.take i, s < S.length := fun s hs => h1.1 s (List.mem_of_mem_take hs)
    exact mem_allRows (allS_len h hw hr) (allS_col h hw hr hc)
  have := nd.length_le_of_subset sub
  rw [List.length_map, List.length_range, allRows_len] at this
  omega
end Go.AM

set_option linter.unusedSimpArgs false
set_option linter.unusedVariables false
set_option maxRecDepth 100000
namespace Go.AM
open Go.RowKit
def permK (n : Nat) : Nat → List Int → List (List Int)
  | 0, _ => [[]]
  | m + 1, u => ((plcL n).filter fun c => !u.contains c).flatMap fun c => (permK n m (c :: u)).map fun l => c :: l
theorem mem_permK {n : Nat} : ∀ {m : Nat} {u l : List Int}, l.length = m → (∀ x ∈ l, 0 ≤ x ∧ x < n) → l.Nodup → (∀ x ∈ l, x ∉ u) → l ∈ permK n m u
  | 0, u, l, hl, _, _, _ => by
    rw [List.length_eq_zero_iff] at hl
    subst hl; simp [permK]
  | m + 1, u, x :: l, hl, hr, hn, hu => by
    rw [List.nodup_cons] at hn
    rw [permK, List.mem_flatMap]
    refine ⟨x, List.mem_filter.2 ⟨plc_mem.2 (hr x (by simp)), by simpa using hu x (by simp)⟩, List.mem_map.2 ⟨l, mem_permK (by simpa using hl) (fun y hy => hr y (by simp [hy])) hn.2 (fun y hy h => ?_), rfl⟩⟩
    rcases List.mem_cons.1 h with rfl | h
    · exact hn.1 hy
    · exact hu y (by simp [hy]) h
theorem pm_mem {n : Nat} {s : List Int} (h : Pm n s) : s ∈ permK n n [] := mem_permK h.len h.rng h.nd (by simp)
def pwr (j : List Int) : Nat → List Int
  | 0 => plcL j.length
  | m + 1 => aft j (pwr j m)
def cycF (j : List Int) (p : Int) : Nat → Int → Nat → Nat
  | 0, _, k => k
  | f + 1, a, k => if a = p then k else cycF j p f (j.getD a.toNat 0) (k + 1)
def cycE (j : List Int) (p : Int) : Nat → Int → Bool
  | 0, _ => false
  | f + 1, a => if a = p then true else cycE j p f (j.getD a.toNat 0)
def cyc (j : List Int) (p : Nat) : Nat := cycF j p 7 (j.getD p 0) 1
def lcmF (n k : Nat) : Nat → Nat → Nat
  | 0, r => r
  | f + 1, r => if r % k = 0 then r else lcmF n k f (r + n)
def lcmE (n k : Nat) : Nat → Nat → Bool
  | 0, _ => false
  | f + 1, r => if r % k = 0 then true else lcmE n k f (r + n)
def rndTo (j : List Int) : Nat → Nat
  | 0 => 1
  | p + 1 => lcmF (rndTo j p) (cyc j p) 7 (rndTo j p)
def ordN (j : List Int) : Nat := rndTo j j.length
def leF (j : List Int) : Bool := (List.range j.length).all fun p => cycE j p 7 (j.getD p 0) && lcmE (rndTo j p) (cyc j p) 7 (rndTo j p) && decide (1 ≤ cyc j p ∧ cyc j p ≤ 10 ∧ 1 ≤ rndTo j p ∧ rndTo j p ≤ 60)
def eqLI : List Int → List Int → Bool
  | [], [] => true
  | x :: l, y :: m => decide (x = y) && eqLI l m
  | _, _ => false
theorem eqLI_iff : ∀ {l m : List Int}, eqLI l m = true ↔ l = m
  | [], [] => by simp [eqLI]
  | [], y :: m => by simp [eqLI]
  | x :: l, [] => by simp [eqLI]
  | x :: l, y :: m => by simp [eqLI, eqLI_iff (l := l)]
def tryJ (j : List Int) : Bool := leF j && decide (1 ≤ ordN j ∧ ordN j ≤ 6) && eqLI (pwr j (ordN j)) (plcL j.length) && (List.range 6).all fun m => decide (m = 0) || decide (ordN j ≤ m) || !eqLI (pwr j m) (plcL j.length)
def tryN (n : Nat) : Bool := (permK n n []).all tryJ
theorem try2 : tryN 2 = true := by decide +kernel
theorem try3 : tryN 3 = true := by decide +kernel
theorem try4 : tryN 4 = true := by decide +kernel
theorem try5 : tryN 5 = true := by decide +kernel
theorem try6 : tryN 6 = true := by decide +kernel
theorem tried {n : Nat} (h2 : 2 ≤ n) (h6 : n ≤ 6) {j : List Int} (h : Pm n j) : tryJ j = true := by
  have : tryN n = true := by
    match n, h2, h6 with
    | 2, _, _ => exact try2
    | 3, _, _ => exact try3
    | 4, _, _ => exact try4
    | 5, _, _ => exact try5
    | 6, _, _ => exact try6
  exact List.all_eq_true.1 this j (pm_mem h)
structure OrdOK (j : List Int) : Prop where
  lo : 1 ≤ ordN j
  hi : ordN j ≤ 6
  id : pwr j (ordN j) = plcL j.length
  least : ∀ m, 1 ≤ m → m < ordN j → pwr j m ≠ plcL j.length
  cyc : ∀ p, p < j.length → cycE j p 7 (j.getD p 0) = true ∧ lcmE (rndTo j p) (cyc j p) 7 (rndTo j p) = true ∧ 1 ≤ cyc j p ∧ cyc j p ≤ 10 ∧ 1 ≤ rndTo j p ∧ rndTo j p ≤ 60
theorem ord_ok {n : Nat} (h2 : 2 ≤ n) (h6 : n ≤ 6) {j : List Int} (h : Pm n j) : OrdOK j := by
  have := tried h2 h6 h
  unfold tryJ leF at this
  simp only [Bool.and_eq_true, List.all_eq_true, List.mem_range, decide_eq_true_eq, Bool.or_eq_true, Bool.not_eq_true'] at this
  obtain ⟨⟨⟨a1, a2⟩, a3⟩, a4⟩ := this
  refine ⟨a2.1, a2.2, eqLI_iff.1 a3, fun m m1 m2 e => ?_, fun p hp => ?_⟩
  · rcases a4 m (by omega) with (h | h) | h
    · omega
    · omega
    · rw [eqLI_iff.2 e] at h; cases h
  · have := a1 p hp
    exact ⟨this.1.1, this.1.2, this.2⟩
end Go.AM

set_option linter.unusedSimpArgs false
set_option linter.unusedVariables false
namespace Go.AM
open Go.RowKit
def sg (s : List Int) (i : Nat) : Nat := (s.getD i 0).toNat
theorem sg_at {s : List Int} {i : Nat} (h : i < s.length) : sg s i = s[i].toNat := by
  unfold sg
  rw [List.getD_eq_getElem?_getD, List.getElem?_eq_getElem h]; rfl
theorem Pm.sg_lt {n : Nat} {s : List Int} (h : Pm n s) {i : Nat} (hi : i < n) : sg s i < n := by
  have hl : i < s.length := by rw [h.len]; exact hi
  have := h.rng s[i] (List.getElem_mem hl)
  rw [sg_at hl]; omega
theorem Pm.sg_inv {n : Nat} {s : List Int} (h : Pm n s) {i : Nat} (hi : i < n) : sg (inv s) (sg s i) = i := by
  have hl : i < s.length := by rw [h.len]; exact hi
  have := inv_at h hl
  rw [sg_at hl]
  unfold sg
  rw [this]; rfl
theorem Pm.sg_inv' {n : Nat} {s : List Int} (h : Pm n s) {i : Nat} (hi : i < n) : sg s (sg (inv s) i) = i := by
  have := (inv_pm h).sg_inv hi
  rw [inv_inv h] at this
  exact this
inductive Rch (n : Nat) (S : List (List Int)) (q : Nat × Nat) : Nat × Nat → Prop
  | base : Rch n S q q
  | step {i k : Nat} {s : List Int} : s ∈ S → i < n → k < n → Rch n S q (sg s i, sg s k) → Rch n S q (i, k)
theorem Rch.lt {n : Nat} {S : List (List Int)} {q x : Nat × Nat} (hq : q.1 < n ∧ q.2 < n) (h : Rch n S q x) : x.1 < n ∧ x.2 < n := by
  cases h with
  | base => exact hq
  | step _ h1 h2 _ => exact ⟨h1, h2⟩
theorem surj_of {α : Type} [DecidableEq α] {C : List α} (hC : C.Nodup) {f : α → α} (hf : ∀ q ∈ C, f q ∈ C) (hi : ∀ q ∈ C, ∀ r ∈ C, f q = f r → q = r) {q : α} (hq : q ∈ C) : ∃ r ∈ C, f r = q := by
  refine Classical.byContradiction fun hn => ?_
  have nd : (q :: C.map f).Nodup := by
    rw [List.nodup_cons]
    refine ⟨fun hm => ?_, ?_⟩
    · obtain ⟨r, hr, e⟩ := List.mem_map.1 hm
      exact hn ⟨r, hr, e⟩
    · rw [List.Nodup, List.pairwise_map]
      exact List.Pairwise.imp_of_mem (fun {a b} ha hb hne e => hne (hi a ha b hb e)) hC
  have sub : (q :: C.map f) ⊆ C := fun x hx => by
    rcases List.mem_cons.1 hx with rfl | hx
    · exact hq
    · obtain ⟨r, hr, rfl⟩ := List.mem_map.1 hx
      exact hf r hr
  have := nd.length_le_of_subset sub
  simp at this
  omega
def prsN (n : Nat) : List (Nat × Nat) := (List.range n).flatMap fun i => (List.range n).map fun k => (i, k)
theorem mem_prsN {n : Nat} {q : Nat × Nat} : q ∈ prsN n ↔ q.1 < n ∧ q.2 < n := by
  unfold prsN
  simp only [List.mem_flatMap, List.mem_map, List.mem_range]
  constructor
  · rintro ⟨i, hi, k, hk, rfl⟩; exact ⟨hi, hk⟩
  · rintro ⟨h1, h2⟩; exact ⟨q.1, h1, q.2, h2, rfl⟩
theorem prsN_nodup {n : Nat} : (prsN n).Nodup := by
  unfold prsN
  rw [List.Nodup, List.pairwise_flatMap]
  refine ⟨fun i _ => ?_, ?_⟩
  · rw [List.pairwise_map]
    exact List.Pairwise.imp (fun h e => h (Prod.mk.inj e).2) List.nodup_range
  · refine List.Pairwise.imp (fun {a b} h x hx y hy e => h ?_) List.nodup_range
    obtain ⟨k, _, rfl⟩ := List.mem_map.1 hx
    obtain ⟨j, _, rfl⟩ := List.mem_map.1 hy
    exact (Prod.mk.inj e).1
theorem Rch.back {n : Nat} {S : List (List Int)} (hS : PmS n S) {q : Nat × Nat} (hq : q.1 < n ∧ q.2 < n) {i k : Nat} {s : List Int} (hs : s ∈ S) (h : Rch n S q (i, k)) : Rch n S q (sg s i, sg s k) := by
  have ps := hS s hs
  have hik := h.lt hq
  simp only at hik
  let p : Nat × Nat → Bool := fun x => @decide (Rch n S q x) (Classical.propDecidable _)
  have hp : ∀ x, p x = true ↔ Rch n S q x := fun x => @decide_eq_true_iff _ (Classical.propDecidable _)
  have memC : ∀ x, x ∈ (prsN n).filter p ↔ Rch n S q x := fun x => by
    rw [List.mem_filter, hp, mem_prsN]
    exact ⟨fun h => h.2, fun h => ⟨h.lt hq, h⟩⟩
  obtain ⟨r, hr, e⟩ := surj_of (C := (prsN n).filter p) (f := fun x => (sg (inv s) x.1, sg (inv s) x.2)) (prsN_nodup.sublist List.filter_sublist)
    (fun x hx => by
      rw [memC] at hx ⊢
      have hx2 := hx.lt hq
      refine Rch.step hs ((inv_pm ps).sg_lt hx2.1) ((inv_pm ps).sg_lt hx2.2) ?_
      rw [ps.sg_inv' hx2.1, ps.sg_inv' hx2.2]
      exact hx)
    (fun x hx y hy e => by
      rw [memC] at hx hy
      have hx2 := hx.lt hq
      have hy2 := hy.lt hq
      obtain ⟨e1, e2⟩ := Prod.mk.inj e
      have e1 := congrArg (sg s) e1
      have e2 := congrArg (sg s) e2
      rw [ps.sg_inv' hx2.1, ps.sg_inv' hy2.1] at e1
      rw [ps.sg_inv' hx2.2, ps.sg_inv' hy2.2] at e2
      exact Prod.ext e1 e2) ((memC _).2 h)
  rw [memC] at hr
  have hr2 := hr.lt hq
  obtain ⟨e1, e2⟩ := Prod.mk.inj e
  rw [← e1, ← e2, ps.sg_inv' hr2.1, ps.sg_inv' hr2.2]
  exact hr
def mk (M : List Int) (i k : Nat) : Prop := M.getD (6 * i + k) 0 = 1
structure Good (n : Nat) (S : List (List Int)) (q : Nat × Nat) (M : List Int) : Prop where
  len : M.length = 36
  val : ∀ x ∈ M, x = 0 ∨ x = 1
  snd : ∀ i k, i < 6 → k < 6 → mk M i k → Rch n S q (i, k)
  base : mk M q.1 q.2
def Edge (M : List Int) (s : List Int) (i k : Nat) : Prop := mk M i k ↔ mk M (sg s i) (sg s k)
def Closd (n : Nat) (S : List (List Int)) (M : List Int) : Prop := ∀ s ∈ S, ∀ i k, i < n → k < n → Edge M s i k
def Done (n : Nat) (S : List (List Int)) (M : List Int) (i k s : Nat) : Prop := ∀ i' k' s', i' < n → k' < n → s' < S.length → (i' < i ∨ (i' = i ∧ (k' < k ∨ (k' = k ∧ s' < s)))) → Edge M (S.getD s' []) i' k'
def InvP (n : Nat) (S : List (List Int)) (q : Nat × Nat) (R i k s : Nat) (M : List Int) : Prop := Good n S q M ∧ (Closd n S M ∨ (R + 1 ≤ M.count 1 ∧ (R + 2 ≤ M.count 1 ∨ Done n S M i k s)))
theorem set_getD {M : List Int} {j k : Nat} {v : Int} (h : j < M.length) : (M.set j v).getD k 0 = if k = j then v else M.getD k 0 := by
  rw [List.getD_eq_getElem?_getD, List.getD_eq_getElem?_getD, List.getElem?_set]
  by_cases e : j = k
  · subst e; simp [h]
  · rw [if_neg e, if_neg (Ne.symm e)]
theorem count_set1 {M : List Int} {j : Nat} (h : j < M.length) : (M.set j 1).count 1 = if M.getD j 0 = 1 then M.count 1 else M.count 1 + 1 := by
  have e : M.getD j 0 = M[j] := by rw [List.getD_eq_getElem?_getD, List.getElem?_eq_getElem h]; rfl
  rw [e, List.count_set h]
  by_cases e1 : M[j] = 1
  · have : 0 < M.count 1 := by rw [List.count_pos_iff, ← e1]; exact List.getElem_mem h
    simp [e1]; omega
  · simp [e1]
theorem set_same {M : List Int} {j : Nat} (h : j < M.length) (e : M.getD j 0 = 1) : M.set j 1 = M := by
  refine ext_getD (by simp) fun i hi => ?_
  rw [set_getD h]; split
  · rename_i e2; rw [e2, e]
  · rfl
theorem InvP.step {n : Nat} {S : List (List Int)} {q : Nat × Nat} {R i k s : Nat} {M : List Int} (hS : PmS n S) (h6 : n ≤ 6) (hq : q.1 < n ∧ q.2 < n) (h : InvP n S q R i k s M) (hi : i < n) (hk : k < n) (hs : s < S.length) {t : List Int} (et : S.getD s [] = t) :
    InvP n S q R i k (s + 1) (if M.getD (6 * i + k) 0 = 1 ∨ M.getD (6 * sg t i + sg t k) 0 = 1 then (M.set (6 * i + k) 1).set (6 * sg t i + sg t k) 1 else M) := by
  obtain ⟨g, h⟩ := h
  have ps := hS.at hs
  have hm : S.getD s [] ∈ S := by rw [List.getD_eq_getElem?_getD, List.getElem?_eq_getElem hs]; exact List.getElem_mem hs
  rw [et] at ps hm
  have b1 := ps.sg_lt hi
  have b2 := ps.sg_lt hk
  have l1 : 6 * i + k < M.length := by rw [g.len]; omega
  have l2 : 6 * sg t i + sg t k < M.length := by rw [g.len]; omega
  have same : Edge M t i k → InvP n S q R i k (s + 1) M := fun he => by
    refine ⟨g, h.imp id fun ⟨h1, h2⟩ => ⟨h1, h2.imp id fun hd => ?_⟩⟩
    intro i' k' s' a1 a2 a3 a4
    by_cases e : i' = i ∧ k' = k ∧ s' = s
    · obtain ⟨rfl, rfl, rfl⟩ := e
      rw [et]; exact he
    · exact hd i' k' s' a1 a2 a3 (by omega)
  by_cases c1 : M.getD (6 * i + k) 0 = 1
  · by_cases c2 : M.getD (6 * sg t i + sg t k) 0 = 1
    · rw [if_pos (.inl c1), set_same l1 c1, set_same l2 c2]
      exact same ⟨fun _ => c2, fun _ => c1⟩
    · rw [if_pos (.inl c1), set_same l1 c1]
      have rc : Rch n S q (sg t i, sg t k) := (g.snd i k (by omega) (by omega) c1).back hS hq hm
      refine ⟨⟨by simp [g.len], fun x hx => ?_, fun a b ha hb hm2 => ?_, ?_⟩, .inr ?_⟩
      · rcases List.mem_or_eq_of_mem_set hx with hx | rfl
        · exact g.val x hx
        · exact .inr rfl
      · unfold mk at hm2
        rw [set_getD l2] at hm2
        split at hm2
        · have : a = sg t i ∧ b = sg t k := by omega
          rw [this.1, this.2]; exact rc
        · exact g.snd a b ha hb hm2
      · have := g.base
        unfold mk at this ⊢
        rw [set_getD l2]; split
        · rfl
        · exact this
      · rw [count_set1 l2, if_neg c2]
        rcases h with h | ⟨h, _⟩
        · exact absurd ((h t hm i k hi hk).1 c1) c2
        · exact ⟨by omega, .inl (by omega)⟩
  · by_cases c2 : M.getD (6 * sg t i + sg t k) 0 = 1
    · rw [if_pos (.inr c2)]
      have e2 : (M.set (6 * i + k) 1).getD (6 * sg t i + sg t k) 0 = 1 := by
        rw [set_getD l1]; split
        · rfl
        · exact c2
      rw [set_same (by simpa using l2) e2]
      have rc : Rch n S q (i, k) := Rch.step hm hi hk (g.snd _ _ (by omega) (by omega) c2)
      refine ⟨⟨by simp [g.len], fun x hx => ?_, fun a b ha hb hm2 => ?_, ?_⟩, .inr ?_⟩
      · rcases List.mem_or_eq_of_mem_set hx with hx | rfl
        · exact g.val x hx
        · exact .inr rfl
      · unfold mk at hm2
        rw [set_getD l1] at hm2
        split at hm2
        · have : a = i ∧ b = k := by omega
          rw [this.1, this.2]; exact rc
        · exact g.snd a b ha hb hm2
      · have := g.base
        unfold mk at this ⊢
        rw [set_getD l1]; split
        · rfl
        · exact this
      · rw [count_set1 l1, if_neg c1]
        rcases h with h | ⟨h, _⟩
        · exact absurd ((h t hm i k hi hk).2 c2) c1
        · exact ⟨by omega, .inl (by omega)⟩
    · rw [if_neg (by simp only [c1, c2, or_self, not_false_eq_true])]
      exact same ⟨fun h => absurd h c1, fun h => absurd h c2⟩
theorem InvP.k {n : Nat} {S : List (List Int)} {q : Nat × Nat} {R i k : Nat} {M : List Int} (h : InvP n S q R i k S.length M) : InvP n S q R i (k + 1) 0 M :=
  ⟨h.1, h.2.imp id fun ⟨h1, h2⟩ => ⟨h1, h2.imp id fun hd i' k' s' a1 a2 a3 a4 => hd i' k' s' a1 a2 a3 (by omega)⟩⟩
theorem InvP.i {n : Nat} {S : List (List Int)} {q : Nat × Nat} {R i : Nat} {M : List Int} (h : InvP n S q R i n 0 M) : InvP n S q R (i + 1) 0 0 M :=
  ⟨h.1, h.2.imp id fun ⟨h1, h2⟩ => ⟨h1, h2.imp id fun hd i' k' s' a1 a2 a3 a4 => hd i' k' s' a1 a2 a3 (by omega)⟩⟩
theorem InvP.R {n : Nat} {S : List (List Int)} {q : Nat × Nat} {R : Nat} {M : List Int} (h : InvP n S q R n 0 0 M) : InvP n S q (R + 1) 0 0 0 M := by
  refine ⟨h.1, ?_⟩
  rcases h.2 with h2 | ⟨h1, h2 | hd⟩
  · exact .inl h2
  · exact .inr ⟨h2, .inr fun i' k' s' a1 a2 a3 a4 => by omega⟩
  · refine .inl fun s hs i k hi hk => ?_
    obtain ⟨j, hj, rfl⟩ := List.getElem_of_mem hs
    have := hd i k j hi hk hj (.inl hi)
    rw [List.getD_eq_getElem?_getD, List.getElem?_eq_getElem hj] at this
    exact this
theorem InvP.init {n : Nat} {S : List (List Int)} {q : Nat × Nat} (h6 : n ≤ 6) (hq : q.1 < n ∧ q.2 < n) : InvP n S q 0 0 0 0 ((List.replicate 36 (0 : Int)).set (6 * q.1 + q.2) 1) := by
  have l1 : 6 * q.1 + q.2 < (List.replicate 36 (0 : Int)).length := by rw [List.length_replicate]; omega
  have z : ∀ j, (List.replicate 36 (0 : Int)).getD j 0 = 0 := fun j => by
    rw [List.getD_eq_getElem?_getD, List.getElem?_replicate]; split <;> rfl
  refine ⟨⟨by simp, fun x hx => ?_, fun a b ha hb hm => ?_, ?_⟩, .inr ⟨?_, .inr fun i' k' s' a1 a2 a3 a4 => by omega⟩⟩
  · rcases List.mem_or_eq_of_mem_set hx with hx | rfl
    · exact .inl (List.eq_of_mem_replicate hx)
    · exact .inr rfl
  · unfold mk at hm
    rw [set_getD l1] at hm
    split at hm
    · have : a = q.1 ∧ b = q.2 := by omega
      rw [this.1, this.2]; exact .base
    · rw [z] at hm; cases hm
  · unfold mk
    rw [set_getD l1, if_pos rfl]
  · rw [count_set1 l1, z]
    simp
theorem InvP.fin {n : Nat} {S : List (List Int)} {q : Nat × Nat} {M : List Int} (h6 : n ≤ 6) (hq : q.1 < n ∧ q.2 < n) (h : InvP n S q 36 0 0 0 M) {i k : Nat} (hi : i < n) (hk : k < n) : M.getD (6 * i + k) 0 = 1 ↔ Rch n S q (i, k) := by
  obtain ⟨g, h⟩ := h
  refine ⟨fun hm => g.snd i k (by omega) (by omega) hm, fun hr => ?_⟩
  have cl : Closd n S M := by
    rcases h with h | ⟨h, _⟩
    · exact h
    · have := List.count_le_length (a := (1 : Int)) (l := M)
      rw [g.len] at this
      omega
  have key : ∀ x : Nat × Nat, Rch n S q x → mk M x.1 x.2 := fun x hx => by
    induction hx with
    | base => exact g.base
    | step hs h1 h2 _ ih => exact (cl _ hs _ _ h1 h2).2 ih
  exact key _ hr
end Go.AM

set_option linter.unusedSimpArgs false
set_option linter.unusedVariables false
namespace Go.AM
open Go.RowKit
def frst : List Int → List Int → Bool
  | x :: a, y :: b => if x = y then frst a b else decide (x < y)
  | _, _ => false
theorem frst_self : ∀ (a : List Int), frst a a = false
  | [] => rfl
  | x :: a => by simp [frst, frst_self a]
theorem frst_snoc {x y : Int} : ∀ {a b : List Int}, a.length = b.length → frst (a ++ [x]) (b ++ [y]) = (frst a b || (decide (a = b) && decide (x < y)))
  | [], [], _ => by
    by_cases h : x = y
    · subst h; simp [frst]
    · simp [frst, h]
  | u :: a, v :: b, h => by
    have ih := frst_snoc (x := x) (y := y) (a := a) (b := b) (by simpa using h)
    simp only [List.cons_append, frst]
    by_cases e : u = v
    · subst e; simp [ih]
    · simp [e]
  | [], v :: b, h => by simp at h
  | u :: a, [], h => by simp at h
theorem frst_total : ∀ {a b : List Int}, a.length = b.length → a ≠ b → frst a b = false → frst b a = true
  | [], [], _, h, _ => absurd rfl h
  | u :: a, v :: b, h, hn, hf => by
    simp only [frst] at hf ⊢
    by_cases e : u = v
    · subst e
      simp only [if_true] at hf ⊢
      exact frst_total (by simpa using h) (fun e => hn (by rw [e])) hf
    · rw [if_neg e] at hf
      rw [if_neg (Ne.symm e)]
      have := of_decide_eq_false hf
      exact decide_eq_true (by omega)
  | [], v :: b, h, _, _ => by simp at h
  | u :: a, [], h, _, _ => by simp at h
theorem frst_asymm : ∀ {a b : List Int}, frst a b = true → frst b a = false
  | u :: a, v :: b, h => by
    simp only [frst] at h ⊢
    by_cases e : u = v
    · subst e
      simp only [if_true] at h ⊢
      exact frst_asymm h
    · rw [if_neg e] at h
      rw [if_neg (Ne.symm e)]
      have := of_decide_eq_true h
      exact decide_eq_false (by omega)
  | [], _, h => by simp [frst] at h
  | _ :: _, [], h => by simp [frst] at h
theorem frst_le_trans : ∀ {a b c : List Int}, a.length = b.length → b.length = c.length → frst b a = false → frst c b = false → frst c a = false
  | [], [], [], _, _, _, _ => rfl
  | u :: a, v :: b, w :: c, h1, h2, h3, h4 => by
    simp only [frst] at h3 h4 ⊢
    by_cases e1 : v = u
    · subst e1
      simp only [if_true] at h3
      by_cases e2 : w = v
      · subst e2
        simp only [if_true] at h4 ⊢
        exact frst_le_trans (by simpa using h1) (by simpa using h2) h3 h4
      · rw [if_neg e2] at h4 ⊢
        exact h4
    · rw [if_neg e1] at h3
      have h3 := of_decide_eq_false h3
      by_cases e2 : w = v
      · subst e2
        rw [if_neg e1]; exact decide_eq_false h3
      · rw [if_neg e2] at h4
        have h4 := of_decide_eq_false h4
        rw [if_neg (by omega)]
        exact decide_eq_false (by omega)
  | [], [], w :: c, _, h, _, _ => by simp at h
  | [], v :: b, _, h, _, _, _ => by simp at h
  | u :: a, [], _, h, _, _, _ => by simp at h
  | u :: a, v :: b, [], _, h, _, _ => by simp at h
def wI (w : List Nat) : List Int := w.map fun (n : Nat) => (n : Int)
theorem wI_len {w : List Nat} : (wI w).length = w.length := by simp [wI]
theorem wI_snoc {w : List Nat} {s : Nat} : wI (w ++ [s]) = wI w ++ [(s : Int)] := by simp [wI]
theorem wI_inj {w v : List Nat} (h : wI w = wI v) : w = v := by
  unfold wI at h
  exact (List.map_inj_right (fun a b e => Int.ofNat_inj.1 e)).1 h
def IsBest (S : List (List Int)) (n : Nat) (r x : List Int) (l : List Nat) : Prop := Wd S r x l ∧ l.length = n ∧ ∀ m, Wd S r x m → m.length = n → frst (wI m) (wI l) = false
theorem IsBest.uniq {S : List (List Int)} {n : Nat} {r x : List Int} {l m : List Nat} (h1 : IsBest S n r x l) (h2 : IsBest S n r x m) : l = m := by
  obtain ⟨a1, a2, a3⟩ := h1
  obtain ⟨b1, b2, b3⟩ := h2
  refine Classical.byContradiction fun hn => ?_
  have := frst_total (a := wI m) (b := wI l) (by rw [wI_len, wI_len]; omega) (fun e => hn (wI_inj e).symm) (a3 m b1 b2)
  rw [b3 l a1 a2] at this
  cases this
def wordsL (S : List (List Int)) : Nat → List Int → List Int → List (List Nat)
  | 0, r, x => if r = x then [[]] else []
  | n + 1, r, x => (List.range S.length).flatMap fun s => (wordsL S n (aft (S.getD s []) r) x).map fun l => s :: l
theorem mem_wordsL {S : List (List Int)} : ∀ {n : Nat} {r x : List Int} {l : List Nat}, l ∈ wordsL S n r x ↔ Wd S r x l ∧ l.length = n
  | 0, r, x, l => by
    simp only [wordsL]
    split
    · rename_i h
      subst h
      simp only [List.mem_singleton]
      constructor
      · rintro rfl; exact ⟨.nil, rfl⟩
      · rintro ⟨_, h⟩; exact List.length_eq_zero_iff.1 h
    · rename_i h
      simp only [List.not_mem_nil, false_iff]
      rintro ⟨h1, h2⟩
      rw [List.length_eq_zero_iff] at h2
      subst h2
      exact h h1.2
  | n + 1, r, x, l => by
    simp only [wordsL, List.mem_flatMap, List.mem_range, List.mem_map]
    constructor
    · rintro ⟨s, hs, m, hm, rfl⟩
      obtain ⟨h1, h2⟩ := mem_wordsL.1 hm
      exact ⟨Wd.cons.2 ⟨hs, h1⟩, by simp [h2]⟩
    · rintro ⟨h1, h2⟩
      match l, h2 with
      | s :: l, h2 =>
        obtain ⟨hs, h3⟩ := Wd.cons.1 h1
        exact ⟨s, hs, l, mem_wordsL.2 ⟨h3, by simpa using h2⟩, rfl⟩
theorem wordsL_nodup {S : List (List Int)} : ∀ {n : Nat} {r x : List Int}, (wordsL S n r x).Nodup
  | 0, r, x => by simp only [wordsL]; split <;> simp
  | n + 1, r, x => by
    simp only [wordsL]
    rw [List.Nodup, List.pairwise_flatMap]
    refine ⟨fun s _ => ?_, ?_⟩
    · rw [List.pairwise_map]
      exact List.Pairwise.imp (fun h e => h (List.cons.inj e).2) wordsL_nodup
    · refine List.Pairwise.imp (fun {a b} h x hx y hy e => h ?_) List.nodup_range
      obtain ⟨k, _, rfl⟩ := List.mem_map.1 hx
      obtain ⟨j, _, rfl⟩ := List.mem_map.1 hy
      exact (List.cons.inj e).1
theorem sumL_map {α : Type} {f : α → Nat} : ∀ {l : List α}, sumL f l = (l.map f).sum
  | [] => rfl
  | x :: l => by simp [sumL, sumL_map (l := l)]
theorem map_range_getD {S : List (List Int)} {β : Type} {f : List Int → β} : (List.range S.length).map (fun s => f (S.getD s [])) = S.map f := by
  refine List.ext_getElem (by simp) fun i h1 h2 => ?_
  simp only [List.getElem_map, List.getElem_range]
  rw [List.getD_eq_getElem?_getD, List.getElem?_eq_getElem (by simpa using h2)]; rfl
theorem wordsL_len {S : List (List Int)} : ∀ {n : Nat} {r x : List Int}, (wordsL S n r x).length = cntW S n r x
  | 0, r, x => by simp only [wordsL, cntW]; split <;> rfl
  | n + 1, r, x => by
    simp only [wordsL, cntW]
    rw [List.length_flatMap, sumL_map]
    simp only [List.length_map, wordsL_len]
    rw [map_range_getD (f := fun s => cntW S n (aft s r) x)]
theorem cnt_of {S : List (List Int)} {n : Nat} {r x : List Int} {G : List (List Nat)} (hn : G.Nodup) (hm : ∀ w, w ∈ G ↔ Wd S r x w ∧ w.length = n) : G.length = cntW S n r x := by
  rw [← wordsL_len]
  refine List.Perm.length_eq ((List.perm_ext_iff_of_nodup hn wordsL_nodup).2 fun w => ?_)
  rw [hm, mem_wordsL]
abbrev mostN : Nat := 1099511627777
def Lk (S : List (List Int)) (r : List Int) (R : List (List Int)) (i s : Nat) (w : List Nat) : Prop :=
  w = [] ∨ ∃ w' s' i', w = w' ++ [s'] ∧ i' < R.length ∧ R.getD i' [] = allS S w' r ∧ (i' < i ∨ (i' = i ∧ s' < s))
structure Bfs (S : List (List Int)) (r : List Int) (i s : Nat) (R : List (List Int)) (F M : List Nat) (L : List (List Nat)) (G : List (List (List Nat))) : Prop where
  lF : F.length = R.length
  lM : M.length = R.length
  lL : L.length = R.length
  lG : G.length = R.length
  nd : R.Nodup
  hd : 0 < R.length ∧ R.getD 0 [] = r
  ile : i ≤ R.length
  dist : ∀ k, k < R.length → Dist S r (R.getD k []) (F.getD k 0)
  mono : ∀ k k', k ≤ k' → k' < R.length → F.getD k 0 ≤ F.getD k' 0
  next : i < R.length → ∀ k, k < R.length → F.getD k 0 ≤ F.getD i 0 + 1
  done : ∀ i' s', i' < R.length → s' < S.length → (i' < i ∨ (i' = i ∧ s' < s)) → aft (S.getD s' []) (R.getD i' []) ∈ R
  gnd : ∀ k, k < R.length → (G.getD k []).Nodup
  gmem : ∀ k, k < R.length → ∀ w, w ∈ G.getD k [] ↔ Wd S r (R.getD k []) w ∧ w.length = F.getD k 0 ∧ Lk S r R i s w
  m : ∀ k, k < R.length → M.getD k 0 = min mostN (G.getD k []).length
  l : ∀ k, k < R.length → L.getD k [] ∈ G.getD k [] ∧ ∀ w ∈ G.getD k [], frst (wI w) (wI (L.getD k [])) = false
theorem getD_mem {α : Type} {l : List α} {k : Nat} {d : α} (h : k < l.length) : l.getD k d ∈ l := by
  rw [List.getD_eq_getElem?_getD, List.getElem?_eq_getElem h]; exact List.getElem_mem h
theorem mem_getD {α : Type} {l : List α} {x d : α} (h : x ∈ l) : ∃ k, k < l.length ∧ l.getD k d = x := by
  obtain ⟨k, hk, e⟩ := List.getElem_of_mem h
  exact ⟨k, hk, by rw [List.getD_eq_getElem?_getD, List.getElem?_eq_getElem hk]; exact e⟩
theorem getD_inj {α : Type} {l : List α} {d : α} (hn : l.Nodup) {i j : Nat} (hi : i < l.length) (hj : j < l.length) (e : l.getD i d = l.getD j d) : i = j := by
  rw [List.getD_eq_getElem?_getD, List.getD_eq_getElem?_getD, List.getElem?_eq_getElem hi, List.getElem?_eq_getElem hj] at e
  refine (List.getElem?_inj hi hn).1 ?_
  rw [List.getElem?_eq_getElem hi, List.getElem?_eq_getElem hj]
  exact congrArg some e
theorem getD_app {α : Type} {l : List α} {x d : α} {k : Nat} : (l ++ [x]).getD k d = if k < l.length then l.getD k d else if k = l.length then x else d := by
  rw [List.getD_eq_getElem?_getD, List.getD_eq_getElem?_getD]
  by_cases h : k < l.length
  · rw [if_pos h, List.getElem?_append_left h]
  · rw [if_neg h, List.getElem?_append_right (by omega)]
    by_cases e : k = l.length
    · rw [if_pos e, e]; simp
    · rw [if_neg e, List.getElem?_eq_none (by simp; omega)]; rfl
theorem getD_set {α : Type} {l : List α} {v d : α} {j k : Nat} (h : j < l.length) : (l.set j v).getD k d = if k = j then v else l.getD k d := by
  rw [List.getD_eq_getElem?_getD, List.getD_eq_getElem?_getD, List.getElem?_set]
  by_cases e : j = k
  · subst e; simp [h]
  · rw [if_neg e, if_neg (Ne.symm e)]
section
variable {S : List (List Int)} {r : List Int} {i s : Nat} {R : List (List Int)} {F M : List Nat} {L : List (List Nat)} {G : List (List (List Nat))}
theorem Bfs.before (h : Bfs S r i s R F M L G) {j k : Nat} (hj : j < R.length) (hk : k < R.length) (e : F.getD j 0 < F.getD k 0) : j < k := by
  rcases Nat.lt_or_ge j k with h1 | h1
  · exact h1
  · have := h.mono k j h1 hj; omega
theorem Bfs.compl (h : Bfs S r i s R F M L G) (hi : i < R.length) : ∀ m x, Dist S r x m → m ≤ F.getD i 0 → x ∈ R
  | 0, x, hd, _ => by
    have := Dist.zero_iff.1 hd
    subst this
    have := getD_mem (d := []) h.hd.1
    rw [h.hd.2] at this
    exact this
  | m + 1, x, hd, hm => by
    obtain ⟨y, t, ht, hy, e⟩ := hd.predR
    have := h.compl hi m y hy (by omega)
    obtain ⟨j, hj, ej⟩ := mem_getD (d := []) this
    have e2 := (h.dist j hj).uniq (by rw [ej]; exact hy)
    have := h.before hj hi (by omega)
    have := h.done j t hj ht (.inl this)
    rw [ej, e] at this
    exact this
theorem Bfs.allPr (h : Bfs S r i s R F M L G) (hi : i < R.length) {w : List Nat} (hw : Wd S r (R.getD i []) w) (hl : w.length = F.getD i 0) : Lk S r R i s w := by
  rcases List.eq_nil_or_concat w with rfl | ⟨w', t, rfl⟩
  · exact .inl rfl
  · rw [List.concat_eq_append] at hw hl ⊢
    rw [List.length_append, List.length_singleton] at hl
    obtain ⟨a1, a2⟩ := hw.split
    obtain ⟨n, hn, hle⟩ := Dist.of a1
    obtain ⟨b1, b2⟩ := Wd.cons.1 a2
    obtain ⟨k, hk, hkle⟩ := Dist.stepR b1 hn
    have e : aft (S.getD t []) (allS S w' r) = R.getD i [] := b2.2
    rw [e] at hk
    have := hk.uniq (h.dist i hi)
    have hin := h.compl hi n _ hn (by omega)
    obtain ⟨j, hj, ej⟩ := mem_getD (d := []) hin
    have e2 := (h.dist j hj).uniq (by rw [ej]; exact hn)
    exact .inr ⟨w', t, j, rfl, hj, ej, .inl (h.before hj hi (by omega))⟩
theorem Bfs.gi (h : Bfs S r i s R F M L G) (hi : i < R.length) (w : List Nat) : w ∈ G.getD i [] ↔ Wd S r (R.getD i []) w ∧ w.length = F.getD i 0 := by
  rw [h.gmem i hi]
  exact ⟨fun h => ⟨h.1, h.2.1⟩, fun k => ⟨k.1, k.2, h.allPr hi k.1 k.2⟩⟩
theorem last_of {w' : List Nat} {t : Nat} {x : List Int} (h : Wd S r x (w' ++ [t])) : t < S.length ∧ Wd S r (allS S w' r) w' ∧ aft (S.getD t []) (allS S w' r) = x := by
  obtain ⟨a1, a2⟩ := h.split
  obtain ⟨b1, b2⟩ := Wd.cons.1 a2
  exact ⟨b1, a1, b2.2⟩
theorem snoc_inj {w v : List Nat} {s t : Nat} (h : w ++ [s] = v ++ [t]) : w = v ∧ s = t := by
  have := List.append_inj' h rfl
  exact ⟨this.1, by simpa using this.2⟩
theorem map_snoc_nodup {A : List (List Nat)} (h : A.Nodup) (s : Nat) : (A.map fun w => w ++ [s]).Nodup := by
  rw [List.Nodup, List.pairwise_map]
  exact List.Pairwise.imp (fun hne e => hne (snoc_inj e).1) h
theorem best_snoc {A : List (List Nat)} {l : List Nat} {n : Nat} (hA : ∀ w ∈ A, w.length = n) (hl : l ∈ A) (h : ∀ w ∈ A, frst (wI w) (wI l) = false) (s : Nat) : ∀ w ∈ A.map (fun w => w ++ [s]), frst (wI w) (wI (l ++ [s])) = false := fun w hw => by
  obtain ⟨v, hv, rfl⟩ := List.mem_map.1 hw
  rw [wI_snoc, wI_snoc, frst_snoc (by rw [wI_len, wI_len, hA v hv, hA l hl]), h v hv]
  simp
theorem Bfs.push (h : Bfs S r i s R F M L G) (hi : i < R.length) (hs : s < S.length) (hn : aft (S.getD s []) (R.getD i []) ∉ R) :
    Bfs S r i (s + 1) (R ++ [aft (S.getD s []) (R.getD i [])]) (F ++ [F.getD i 0 + 1]) (M ++ [M.getD i 0]) (L ++ [L.getD i [] ++ [s]]) (G ++ [(G.getD i []).map fun w => w ++ [s]]) := by
  have old : ∀ {i' : Nat}, i' < R.length → (R ++ [aft (S.getD s []) (R.getD i [])]).getD i' [] = R.getD i' [] := fun hj => by rw [getD_app, if_pos hj]
  have dn : Dist S r (aft (S.getD s []) (R.getD i [])) (F.getD i 0 + 1) := by
    obtain ⟨m, hm, hle⟩ := Dist.stepR hs (h.dist i hi)
    rcases Nat.lt_or_ge m (F.getD i 0 + 1) with h1 | h1
    · exact absurd (h.compl hi m _ hm (by omega)) hn
    · have : m = F.getD i 0 + 1 := by omega
      rw [← this]; exact hm
  have prOld : ∀ w, (∃ k, k < R.length ∧ Wd S r (R.getD k []) w) → (Lk S r (R ++ [aft (S.getD s []) (R.getD i [])]) i (s + 1) w ↔ Lk S r R i s w) := fun w ⟨k, hk, hw⟩ => by
    constructor
    · rintro (rfl | ⟨w', t, j, rfl, hj, ej, hlt⟩)
      · exact .inl rfl
      · have hj' : j < R.length := by omega
        rw [old hj'] at ej
        refine .inr ⟨w', t, j, rfl, hj', ej, ?_⟩
        obtain ⟨b1, b2, b3⟩ := last_of hw
        by_cases e : j = i ∧ t = s
        · obtain ⟨rfl, rfl⟩ := e
          rw [← ej] at b3
          exact absurd (by rw [b3]; exact getD_mem hk) hn
        · omega
    · rintro (rfl | ⟨w', t, j, rfl, hj, ej, hlt⟩)
      · exact .inl rfl
      · exact .inr ⟨w', t, j, rfl, by simp; omega, by rw [old hj]; exact ej, by omega⟩
  refine ⟨by simp [h.lF], by simp [h.lM], by simp [h.lL], by simp [h.lG], ?_, ⟨by simp, by rw [old h.hd.1]; exact h.hd.2⟩, by simp; omega, fun k hk => ?_, fun k k' hkk hk' => ?_, fun _ k hk => ?_, fun i' s' hi' hs' hlt => ?_, fun k hk => ?_, fun k hk w => ?_, fun k hk => ?_, fun k hk => ?_⟩
  · rw [List.nodup_append]
    exact ⟨h.nd, by simp, fun x hx y hy e => by rw [List.mem_singleton] at hy; subst hy; subst e; exact hn hx⟩
  · rw [getD_app, getD_app, h.lF]
    by_cases e : k < R.length
    · rw [if_pos e, if_pos e]; exact h.dist k e
    · have : k = R.length := by simp at hk; omega
      rw [if_neg e, if_neg e, if_pos this, if_pos this]; exact dn
  · rw [getD_app, getD_app, h.lF]
    simp only [List.length_append, List.length_singleton] at hk'
    by_cases e' : k' < R.length
    · rw [if_pos (by omega), if_pos e']; exact h.mono k k' hkk e'
    · rw [if_neg e', if_pos (by omega : k' = R.length)]
      by_cases e : k < R.length
      · rw [if_pos e]; exact h.next hi k e
      · rw [if_neg e, if_pos (by omega)]; omega
  · rw [getD_app, getD_app, h.lF, if_pos hi]
    simp only [List.length_append, List.length_singleton] at hk
    by_cases e : k < R.length
    · rw [if_pos e]; exact h.next hi k e
    · rw [if_neg e, if_pos (by omega)]; omega
  · have hi2 : i' < R.length := by omega
    rw [old hi2]
    by_cases e : i' = i ∧ s' = s
    · obtain ⟨rfl, rfl⟩ := e; simp
    · exact List.mem_append_left _ (h.done i' s' hi2 hs' (by omega))
  · rw [getD_app, h.lG]
    by_cases e : k < R.length
    · rw [if_pos e]; exact h.gnd k e
    · rw [if_neg e, if_pos (by simp at hk; omega)]; exact map_snoc_nodup (h.gnd i hi) s
  · rw [getD_app, getD_app, getD_app, h.lG, h.lF]
    by_cases e : k < R.length
    · rw [if_pos e, if_pos e, if_pos e, h.gmem k e]
      constructor
      · rintro ⟨a, b, c⟩; exact ⟨a, b, (prOld w ⟨k, e, a⟩).2 c⟩
      · rintro ⟨a, b, c⟩; exact ⟨a, b, (prOld w ⟨k, e, a⟩).1 c⟩
    · have ek : k = R.length := by simp at hk; omega
      rw [if_neg e, if_neg e, if_neg e, if_pos ek, if_pos ek, if_pos ek, List.mem_map]
      constructor
      · rintro ⟨v, hv, rfl⟩
        obtain ⟨a1, a2⟩ := (h.gi hi v).1 hv
        refine ⟨a1.append (Wd.cons.2 ⟨hs, .nil⟩), by simp [a2], .inr ⟨v, s, i, rfl, by simp; omega, by rw [old hi]; exact a1.2.symm, by omega⟩⟩
      · rintro ⟨a, b, c⟩
        rcases c with rfl | ⟨w', t, j, rfl, hj, ej, hlt⟩
        · simp at b
        · have hj' : j < R.length := by omega
          rw [old hj'] at ej
          obtain ⟨b1, b2, b3⟩ := last_of a
          by_cases e2 : j = i ∧ t = s
          · obtain ⟨rfl, rfl⟩ := e2
            refine ⟨w', (h.gi hi w').2 ⟨by rw [ej]; exact b2, by simpa using b⟩, rfl⟩
          · rw [← ej] at b3
            exact absurd (by rw [← b3]; exact h.done j t hj' b1 (by omega)) hn
  · rw [getD_app, getD_app, h.lM, h.lG]
    by_cases e : k < R.length
    · rw [if_pos e, if_pos e]; exact h.m k e
    · have ek : k = R.length := by simp at hk; omega
      rw [if_neg e, if_neg e, if_pos ek, if_pos ek, List.length_map]; exact h.m i hi
  · rw [getD_app, getD_app, h.lL, h.lG]
    by_cases e : k < R.length
    · rw [if_pos e, if_pos e]; exact h.l k e
    · have ek : k = R.length := by simp at hk; omega
      rw [if_neg e, if_neg e, if_pos ek, if_pos ek]
      obtain ⟨l1, l2⟩ := h.l i hi
      exact ⟨List.mem_map.2 ⟨_, l1, rfl⟩, best_snoc (fun w hw => ((h.gi hi w).1 hw).2) l1 l2 s⟩
theorem Bfs.skip (h : Bfs S r i s R F M L G) (hi : i < R.length) (hs : s < S.length) {k : Nat} (hk : k < R.length) (e : R.getD k [] = aft (S.getD s []) (R.getD i [])) (hf : F.getD k 0 ≠ F.getD i 0 + 1) : Bfs S r i (s + 1) R F M L G := by
  refine { h with done := fun i' s' hi' hs' hlt => ?_, gmem := fun j hj w => ?_ }
  · by_cases e2 : i' = i ∧ s' = s
    · obtain ⟨rfl, rfl⟩ := e2; rw [← e]; exact getD_mem hk
    · exact h.done i' s' hi' hs' (by omega)
  · rw [h.gmem j hj]
    constructor
    · rintro ⟨a, b, c⟩
      refine ⟨a, b, c.imp id ?_⟩
      rintro ⟨w', t, i', e1, e2, e3, e4⟩
      exact ⟨w', t, i', e1, e2, e3, by omega⟩
    · rintro ⟨a, b, c⟩
      refine ⟨a, b, ?_⟩
      rcases c with rfl | ⟨w', t, i', rfl, e2, e3, e4⟩
      · exact .inl rfl
      · refine .inr ⟨w', t, i', rfl, e2, e3, ?_⟩
        by_cases e5 : i' = i ∧ t = s
        · obtain ⟨rfl, rfl⟩ := e5
          obtain ⟨b1, b2, b3⟩ := last_of a
          rw [← e3, ← e] at b3
          have ejk := getD_inj h.nd hk hj b3
          subst ejk
          rw [List.length_append, List.length_singleton] at b
          rw [← e3] at b2
          have := (h.dist i' hi).2 w' b2
          have := h.next hi k hk
          omega
        · omega
theorem Bfs.put (h : Bfs S r i s R F M L G) (hi : i < R.length) (hs : s < S.length) {k : Nat} (hk : k < R.length) (e : R.getD k [] = aft (S.getD s []) (R.getD i [])) (hf : F.getD k 0 = F.getD i 0 + 1) :
    Bfs S r i (s + 1) R F (M.set k (min mostN (M.getD k 0 + M.getD i 0))) (if frst (wI (L.getD i [] ++ [s])) (wI (L.getD k [])) = true then L.set k (L.getD i [] ++ [s]) else L) (G.set k (G.getD k [] ++ (G.getD i []).map fun w => w ++ [s])) := by
  have kG : k < G.length := by rw [h.lG]; exact hk
  have kM : k < M.length := by rw [h.lM]; exact hk
  have kL : k < L.length := by rw [h.lL]; exact hk
  have mem : ∀ j, j < R.length → ∀ w, w ∈ (G.set k (G.getD k [] ++ (G.getD i []).map fun w => w ++ [s])).getD j [] ↔ Wd S r (R.getD j []) w ∧ w.length = F.getD j 0 ∧ Lk S r R i (s + 1) w := fun j hj w => by
    rw [getD_set kG]
    constructor
    · intro hw
      have keep : w ∈ G.getD j [] → Wd S r (R.getD j []) w ∧ w.length = F.getD j 0 ∧ Lk S r R i (s + 1) w := fun hw => by
        obtain ⟨a, b, c⟩ := (h.gmem j hj w).1 hw
        refine ⟨a, b, c.imp id ?_⟩
        rintro ⟨w', t, i', e1, e2, e3, e4⟩
        exact ⟨w', t, i', e1, e2, e3, by omega⟩
      split at hw
      · rename_i ej
        subst ej
        rcases List.mem_append.1 hw with hw | hw
        · exact keep hw
        · obtain ⟨v, hv, rfl⟩ := List.mem_map.1 hw
          obtain ⟨a1, a2⟩ := (h.gi hi v).1 hv
          refine ⟨?_, by rw [List.length_append, List.length_singleton, a2, hf], .inr ⟨v, s, i, rfl, hi, a1.2.symm, by omega⟩⟩
          have := a1.append (Wd.cons.2 ⟨hs, .nil⟩)
          rw [← e] at this
          exact this
      · exact keep hw
    · rintro ⟨a, b, c⟩
      have old : Lk S r R i s w → w ∈ if j = k then G.getD k [] ++ (G.getD i []).map (fun w => w ++ [s]) else G.getD j [] := fun hp => by
        have := (h.gmem j hj w).2 ⟨a, b, hp⟩
        split
        · rename_i ej; subst ej; exact List.mem_append_left _ this
        · exact this
      rcases c with rfl | ⟨w', t, i', rfl, e2, e3, e4⟩
      · exact old (.inl rfl)
      · by_cases e5 : i' = i ∧ t = s
        · obtain ⟨rfl, rfl⟩ := e5
          obtain ⟨b1, b2, b3⟩ := last_of a
          rw [← e3, ← e] at b3
          have ejk := getD_inj h.nd hk hj b3
          subst ejk
          rw [if_pos rfl]
          refine List.mem_append_right _ (List.mem_map.2 ⟨w', (h.gi hi w').2 ⟨by rw [e3]; exact b2, ?_⟩, rfl⟩)
          rw [List.length_append, List.length_singleton] at b
          omega
        · exact old (.inr ⟨w', t, i', rfl, e2, e3, by omega⟩)
  have len1 : ∀ w ∈ G.getD k [], w.length = F.getD k 0 := fun w hw => ((h.gmem k hk w).1 hw).2.1
  have len2 : ∀ w ∈ (G.getD i []).map (fun w => w ++ [s]), w.length = F.getD k 0 := fun w hw => by
    obtain ⟨v, hv, rfl⟩ := List.mem_map.1 hw
    rw [List.length_append, List.length_singleton, ((h.gi hi v).1 hv).2, hf]
  obtain ⟨k1, k2⟩ := h.l k hk
  obtain ⟨i1, i2⟩ := h.l i hi
  have bs := best_snoc (fun w hw => ((h.gi hi w).1 hw).2) i1 i2 s
  have ims : (L.getD i [] ++ [s]) ∈ (G.getD i []).map (fun w => w ++ [s]) := List.mem_map.2 ⟨_, i1, rfl⟩
  refine ⟨h.lF, by simp [h.lM], by split <;> simp [h.lL], by simp [h.lG], h.nd, h.hd, h.ile, h.dist, h.mono, h.next, fun i' s' hi' hs' hlt => ?_, fun j hj => ?_, mem, fun j hj => ?_, fun j hj => ?_⟩
  · by_cases e2 : i' = i ∧ s' = s
    · obtain ⟨rfl, rfl⟩ := e2; rw [← e]; exact getD_mem hk
    · exact h.done i' s' hi' hs' (by omega)
  · rw [getD_set kG]
    split
    · rw [List.nodup_append]
      refine ⟨h.gnd k hk, map_snoc_nodup (h.gnd i hi) s, fun x hx y hy exy => ?_⟩
      subst exy
      obtain ⟨v, hv, rfl⟩ := List.mem_map.1 hy
      obtain ⟨_, _, c⟩ := (h.gmem k hk _).1 hx
      obtain ⟨a1, _⟩ := (h.gi hi v).1 hv
      rcases c with c | ⟨w', t, i', e1, e2, e3, e4⟩
      · simp at c
      · obtain ⟨rfl, rfl⟩ := snoc_inj e1
        have : i' = i := getD_inj h.nd e2 hi (by rw [e3]; exact a1.2)
        omega
    · exact h.gnd j hj
  · rw [getD_set kM, getD_set kG]
    split
    · rw [h.m k hk, h.m i hi, List.length_append, List.length_map]; omega
    · exact h.m j hj
  · rw [getD_set kG]
    by_cases ej : j = k
    · subst ej
      rw [if_pos rfl]
      split
      · rename_i hfr
        rw [getD_set kL, if_pos rfl]
        refine ⟨List.mem_append_right _ ims, fun w hw => ?_⟩
        rcases List.mem_append.1 hw with hw | hw
        · exact frst_le_trans (by rw [wI_len, wI_len, len2 _ ims, len1 _ k1]) (by rw [wI_len, wI_len, len1 _ k1, len1 _ hw]) (frst_asymm hfr) (k2 w hw)
        · exact bs w hw
      · rename_i hfr
        refine ⟨List.mem_append_left _ k1, fun w hw => ?_⟩
        rcases List.mem_append.1 hw with hw | hw
        · exact k2 w hw
        · exact frst_le_trans (by rw [wI_len, wI_len, len1 _ k1, len2 _ ims]) (by rw [wI_len, wI_len, len2 _ ims, len2 _ hw]) (by simpa using hfr) (bs w hw)
    · rw [if_neg ej]
      split
      · rw [getD_set kL, if_neg ej]; exact h.l j hj
      · exact h.l j hj
theorem Bfs.row (h : Bfs S r i S.length R F M L G) (hi : i < R.length) : Bfs S r (i + 1) 0 R F M L G := by
  refine { h with ile := hi, next := fun hi2 k hk => ?_, done := fun i' s' hi' hs' hlt => h.done i' s' hi' hs' (by omega), gmem := fun k hk w => ?_ }
  · have := h.next hi k hk
    have := h.mono i (i + 1) (by omega) hi2
    omega
  · rw [h.gmem k hk]
    constructor
    · rintro ⟨a, b, c⟩
      refine ⟨a, b, c.imp id ?_⟩
      rintro ⟨w', t, i', e1, e2, e3, e4⟩
      exact ⟨w', t, i', e1, e2, e3, by omega⟩
    · rintro ⟨a, b, c⟩
      refine ⟨a, b, ?_⟩
      rcases c with rfl | ⟨w', t, i', rfl, e2, e3, e4⟩
      · exact .inl rfl
      · have := (last_of a).1
        exact .inr ⟨w', t, i', rfl, e2, e3, by omega⟩
theorem Bfs.init : Bfs S r 0 0 [r] [0] [1] [[]] [[[]]] := by
  have k0 : ∀ {k : Nat}, k < [r].length → k = 0 := fun h => by simpa using h
  refine ⟨rfl, rfl, rfl, rfl, by simp, ⟨by simp, rfl⟩, by simp, fun k hk => ?_, fun k k' h1 h2 => ?_, fun _ k hk => ?_, fun i' s' h1 h2 h3 => by omega, fun k hk => ?_, fun k hk w => ?_, fun k hk => ?_, fun k hk => ?_⟩ <;> (first | (have := k0 hk; subst this) | skip)
  · exact .zero
  · have := k0 h2; subst this
    have : k = 0 := by omega
    subst this; exact Nat.le_refl _
  · simp
  · simp
  · constructor
    · intro hw
      have : w = [] := by simpa using hw
      subst this
      exact ⟨.nil, rfl, .inl rfl⟩
    · rintro ⟨_, b, _⟩
      have : w = [] := List.length_eq_zero_iff.1 b
      subst this; simp
  · rfl
  · exact ⟨by simp, fun w hw => by
      have : w = [] := by simpa using hw
      subst this; exact frst_self _⟩
structure FinR (S : List (List Int)) (r : List Int) (R : List (List Int)) (F M : List Nat) (L : List (List Nat)) : Prop where
  lF : F.length = R.length
  lM : M.length = R.length
  lL : L.length = R.length
  nd : R.Nodup
  pos : 0 < R.length
  dist : ∀ k, k < R.length → Dist S r (R.getD k []) (F.getD k 0)
  all : ∀ x w, Wd S r x w → x ∈ R
  m : ∀ k, k < R.length → M.getD k 0 = min mostN (cntW S (F.getD k 0) r (R.getD k []))
  l : ∀ k, k < R.length → IsBest S (F.getD k 0) r (R.getD k []) (L.getD k [])
theorem closed_all {R : List (List Int)} (hR : ∀ x ∈ R, ∀ s, s < S.length → aft (S.getD s []) x ∈ R) : ∀ {w : List Nat} {y x : List Int}, y ∈ R → Wd S y x w → x ∈ R
  | [], y, x, hy, hw => by
    have : y = x := hw.2
    subst this; exact hy
  | s :: w, y, x, hy, hw => by
    obtain ⟨hs, hw⟩ := Wd.cons.1 hw
    exact closed_all hR (hR y hy s hs) hw
theorem Bfs.fin (h : Bfs S r R.length 0 R F M L G) : FinR S r R F M L := by
  have all : ∀ x w, Wd S r x w → x ∈ R := fun x w hw => by
    refine closed_all (fun y hy s hs => ?_) ?_ hw
    · obtain ⟨j, hj, rfl⟩ := mem_getD (d := []) hy
      exact h.done j s hj hs (.inl hj)
    · have := getD_mem (d := []) h.hd.1
      rw [h.hd.2] at this
      exact this
  have gm : ∀ k, k < R.length → ∀ w, w ∈ G.getD k [] ↔ Wd S r (R.getD k []) w ∧ w.length = F.getD k 0 := fun k hk w => by
    rw [h.gmem k hk]
    refine ⟨fun h => ⟨h.1, h.2.1⟩, fun ⟨a, b⟩ => ⟨a, b, ?_⟩⟩
    rcases List.eq_nil_or_concat w with rfl | ⟨w', t, rfl⟩
    · exact .inl rfl
    · rw [List.concat_eq_append] at a ⊢
      obtain ⟨b1, b2, b3⟩ := last_of a
      obtain ⟨j, hj, ej⟩ := mem_getD (d := []) (all _ _ b2)
      exact .inr ⟨w', t, j, rfl, hj, ej, .inl hj⟩
  refine ⟨h.lF, h.lM, h.lL, h.nd, h.hd.1, h.dist, all, fun k hk => ?_, fun k hk => ?_⟩
  · rw [h.m k hk, cnt_of (h.gnd k hk) (gm k hk)]
  · obtain ⟨l1, l2⟩ := h.l k hk
    obtain ⟨a, b⟩ := (gm k hk _).1 l1
    exact ⟨a, b, fun m hm hl => l2 m ((gm k hk m).2 ⟨hm, hl⟩)⟩
end
end Go.AM

set_option linter.unusedSimpArgs false
set_option linter.unusedVariables false
namespace Go.AM
open Go.RowKit
def AccG (hp : List HObj) (x : AV) (sz n : Nat) (cs : List AV) : Prop :=
  (x = .sl true 0 [] ∧ n = 0 ∧ cs = []) ∨ ∃ id, x = .ms id 0 n sz ∧ 0 < n ∧ nthH hp id = some (.cells cs) ∧ cs.length = n * sz ∧ (cs.all AV.isPC) = true
theorem AccG.nil {hp sz} : AccG hp (.sl true 0 []) sz 0 [] := .inl ⟨rfl, rfl, rfl⟩
theorem AccG.mono {hp H x sz n cs} (h : AccG hp x sz n cs) (hk : ∀ i, rid x = some i → nthH H i = nthH hp i) : AccG H x sz n cs := by
  rcases h with h | ⟨id, rfl, h1, h2, h3⟩
  · exact .inl h
  · exact .inr ⟨id, rfl, h1, (hk id rfl).trans h2, h3⟩
theorem AccG.lt {hp x sz n cs i} (h : AccG hp x sz n cs) (hi : rid x = some i) : i < hp.length := by
  rcases h with ⟨rfl, _⟩ | ⟨id, rfl, _, h2, _⟩
  · cases hi
  · cases hi; exact nthH_lt h2
theorem AccG.len {hp x sz n cs} (h : AccG hp x sz n cs) : cs.length = n * sz := by
  rcases h with ⟨_, rfl, rfl⟩ | ⟨id, _, _, _, h, _⟩
  · simp
  · exact h
theorem AccG.lenW {hp x sz n cs} {K : AV → List (Nat × HObj) → Prop} (h : AccG hp x sz n cs) : LenW x K = K (I n) [] := by
  rcases h with ⟨rfl, rfl, _⟩ | ⟨id, rfl, _⟩ <;> rfl
theorem AccG.pc {hp x sz n cs} (h : AccG hp x sz n cs) : (cs.all AV.isPC) = true := by
  rcases h with ⟨_, _, rfl⟩ | ⟨id, _, _, _, _, h⟩
  · rfl
  · exact h
theorem AccG.pur {hp x sz n cs} (h : AccG hp x sz n cs) : ∃ ids, purify (hpf hp) x = some (.sl (decide (n = 0)) n cs, ids) ∧ ∀ i ∈ ids, rid x = some i ∧ i < hp.length := by
  rcases h with ⟨rfl, rfl, rfl⟩ | ⟨id, rfl, h0, h2, h3, h4⟩
  · exact ⟨[], rfl, by simp⟩
  · refine ⟨[id], ?_, by simp [rid, nthH_lt h2]⟩
    simp only [purify, purify1, purify0, hpf_nthH, h2]
    rw [if_pos ⟨by omega, pcL_pure h4⟩, decide_eq_false (by omega)]
    simp only [view, List.drop_zero]
    rw [List.take_of_length_le (by omega)]
theorem AccG.out {hp x sz n cs} (h : AccG hp x sz n cs) : Out (.sl (decide (n = 0)) n cs) x hp := by
  obtain ⟨ids, h1, _⟩ := h.pur
  exact out_of h1
theorem app_accG {hp : List HObj} {x : AV} {sz bytes n : Nat} {cs ys : List AV} {g : Bool} {K : AV → List (Nat × HObj) → Prop} (h : AccG hp x sz n cs) (hn : n ≤ 100000000) (hb : bytes ≤ 1000) (hy : ys.length = sz) (hpc : (ys.all AV.isPC) = true)
    (hK : ∀ ws, (∀ i, i < hp.length → rid x ≠ some i → nthH (writeL hp ws) i = nthH hp i) → hp.length < (writeL hp ws).length → AccG (writeL hp ws) (.ms hp.length 0 (n + 1) sz) sz (n + 1) (cs ++ ys) → K (.ms hp.length 0 (n + 1) sz) ws) :
    AppW hp sz bytes x (.sl g 1 ys) K := by
  have bd : (n + 1) * bytes ≤ 140737488355328 := Nat.le_trans (Nat.mul_le_mul (show n + 1 ≤ 100000001 by omega) hb) (by decide)
  rcases h with ⟨rfl, rfl, rfl⟩ | ⟨id, rfl, h0, h2, h3, h4⟩
  · rw [app_sl]
    have hn : nthH (writeL hp [(hp.length, HObj.cells ([] ++ ys))]) hp.length = some (.cells ([] ++ ys)) := by
      rw [nthH_writeL (by simp)]; simp [Hp.write, Hp.set_same]
    refine ⟨⟨rfl, by omega, hpc, by simp, bd, by omega, .inl rfl⟩, hK _ (fun i hi _ => ?_) (nthH_lt hn) (.inr ⟨hp.length, rfl, by omega, hn, by simp [hy], by simpa using hpc⟩)⟩
    rw [nthH_writeL (by simp), nthH_eq]; simp only [Hp.write]; rw [Hp.set_other _ _ (by omega)]; rfl
  · have hlt := nthH_lt h2
    rw [app_ms, h2, appr_some]
    have hv : view cs 0 (n * sz) = cs := by simp only [view, List.drop_zero]; rw [List.take_of_length_le (by omega)]
    rw [hv]
    have hn : nthH (writeL hp [(id, HObj.gone), (hp.length, HObj.cells (cs ++ ys))]) hp.length = some (.cells (cs ++ ys)) := by
      rw [nthH_writeL (by simp; omega)]
      simp only [Hp.write, Hp.set_same]
    refine ⟨⟨by omega, hpc, rfl, by omega, bd, by omega⟩, hK _ (fun i hi hr => ?_) (nthH_lt hn) (.inr ⟨hp.length, rfl, by omega, hn, ?_, ?_⟩)⟩
    · rw [nthH_writeL (by simp; omega), nthH_eq]; simp only [Hp.write]
      rw [Hp.set_other _ _ (by omega), Hp.set_other _ _ (fun e => hr (by rw [e]; rfl))]; rfl
    · rw [List.length_append, h3, hy, Nat.add_mul, Nat.one_mul]
    · rw [List.all_append, h4, hpc]; rfl
theorem callW_frzC {P : Program} {f : FuncId} {xs : List AV} {hp : List HObj} {K : AV → List HObj → Prop} (h : CallW P f xs hp fun x H => ∃ id cs cs' is, nthH H id = some (.cells cs) ∧ purifyL (hpf H) cs = some (cs', is) ∧ id ∉ is ∧ K x (writeL H (gones is ++ [(id, .cells cs')]))) : CallW P f xs hp K := by
  intro ro n w g vs hok hvs hrep
  refine (h ro n w g vs hok hvs hrep).mono ?_
  rintro e w' ⟨v, x, H, g', rfl, ⟨id, cs, cs', is, h1, h2, hid, hK⟩, hx, hok', hu⟩
  have hids := purifyL_ids h2
  obtain ⟨q1, q2⟩ := freezeCell hok' (by rw [nthH_eq] at h1; exact h1) h2 hid hids (purifyL_rep hok' h2 fun i h => h)
  have lt : ∀ p ∈ gones is ++ [(id, HObj.cells cs')], p.1 ≤ H.length := fun p hp' => by
    rw [List.mem_append] at hp'
    rcases hp' with hp' | hp'
    · simp only [gones, List.mem_map] at hp'
      obtain ⟨i, hi, rfl⟩ := hp'
      obtain ⟨cs, hcs⟩ := hids i hi
      exact Nat.le_of_lt (hpf_lt hcs)
    · simp at hp'; subst hp'; exact Nat.le_of_lt (nthH_lt h1)
  have e : hpf (writeL H (gones is ++ [(id, .cells cs')])) = Hp.set (Hp.write (hpf H) (gones is)) id (.cells cs') := by
    rw [hpf_write lt, write_end]
  exact ⟨v, x, _, _, rfl, hK, hx.mono q2.tr, by rw [e]; exact q1, by rw [e]; exact hu.trans q2⟩
theorem nthH_gone {hp : List HObj} {ids : List Nat} {j : Nat} (h : ∀ i ∈ ids, i < hp.length) (hj : j ∉ ids) : nthH (writeL hp (gones ids)) j = nthH hp j := by
  have h1 : ∀ p ∈ gones ids, p.1 ≤ hp.length := fun p hp' => by
    simp only [gones, List.mem_map] at hp'
    obtain ⟨i, hi, rfl⟩ := hp'
    exact Nat.le_of_lt (h i hi)
  rw [nthH_writeL h1, write_gones, if_neg hj, nthH_eq]; rfl
theorem pure_of_w {P : Program} {f : FuncId} {xs : List AV} {r : AV} (wk : AV → AV) (hwk : ∀ {w g x v}, Rep w g true x v → Rep w g true (wk x) v) (h : CallW P f xs [] fun x hp => ∃ r', wk r' = r ∧ Out r' x hp) : PureOK P f xs r := by
  intro ro n w g vs hok hvs hrep
  have e0 : hpf [] = fun _ => none := by funext i; simp [hpf]
  refine (h ro n w g vs (by rw [e0]; exact hok) hvs (fun i hi => (hrep i hi).of)).mono ?_
  rintro e w' ⟨v, x, hp', g', rfl, ⟨r', rfl, is, hpur⟩, hx, hok', hu⟩
  rw [e0] at hu
  have q := purify_rep hok' (ids := is) hpur (fun i hi => hi) hx
  obtain ⟨k1, k2⟩ := hok'.giveAll is (purify_ids hpur)
  exact ⟨v, _, rfl, hwk q.bare, k1.bare, (hu.trans k2).bare hok⟩
def weak2 : AV → AV
  | .sl _ n cs => .sl false n (cs.map weak1)
  | x => x
theorem weak2_rep {w g p x v} (h : Rep w g p x v) : Rep w g p (weak2 x) v := by
  cases x with
  | sl f n cs =>
    cases h with
    | sl _ _ _ _ a cap vs hn hf hc hr =>
      exact .sl _ false n _ a cap vs hn (fun e => by cases e) (fun i hi => hc i (by simpa using hi)) (fun i hi => by
        have := hr i (by simpa using hi)
        simpa using weak1_rep this)
  | _ => exact h
def weak3 : AV → AV
  | .tup vs => .tup (vs.map weak2)
  | x => weak2 x
theorem weak3_rep {w g p x v} (h : Rep w g p x v) : Rep w g p (weak3 x) v := by
  cases x with
  | tup us =>
    cases h with
    | tup _ _ vs hl hr => exact .tup _ _ vs (by simp [hl]) (fun i hi => by simpa using weak2_rep (hr i (by simpa using hi)))
  | _ => exact weak2_rep h
theorem retC_agg {a sz : Nat} {fr : List (Nat × AV)} {hp : List HObj} {id off : Nat} {cs : List AV} {K : AV → List HObj → Prop} (h1 : get fr a = .ref id off) (h2 : nthH hp id = some (.cells cs)) (h3 : off + sz ≤ cs.length) (k : K (.agg (view cs off sz)) hp) :
    RetC [(a, some (true, sz))] K .ret ⟨fr, hp⟩ := by
  refine ⟨[.agg (view cs off sz)], ⟨?_, trivial⟩, k⟩
  simp only [semLd, h1, hpf_nthH, h2]
  exact ⟨trivial, h3, trivial⟩
theorem retC_agg_v {a sz c : Nat} {fr : List (Nat × AV)} {hp : List HObj} {id off : Nat} {cs : List AV} {K : AV → List HObj → Prop} (h1 : get fr a = .ref id off) (h2 : nthH hp id = some (.cells cs)) (h3 : off + sz ≤ cs.length) (k : K (.tup [.agg (view cs off sz), get fr c]) hp) :
    RetC [(a, some (true, sz)), (c, none)] K .ret ⟨fr, hp⟩ := by
  refine ⟨[.agg (view cs off sz), get fr c], ⟨?_, rfl, trivial⟩, k⟩
  simp only [semLd, h1, hpf_nthH, h2]
  exact ⟨trivial, h3, trivial⟩
theorem retC_one {a : Nat} {fr : List (Nat × AV)} {hp : List HObj} {id off : Nat} {cs : List AV} {x : AV} {K : AV → List HObj → Prop} (h1 : get fr a = .ref id off) (h2 : nthH hp id = some (.cells cs)) (h3 : cs[off]? = some x) (k : K x hp) :
    RetC [(a, some (false, 1))] K .ret ⟨fr, hp⟩ := by
  refine ⟨[x], ⟨?_, trivial⟩, k⟩
  simp only [semLd, h1, hpf_nthH, h2]
  exact ⟨trivial, x, h3, rfl⟩
end Go.AM

set_option linter.unusedSimpArgs false
set_option linter.unusedVariables false
namespace Go.AM
open Go.RowKit
theorem frst_trans {a b c : List Int} (h1 : a.length = b.length) (h2 : b.length = c.length) (h3 : frst a b = true) (h4 : frst b c = true) : frst a c = true := by
  have k := frst_le_trans (a := a) (b := b) (c := c) h1 h2 (frst_asymm h3) (frst_asymm h4)
  by_cases e : a = c
  · subst e
    have := frst_asymm h3
    rw [h4] at this; cases this
  · refine Classical.byContradiction fun hn => ?_
    have := frst_total (a := a) (b := c) (by omega) e (by simpa using hn)
    rw [k] at this; cases this
def SrtL (L : List (List Int)) : Prop := L.Pairwise fun a b => frst a b = true
theorem srt_uniq {n : Nat} : ∀ {L M : List (List Int)}, SrtL L → SrtL M → (∀ x ∈ L, x.length = n) → (∀ x ∈ M, x.length = n) → (∀ x, x ∈ L ↔ x ∈ M) → L = M
  | [], [], _, _, _, _, _ => rfl
  | [], y :: M, _, _, _, _, h => by have := (h y).2 (by simp); cases this
  | x :: L, [], _, _, _, _, h => by have := (h x).1 (by simp); cases this
  | x :: L, y :: M, h1, h2, l1, l2, h => by
    have h1' := List.pairwise_cons.1 h1
    have h2' := List.pairwise_cons.1 h2
    have exy : x = y := by
      rcases List.mem_cons.1 ((h x).1 (by simp)) with e | hx
      · exact e
      · rcases List.mem_cons.1 ((h y).2 (by simp)) with e | hy
        · exact e.symm
        · have a := h2'.1 x hx
          have b := h1'.1 y hy
          rw [frst_asymm a] at b; cases b
    subst exy
    congr 1
    refine srt_uniq h1'.2 h2'.2 (fun z hz => l1 z (by simp [hz])) (fun z hz => l2 z (by simp [hz])) fun z => ?_
    constructor
    · intro hz
      rcases List.mem_cons.1 ((h z).1 (by simp [hz])) with e | hz2
      · subst e
        have := h1'.1 z hz
        rw [frst_self] at this; cases this
      · exact hz2
    · intro hz
      rcases List.mem_cons.1 ((h z).2 (by simp [hz])) with e | hz2
      · subst e
        have := h2'.1 z hz
        rw [frst_self] at this; cases this
      · exact hz2
structure InsV (n : Nat) (R Q : List (List Int)) (i k : Nat) : Prop where
  perm : List.Perm Q R
  srt : ∀ j m, j < m → m ≤ i → j ≠ k → m ≠ k → frst (Q.getD j []) (Q.getD m []) = true
  rest : ∀ m, k < m → m ≤ i → frst (Q.getD k []) (Q.getD m []) = true
theorem InsV.len {n : Nat} {R Q : List (List Int)} {i k : Nat} (h : InsV n R Q i k) : Q.length = R.length := h.perm.length_eq
theorem swap_perm {Q : List (List Int)} {k : Nat} (hk : k + 1 < Q.length) : List.Perm ((Q.set (k + 1) (Q.getD k [])).set k (Q.getD (k + 1) [])) Q := by
  have e1 : Q = Q.take k ++ Q[k] :: Q[k + 1] :: Q.drop (k + 2) := by
    rw [← List.drop_eq_getElem_cons (by omega), ← List.drop_eq_getElem_cons (by omega), List.take_append_drop]
  have g1 : Q.getD k [] = Q[k] := by rw [List.getD_eq_getElem?_getD, List.getElem?_eq_getElem (by omega)]; rfl
  have g2 : Q.getD (k + 1) [] = Q[k + 1] := by rw [List.getD_eq_getElem?_getD, List.getElem?_eq_getElem hk]; rfl
  rw [g1, g2]
  have tl : (Q.take k).length = k := by rw [List.length_take]; omega
  have e2 : (Q.set (k + 1) Q[k]).set k Q[k + 1] = Q.take k ++ Q[k + 1] :: Q[k] :: Q.drop (k + 2) := by
    refine List.ext_getElem (by simp; omega) fun i h1 h2 => ?_
    rw [List.getElem_set, List.getElem_set]
    by_cases a1 : k = i
    · subst a1
      rw [if_pos rfl, List.getElem_append_right (by omega)]
      simp [tl]
    · rw [if_neg a1]
      by_cases a2 : k + 1 = i
      · subst a2
        rw [if_pos rfl, List.getElem_append_right (by omega)]
        simp [tl]
      · rw [if_neg a2]
        by_cases a3 : i < k
        · rw [List.getElem_append_left (by omega), List.getElem_take]
        · rw [List.getElem_append_right (by omega)]
          obtain ⟨d, rfl⟩ : ∃ d, i = k + 2 + d := ⟨i - (k + 2), by omega⟩
          have : k + 2 + d - (Q.take k).length = d + 1 + 1 := by omega
          simp only [this, List.getElem_cons_succ, List.getElem_drop]
  rw [e2]
  conv => rhs; rw [e1]
  exact (List.Perm.swap _ _ _).append_left _
theorem InsV.swap {n : Nat} {R Q : List (List Int)} {i k : Nat} (h : InsV n R Q i (k + 1)) (hk : k + 1 ≤ i) (hi : i < R.length) (hf : frst (Q.getD (k + 1) []) (Q.getD k []) = true) : InsV n R ((Q.set (k + 1) (Q.getD k [])).set k (Q.getD (k + 1) [])) i k := by
  have hl := h.len
  have g : ∀ j, ((Q.set (k + 1) (Q.getD k [])).set k (Q.getD (k + 1) [])).getD j [] = if j = k then Q.getD (k + 1) [] else if j = k + 1 then Q.getD k [] else Q.getD j [] := fun j => by
    rw [getD_set (by simp; omega), getD_set (by omega)]
  refine ⟨(swap_perm (by omega)).trans h.perm, fun j m a1 a2 a3 a4 => ?_, fun m a1 a2 => ?_⟩
  · rw [g, g, if_neg a3, if_neg a4]
    by_cases e1 : j = k + 1
    · rw [if_pos e1, if_neg (by omega)]
      exact h.srt k m (by omega) a2 (by omega) (by omega)
    · rw [if_neg e1]
      by_cases e2 : m = k + 1
      · rw [if_pos e2]
        exact h.srt j k (by omega) (by omega) (by omega) (by omega)
      · rw [if_neg e2]
        exact h.srt j m a1 a2 e1 e2
  · rw [g, g, if_pos rfl, if_neg (by omega)]
    by_cases e2 : m = k + 1
    · rw [if_pos e2]; exact hf
    · rw [if_neg e2]; exact h.rest m (by omega) a2
theorem InsV.stop {n : Nat} {R Q : List (List Int)} {i k : Nat} (h : InsV n R Q i k) (hk : k ≤ i) (hi : i < R.length) (nd : R.Nodup) (len : ∀ x ∈ R, x.length = n) (hf : k = 0 ∨ frst (Q.getD k []) (Q.getD (k - 1) []) = false) :
    InsV n R Q (i + 1) (i + 1) := by
  have hl := h.len
  have ndQ : Q.Nodup := h.perm.nodup_iff.2 nd
  have lenQ : ∀ j, j < Q.length → (Q.getD j []).length = n := fun j hj => len _ (h.perm.mem_iff.1 (getD_mem hj))
  have below : ∀ j, j < k → frst (Q.getD j []) (Q.getD k []) = true := fun j hj => by
    rcases hf with hf | hf
    · omega
    · have t : frst (Q.getD (k - 1) []) (Q.getD k []) = true := by
        refine frst_total (by rw [lenQ _ (by omega), lenQ _ (by omega)]) (fun e => ?_) hf
        have := getD_inj ndQ (by omega) (by omega) e
        omega
      by_cases e : j = k - 1
      · rw [e]; exact t
      · exact frst_trans (by rw [lenQ _ (by omega), lenQ _ (by omega)]) (by rw [lenQ _ (by omega), lenQ _ (by omega)]) (h.srt j (k - 1) (by omega) (by omega) (by omega) (by omega)) t
  refine ⟨h.perm, fun j m a1 a2 a3 a4 => ?_, fun m a1 a2 => by omega⟩
  by_cases e1 : j = k
  · subst e1; exact h.rest m a1 (by omega)
  · by_cases e2 : m = k
    · subst e2; exact below j a1
    · exact h.srt j m a1 (by omega) e1 e2
theorem InsV.init {n : Nat} {R : List (List Int)} : InsV n R R 0 0 := ⟨List.Perm.refl _, fun j m a1 a2 _ _ => by omega, fun m a1 a2 => by omega⟩
theorem InsV.fin {n : Nat} {R Q : List (List Int)} (h : InsV n R Q R.length R.length) : SrtL Q := by
  unfold SrtL
  rw [List.pairwise_iff_getElem]
  intro i j hi hj hij
  have hl := h.len
  have := h.srt i j hij (by omega) (by omega) (by omega)
  rw [List.getD_eq_getElem?_getD, List.getD_eq_getElem?_getD, List.getElem?_eq_getElem hi, List.getElem?_eq_getElem hj] at this
  exact this
end Go.AM

set_option linter.unusedSimpArgs false
set_option linter.unusedVariables false
namespace Go.AM
open Go.RowKit
section
variable {P : Program} {F : Nat → AV} {hp : List HObj} {K : AV → List (Nat × HObj) → Prop}
theorem slp_of {d sz ln : Nat} {x : Opd} {id off : Nat} {cs : List AV} (hx : evF F x = .ref id off) (h : nthH hp id = some (.cells cs)) (hl : off + ln * sz ≤ cs.length) (k : K (.mc id off ln ln sz) []) : (AOp.slp d sz ln x none none none).wp P F hp K := by
  refine ⟨_, _, ?_, k⟩
  simp only [AOp.sem, hx, hpf_nthH, h]
  exact ⟨0, ln, ln, (by first | rfl | trivial), (by first | rfl | trivial), (by first | rfl | trivial), Nat.zero_le _, Nat.le_refl _, Nat.le_refl _, hl, by simp, (by first | rfl | trivial)⟩
theorem clr_of {sz : Nat} {z : List AV} {x : Opd} {id off n c : Nat} {cs : List AV} (hx : evF F x = .mc id off n c sz) (h : nthH hp id = some (.cells cs)) (hl : off + n * sz ≤ cs.length) (k : K .any [(id, .cells (splice cs off (zrep n z)))]) : (AOp.clr sz z x).wp P F hp K := by
  refine ⟨_, _, ?_, k⟩
  simp only [AOp.sem, hx, hpf_nthH, h]
  exact ⟨cs, (by first | rfl | trivial), (by first | rfl | trivial), hl, (by first | rfl | trivial), (by first | rfl | trivial)⟩
theorem cpy_mc_of {d sz : Nat} {x y : Opd} {id off n c m : Nat} {cs ys : List AV} (hx : evF F x = .mc id off n c sz) (h : nthH hp id = some (.cells cs)) (hl : off + n * sz ≤ cs.length) (hy : elems (hpf hp) sz (evF F y) = some (m, ys)) (hpc : ((ys.take (Nat.min m n * sz)).all AV.isPC) = true)
    (k : K (I (Nat.min m n : Nat)) [(id, .cells (splice cs off (ys.take (Nat.min m n * sz))))]) : (AOp.cpy d sz x y).wp P F hp K := by
  refine ⟨_, _, ?_, k⟩
  simp only [AOp.sem, hx]
  exact ⟨m, ys, cs, hy, hpc, by rw [hpf_nthH]; exact h, (by first | rfl | trivial), hl, (by first | rfl | trivial), (by first | rfl | trivial)⟩
theorem cpy_ms_of {d sz : Nat} {x y : Opd} {id off n m : Nat} {cs ys : List AV} (hx : evF F x = .ms id off n sz) (h : nthH hp id = some (.cells cs)) (hl : off + n * sz ≤ cs.length) (hy : elems (hpf hp) sz (evF F y) = some (m, ys)) (hpc : ((ys.take (Nat.min m n * sz)).all AV.isPC) = true)
    (k : K (I (Nat.min m n : Nat)) [(id, .cells (splice cs off (ys.take (Nat.min m n * sz))))]) : (AOp.cpy d sz x y).wp P F hp K := by
  refine ⟨_, _, ?_, k⟩
  simp only [AOp.sem, hx]
  exact ⟨m, ys, cs, hy, hpc, by rw [hpf_nthH]; exact h, (by first | rfl | trivial), hl, (by first | rfl | trivial), (by first | rfl | trivial)⟩
theorem elems_mcv {id off n c sz : Nat} {cs : List AV} (h : nthH hp id = some (.cells cs)) (hl : off + n * sz ≤ cs.length) : elems (hpf hp) sz (.mc id off n c sz) = some (n, view cs off (n * sz)) := by
  simp only [elems, hpf_nthH, h]
  rw [if_pos ⟨trivial, hl⟩]
theorem elems_slv {hpx : Hp} {f : Bool} {n sz : Nat} {cs : List AV} (hl : cs.length = n * sz) : elems hpx sz (.sl f n cs) = some (n, cs) := by
  simp only [elems]
  rw [if_pos hl]
end
end Go.AM

set_option linter.unusedSimpArgs false
set_option linter.unusedVariables false
namespace Go.AM
open Go.RowKit
abbrev R3 := List Int × Nat × Int
def rowV (l : List Int) : Value := .agg (l.map fun n => Value.int .i64 n).toArray
def rowE (q : R3) : Value × Nat × AV := (rowV q.1, q.2.1, I q.2.2)
def mpR (L : List R3) (clk : Nat) : HObj := .mp (L.map rowE) clk
def getR : List R3 → List Int → Option Int
  | [], _ => none
  | q :: L, D => if q.1 = D then some q.2.2 else getR L D
structure MapR (n : Nat) (L : List R3) (clk : Nat) : Prop where
  brn : ∀ q ∈ L, q.2.1 < clk
  wid : ∀ q ∈ L, q.1.length = n
  keys : L.Pairwise fun q r => q.1 ≠ r.1
  brs : L.Pairwise fun q r => q.2.1 ≠ r.2.1
abbrev ksR (n : Nat) : KS := (true, List.replicate n .int)
theorem eqLeaves_row : ∀ {l m : List Int}, l.length = m.length → eqLeaves (List.replicate l.length .int) (l.map fun n => Value.int .i64 n) (m.map fun n => Value.int .i64 n) = some (decide (l = m))
  | [], [], _ => by simp [eqLeaves]
  | [], y :: m, h => by simp at h
  | x :: l, [], h => by simp at h
  | x :: l, y :: m, h => by
    have ih := eqLeaves_row (l := l) (m := m) (by simpa using h)
    simp only [List.map_cons, List.length_cons, List.replicate_succ, eqLeaves, eqLeaf, if_true]
    by_cases e : x = y
    · subst e
      simp only [beq_self_eq_true, ih, List.cons.injEq, true_and]
    · have : (x == y) = false := by simp [e]
      rw [this]; simp [e]
theorem eqK_row {n : Nat} {l m : List Int} (hl : l.length = n) (hm : m.length = n) : eqK (ksR n) (rowV l) (rowV m) = some (decide (l = m)) := by
  subst hl
  simp only [eqK, rowV]
  exact eqLeaves_row hm.symm
theorem rfind_none {n : Nat} {D : List Int} (hD : D.length = n) : ∀ {L : List R3} {i : Nat}, (∀ q ∈ L, q.1.length = n) → (∀ q ∈ L, q.1 ≠ D) → mfind (ksR n) (rowV D) (L.map rowE) i = some none
  | [], _, _, _ => rfl
  | q :: L, i, hw, h => by
    have h1 := h q (by simp)
    simp only [List.map_cons, mfind, rowE, eqK_row hD (hw q (by simp))]
    rw [decide_eq_false (Ne.symm h1)]
    exact rfind_none hD (fun r hr => hw r (by simp [hr])) (fun r hr => h r (by simp [hr]))
theorem rfind_some {n : Nat} {D : List Int} (hD : D.length = n) {q : R3} {B : List R3} (hq : q.1 = D) : ∀ {A : List R3} {i : Nat}, (∀ r ∈ A, r.1.length = n) → (∀ r ∈ A, r.1 ≠ D) → mfind (ksR n) (rowV D) ((A ++ q :: B).map rowE) i = some (some (i + A.length))
  | [], i, _, _ => by
    simp only [List.nil_append, List.map_cons, mfind, rowE, eqK_row hD (show q.1.length = n by rw [hq]; exact hD)]
    rw [decide_eq_true hq.symm]; rfl
  | r :: A, i, hw, h => by
    have h1 := h r (by simp)
    simp only [List.cons_append, List.map_cons, mfind, rowE, eqK_row hD (hw r (by simp))]
    rw [decide_eq_false (Ne.symm h1)]
    have := rfind_some hD hq (B := B) (A := A) (i := i + 1) (fun r hr => hw r (by simp [hr])) (fun r hr => h r (by simp [hr]))
    simp only [this, List.length_cons]
    congr 2; omega
theorem rcases_find (D : List Int) : ∀ (L : List R3), (∀ q ∈ L, q.1 ≠ D) ∨ ∃ A q B, L = A ++ q :: B ∧ q.1 = D ∧ ∀ r ∈ A, r.1 ≠ D
  | [] => .inl (by simp)
  | q :: L => by
    by_cases e : q.1 = D
    · exact .inr ⟨[], q, L, rfl, e, by simp⟩
    · rcases rcases_find D L with h | ⟨A, r, B, h1, h2, h3⟩
      · exact .inl fun r hr => by
          rcases List.mem_cons.1 hr with rfl | hr
          · exact e
          · exact h r hr
      · refine .inr ⟨q :: A, r, B, by rw [h1]; rfl, h2, fun s hs => ?_⟩
        rcases List.mem_cons.1 hs with rfl | hs
        · exact e
        · exact h3 s hs
theorem getR_none {D : List Int} : ∀ {L : List R3}, (∀ q ∈ L, q.1 ≠ D) → getR L D = none
  | [], _ => rfl
  | q :: L, h => by
    simp only [getR]
    rw [if_neg (h q (by simp))]
    exact getR_none (fun r hr => h r (by simp [hr]))
theorem getR_at {D : List Int} {q : R3} {B : List R3} (hq : q.1 = D) : ∀ {A : List R3}, (∀ q ∈ A, q.1 ≠ D) → getR (A ++ q :: B) D = some q.2.2
  | [], _ => by simp only [List.nil_append, getR, if_pos hq]
  | r :: A, h => by
    simp only [List.cons_append, getR]
    rw [if_neg (h r (by simp))]
    exact getR_at hq (fun r hr => h r (by simp [hr]))
theorem getR_mem {D : List Int} {v : Int} : ∀ {L : List R3}, getR L D = some v → ∃ q ∈ L, q.1 = D ∧ q.2.2 = v
  | [], h => by cases h
  | q :: L, h => by
    simp only [getR] at h
    by_cases e : q.1 = D
    · rw [if_pos e] at h; exact ⟨q, by simp, e, by simpa using h⟩
    · rw [if_neg e] at h
      obtain ⟨r, h1, h2, h3⟩ := getR_mem h
      exact ⟨r, by simp [h1], h2, h3⟩
theorem getR_of {q : R3} : ∀ {L : List R3}, (L.Pairwise fun q r => q.1 ≠ r.1) → q ∈ L → getR L q.1 = some q.2.2
  | [], _, h => by cases h
  | r :: L, hp, h => by
    rw [List.pairwise_cons] at hp
    simp only [getR]
    rcases List.mem_cons.1 h with rfl | h
    · rw [if_pos rfl]
    · rw [if_neg (hp.1 q h)]; exact getR_of hp.2 h
theorem getR_set {q : R3} {B : List R3} {c : Nat} {v : Int} {D : List Int} : ∀ {A : List R3}, (∀ r ∈ A, r.1 ≠ q.1) → getR (A ++ (q.1, c, v) :: B) D = if D = q.1 then some v else getR (A ++ q :: B) D
  | [], _ => by
    simp only [List.nil_append, getR]
    by_cases e : q.1 = D
    · rw [if_pos e, if_pos e.symm]
    · rw [if_neg e, if_neg (Ne.symm e), if_neg e]
  | r :: A, h => by
    simp only [List.cons_append, getR]
    have ih := getR_set (q := q) (B := B) (c := c) (v := v) (D := D) (A := A) (fun r hr => h r (by simp [hr]))
    have h1 := h r (by simp)
    by_cases e : r.1 = D
    · rw [if_pos e, if_pos e, if_neg (by rw [← e]; exact h1)]
    · rw [if_neg e, if_neg e, ih]
theorem getR_push {c : Nat} {v : Int} {E D : List Int} : ∀ {L : List R3}, (∀ q ∈ L, q.1 ≠ E) → getR (L ++ [(E, c, v)]) D = if D = E then some v else getR L D
  | [], _ => by
    simp only [List.nil_append, getR]
    by_cases e : E = D
    · rw [if_pos e, if_pos e.symm]
    · rw [if_neg e, if_neg (Ne.symm e)]
  | r :: A, h => by
    simp only [List.cons_append, getR]
    have ih := getR_push (c := c) (v := v) (E := E) (D := D) (L := A) (fun r hr => h r (by simp [hr]))
    have h1 := h r (by simp)
    by_cases e : r.1 = D
    · rw [if_pos e, if_pos e, if_neg (by rw [← e]; exact h1)]
    · rw [if_neg e, if_neg e, ih]
theorem getR_del {q : R3} {B : List R3} {D : List Int} : ∀ {A : List R3}, (A ++ q :: B).Pairwise (fun q r => q.1 ≠ r.1) → getR (A ++ B) D = if D = q.1 then none else getR (A ++ q :: B) D
  | [], hp => by
    rw [List.nil_append, List.pairwise_cons] at hp
    simp only [List.nil_append, getR]
    by_cases e : q.1 = D
    · rw [if_pos e.symm]; exact getR_none fun r hr => by rw [← e]; exact (hp.1 r hr).symm
    · rw [if_neg (Ne.symm e), if_neg e]
  | r :: A, hp => by
    rw [List.cons_append, List.pairwise_cons] at hp
    have ih := getR_del (D := D) hp.2
    have h1 := hp.1 q (by simp)
    simp only [List.cons_append, getR]
    by_cases e : r.1 = D
    · rw [if_pos e, if_pos e, if_neg (by rw [← e]; exact h1)]
    · rw [if_neg e, if_neg e, ih]
theorem MapR.nil {n clk : Nat} : MapR n [] clk := ⟨by simp, by simp, .nil, .nil⟩
theorem MapR.set {n : Nat} {A B : List R3} {q : R3} {clk : Nat} {v : Int} (h : MapR n (A ++ q :: B) clk) : MapR n (A ++ (q.1, q.2.1, v) :: B) clk := by
  obtain ⟨h1, h2, h3, h4⟩ := h
  refine ⟨fun r hr => ?_, fun r hr => ?_, ?_, ?_⟩
  · simp only [List.mem_append, List.mem_cons] at hr
    rcases hr with hr | rfl | hr
    · exact h1 r (by simp [hr])
    · exact h1 q (by simp)
    · exact h1 r (by simp [hr])
  · simp only [List.mem_append, List.mem_cons] at hr
    rcases hr with hr | rfl | hr
    · exact h2 r (by simp [hr])
    · exact h2 q (by simp)
    · exact h2 r (by simp [hr])
  · rw [List.pairwise_append, List.pairwise_cons] at h3 ⊢
    refine ⟨h3.1, ⟨h3.2.1.1, h3.2.1.2⟩, fun a ha r hr => ?_⟩
    rcases List.mem_cons.1 hr with rfl | hr
    · exact h3.2.2 a ha q (by simp)
    · exact h3.2.2 a ha r (by simp [hr])
  · rw [List.pairwise_append, List.pairwise_cons] at h4 ⊢
    refine ⟨h4.1, ⟨h4.2.1.1, h4.2.1.2⟩, fun a ha r hr => ?_⟩
    rcases List.mem_cons.1 hr with rfl | hr
    · exact h4.2.2 a ha q (by simp)
    · exact h4.2.2 a ha r (by simp [hr])
theorem MapR.push {n : Nat} {L : List R3} {E : List Int} {clk : Nat} {v : Int} (h : MapR n L clk) (hE : E.length = n) (hn : ∀ q ∈ L, q.1 ≠ E) : MapR n (L ++ [(E, clk, v)]) (clk + 1) := by
  obtain ⟨h1, h2, h3, h4⟩ := h
  refine ⟨fun r hr => ?_, fun r hr => ?_, ?_, ?_⟩
  · simp only [List.mem_append, List.mem_singleton] at hr
    rcases hr with hr | rfl
    · have := h1 r hr; omega
    · simp
  · simp only [List.mem_append, List.mem_singleton] at hr
    rcases hr with hr | rfl
    · exact h2 r hr
    · exact hE
  · rw [List.pairwise_append]
    refine ⟨h3, by simp, fun a ha r hr => ?_⟩
    rw [List.mem_singleton] at hr; subst hr
    exact hn a ha
  · rw [List.pairwise_append]
    refine ⟨h4, by simp, fun a ha r hr => ?_⟩
    rw [List.mem_singleton] at hr; subst hr
    have := h1 a ha
    simp only; omega
theorem MapR.del {n : Nat} {A B : List R3} {q : R3} {clk : Nat} (h : MapR n (A ++ q :: B) clk) : MapR n (A ++ B) clk := by
  obtain ⟨h1, h2, h3, h4⟩ := h
  have sub : List.Sublist (A ++ B) (A ++ q :: B) := List.Sublist.append_left (List.sublist_cons_self q B) A
  exact ⟨fun r hr => h1 r (sub.subset hr), fun r hr => h2 r (sub.subset hr), h3.sublist sub, h4.sublist sub⟩
section
variable {P : Program} {E : HE} {fr : List (Nat × AV)} {hp : List HObj} {F : Nat → AV} {os : List AOp} {KS : St → Prop} {K : AV → List (Nat × HObj) → Prop}
theorem hpf_of' {i : Nat} {o : HObj} (h : nthH hp i = some o) : hpf hp i = some o := by rw [hpf_nthH]; exact h
theorem row_self {n : Nat} {D : List Int} (h : D.length = n) : eqK (ksR n) (rowV D) (rowV D) = some true := by rw [eqK_row h h]; simp
abbrev rowA (D : List Int) : AV := .agg (D.map fun n => I n)
theorem row_valL : ∀ (D : List Int), valL (D.map fun n => I n) = some (D.map fun n => Value.int .i64 n)
  | [] => rfl
  | x :: D => by simp only [List.map_cons, valL, row_valL D]; rfl
theorem row_val {D : List Int} : (rowA D).val = some (rowV D) := by simp only [AV.val, row_valL]; rfl
theorem row_of {D : List Int} : AV.ofValue (rowV D) = rowA D := by
  simp only [rowV, AV.ofValue, rowA, List.map_map]
  rfl
theorem rent_get {A B : List R3} {q : R3} : ((A ++ q :: B).map rowE)[A.length]? = some (rowE q) := by simp
theorem rent_set {A B : List R3} {q : R3} {v : Int} : ((A ++ q :: B).map rowE).set A.length ((rowE q).1, (rowE q).2.1, I v) = (A ++ (q.1, q.2.1, v) :: B).map rowE := by
  simp [List.set_append, rowE]
theorem mkmR {d : Nat} (k : K (.mp hp.length) [(hp.length, mpR [] 0)]) : (AOp.mkm d).wp P F hp K := ⟨_, _, ⟨rfl, rfl⟩, k⟩
theorem insR_of {n x : Nat} {D : List Int} {v : Int} {m ky vv : Opd} {L : List R3} {clk : Nat} (hm : evF F m = .mp x) (hk : (evF F ky).val = some (rowV D)) (hv : evF F vv = I v) (ho : nthH hp x = some (mpR L clk)) (hD : D.length = n) (hL : ∀ q ∈ L, q.1.length = n)
    (k1 : ∀ A q B, L = A ++ q :: B → q.1 = D → (∀ r ∈ A, r.1 ≠ D) → K .any [(x, mpR (A ++ (q.1, q.2.1, v) :: B) clk)])
    (k2 : (∀ q ∈ L, q.1 ≠ D) → K .any [(x, mpR (L ++ [(D, clk, v)]) (clk + 1))]) :
    (AOp.ins (ksR n) m ky vv).wp P F hp K := by
  rcases rcases_find D L with h | ⟨A, q, B, rfl, h2, h3⟩
  · refine ⟨.any, _, ?_, k2 h⟩
    simp only [AOp.sem, hm, hpf_of' ho, mpR]
    exact ⟨rowV D, hk, row_self hD, (by first | rfl | trivial), .inr ⟨rfind_none hD hL h, by rw [hv]; simp [rowE]⟩⟩
  · refine ⟨.any, _, ?_, k1 A q B rfl h2 h3⟩
    simp only [AOp.sem, hm, hpf_of' ho, mpR]
    refine ⟨rowV D, hk, row_self hD, (by first | rfl | trivial), .inl ⟨A.length, rowE q, ?_, rent_get, ?_⟩⟩
    · have := rfind_some hD h2 (B := B) (i := 0) (fun r hr => hL r (by simp [hr])) h3
      rw [Nat.zero_add] at this; exact this
    · rw [hv, rent_set]
theorem lkuR {n d x : Nat} {D : List Int} {z : AV} {ok : Bool} {m ky : Opd} {L : List R3} {clk : Nat} (hm : evF F m = .mp x) (hk : (evF F ky).val = some (rowV D)) (ho : nthH hp x = some (mpR L clk)) (hD : D.length = n) (hL : ∀ q ∈ L, q.1.length = n)
    (k : K (match getR L D with | some v => bif ok then .tup [I v, B true] else I v | none => bif ok then .tup [z, B false] else z) []) :
    (AOp.lku d (ksR n) z ok m ky).wp P F hp K := by
  refine ⟨_, [], ?_, k⟩
  simp only [AOp.sem, hm, hpf_of' ho, mpR]
  refine ⟨rowV D, hk, row_self hD, (by first | rfl | trivial), ?_⟩
  rcases rcases_find D L with h | ⟨A, q, B, rfl, h2, h3⟩
  · exact .inr ⟨rfind_none hD hL h, by rw [getR_none h]⟩
  · refine .inl ⟨A.length, rowE q, ?_, rent_get, ?_⟩
    · have := rfind_some hD h2 (B := B) (i := 0) (fun r hr => hL r (by simp [hr])) h3
      rw [Nat.zero_add] at this; exact this
    · rw [getR_at h2 h3]; rfl
theorem delR_of {n x : Nat} {D : List Int} {m ky : Opd} {L : List R3} {clk : Nat} (hm : evF F m = .mp x) (hk : (evF F ky).val = some (rowV D)) (ho : nthH hp x = some (mpR L clk)) (hD : D.length = n) (hL : ∀ q ∈ L, q.1.length = n)
    (k1 : ∀ A q B, L = A ++ q :: B → q.1 = D → (∀ r ∈ A, r.1 ≠ D) → K .any [(x, mpR (A ++ B) clk)])
    (k2 : (∀ q ∈ L, q.1 ≠ D) → K .any []) :
    (AOp.del (ksR n) m ky).wp P F hp K := by
  rcases rcases_find D L with h | ⟨A, q, B, rfl, h2, h3⟩
  · refine ⟨.any, [], ?_, k2 h⟩
    simp only [AOp.sem, hm, hpf_of' ho, mpR]
    exact ⟨rowV D, hk, row_self hD, (by first | rfl | trivial), .inr ⟨rfind_none hD hL h, (by first | rfl | trivial)⟩⟩
  · refine ⟨.any, _, ?_, k1 A q B rfl h2 h3⟩
    simp only [AOp.sem, hm, hpf_of' ho, mpR]
    refine ⟨rowV D, hk, row_self hD, (by first | rfl | trivial), .inl ⟨A.length, ?_, ?_⟩⟩
    · have := rfind_some hD h2 (B := B) (i := 0) (fun r hr => hL r (by simp [hr])) h3
      rw [Nat.zero_add] at this; exact this
    · have : ((A ++ q :: B).map rowE).eraseIdx A.length = (A ++ B).map rowE := by
        rw [List.map_append, List.map_cons, List.eraseIdx_append_of_length_le (by simp)]
        simp
      rw [this]
def RngX (hp : List HObj) (x : AV) (K : AV → List (Nat × HObj) → Prop) : Prop := match x with
  | .mp id => match nthH hp id with
    | some (.mp _ clk) => K (.ref hp.length 0) [(hp.length, .it id clk [] clk)]
    | some (.mpp Φ) => ∀ es clk, Φ es clk → K (.ref hp.length 0) [(id, .mp es clk), (hp.length, .it id clk [] clk)]
    | _ => False
  | _ => False
def NxtX (hp : List HObj) (x : AV) (K : AV → List (Nat × HObj) → Prop) : Prop := (AOp.nxt 0 (.k x)).many (evF fun _ => .any) (hpf hp) hp.length K
def EntX (hp : List HObj) (x : AV) (K : AV → List (Nat × HObj) → Prop) : Prop := (AOp.ent 0 (.k x)).many (evF fun _ => .any) (hpf hp) hp.length K
theorem xx_rng {a0 a1} : aops P E (.rng a0 a1 :: os) ⟨fr, hp⟩ KS = RngX hp (evF (get fr) a1) (contA P E os (some a0) fr hp KS) := by
  show (AOp.rng a0 a1).many (evF (get fr)) (hpf hp) hp.length (contA P E os (some a0) fr hp KS) = _
  simp only [AOp.many, RngX, hpf_nthH]
  rfl
theorem xx_nxt {a0 a1} : aops P E (.nxt a0 a1 :: os) ⟨fr, hp⟩ KS = NxtX hp (evF (get fr) a1) (contA P E os (some a0) fr hp KS) := rfl
theorem xx_ent {a0 a1} : aops P E (.ent a0 a1 :: os) ⟨fr, hp⟩ KS = EntX hp (evF (get fr) a1) (contA P E os (some a0) fr hp KS) := rfl
theorem rngR_of {x : Nat} {L : List R3} {clk : Nat} (ho : nthH hp x = some (mpR L clk)) (k : K (.ref hp.length 0) [(hp.length, .it x clk [] clk)]) : RngX hp (.mp x) K := by
  simp only [RngX, ho, mpR]; exact k
theorem nxtR_of {n it x : Nat} {L : List R3} {clk : Nat} {S : List Nat} (hi : nthH hp it = some (.it x clk S clk)) (ho : nthH hp x = some (mpR L clk)) (hL : MapR n L clk)
    (k0 : (∀ q ∈ L, q.2.1 ∈ S) → K (.tup [B false]) [])
    (k1 : ∀ q ∈ L, q.2.1 ∉ S → K (.tup [B true, rowA q.1, I q.2.2]) [(it, .it x clk (S ++ [q.2.1]) clk)]) : NxtX hp (.ref it 0) K := by
  simp only [NxtX, AOp.many, evF, hpf_of' hi, hpf_of' ho, mpR]
  refine ⟨?_, fun h => k0 fun q hq => ?_, fun e he hs => ?_⟩
  · match L, hL with
    | [], _ => simp
    | q :: L, hL =>
      have := hL.brn q (by simp)
      have : decide (clk ≤ (rowE q).2.1) = false := decide_eq_false (by show ¬ clk ≤ q.2.1; omega)
      simp only [List.map_cons, List.all_cons, this, Bool.false_and, Bool.not_false, Bool.or_true]
  · refine Classical.byContradiction fun hn => ?_
    have hm : rowE q ∈ (L.map rowE).filter fun e => !S.contains e.2.1 && decide (e.2.1 < clk) := by
      rw [List.mem_filter]
      refine ⟨List.mem_map_of_mem hq, ?_⟩
      have := hL.brn q hq
      simp [rowE, hn, this]
    rw [List.isEmpty_iff] at h
    rw [h] at hm; cases hm
  · obtain ⟨q, hq, rfl⟩ := List.mem_map.1 he
    have := k1 q hq (by simpa [rowE] using hs)
    rw [← row_of] at this
    exact this
theorem find_row {q : R3} : ∀ {L : List R3}, q ∈ L → (L.Pairwise fun q r => q.2.1 ≠ r.2.1) → (L.map rowE).find? (fun e => e.2.1 == q.2.1) = some (rowE q)
  | [], h, _ => by cases h
  | r :: L, h, hp => by
    rw [List.pairwise_cons] at hp
    rw [List.map_cons, List.find?_cons]
    rcases List.mem_cons.1 h with rfl | h
    · simp [rowE]
    · have := hp.1 q h
      have : ((rowE r).2.1 == q.2.1) = false := by simp only [rowE, beq_eq_false_iff_ne, ne_eq]; exact this
      rw [this]
      exact find_row h hp.2
theorem entR_of {n it x : Nat} {L : List R3} {clk : Nat} {S : List Nat} {q : R3} (hi : nthH hp it = some (.it x clk (S ++ [q.2.1]) clk)) (ho : nthH hp x = some (mpR L clk)) (hL : MapR n L clk) (hq : q ∈ L)
    (k : K (.tup [rowA q.1, I q.2.2]) []) : EntX hp (.ref it 0) K := by
  simp only [EntX, AOp.many, evF, hpf_of' hi, hpf_of' ho, mpR]
  refine ⟨trivial, q.2.1, rowE q, by simp, find_row hq hL.brs, ?_⟩
  rw [show (rowE q).1 = rowV q.1 from rfl, row_of]
  exact k
end
end Go.AM

set_option linter.unusedSimpArgs false
set_option linter.unusedVariables false
namespace Go.AM
open Go.RowKit
def Keys6 (n : Nat) (L : List R3) : Prop := ∀ q ∈ L, ∃ x : List Int, x.length = n ∧ q.1 = pad x
def Met (T : List (List Int)) (N : List (List Int)) (j s : Nat) (x : List Int) : Prop := ∃ i t, i < N.length ∧ t < T.length ∧ (i < j ∨ (i = j ∧ t < s)) ∧ aft (T.getD t []) (N.getD i []) = x
structure Wave (n : Nat) (T : List (List Int)) (x0 : List Int) (m : Nat) (N : List (List Int)) : Prop where
  nd : N.Nodup
  mem : ∀ x, x ∈ N ↔ Dist T x0 x m
structure FarS (n : Nat) (T : List (List Int)) (x0 : List Int) (m : Nat) (N : List (List Int)) (j s w : Nat) (Lo Lw : List R3) : Prop where
  out : ∀ x : List Int, x.length = n → ∀ v, getR Lo (pad x) = some v ↔ (∃ d : Nat, d ≤ m ∧ v = d ∧ Dist T x0 x d) ∨ (v = (m + 1 : Nat) ∧ Dist T x0 x (m + 1) ∧ Met T N j s x)
  wait : ∀ x : List Int, x.length = n → ((getR Lw (pad x) ≠ none) ↔ (x ∈ N.drop w ∨ (Dist T x0 x (m + 1) ∧ Met T N j s x)))
  ko : Keys6 n Lo
  kw : Keys6 n Lw
structure FarO (n : Nat) (T : List (List Int)) (x0 : List Int) (m : Nat) (Lo Lw : List R3) : Prop where
  out : ∀ x : List Int, x.length = n → ∀ v, getR Lo (pad x) = some v ↔ ∃ d : Nat, d ≤ m ∧ v = d ∧ Dist T x0 x d
  wait : ∀ x : List Int, x.length = n → ((getR Lw (pad x) ≠ none) ↔ Dist T x0 x m)
  ko : Keys6 n Lo
  kw : Keys6 n Lw
structure FarL (n : Nat) (T : List (List Int)) (x0 : List Int) (L : List R3) : Prop where
  out : ∀ x : List Int, x.length = n → ∀ v, getR L (pad x) = some v ↔ ∃ d : Nat, v = d ∧ Dist T x0 x d
  ko : Keys6 n L
section
variable {n : Nat} {T : List (List Int)} {x0 : List Int}
theorem Dist.lenT (hT : PmS n T) (h0 : x0.length = n) {x : List Int} {d : Nat} (h : Dist T x0 x d) : x.length = n := by
  obtain ⟨⟨w, hw, _⟩, _⟩ := h
  exact hw.len hT h0
theorem FarO.init {c1 c2 : Nat} (h0 : x0.length = n) : FarO n T x0 0 [(pad x0, c1, 0)] [(pad x0, c2, 0)] := by
  have key : ∀ x : List Int, x.length = n → (pad x0 = pad x ↔ x0 = x) := fun x hx => ⟨fun e => pad_inj (by omega) e, fun e => by rw [e]⟩
  refine ⟨fun x hx v => ?_, fun x hx => ?_, fun q hq => ?_, fun q hq => ?_⟩
  · simp only [getR]
    by_cases e : x0 = x
    · rw [if_pos ((key x hx).2 e)]
      constructor
      · intro h
        have : v = 0 := by simpa using h.symm
        exact ⟨0, Nat.le_refl _, this, Dist.zero_iff.2 e⟩
      · rintro ⟨d, h1, rfl, h3⟩
        have : d = 0 := by omega
        subst this; rfl
    · rw [if_neg (fun h => e ((key x hx).1 h))]
      constructor
      · intro h; cases h
      · rintro ⟨d, h1, rfl, h3⟩
        have : d = 0 := by omega
        subst this
        exact absurd (Dist.zero_iff.1 h3) e
  · simp only [getR]
    by_cases e : x0 = x
    · rw [if_pos ((key x hx).2 e)]
      simp [Dist.zero_iff.2 e]
    · rw [if_neg (fun h => e ((key x hx).1 h))]
      simp only [ne_eq, not_true_eq_false, false_iff]
      exact fun h => e (Dist.zero_iff.1 h)
  · rw [List.mem_singleton] at hq; subst hq; exact ⟨x0, h0, rfl⟩
  · rw [List.mem_singleton] at hq; subst hq; exact ⟨x0, h0, rfl⟩
theorem met_zero {N : List (List Int)} {x : List Int} : ¬ Met T N 0 0 x := by
  rintro ⟨i, t, _, _, h, _⟩; omega
theorem FarO.start {m : Nat} {N : List (List Int)} {Lo Lw : List R3} (hT : PmS n T) (h0 : x0.length = n) (h : FarO n T x0 m Lo Lw) (hN : Wave n T x0 m N) : FarS n T x0 m N 0 0 0 Lo Lw := by
  refine ⟨fun x hx v => ?_, fun x hx => ?_, h.ko, h.kw⟩
  · rw [h.out x hx]
    exact ⟨.inl, fun h => h.elim id fun ⟨_, _, h⟩ => absurd h met_zero⟩
  · rw [h.wait x hx, List.drop_zero, hN.mem]
    exact ⟨.inl, fun h => h.elim id fun ⟨_, h⟩ => absurd h met_zero⟩
theorem drop_mem {N : List (List Int)} {j : Nat} (hj : j < N.length) {x : List Int} : x ∈ N.drop j ↔ x = N.getD j [] ∨ x ∈ N.drop (j + 1) := by
  rw [List.drop_eq_getElem_cons hj, List.mem_cons, List.getD_eq_getElem?_getD, List.getElem?_eq_getElem hj]; rfl
theorem FarS.del {m j : Nat} {N : List (List Int)} {Lo A B : List R3} {q : R3} (hT : PmS n T) (h0 : x0.length = n) (hN : Wave n T x0 m N) (h : FarS n T x0 m N j 0 j Lo (A ++ q :: B)) (hj : j < N.length) (hq : q.1 = pad (N.getD j [])) (hk : (A ++ q :: B).Pairwise fun q r => q.1 ≠ r.1) :
    FarS n T x0 m N j 0 (j + 1) Lo (A ++ B) := by
  have hxj : Dist T x0 (N.getD j []) m := (hN.mem _).1 (getD_mem hj)
  have lj := hxj.lenT hT h0
  refine ⟨h.out, fun x hx => ?_, h.ko, fun r hr => h.kw r ?_⟩
  · rw [getR_del hk, hq]
    by_cases e : x = N.getD j []
    · subst e
      rw [if_pos rfl]
      simp only [ne_eq, not_true_eq_false, false_iff]
      rintro (h1 | ⟨h1, _⟩)
      · rw [List.mem_drop_iff_getElem] at h1
        obtain ⟨i, hi, e⟩ := h1
        have := getD_inj (d := []) hN.nd (i := i + (j + 1)) (j := j) (by omega) hj (by
          rw [List.getD_eq_getElem?_getD, List.getElem?_eq_getElem (show i + (j + 1) < N.length by omega)]
          have e2 : N[i + (j + 1)] = N[j + 1 + i]'(by omega) := by congr 1; omega
          rw [e2]; exact e)
        omega
      · have := h1.uniq hxj; omega
    · rw [if_neg (fun h => e (pad_inj (by omega) h)), h.wait x hx, drop_mem hj]
      constructor
      · rintro ((h1 | h1) | h1)
        · exact absurd h1 e
        · exact .inl h1
        · exact .inr h1
      · rintro (h1 | h1)
        · exact .inl (.inr h1)
        · exact .inr h1
  · rcases List.mem_append.1 hr with hr | hr
    · exact List.mem_append_left _ hr
    · exact List.mem_append_right _ (List.mem_cons_of_mem _ hr)
theorem FarS.waits {m j s : Nat} {N : List (List Int)} {Lo Lw : List R3} (hT : PmS n T) (h0 : x0.length = n) (hN : Wave n T x0 m N) (h : FarS n T x0 m N j s j Lo Lw) (hj : j < N.length) : ¬ ∀ q ∈ Lw, q.1 ≠ pad (N.getD j []) := fun hn => by
  have hxj : Dist T x0 (N.getD j []) m := (hN.mem _).1 (getD_mem hj)
  have := (h.wait _ (hxj.lenT hT h0)).2 (.inl ((drop_mem hj).2 (.inl rfl)))
  exact this (getR_none hn)
theorem met_step {N : List (List Int)} {j s : Nat} (hj : j < N.length) (hs : s < T.length) {x : List Int} : Met T N j (s + 1) x ↔ Met T N j s x ∨ x = aft (T.getD s []) (N.getD j []) := by
  constructor
  · rintro ⟨i, t, h1, h2, h3, h4⟩
    by_cases e : i = j ∧ t = s
    · obtain ⟨rfl, rfl⟩ := e; exact .inr h4.symm
    · exact .inl ⟨i, t, h1, h2, by omega, h4⟩
  · rintro (⟨i, t, h1, h2, h3, h4⟩ | rfl)
    · exact ⟨i, t, h1, h2, by omega, h4⟩
    · exact ⟨j, s, hj, hs, by omega, rfl⟩
theorem FarS.old {m j s w : Nat} {N : List (List Int)} {Lo Lw : List R3} (hT : PmS n T) (h0 : x0.length = n) (hN : Wave n T x0 m N) (h : FarS n T x0 m N j s w Lo Lw) (hj : j < N.length) (hs : s < T.length) {v : Int} (hv : getR Lo (pad (aft (T.getD s []) (N.getD j []))) = some v) :
    FarS n T x0 m N j (s + 1) w Lo Lw := by
  have lt : (aft (T.getD s []) (N.getD j [])).length = n := by rw [aft_len]; exact (hT.at hs).len
  have same : ∀ x, Dist T x0 x (m + 1) → (Met T N j (s + 1) x ↔ Met T N j s x) := fun x hd => by
    rw [met_step hj hs]
    refine ⟨fun h1 => h1.elim id fun e => ?_, .inl⟩
    subst e
    rcases (h.out _ lt v).1 hv with ⟨d, h2, _, h4⟩ | ⟨_, _, h4⟩
    · have := h4.uniq hd; omega
    · exact h4
  refine ⟨fun x hx v => ?_, fun x hx => ?_, h.ko, h.kw⟩
  · rw [h.out x hx]
    refine or_congr Iff.rfl (and_congr Iff.rfl ⟨fun ⟨a, b⟩ => ⟨a, (same x a).2 b⟩, fun ⟨a, b⟩ => ⟨a, (same x a).1 b⟩⟩)
  · rw [h.wait x hx]
    exact or_congr Iff.rfl ⟨fun ⟨a, b⟩ => ⟨a, (same x a).2 b⟩, fun ⟨a, b⟩ => ⟨a, (same x a).1 b⟩⟩
theorem FarS.new {m j s w : Nat} {N : List (List Int)} {Lo Lw Lo' Lw' : List R3} (hT : PmS n T) (h0 : x0.length = n) (hN : Wave n T x0 m N) (h : FarS n T x0 m N j s w Lo Lw) (hj : j < N.length) (hs : s < T.length) (hv : getR Lo (pad (aft (T.getD s []) (N.getD j []))) = none)
    (ho : ∀ D, getR Lo' D = if D = pad (aft (T.getD s []) (N.getD j [])) then some ((m + 1 : Nat) : Int) else getR Lo D) (hw : ∀ D, getR Lw' D = if D = pad (aft (T.getD s []) (N.getD j [])) then some ((m + 1 : Nat) : Int) else getR Lw D)
    (ko : Keys6 n Lo') (kw : Keys6 n Lw') : FarS n T x0 m N j (s + 1) w Lo' Lw' := by
  have lt : (aft (T.getD s []) (N.getD j [])).length = n := by rw [aft_len]; exact (hT.at hs).len
  have hd : Dist T x0 (aft (T.getD s []) (N.getD j [])) (m + 1) := by
    obtain ⟨d, h1, h2⟩ := Dist.stepR hs ((hN.mem _).1 (getD_mem (d := []) hj))
    rcases Nat.lt_or_ge d (m + 1) with h3 | h3
    · have := (h.out _ lt d).2 (.inl ⟨d, by omega, rfl, h1⟩)
      rw [hv] at this; cases this
    · have : d = m + 1 := by omega
      rw [← this]; exact h1
  refine ⟨fun x hx v => ?_, fun x hx => ?_, ko, kw⟩
  · rw [ho]
    by_cases e : x = aft (T.getD s []) (N.getD j [])
    · subst e
      rw [if_pos rfl]
      constructor
      · intro h1
        refine .inr ⟨by simpa using h1.symm, hd, (met_step hj hs).2 (.inr rfl)⟩
      · rintro (⟨d, h1, rfl, h3⟩ | ⟨rfl, _⟩)
        · have := h3.uniq hd; omega
        · rfl
    · rw [if_neg (fun h => e (pad_inj (by omega) h)), h.out x hx, met_step hj hs]
      refine or_congr Iff.rfl (and_congr Iff.rfl (and_congr Iff.rfl ⟨.inl, fun h => h.elim id fun h => absurd h e⟩))
  · rw [hw]
    by_cases e : x = aft (T.getD s []) (N.getD j [])
    · subst e
      rw [if_pos rfl]
      exact ⟨fun _ => .inr ⟨hd, (met_step hj hs).2 (.inr rfl)⟩, fun _ h => by cases h⟩
    · rw [if_neg (fun h => e (pad_inj (by omega) h)), h.wait x hx, met_step hj hs]
      exact or_congr Iff.rfl (and_congr Iff.rfl ⟨.inl, fun h => h.elim id fun h => absurd h e⟩)
theorem FarS.row {m j w : Nat} {N : List (List Int)} {Lo Lw : List R3} (h : FarS n T x0 m N j T.length w Lo Lw) : FarS n T x0 m N (j + 1) 0 w Lo Lw := by
  have same : ∀ x, Met T N (j + 1) 0 x ↔ Met T N j T.length x := fun x => by
    constructor
    · rintro ⟨i, t, h1, h2, h3, h4⟩; exact ⟨i, t, h1, h2, by omega, h4⟩
    · rintro ⟨i, t, h1, h2, h3, h4⟩; exact ⟨i, t, h1, h2, by omega, h4⟩
  exact ⟨fun x hx v => by rw [h.out x hx, same], fun x hx => by rw [h.wait x hx, same], h.ko, h.kw⟩
theorem FarS.wave {m : Nat} {N : List (List Int)} {Lo Lw : List R3} (hT : PmS n T) (h0 : x0.length = n) (hN : Wave n T x0 m N) (h : FarS n T x0 m N N.length 0 N.length Lo Lw) : FarO n T x0 (m + 1) Lo Lw := by
  have all : ∀ x, Dist T x0 x (m + 1) → Met T N N.length 0 x := fun x hd => by
    obtain ⟨y, s, hs, hy, e⟩ := hd.predR
    obtain ⟨i, hi, ei⟩ := mem_getD (d := []) ((hN.mem y).2 hy)
    exact ⟨i, s, hi, hs, .inl hi, by rw [ei]; exact e⟩
  refine ⟨fun x hx v => ?_, fun x hx => ?_, h.ko, h.kw⟩
  · rw [h.out x hx]
    constructor
    · rintro (⟨d, h1, h2, h3⟩ | ⟨h1, h2, _⟩)
      · exact ⟨d, by omega, h2, h3⟩
      · exact ⟨m + 1, Nat.le_refl _, h1, h2⟩
    · rintro ⟨d, h1, h2, h3⟩
      by_cases e : d = m + 1
      · subst e; exact .inr ⟨h2, h3, all x h3⟩
      · exact .inl ⟨d, by omega, h2, h3⟩
  · rw [h.wait x hx, List.drop_length]
    constructor
    · rintro (h1 | ⟨h1, _⟩)
      · cases h1
      · exact h1
    · intro hd; exact .inr ⟨hd, all x hd⟩
theorem FarO.fin {m : Nat} {Lo : List R3} (hT : PmS n T) (h0 : x0.length = n) (h : FarO n T x0 m Lo []) : FarL n T x0 Lo := by
  have no : ∀ k x, ¬ Dist T x0 x (m + k) := fun k => by
    induction k with
    | zero => intro x hd; exact (h.wait x (hd.lenT hT h0)).2 hd rfl
    | succ k ih =>
      intro x hd
      obtain ⟨y, s, hs, hy, e⟩ := Dist.predR (n := m + k) hd
      exact ih y hy
  refine ⟨fun x hx v => ?_, h.ko⟩
  rw [h.out x hx]
  constructor
  · rintro ⟨d, _, h2, h3⟩; exact ⟨d, h2, h3⟩
  · rintro ⟨d, h2, h3⟩
    rcases Nat.lt_or_ge d m with h1 | h1
    · exact ⟨d, by omega, h2, h3⟩
    · have := no (d - m) x
      rw [show m + (d - m) = d by omega] at this
      exact absurd h3 this
end
def unsR (S : List Nat) (L : List R3) : Nat := (L.filter fun q => !S.contains q.2.1).length
theorem unsR_lt {S : List Nat} {q : R3} : ∀ {L : List R3}, q ∈ L → q.2.1 ∉ S → unsR (S ++ [q.2.1]) L < unsR S L := fun {L} hq hs => by
  unfold unsR
  have sub : ∀ L : List R3, (L.filter fun r => !(S ++ [q.2.1]).contains r.2.1).length ≤ (L.filter fun r => !S.contains r.2.1).length := fun L => by
    induction L with
    | nil => exact Nat.le_refl _
    | cons r L ih =>
      simp only [List.filter_cons]
      by_cases h1 : S.contains r.2.1 = true
      · have h2 : (S ++ [q.2.1]).contains r.2.1 = true := by simp at h1 ⊢; exact .inl h1
        simp only [h1, h2, Bool.not_true, Bool.false_eq_true, if_false]; exact ih
      · have h1' : S.contains r.2.1 = false := by simpa using h1
        simp only [h1', Bool.not_false, if_true, List.length_cons]
        split
        · simp only [List.length_cons]; omega
        · omega
  induction L with
  | nil => cases hq
  | cons r L ih =>
    simp only [List.filter_cons]
    rcases List.mem_cons.1 hq with rfl | hq
    · have h1 : S.contains q.2.1 = false := by simpa using hs
      have h2 : (S ++ [q.2.1]).contains q.2.1 = true := by simp
      simp only [h1, h2, Bool.not_true, Bool.not_false, Bool.false_eq_true, if_false, if_true, List.length_cons]
      have := sub L
      omega
    · have ih := ih hq
      by_cases h1 : S.contains r.2.1 = true
      · have h2 : (S ++ [q.2.1]).contains r.2.1 = true := by simp at h1 ⊢; exact .inl h1
        simp only [h1, h2, Bool.not_true, Bool.false_eq_true, if_false]; exact ih
      · have h1' : S.contains r.2.1 = false := by simpa using h1
        simp only [h1', Bool.not_false, if_true, List.length_cons]
        split
        · simp only [List.length_cons]; omega
        · omega
end Go.AM

set_option linter.unusedSimpArgs false
set_option linter.unusedVariables false
namespace Go.AM
open Go.RowKit
theorem ifc {a b : Prop} [Decidable a] [Decidable b] {x y u v : Nat} (h : a ↔ b) (h1 : x = u) (h2 : y = v) : (if a then x else y) = if b then u else v := by
  subst h1; subst h2
  by_cases e : a
  · rw [if_pos e, if_pos (h.1 e)]
  · rw [if_neg e, if_neg (fun g => e (h.2 g))]
def sm (f : Nat → Nat) : Nat → Nat
  | 0 => 0
  | n + 1 => sm f n + f n
theorem sm_congr {f g : Nat → Nat} : ∀ {n : Nat}, (∀ i, i < n → f i = g i) → sm f n = sm g n
  | 0, _ => rfl
  | n + 1, h => by simp only [sm]; rw [sm_congr (n := n) fun i hi => h i (by omega), h n (by omega)]
theorem sm_zero : ∀ {n : Nat}, sm (fun _ => 0) n = 0
  | 0 => rfl
  | n + 1 => by simp only [sm, sm_zero (n := n)]
theorem sm_one {f g : Nat → Nat} {s d : Nat} : ∀ {n : Nat}, s < n → (∀ i, i < n → i ≠ s → g i = f i) → g s = f s + d → sm g n = sm f n + d
  | n + 1, hs, h1, h2 => by
    simp only [sm]
    by_cases e : s = n
    · subst e
      rw [sm_congr (n := s) fun i hi => h1 i (by omega) (by omega), h2]; omega
    · rw [sm_one (n := n) (by omega) (fun i hi => h1 i (by omega)) h2, h1 n (by omega) (Ne.symm e)]; omega
theorem sumL_snoc {α : Type} {f : α → Nat} {x : α} : ∀ {l : List α}, sumL f (l ++ [x]) = sumL f l + f x
  | [] => by simp [sumL]
  | y :: l => by simp only [List.cons_append, sumL, sumL_snoc (l := l)]; omega
theorem sumL_sm {f : List Int → Nat} {T : List (List Int)} : ∀ {n : Nat}, n ≤ T.length → sumL f (T.take n) = sm (fun t => f (T.getD t [])) n
  | 0, _ => rfl
  | n + 1, h => by
    have h' : n < T.length := by omega
    rw [List.take_succ_eq_append_getElem h', sumL_snoc, sumL_sm (n := n) (by omega), sm, List.getD_eq_getElem?_getD, List.getElem?_eq_getElem h']
    rfl
theorem cntW_succ {T : List (List Int)} {k : Nat} {y r : List Int} : cntW T (k + 1) y r = sm (fun t => cntW T k (aft (T.getD t []) y) r) T.length := by
  have := sumL_sm (f := fun s => cntW T k (aft s y) r) (T := T) (n := T.length) (Nat.le_refl _)
  rw [List.take_length] at this
  exact this
theorem cntW_rev {n k : Nat} {S : List (List Int)} (h : PmS n S) {r x : List Int} (hr : r.length = n) (hx : x.length = n) : cntW (S.map inv) k x r = cntW S k r x := by
  rw [← wordsL_len (S := S)]
  have := cnt_of (S := S.map inv) (n := k) (r := x) (x := r) (G := (wordsL S k r x).map List.reverse) ?_ fun w => ?_
  · rw [← this, List.length_map]
  · rw [List.Nodup, List.pairwise_map]
    exact List.Pairwise.imp (fun hne e => hne (List.reverse_inj.1 e)) wordsL_nodup
  · rw [List.mem_map]
    constructor
    · rintro ⟨v, hv, rfl⟩
      obtain ⟨h1, h2⟩ := mem_wordsL.1 hv
      exact ⟨h1.rev h hr, by rw [List.length_reverse]; exact h2⟩
    · rintro ⟨h1, h2⟩
      refine ⟨w.reverse, mem_wordsL.2 ⟨?_, by rw [List.length_reverse]; exact h2⟩, List.reverse_reverse w⟩
      have := h1.rev h.inv hx
      rw [map_inv_inv h] at this
      exact this
theorem cntW_pos {S : List (List Int)} {k : Nat} {r x : List Int} (h : 0 < cntW S k r x) : ∃ w, Wd S r x w ∧ w.length = k := by
  refine Classical.byContradiction fun hn => ?_
  have : cntW S k r x = 0 := cntW_zero.2 fun l h1 h2 => hn ⟨l, h1, h2⟩
  omega
theorem cntW_pos_of {S : List (List Int)} {k : Nat} {r x : List Int} {w : List Nat} (h1 : Wd S r x w) (h2 : w.length = k) : 0 < cntW S k r x := by
  have : cntW S k r x ≠ 0 := fun h => cntW_zero.1 h w h1 h2
  omega
def cK (S : List (List Int)) (r : List Int) (k : Nat) (y : List Int) : Nat := cntW (S.map inv) k y r
structure LvO (n : Nat) (S : List (List Int)) (r x : List Int) (D k : Nat) (L : List R3) : Prop where
  ko : Keys6 n L
  val : ∀ y : List Int, y.length = n → ∀ v, getR L (pad y) = some v ↔ (Dist S y x (D - k) ∧ 0 < cK S r k y ∧ v = (min mostN (cK S r k y) : Nat))
def cS (S : List (List Int)) (r : List Int) (k : Nat) (sn : List Int → Bool) (y0 : List Int) (s : Nat) (z : List Int) : Nat :=
  sm (fun t => if sn (aft ((S.map inv).getD t []) z) = true ∨ (aft ((S.map inv).getD t []) z = y0 ∧ t < s) then cK S r k (aft ((S.map inv).getD t []) z) else 0) (S.map inv).length
structure LvS (n : Nat) (S : List (List Int)) (r x : List Int) (D k : Nat) (sn : List Int → Bool) (y0 : List Int) (s : Nat) (L : List R3) : Prop where
  ko : Keys6 n L
  val : ∀ z : List Int, z.length = n → ∀ v, getR L (pad z) = some v ↔ (Dist S z x (D - (k + 1)) ∧ 0 < cS S r k sn y0 s z ∧ v = (min mostN (cS S r k sn y0 s z) : Nat))
section
variable {n : Nat} {S : List (List Int)} {r x : List Int} {D k : Nat}
theorem LvO.init (hr : r.length = n) (hd : Dist S r x D) {c : Nat} : LvO n S r x D 0 [(pad r, c, 1)] := by
  refine ⟨fun q hq => ?_, fun y hy v => ?_⟩
  · rw [List.mem_singleton] at hq; subst hq; exact ⟨r, hr, rfl⟩
  · simp only [getR]
    by_cases e : r = y
    · subst e
      have c1 : cK S r 0 r = 1 := by simp [cK, cntW]
      rw [if_pos rfl, c1]
      constructor
      · intro h
        have : v = 1 := by simpa using h.symm
        exact ⟨hd, by omega, by rw [this]; rfl⟩
      · rintro ⟨_, _, rfl⟩; rfl
    · have c0 : cK S r 0 y = 0 := by
        simp only [cK, cntW]; rw [if_neg (Ne.symm e)]
      rw [if_neg (fun h => e (pad_inj (by omega) h)), c0]
      constructor
      · intro h; cases h
      · rintro ⟨_, h, _⟩; omega
theorem cS_start {y0 z : List Int} : cS S r k (fun _ => false) y0 0 z = 0 := by
  unfold cS
  rw [sm_congr (g := fun _ => 0) fun t _ => ?_, sm_zero]
  rw [if_neg]
  rintro (h | ⟨_, h⟩)
  · cases h
  · omega
theorem LvS.start {y0 : List Int} : LvS n S r x D k (fun _ => false) y0 0 [] := by
  refine ⟨fun q hq => (by cases hq), fun z hz v => ?_⟩
  rw [cS_start]
  constructor
  · intro h; cases h
  · rintro ⟨_, h, _⟩; omega
theorem bk_iff (hS : PmS n S) {y0 z : List Int} (hy : y0.length = n) (hz : z.length = n) {t : Nat} (ht : t < S.length) : aft ((S.map inv).getD t []) z = y0 ↔ z = aft (S.getD t []) y0 := by
  rw [getD_map ht]
  constructor
  · rintro rfl; exact (aft_back (hS.at ht) hz).symm
  · rintro rfl; exact back_aft (hS.at ht) hy
theorem LvS.old (hS : PmS n S) {sn : List Int → Bool} {y0 : List Int} (hy : y0.length = n) {s : Nat} (hs : s < S.length) {L : List R3} (h : LvS n S r x D k sn y0 s L) (hd : ¬ Dist S (aft (S.getD s []) y0) x (D - (k + 1))) : LvS n S r x D k sn y0 (s + 1) L := by
  refine ⟨h.ko, fun z hz v => ?_⟩
  rw [h.val z hz]
  by_cases e : z = aft (S.getD s []) y0
  · subst e
    constructor
    · rintro ⟨h1, _⟩; exact absurd h1 hd
    · rintro ⟨h1, _⟩; exact absurd h1 hd
  · have : cS S r k sn y0 (s + 1) z = cS S r k sn y0 s z := by
      unfold cS
      refine sm_congr fun t ht => ?_
      rw [List.length_map] at ht
      by_cases et : t = s
      · subst et
        have hne : ¬ aft ((S.map inv).getD t []) z = y0 := fun h => e ((bk_iff hS hy hz ht).1 h)
        exact ifc (or_congr Iff.rfl ⟨fun h => absurd h.1 hne, fun h => absurd h.1 hne⟩) rfl rfl
      · have : t < s + 1 ↔ t < s := by omega
        exact ifc (or_congr Iff.rfl (and_congr Iff.rfl this)) rfl rfl
    rw [this]
theorem LvS.new (hS : PmS n S) {sn : List Int → Bool} {y0 : List Int} (hy : y0.length = n) (hsn : sn y0 = false) {s : Nat} (hs : s < S.length) {L L' : List R3} (h : LvS n S r x D k sn y0 s L) (hd : Dist S (aft (S.getD s []) y0) x (D - (k + 1)))
    (hc : 0 < cK S r k y0) {m : Nat} (hm : (getR L (pad (aft (S.getD s []) y0))).getD 0 = m) (ko : Keys6 n L') (hL : ∀ E, getR L' E = if E = pad (aft (S.getD s []) y0) then some ((min mostN (m + min mostN (cK S r k y0)) : Nat) : Int) else getR L E) : LvS n S r x D k sn y0 (s + 1) L' := by
  have lz : (aft (S.getD s []) y0).length = n := by rw [aft_len]; exact (hS.at hs).len
  refine ⟨ko, fun z hz v => ?_⟩
  rw [hL]
  by_cases e : z = aft (S.getD s []) y0
  · subst e
    have st : cS S r k sn y0 (s + 1) (aft (S.getD s []) y0) = cS S r k sn y0 s (aft (S.getD s []) y0) + cK S r k y0 := by
      unfold cS
      refine sm_one (s := s) (by rw [List.length_map]; exact hs) (fun t ht et => ?_) ?_
      · have : t < s + 1 ↔ t < s := by omega
        exact ifc (or_congr Iff.rfl (and_congr Iff.rfl this)) rfl rfl
      · have ey : aft ((S.map inv).getD s []) (aft (S.getD s []) y0) = y0 := (bk_iff hS hy hz hs).2 rfl
        rw [ey, hsn]
        simp
    have em : min mostN (m + min mostN (cK S r k y0)) = min mostN (cS S r k sn y0 (s + 1) (aft (S.getD s []) y0)) := by
      have hm2 : m = min mostN (cS S r k sn y0 s (aft (S.getD s []) y0)) := by
        cases hg : getR L (pad (aft (S.getD s []) y0)) with
        | some v' =>
          obtain ⟨_, _, e3⟩ := (h.val _ lz v').1 hg
          rw [hg] at hm
          simp only [Option.getD_some] at hm
          omega
        | none =>
          rw [hg] at hm
          simp only [Option.getD_none] at hm
          have : cS S r k sn y0 s (aft (S.getD s []) y0) = 0 := by
            refine Classical.byContradiction fun hn => ?_
            have := (h.val _ lz _).2 ⟨hd, by omega, rfl⟩
            rw [hg] at this; cases this
          omega
      rw [st, hm2]; omega
    rw [if_pos rfl, em, st]
    constructor
    · intro h1
      have : v = (min mostN (cS S r k sn y0 s (aft (S.getD s []) y0) + cK S r k y0) : Nat) := by simpa using h1.symm
      exact ⟨hd, by omega, this⟩
    · rintro ⟨_, _, rfl⟩; rfl
  · rw [if_neg (fun h => e (pad_inj (by omega) h)), h.val z hz]
    have : cS S r k sn y0 (s + 1) z = cS S r k sn y0 s z := by
      unfold cS
      refine sm_congr fun t ht => ?_
      rw [List.length_map] at ht
      by_cases et : t = s
      · subst et
        have hne : ¬ aft ((S.map inv).getD t []) z = y0 := fun h => e ((bk_iff hS hy hz ht).1 h)
        exact ifc (or_congr Iff.rfl ⟨fun h => absurd h.1 hne, fun h => absurd h.1 hne⟩) rfl rfl
      · have : t < s + 1 ↔ t < s := by omega
        exact ifc (or_congr Iff.rfl (and_congr Iff.rfl this)) rfl rfl
    rw [this]
theorem LvS.row {sn sn' : List Int → Bool} {y0 y1 : List Int} (hy : y0.length = n) (hS : PmS n S) {L : List R3} (h : LvS n S r x D k sn y0 S.length L) (hsn : ∀ y : List Int, y.length = n → sn' y = (sn y || decide (y = y0))) : LvS n S r x D k sn' y1 0 L := by
  refine ⟨h.ko, fun z hz v => ?_⟩
  rw [h.val z hz]
  have : cS S r k sn' y1 0 z = cS S r k sn y0 S.length z := by
    unfold cS
    refine sm_congr fun t ht => ?_
    rw [List.length_map] at ht
    have hl : (aft ((S.map inv).getD t []) z).length = n := by rw [aft_len]; exact (hS.inv.at (by rw [List.length_map]; exact ht)).len
    rw [hsn _ hl]
    refine ifc ?_ rfl rfl
    rw [Bool.or_eq_true, decide_eq_true_iff]
    constructor
    · rintro ((h | h) | ⟨_, h⟩)
      · exact .inl h
      · exact .inr ⟨h, ht⟩
      · omega
    · rintro (h | ⟨h, _⟩)
      · exact .inl (.inl h)
      · exact .inl (.inr h)
  rw [this]
theorem LvS.look {sn : List Int → Bool} {y0 y1 : List Int} {L : List R3} (h : LvS n S r x D k sn y0 0 L) : LvS n S r x D k sn y1 0 L := by
  refine ⟨h.ko, fun z hz v => ?_⟩
  rw [h.val z hz]
  have : cS S r k sn y1 0 z = cS S r k sn y0 0 z := by
    unfold cS
    exact sm_congr fun t ht => by simp
  rw [this]
theorem LvS.fin (hS : PmS n S) (hr : r.length = n) (hd : Dist S r x D) (hk : k < D) {sn : List Int → Bool} {y0 : List Int} {L L' : List R3} (hO : LvO n S r x D k L) (h : LvS n S r x D k sn y0 0 L') (hsn : ∀ y : List Int, y.length = n → getR L (pad y) ≠ none → sn y = true) : LvO n S r x D (k + 1) L' := by
  refine ⟨h.ko, fun z hz v => ?_⟩
  rw [h.val z hz]
  refine and_congr_right fun hdz => ?_
  have : cS S r k sn y0 0 z = cK S r (k + 1) z := by
    unfold cS
    rw [cK, cntW_succ]
    refine sm_congr fun t ht => ?_
    rw [List.length_map] at ht
    obtain ⟨y, ey⟩ : ∃ y, aft ((S.map inv).getD t []) z = y := ⟨_, rfl⟩
    rw [ey]
    have ly : y.length = n := by rw [← ey, aft_len]; exact (hS.inv.at (by rw [List.length_map]; exact ht)).len
    have ez := (bk_iff hS ly hz ht).1 ey
    show (if sn y = true ∨ (y = y0 ∧ t < 0) then cK S r k y else 0) = cK S r k y
    by_cases hc : 0 < cK S r k y
    · obtain ⟨w, hw1, hw2⟩ : ∃ w, Wd S r y w ∧ w.length = k := by
        have h1 := hc
        unfold cK at h1
        rw [cntW_rev hS hr ly] at h1
        exact cntW_pos h1
      subst ez
      obtain ⟨m, hm, hle⟩ := Dist.step ht hdz
      obtain ⟨u, hu1, hu2⟩ := hm.1
      have h2 := hd.2 _ (hw1.append hu1)
      rw [List.length_append] at h2
      have hmk : m = D - k := by omega
      subst hmk
      have := hsn y ly (by rw [(hO.val y ly _).2 ⟨hm, hc, rfl⟩]; exact fun h => by cases h)
      rw [if_pos (.inl this)]
    · have : cK S r k y = 0 := by omega
      rw [this]; split <;> rfl
  rw [this]
theorem LvO.fin (hS : PmS n S) (hr : r.length = n) (hx : x.length = n) (hd : Dist S r x D) {L : List R3} (h : LvO n S r x D D L) : getR L (pad x) = some ((min mostN (cntW S D r x) : Nat) : Int) := by
  have e : cK S r D x = cntW S D r x := cntW_rev hS hr hx
  have hp : 0 < cntW S D r x := by
    obtain ⟨⟨w, h1, h2⟩, _⟩ := hd
    exact cntW_pos_of h1 h2
  have := (h.val x hx ((min mostN (cntW S D r x) : Nat) : Int)).2 ⟨by rw [Nat.sub_self]; exact Dist.zero, by rw [e]; exact hp, by rw [e]⟩
  exact this
end
end Go.AM

set_option linter.unusedSimpArgs false
set_option linter.unusedVariables false
namespace Go.AM
open Go.RowKit
theorem wI_cons {s : Nat} {w : List Nat} : wI (s :: w) = (s : Int) :: wI w := rfl
theorem IsBest.cons {S : List (List Int)} {a x : List Int} {m s : Nat} {w : List Nat} (hd : Dist S a x (m + 1)) (hs : s < S.length) (hmin : ∀ t, t < s → ¬ Dist S (aft (S.getD t []) a) x m) (hb : IsBest S m (aft (S.getD s []) a) x w) : IsBest S (m + 1) a x (s :: w) := by
  obtain ⟨b1, b2, b3⟩ := hb
  refine ⟨Wd.cons.2 ⟨hs, b1⟩, by simp [b2], fun v hv hl => ?_⟩
  match v, hl with
  | t :: v, hl =>
    obtain ⟨ht, hv2⟩ := Wd.cons.1 hv
    have lv : v.length = m := by simpa using hl
    obtain ⟨d, hdd, hle⟩ := Dist.of hv2
    obtain ⟨d2, hd2, hle2⟩ := Dist.step ht hdd
    have e2 := hd2.uniq hd
    have e3 : d = m := by omega
    subst e3
    have hts : ¬ t < s := fun h => hmin t h hdd
    rw [wI_cons, wI_cons, frst]
    by_cases e : t = s
    · subst e
      rw [if_pos rfl]
      exact b3 v hv2 lv
    · rw [if_neg (by omega)]
      exact decide_eq_false (by omega)
theorem IsBest.nil {S : List (List Int)} {x : List Int} : IsBest S 0 x x [] := ⟨.nil, rfl, fun m _ h => by
  rw [List.length_eq_zero_iff] at h
  subst h; rfl⟩
end Go.AM

set_option linter.unusedSimpArgs false
set_option linter.unusedVariables false
namespace Go.AM
open Go.RowKit
structure PQO (n : Nat) (S : List (List Int)) (q : Nat × Nat) (M : List Int) (Q : List (Nat × Nat)) : Prop where
  g : Good n S q M
  qin : ∀ x ∈ Q, x.1 < n ∧ x.2 < n ∧ Go.AM.mk M x.1 x.2
  cls : ∀ i k, i < n → k < n → Go.AM.mk M i k → (i, k) ∉ Q → ∀ t, t < S.length → Go.AM.mk M (sg (inv (S.getD t [])) i) (sg (inv (S.getD t [])) k)
structure PQI (n : Nat) (S : List (List Int)) (q : Nat × Nat) (M : List Int) (Q : List (Nat × Nat)) (p : Nat × Nat) (t : Nat) : Prop where
  g : Good n S q M
  qin : ∀ x ∈ Q, x.1 < n ∧ x.2 < n ∧ Go.AM.mk M x.1 x.2
  pin : p.1 < n ∧ p.2 < n ∧ Go.AM.mk M p.1 p.2
  cls : ∀ i k, i < n → k < n → Go.AM.mk M i k → (i, k) ∉ Q → (i, k) ≠ p → ∀ t, t < S.length → Go.AM.mk M (sg (inv (S.getD t [])) i) (sg (inv (S.getD t [])) k)
  cur : ∀ u, u < t → Go.AM.mk M (sg (inv (S.getD u [])) p.1) (sg (inv (S.getD u [])) p.2)
section
variable {n : Nat} {S : List (List Int)} {q : Nat × Nat} {M : List Int} {Q : List (Nat × Nat)} {p : Nat × Nat} {t : Nat}
theorem rep_getD {k : Nat} : (List.replicate 36 (0 : Int)).getD k 0 = 0 := by
  rw [List.getD_eq_getElem?_getD]
  by_cases h : k < 36
  · rw [List.getElem?_replicate_of_lt h]; rfl
  · rw [List.getElem?_eq_none (by simp; omega)]; rfl
theorem PQO.init (h6 : n ≤ 6) (hq : q.1 < n ∧ q.2 < n) : PQO n S q ((List.replicate 36 (0 : Int)).set (6 * q.1 + q.2) 1) [q] := by
  have l1 : 6 * q.1 + q.2 < (List.replicate 36 (0 : Int)).length := by rw [List.length_replicate]; omega
  have only : ∀ i k, i < 6 → k < 6 → Go.AM.mk ((List.replicate 36 (0 : Int)).set (6 * q.1 + q.2) 1) i k → (i, k) = q := fun i k hi hk h => by
    unfold Go.AM.mk at h
    rw [set_getD l1] at h
    split at h
    · have : i = q.1 ∧ k = q.2 := by omega
      exact Prod.ext this.1 this.2
    · rw [rep_getD] at h; cases h
  have base : Go.AM.mk ((List.replicate 36 (0 : Int)).set (6 * q.1 + q.2) 1) q.1 q.2 := by
    unfold Go.AM.mk; rw [set_getD l1, if_pos rfl]
  refine ⟨⟨by simp, fun x hx => ?_, fun i k hi hk h => ?_, base⟩, fun x hx => ?_, fun i k hi hk h hn => ?_⟩
  · rcases List.mem_or_eq_of_mem_set hx with hx | rfl
    · exact .inl (List.eq_of_mem_replicate hx)
    · exact .inr rfl
  · rw [only i k hi hk h]; exact .base
  · rw [List.mem_singleton] at hx; subst hx; exact ⟨hq.1, hq.2, base⟩
  · exact absurd (by rw [only i k (by omega) (by omega) h]; simp) hn
theorem PQO.pop (h : PQO n S q M (p :: Q)) : PQI n S q M Q p 0 :=
  ⟨h.g, fun x hx => h.qin x (by simp [hx]), h.qin p (by simp), fun i k hi hk hm hn hp => h.cls i k hi hk hm (fun h => by
    rcases List.mem_cons.1 h with h | h
    · exact hp h
    · exact hn h), fun u hu => by omega⟩
theorem PQI.same (h : PQI n S q M Q p t) (hm : Go.AM.mk M (sg (inv (S.getD t [])) p.1) (sg (inv (S.getD t [])) p.2)) : PQI n S q M Q p (t + 1) :=
  ⟨h.g, h.qin, h.pin, h.cls, fun u hu => by
    by_cases e : u = t
    · subst e; exact hm
    · exact h.cur u (by omega)⟩
theorem PQI.new (hS : PmS n S) (h6 : n ≤ 6) (h : PQI n S q M Q p t) (ht : t < S.length) {z : Nat × Nat} (hz : z = (sg (inv (S.getD t [])) p.1, sg (inv (S.getD t [])) p.2)) (hn : ¬ Go.AM.mk M z.1 z.2) : PQI n S q (M.set (6 * z.1 + z.2) 1) (Q ++ [z]) p (t + 1) := by
  have ps := hS.at ht
  have hm : S.getD t [] ∈ S := getD_mem ht
  have z1 : z.1 < n := by rw [hz]; exact (inv_pm ps).sg_lt h.pin.1
  have z2 : z.2 < n := by rw [hz]; exact (inv_pm ps).sg_lt h.pin.2.1
  have l1 : 6 * z.1 + z.2 < M.length := by rw [h.g.len]; omega
  have up : ∀ {i k}, Go.AM.mk M i k → Go.AM.mk (M.set (6 * z.1 + z.2) 1) i k := fun {i k} hh => by
    unfold Go.AM.mk at hh ⊢
    rw [set_getD l1]; split
    · rfl
    · exact hh
  have dn : ∀ {i k}, i < 6 → k < 6 → Go.AM.mk (M.set (6 * z.1 + z.2) 1) i k → Go.AM.mk M i k ∨ (i, k) = z := fun {i k} hi hk hh => by
    unfold Go.AM.mk at hh
    rw [set_getD l1] at hh
    split at hh
    · have : i = z.1 ∧ k = z.2 := by omega
      exact .inr (Prod.ext this.1 this.2)
    · exact .inl hh
  have rz : Rch n S q z := by
    have hp := h.g.snd p.1 p.2 (by have := h.pin.1; omega) (by have := h.pin.2.1; omega) h.pin.2.2
    have : Rch n S q (z.1, z.2) := Rch.step hm z1 z2 (by
      rw [hz]
      simp only
      rw [ps.sg_inv' h.pin.1, ps.sg_inv' h.pin.2.1]
      exact hp)
    exact this
  have mz : Go.AM.mk (M.set (6 * z.1 + z.2) 1) z.1 z.2 := by
    unfold Go.AM.mk; rw [set_getD l1, if_pos rfl]
  refine ⟨⟨by simp [h.g.len], fun x hx => ?_, fun i k hi hk hh => ?_, up h.g.base⟩, fun x hx => ?_, ⟨h.pin.1, h.pin.2.1, up h.pin.2.2⟩, fun i k hi hk hh hq hp u hu => ?_, fun u hu => ?_⟩
  · rcases List.mem_or_eq_of_mem_set hx with hx | rfl
    · exact h.g.val x hx
    · exact .inr rfl
  · rcases dn hi hk hh with hh | e
    · exact h.g.snd i k hi hk hh
    · rw [e]; exact rz
  · rcases List.mem_append.1 hx with hx | hx
    · have := h.qin x hx; exact ⟨this.1, this.2.1, up this.2.2⟩
    · rw [List.mem_singleton] at hx; subst hx; exact ⟨z1, z2, mz⟩
  · rcases dn (by omega) (by omega) hh with hh | e
    · exact up (h.cls i k hi hk hh (fun h => hq (List.mem_append_left _ h)) hp u hu)
    · exact absurd (by rw [e]; simp) hq
  · by_cases e : u = t
    · subst e
      have := mz
      rw [hz] at this ⊢
      exact this
    · exact up (h.cur u (by omega))
theorem PQI.fin (h : PQI n S q M Q p S.length) : PQO n S q M Q :=
  ⟨h.g, h.qin, fun i k hi hk hm hn u hu => by
    by_cases e : (i, k) = p
    · have := h.cur u hu
      rw [← e] at this
      exact this
    · exact h.cls i k hi hk hm hn e u hu⟩
theorem PQO.fin (hS : PmS n S) (h6 : n ≤ 6) (hq : q.1 < n ∧ q.2 < n) (h : PQO n S q M []) {i k : Nat} (hi : i < n) (hk : k < n) : Go.AM.mk M i k ↔ Rch n S q (i, k) := by
  refine ⟨h.g.snd i k (by omega) (by omega), fun hr => ?_⟩
  have key : ∀ x : Nat × Nat, Rch n S q x → Go.AM.mk M x.1 x.2 := fun x hx => by
    induction hx with
    | base => exact h.g.base
    | @step i k s hs hi hk hr ih =>
      obtain ⟨t, ht, e⟩ := mem_getD (d := []) hs
      have ps := hS s hs
      have := h.cls (sg s i) (sg s k) (ps.sg_lt hi) (ps.sg_lt hk) ih (by simp) t ht
      rw [e, ps.sg_inv hi, ps.sg_inv hk] at this
      exact this
  exact key (i, k) hr
theorem count_le {M : List Int} (h : M.length = 36) : M.count 1 ≤ 36 := by
  rw [← h]; exact List.count_le_length
theorem count_new {M : List Int} {j : Nat} (h : j < M.length) (hn : M.getD j 0 ≠ 1) : (M.set j 1).count 1 = M.count 1 + 1 := by
  rw [count_set1 h, if_neg hn]
end
end Go.AM
