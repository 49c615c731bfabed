/-
  HOOKS OF THE EVALUATOR: contracts as answers to closed calls. Own work.
  THE TABLE OF THE EVALUATOR for the stroke layer, with its proofs. Own work.
  CLOSED CALLS found by the evaluator in the kernel. Own work (printed by a program of this claim).
  CLOSED CALLS found by the evaluator in the kernel. Own work (printed by a program of this claim).
  CLOSED CALLS found by the evaluator in the kernel. Own work (printed by a program of this claim).
  WORKS: the closed calls as hooks, and the whole of it. Own work (printed by a program of this claim).
  LAWS, PART 1: StrokeBenches. Own work.
-/
import Derived.Test.YtjhfhdmdilmplaaKa4

/- HOOKS OF THE EVALUATOR: contracts as answers to closed calls. Own work. -/
set_option linter.unusedSimpArgs false
set_option linter.unusedVariables false
namespace Go.AM
open Go.RowKit Go.Proofs

def dI : AV → Option Int
  | .v (.int .i64 n) => some n
  | _ => none
theorem dI_eq {x : AV} {n : Int} (h : dI x = some n) : x = I n := by
  unfold dI at h
  split at h
  · cases h; rfl
  · cases h
def dIs : List AV → Option (List Int)
  | [] => some []
  | a :: zs => match dI a with
    | some n => (match dIs zs with
      | some l => some (n :: l)
      | none => none)
    | none => none
theorem dIs_eq : ∀ {cs : List AV} {l : List Int}, dIs cs = some l → cs = l.map fun n => I n
  | [], l, h => by cases h; rfl
  | a :: zs, l, h => by
    simp only [dIs] at h
    split at h
    · rename_i n hn
      split at h
      · rename_i l' hl; cases h; rw [dI_eq hn, dIs_eq hl]; rfl
      · cases h
    · cases h
def dL : AV → Option (Bool × List Int)
  | .sl f n cs => match dIs cs with
    | some l => if Nat.beq l.length n && Nat.ble n 1000 then some (f, l) else none
    | none => none
  | _ => none
theorem dL_eq {x : AV} {f l} (h : dL x = some (f, l)) : x = Ls f l ∧ l.length ≤ 1000 := by
  unfold dL at h
  split at h
  · split at h
    · rename_i l' hl
      split at h
      · rename_i hc
        simp only [Bool.and_eq_true] at hc
        cases h
        have e := Nat.eq_of_beq_eq_true hc.1
        have e2 := Nat.le_of_ble_eq_true hc.2
        subst e
        rw [dIs_eq hl]; exact ⟨rfl, e2⟩
      · cases h
    · cases h
  · cases h
def dPs : List AV → Option (List (Int × Int))
  | [] => some []
  | [_] => none
  | a :: b :: zs => match dI a, dI b with
    | some m, some n => (match dPs zs with
      | some l => some ((m, n) :: l)
      | none => none)
    | _, _ => none
theorem dPs_eq : ∀ {cs : List AV} {l : List (Int × Int)}, dPs cs = some l → cs = flat2 l
  | [], l, h => by cases h; rfl
  | [_], l, h => by cases h
  | a :: b :: zs, l, h => by
    simp only [dPs] at h
    split at h
    · rename_i m n hm hn
      split at h
      · rename_i l' hl; cases h; rw [dI_eq hm, dI_eq hn, dPs_eq hl]; rfl
      · cases h
    · cases h
def dP : AV → Option (Bool × List (Int × Int))
  | .sl f n cs => match dPs cs with
    | some l => if Nat.beq l.length n && Nat.ble n 1000 then some (f, l) else none
    | none => none
  | _ => none
theorem dP_eq {x : AV} {f l} (h : dP x = some (f, l)) : x = Ps f l ∧ l.length ≤ 1000 := by
  unfold dP at h
  split at h
  · split at h
    · rename_i l' hl
      split at h
      · rename_i hc
        simp only [Bool.and_eq_true] at hc
        cases h
        have e := Nat.eq_of_beq_eq_true hc.1
        have e2 := Nat.le_of_ble_eq_true hc.2
        subst e
        rw [dPs_eq hl]; exact ⟨rfl, e2⟩
      · cases h
    · cases h
  · cases h
def dB : AV → Option (Bool × Bch)
  | .agg [x, y] => match dI x, dP y with
    | some n, some (f, c) => some (f, ⟨n, c⟩)
    | _, _ => none
  | _ => none
theorem dB_eq {x : AV} {f b} (h : dB x = some (f, b)) : x = Bn f b ∧ b.c.length ≤ 1000 := by
  unfold dB at h
  split at h
  · split at h
    · rename_i n f' c hn hp
      cases h
      rw [dI_eq hn, (dP_eq hp).1]; exact ⟨rfl, (dP_eq hp).2⟩
    · cases h
  · cases h
def smI (n : Int) : Bool := match n with
  | .ofNat m => Nat.ble m 1000000
  | .negSucc m => Nat.blt m 1000000
theorem smI_eq {n : Int} (h : smI n = true) : -1000000 ≤ n ∧ n ≤ 1000000 := by
  cases n with
  | ofNat m => have := Nat.le_of_ble_eq_true h; simp; omega
  | negSucc m => simp only [smI, Nat.blt_eq] at h; omega
def smL : List Int → Bool
  | [] => true
  | a :: l => smI a && smL l
theorem smL_eq : ∀ {l : List Int}, smL l = true → Small l
  | [], h => fun x hx => by simp at hx
  | a :: l, h => by
    simp only [smL, Bool.and_eq_true] at h
    intro x hx
    rcases List.mem_cons.1 hx with rfl | hx
    · exact smI_eq h.1
    · exact smL_eq h.2 x hx

section
variable {P : Program} {f : FuncId}
def hkI (f : FuncId) (F : Int → AV) : Hk := ⟨f, fun ys => match ys with
  | [x] => (match dI x with
    | some n => if smI n then some (F n) else none
    | none => none)
  | _ => none⟩
theorem hkI_ok {F : Int → AV} (h : ∀ n, -1000000 ≤ n ∧ n ≤ 1000000 → PureOK P f [I n] (F n)) : HkOK P (hkI f F) := by
  intro ys r hr
  simp only [hkI] at hr ⊢
  split at hr
  · split at hr
    · rename_i n hn
      split at hr
      · rename_i hs; cases hr; rw [dI_eq hn]; exact h n (smI_eq hs)
      · cases hr
    · cases hr
  · cases hr
def hkLL (f : FuncId) (F : List Int → List Int → AV) : Hk := ⟨f, fun ys => match ys with
  | [x, y] => (match dL x, dL y with
    | some (_, l), some (_, m) => some (F l m)
    | _, _ => none)
  | _ => none⟩
theorem hkLL_ok {F : List Int → List Int → AV} (h : ∀ a b l m, l.length ≤ 1000 → m.length ≤ 1000 → PureOK P f [Ls a l, Ls b m] (F l m)) : HkOK P (hkLL f F) := by
  intro ys r hr
  simp only [hkLL] at hr ⊢
  split at hr
  · split at hr
    · rename_i a l b m hl hm
      cases hr; rw [(dL_eq hl).1, (dL_eq hm).1]; exact h _ _ _ _ (dL_eq hl).2 (dL_eq hm).2
    · cases hr
  · cases hr
def hkIIL (f : FuncId) (F : Int → Int → List Int → AV) : Hk := ⟨f, fun ys => match ys with
  | [x, y, z] => (match dI x, dI y, dL z with
    | some a, some b, some (_, l) => some (F a b l)
    | _, _, _ => none)
  | _ => none⟩
theorem hkIIL_ok {F : Int → Int → List Int → AV} (h : ∀ a b g l, l.length ≤ 1000 → PureOK P f [I a, I b, Ls g l] (F a b l)) : HkOK P (hkIIL f F) := by
  intro ys r hr
  simp only [hkIIL] at hr ⊢
  split at hr
  · split at hr
    · rename_i a b g l h1 h2 h3
      cases hr; rw [dI_eq h1, dI_eq h2, (dL_eq h3).1]; exact h _ _ _ _ (dL_eq h3).2
    · cases hr
  · cases hr
def hkLI (f : FuncId) (F : List Int → Int → Option AV) : Hk := ⟨f, fun ys => match ys with
  | [x, y] => (match dL x, dI y with
    | some (_, l), some n => F l n
    | _, _ => none)
  | _ => none⟩
theorem hkLI_ok {F : List Int → Int → Option AV} (h : ∀ a l n r, l.length ≤ 1000 → F l n = some r → PureOK P f [Ls a l, I n] r) : HkOK P (hkLI f F) := by
  intro ys r hr
  simp only [hkLI] at hr ⊢
  split at hr
  · split at hr
    · rename_i a l n hl hn
      rw [(dL_eq hl).1, dI_eq hn]; exact h _ _ _ _ (dL_eq hl).2 hr
    · cases hr
  · cases hr
def hkB (f : FuncId) (F : Bch → AV) : Hk := ⟨f, fun ys => match ys with
  | [x] => (match dB x with
    | some (_, b) => some (F b)
    | _ => none)
  | _ => none⟩
theorem hkB_ok {F : Bch → AV} (h : ∀ a b, b.c.length ≤ 1000 → PureOK P f [Bn a b] (F b)) : HkOK P (hkB f F) := by
  intro ys r hr
  simp only [hkB] at hr ⊢
  split at hr
  · split at hr
    · rename_i a b hb
      cases hr; rw [(dB_eq hb).1]; exact h _ _ (dB_eq hb).2
    · cases hr
  · cases hr
def hkBL (f : FuncId) (F : Bch → List Int → AV) : Hk := ⟨f, fun ys => match ys with
  | [x, y] => (match dB x, dL y with
    | some (_, b), some (_, l) => if smL l then some (F b l) else none
    | _, _ => none)
  | _ => none⟩
theorem hkBL_ok {F : Bch → List Int → AV} (h : ∀ a g b l, b.c.length ≤ 1000 → l.length ≤ 1000 → Small l → PureOK P f [Bn a b, Ls g l] (F b l)) : HkOK P (hkBL f F) := by
  intro ys r hr
  simp only [hkBL] at hr ⊢
  split at hr
  · split at hr
    · rename_i a b g l hb hl
      split at hr
      · rename_i hs
        cases hr; rw [(dB_eq hb).1, (dL_eq hl).1]; exact h _ _ _ _ (dB_eq hb).2 (dL_eq hl).2 (smL_eq hs)
      · cases hr
    · cases hr
  · cases hr
def hkBLL (f : FuncId) (F : Bch → List Int → List Int → AV) : Hk := ⟨f, fun ys => match ys with
  | [x, y, z] => (match dB x, dL y, dL z with
    | some (_, b), some (_, l), some (_, m) => some (F b l m)
    | _, _, _ => none)
  | _ => none⟩
theorem hkBLL_ok {F : Bch → List Int → List Int → AV} (h : ∀ a g k b l m, b.c.length ≤ 1000 → l.length ≤ 1000 → m.length ≤ 1000 → PureOK P f [Bn a b, Ls g l, Ls k m] (F b l m)) : HkOK P (hkBLL f F) := by
  intro ys r hr
  simp only [hkBLL] at hr ⊢
  split at hr
  · split at hr
    · rename_i a b g l k m hb hl hm
      cases hr; rw [(dB_eq hb).1, (dL_eq hl).1, (dL_eq hm).1]; exact h _ _ _ _ _ _ (dB_eq hb).2 (dL_eq hl).2 (dL_eq hm).2
    · cases hr
  · cases hr
def hkBI (f : FuncId) (F : Bch → Int → AV) : Hk := ⟨f, fun ys => match ys with
  | [x, y] => (match dB x, dI y with
    | some (_, b), some n => if smI b.L && smI n then some (F b n) else none
    | _, _ => none)
  | _ => none⟩
theorem hkBI_ok {F : Bch → Int → AV} (h : ∀ a b n, b.c.length ≤ 1000 → (-1000000 ≤ b.L ∧ b.L ≤ 1000000) → (-1000000 ≤ n ∧ n ≤ 1000000) → PureOK P f [Bn a b, I n] (F b n)) : HkOK P (hkBI f F) := by
  intro ys r hr
  simp only [hkBI] at hr ⊢
  split at hr
  · split at hr
    · rename_i a b n hb hn
      split at hr
      · rename_i hs
        simp only [Bool.and_eq_true] at hs
        cases hr; rw [(dB_eq hb).1, dI_eq hn]; exact h _ _ _ (dB_eq hb).2 (smI_eq hs.1) (smI_eq hs.2)
      · cases hr
    · cases hr
  · cases hr
def hkBII (f : FuncId) (F : Bch → Int → Int → AV) : Hk := ⟨f, fun ys => match ys with
  | [x, y, z] => (match dB x, dI y, dI z with
    | some (_, b), some n, some m => if smI n && smI m then some (F b n m) else none
    | _, _, _ => none)
  | _ => none⟩
theorem hkBII_ok {F : Bch → Int → Int → AV} (h : ∀ a b n m, b.c.length ≤ 1000 → (-1000000 ≤ n ∧ n ≤ 1000000) → (-1000000 ≤ m ∧ m ≤ 1000000) → PureOK P f [Bn a b, I n, I m] (F b n m)) : HkOK P (hkBII f F) := by
  intro ys r hr
  simp only [hkBII] at hr ⊢
  split at hr
  · split at hr
    · rename_i a b n m hb hn hm
      split at hr
      · rename_i hs
        simp only [Bool.and_eq_true] at hs
        cases hr; rw [(dB_eq hb).1, dI_eq hn, dI_eq hm]; exact h _ _ _ _ (dB_eq hb).2 (smI_eq hs.1) (smI_eq hs.2)
      · cases hr
    · cases hr
  · cases hr
end

/-- The hooks of the stroke layer. -/
def hks1 : List Hk := [
  hkI 100 fun n => I (max n (-n) - 1),
  hkI 84 fun n => I (if n < 0 then -2 * n - 1 else 2 * n - 2),
  hkLL 26 fun l m => B (decide (l = m)),
  hkIIL 56 fun a b l => B (allIn a b l),
  hkLI 90 fun l v => some (I (idxI (fun x => v == x) l)),
  hkLI 58 fun l v => some (B (l.contains v)),
  hkB 20 fun b => I (chkB b),
  hkB 21 fun b => I (chkB b),
  hkBL 22 fun b l => I (chkL b l),
  hkBL 23 fun b l => I (chkL b l),
  hkBI 51 fun b n => B ((decide (1 ≤ n) && decide (n ≤ b.L)) || (decide (n ≤ -1) && decide (-b.L ≤ n))),
  hkI 86 fun n => I (if n < 0 then -1 - n else n - 1),
  hkBII 52 fun b x y => B (canB b x y)]

theorem hks1_ok : ∀ h ∈ hks1, HkOK Try.prog h := by
  intro h hm
  simp only [hks1, List.mem_cons, List.not_mem_nil, or_false] at hm
  rcases hm with rfl | rfl | rfl | rfl | rfl | rfl | rfl | rfl | rfl | rfl | rfl | rfl | rfl
  · exact hkI_ok line_ok
  · exact hkI_ok key_ok
  · exact hkLL_ok fun a b l m hl hm => equal_ok a b l m (by omega) (by omega)
  · exact hkIIL_ok fun a b g l hl => within_ok a b g l (by omega)
  · exact hkLI_ok fun a l n r hl e => by cases e; exact index_ok a l (by omega) n
  · exact hkLI_ok fun a l n r hl e => by cases e; exact contains_ok a l (by omega) n
  · exact hkB_ok fun a b hb => bench_ok a b (by omega)
  · exact hkB_ok fun a b hb => refBench_ok a b (by omega)
  · exact hkBL_ok fun a g b l hb hl hs => list_ok a g b l (by omega) (by omega)
  · exact hkBL_ok fun a g b l hb hl hs => refList_ok a g b l (by omega) (by omega)
  · exact hkBI_ok fun a b n hb h1 h2 => isStroke_ok a b h1 n
  · exact hkI_ok refLine_ok
  · exact hkBII_ok fun a b n m hb h1 h2 => refCan_ok a b (by omega) n m h1 h2

end Go.AM

/- THE TABLE OF THE EVALUATOR for the stroke layer, with its proofs. Own work. -/
set_option maxRecDepth 100000
namespace Go.AM
open Go.RowKit Go.Proofs

theorem tab1_ok : ∀ c ∈ tab1, CodeOK Try.prog c := by
  unfold tab1
  simp only [List.forall_mem_cons, List.not_mem_nil, false_implies, implies_true, and_true]
  exact ⟨cok18, cok19, cok20, cok21, cok22, cok23, cok24, cok25, cok26, cok27, cok28, cok29, cok30, cok31, cok32, cok33, cok34, cok35, cok36, cok37, cok38, cok39, cok40, cok41, cok42, cok43, cok44, cok45, cok46, cok47, cok48, cok49, cok50, cok51, cok52, cok53, cok54, cok55, cok56, cok57, cok58, cok59, cok60, cok61, cok62, cok63, cok64, cok65, cok66, cok67, cok68, cok69, cok70, cok71, cok72, cok73, cok74, cok75, cok76, cok77, cok78, cok79, cok80, cok81, cok82, cok83, cok84, cok85, cok86, cok87, cok88, cok89, cok90, cok91, cok92, cok93, cok94, cok95, cok96, cok97, cok98, cok99, cok100, cok101, cok102, cok103, cok104, cok106, cok107⟩

theorem ovlX_ok : ∀ f xs hp r, ovlX f xs hp = some r → ExtOK Try.prog f xs (hpf hp) r := by
  intro f xs hp r h
  unfold ovlX at h
  split at h
  · split at h
    · rename_i hc
      obtain ⟨rfl, hc⟩ := hc
      split at h
      · rename_i bs hbs
        cases h
        exact ext_ovl Try.func105 (by kernel_rfl) (by kernel_rfl) (by kernel_rfl) (tS := 25) (tR := 4) (by kernel_rfl) Try.underlying25 (agg := false) (sz := 1) (by kernel_rfl) (by omega) (cellsE_eq hbs) (.inl rfl)
      · cases h
    · cases h
  · split at h
    · rename_i hc
      obtain ⟨rfl, hc⟩ := hc
      split at h
      · rename_i bs hbs
        cases h
        exact ext_ovl Try.func105 (by kernel_rfl) (by kernel_rfl) (by kernel_rfl) (tS := 25) (tR := 4) (by kernel_rfl) Try.underlying25 (agg := false) (sz := 1) (by kernel_rfl) (by omega) (cellsE_eq hbs) (.inr ⟨_, rfl⟩)
      · cases h
    · cases h
  · cases h

theorem kn1_ok : ∀ k ∈ kn1, KnOK Try.prog k := by
  unfold kn1
  simp only [List.forall_mem_cons, List.not_mem_nil, false_implies, implies_true, and_true]
  refine ⟨⟨⟨Try.f95, Try.func95, form95, res95, by decide +kernel⟩, rfl, rfl, fun xf rf h => by cases h⟩, ⟨⟨Try.f96, Try.func96, form96, res96, by decide +kernel⟩, rfl, rfl, ?_⟩⟩
  intro xf rf h g m ys hys hh id' off' n' c' bs hb
  cases h
  exact ext_ovl Try.func105 (by kernel_rfl) (by kernel_rfl) (by kernel_rfl) (tS := 25) (tR := 4) (by kernel_rfl) Try.underlying25 (agg := false) (sz := 1) (by kernel_rfl) (by omega) hb (.inr ⟨_, rfl⟩)

/-- The table with these hooks. -/
def tabH (hs : List Hk) (h : ∀ k ∈ hs, HkOK Try.prog k) : Tab Try.prog := ⟨hs, h, tab1, tab1_ok, kn1, kn1_ok, ovlX, ovlX_ok⟩

theorem eval_tab {hs : List Hk} (h : ∀ k ∈ hs, HkOK Try.prog k) {n k : Nat} {f : FuncId} {ys : List AV} {r : AV} (e : evalE hs tab1 kn1 ovlX n k f ys = some (.val r)) : PureOK Try.prog f ys r := evalE_ok (tabH hs h) e

/-- Answers found before. -/
def memoG : List (List AV × AV) → List AV → Option AV
  | [], _ => none
  | (a, r) :: t, ys => if eqL (avEq 8) ys a then some r else memoG t ys
theorem memoG_ok {f : FuncId} : ∀ {t : List (List AV × AV)}, (∀ p ∈ t, PureOK Try.prog f p.1 p.2) → HkOK Try.prog ⟨f, memoG t⟩
  | [], _, ys, r, h => by cases h
  | (a, q) :: t, ht, ys, r, h => by
    have h' : memoG ((a, q) :: t) ys = some r := h
    simp only [memoG] at h'
    split at h'
    · rename_i he; cases h'
      rw [eqL_eq (fun a b hab => avEq_eq hab) he]
      exact ht (a, q) (by simp)
    · exact memoG_ok (f := f) (t := t) (fun p hp => ht p (by simp [hp])) ys r h'

end Go.AM

/- CLOSED CALLS found by the evaluator in the kernel. Own work (printed by a program of this claim). -/
set_option maxRecDepth 1000000
namespace Go.AM
open Go.RowKit Go.Proofs

theorem pc0 : PureOK Try.prog 24 [(.agg [(I 4), (.sl true 3 [(I 0), (I 1), (I 1), (I 2), (I 2), (I 3)])]), (.sl true 3 [(I 2), (I 4), (I (-2))])] (.tup [(.sl false 1 [(I 4)]), (I 0)]) := eval_tab hks1_ok (n := 100) (k := 30) (show evalE hks1 tab1 kn1 ovlX 100 30 24 [(.agg [(I 4), (.sl true 3 [(I 0), (I 1), (I 1), (I 2), (I 2), (I 3)])]), (.sl true 3 [(I 2), (I 4), (I (-2))])] = some (.val (.tup [(.sl false 1 [(I 4)]), (I 0)])) by kernel_rfl)
theorem pc3 : PureOK Try.prog 27 [(.agg [(I 4), (.sl true 3 [(I 0), (I 1), (I 1), (I 2), (I 2), (I 3)])]), (.sl true 2 [(I 1), (I 2)]), (.sl true 2 [(I 2), (I 1)])] (I 18) := eval_tab hks1_ok (n := 100) (k := 30) (show evalE hks1 tab1 kn1 ovlX 100 30 27 [(.agg [(I 4), (.sl true 3 [(I 0), (I 1), (I 1), (I 2), (I 2), (I 3)])]), (.sl true 2 [(I 1), (I 2)]), (.sl true 2 [(I 2), (I 1)])] = some (.val (I 18)) by kernel_rfl)
theorem pc6 : PureOK Try.prog 32 [(.agg [(I 4), (.sl true 3 [(I 0), (I 1), (I 1), (I 2), (I 2), (I 3)])]), (.sl true 4 [(I 4), (I 1), (I 3), (I 2)])] (.tup [(.sl false 2 [(I 1), (I 4)]), (I 0)]) := eval_tab hks1_ok (n := 100) (k := 30) (show evalE hks1 tab1 kn1 ovlX 100 30 32 [(.agg [(I 4), (.sl true 3 [(I 0), (I 1), (I 1), (I 2), (I 2), (I 3)])]), (.sl true 4 [(I 4), (I 1), (I 3), (I 2)])] = some (.val (.tup [(.sl false 2 [(I 1), (I 4)]), (I 0)])) by kernel_rfl)
theorem pc9 : PureOK Try.prog 38 [(.agg [(I 4), (.sl true 3 [(I 0), (I 1), (I 1), (I 2), (I 2), (I 3)])]), (.sl true 4 [(I 4), (I 1), (I 3), (I 2)])] (.tup [(.sl false 3 [(I 1), (I 2), (I 3)]), (I 0)]) := eval_tab hks1_ok (n := 100) (k := 30) (show evalE hks1 tab1 kn1 ovlX 100 30 38 [(.agg [(I 4), (.sl true 3 [(I 0), (I 1), (I 1), (I 2), (I 2), (I 3)])]), (.sl true 4 [(I 4), (I 1), (I 3), (I 2)])] = some (.val (.tup [(.sl false 3 [(I 1), (I 2), (I 3)]), (I 0)])) by kernel_rfl)
theorem pc12 : PureOK Try.prog 45 [(.agg [(I 4), (.sl true 3 [(I 0), (I 1), (I 1), (I 2), (I 2), (I 3)])]), (.sl true 4 [(I 1), (I 4), (I 3), (I 2)]), (.sl true 3 [(I 4), (I 1), (I 2)])] (.tup [(.sl false 2 [(I 1), (I 4)]), (I 0)]) := eval_tab hks1_ok (n := 100) (k := 30) (show evalE hks1 tab1 kn1 ovlX 100 30 45 [(.agg [(I 4), (.sl true 3 [(I 0), (I 1), (I 1), (I 2), (I 2), (I 3)])]), (.sl true 4 [(I 1), (I 4), (I 3), (I 2)]), (.sl true 3 [(I 4), (I 1), (I 2)])] = some (.val (.tup [(.sl false 2 [(I 1), (I 4)]), (I 0)])) by kernel_rfl)
end Go.AM

/- CLOSED CALLS found by the evaluator in the kernel. Own work (printed by a program of this claim). -/
set_option maxRecDepth 1000000
namespace Go.AM
open Go.RowKit Go.Proofs

theorem pc1 : PureOK Try.prog 24 [(.agg [(I 4), (.sl true 3 [(I 0), (I 1), (I 1), (I 2), (I 2), (I 3)])]), (.sl true 5 [(I 3), (I 1), (I 2), (I (-2)), (I 1)])] (.tup [(.sl false 3 [(I 1), (I 1), (I 3)]), (I 0)]) := eval_tab hks1_ok (n := 100) (k := 30) (show evalE hks1 tab1 kn1 ovlX 100 30 24 [(.agg [(I 4), (.sl true 3 [(I 0), (I 1), (I 1), (I 2), (I 2), (I 3)])]), (.sl true 5 [(I 3), (I 1), (I 2), (I (-2)), (I 1)])] = some (.val (.tup [(.sl false 3 [(I 1), (I 1), (I 3)]), (I 0)])) by kernel_rfl)
theorem pc4 : PureOK Try.prog 30 [(.agg [(I 4), (.sl true 3 [(I 0), (I 1), (I 1), (I 2), (I 2), (I 3)])]), (.sl true 3 [(I 2), (I 4), (I (-2))]), (.sl true 1 [(I 4)]), (.sl true 2 [(I 1), (I 1), (I 0), (I 2), (I 0), (I 0)])] (I 0) := eval_tab hks1_ok (n := 100) (k := 30) (show evalE hks1 tab1 kn1 ovlX 100 30 30 [(.agg [(I 4), (.sl true 3 [(I 0), (I 1), (I 1), (I 2), (I 2), (I 3)])]), (.sl true 3 [(I 2), (I 4), (I (-2))]), (.sl true 1 [(I 4)]), (.sl true 2 [(I 1), (I 1), (I 0), (I 2), (I 0), (I 0)])] = some (.val (I 0)) by kernel_rfl)
theorem pc7 : PureOK Try.prog 34 [(.agg [(I 4), (.sl true 3 [(I 0), (I 1), (I 1), (I 2), (I 2), (I 3)])]), (.sl true 4 [(I 4), (I 1), (I 3), (I 2)])] (.tup [(.sl false 3 [(.sl false 2 [(I 1), (I 4)]), (.sl false 1 [(I 3)]), (.sl false 1 [(I 2)])]), (I 0)]) := eval_tab hks1_ok (n := 100) (k := 30) (show evalE hks1 tab1 kn1 ovlX 100 30 34 [(.agg [(I 4), (.sl true 3 [(I 0), (I 1), (I 1), (I 2), (I 2), (I 3)])]), (.sl true 4 [(I 4), (I 1), (I 3), (I 2)])] = some (.val (.tup [(.sl false 3 [(.sl false 2 [(I 1), (I 4)]), (.sl false 1 [(I 3)]), (.sl false 1 [(I 2)])]), (I 0)])) by kernel_rfl)
theorem pc10 : PureOK Try.prog 41 [(.agg [(I 4), (.sl true 3 [(I 0), (I 1), (I 1), (I 2), (I 2), (I 3)])]), (.sl true 4 [(I 4), (I 1), (I 3), (I 2)])] (.tup [(I 3), (I 0)]) := eval_tab hks1_ok (n := 100) (k := 30) (show evalE hks1 tab1 kn1 ovlX 100 30 41 [(.agg [(I 4), (.sl true 3 [(I 0), (I 1), (I 1), (I 2), (I 2), (I 3)])]), (.sl true 4 [(I 4), (I 1), (I 3), (I 2)])] = some (.val (.tup [(I 3), (I 0)])) by kernel_rfl)
theorem pc13 : PureOK Try.prog 29 [(.agg [(I 4), (.sl true 3 [(I 0), (I 1), (I 1), (I 2), (I 2), (I 3)])]), (.sl true 5 [(I 3), (I 1), (I 2), (I (-2)), (I 1)]), (.sl true 3 [(I 1), (I 3), (I 1)])] (.tup [(.sl false 4 [(I 2), (I 2), (I 0), (I 1), (I 0), (I 0), (I 1), (I 1), (I 0), (I 1), (I 1), (I 0)]), (I 0)]) := eval_tab hks1_ok (n := 100) (k := 30) (show evalE hks1 tab1 kn1 ovlX 100 30 29 [(.agg [(I 4), (.sl true 3 [(I 0), (I 1), (I 1), (I 2), (I 2), (I 3)])]), (.sl true 5 [(I 3), (I 1), (I 2), (I (-2)), (I 1)]), (.sl true 3 [(I 1), (I 3), (I 1)])] = some (.val (.tup [(.sl false 4 [(I 2), (I 2), (I 0), (I 1), (I 0), (I 0), (I 1), (I 1), (I 0), (I 1), (I 1), (I 0)]), (I 0)])) by kernel_rfl)
end Go.AM

/- CLOSED CALLS found by the evaluator in the kernel. Own work (printed by a program of this claim). -/
set_option maxRecDepth 1000000
namespace Go.AM
open Go.RowKit Go.Proofs

theorem pc2 : PureOK Try.prog 27 [(.agg [(I 4), (.sl true 3 [(I 0), (I 1), (I 1), (I 2), (I 2), (I 3)])]), (.sl true 5 [(I 3), (I 1), (I 2), (I (-2)), (I 1)]), (.sl true 3 [(I 1), (I 3), (I 1)])] (I 0) := eval_tab hks1_ok (n := 100) (k := 30) (show evalE hks1 tab1 kn1 ovlX 100 30 27 [(.agg [(I 4), (.sl true 3 [(I 0), (I 1), (I 1), (I 2), (I 2), (I 3)])]), (.sl true 5 [(I 3), (I 1), (I 2), (I (-2)), (I 1)]), (.sl true 3 [(I 1), (I 3), (I 1)])] = some (.val (I 0)) by kernel_rfl)
theorem pc5 : PureOK Try.prog 30 [(.agg [(I 4), (.sl true 3 [(I 0), (I 1), (I 1), (I 2), (I 2), (I 3)])]), (.sl true 3 [(I 2), (I 4), (I (-2))]), (.sl true 1 [(I 4)]), (.sl true 1 [(I 2), (I 0), (I 0)])] (I 16) := eval_tab hks1_ok (n := 100) (k := 30) (show evalE hks1 tab1 kn1 ovlX 100 30 30 [(.agg [(I 4), (.sl true 3 [(I 0), (I 1), (I 1), (I 2), (I 2), (I 3)])]), (.sl true 3 [(I 2), (I 4), (I (-2))]), (.sl true 1 [(I 4)]), (.sl true 1 [(I 2), (I 0), (I 0)])] = some (.val (I 16)) by kernel_rfl)
theorem pc8 : PureOK Try.prog 36 [(.agg [(I 4), (.sl true 3 [(I 0), (I 1), (I 1), (I 2), (I 2), (I 3)])]), (.sl true 4 [(I 4), (I 1), (I 3), (I 2)]), (.sl true 3 [(I 1), (I 2), (I 3)])] (.tup [(I 3), (I 0)]) := eval_tab hks1_ok (n := 100) (k := 30) (show evalE hks1 tab1 kn1 ovlX 100 30 36 [(.agg [(I 4), (.sl true 3 [(I 0), (I 1), (I 1), (I 2), (I 2), (I 3)])]), (.sl true 4 [(I 4), (I 1), (I 3), (I 2)]), (.sl true 3 [(I 1), (I 2), (I 3)])] = some (.val (.tup [(I 3), (I 0)])) by kernel_rfl)
theorem pc11 : PureOK Try.prog 43 [(.agg [(I 4), (.sl true 3 [(I 0), (I 1), (I 1), (I 2), (I 2), (I 3)])]), (.sl true 4 [(I 1), (I 4), (I 3), (I 2)]), (.sl true 3 [(I 4), (I 1), (I 2)])] (.tup [(.sl false 3 [(I (-2)), (I (-3)), (I 2)]), (I 0)]) := eval_tab hks1_ok (n := 100) (k := 30) (show evalE hks1 tab1 kn1 ovlX 100 30 43 [(.agg [(I 4), (.sl true 3 [(I 0), (I 1), (I 1), (I 2), (I 2), (I 3)])]), (.sl true 4 [(I 1), (I 4), (I 3), (I 2)]), (.sl true 3 [(I 4), (I 1), (I 2)])] = some (.val (.tup [(.sl false 3 [(I (-2)), (I (-3)), (I 2)]), (I 0)])) by kernel_rfl)
end Go.AM

/- WORKS: the closed calls as hooks, and the whole of it. Own work (printed by a program of this claim). -/
set_option maxRecDepth 1000000
namespace Go.AM
open Go.RowKit Go.Proofs

def hks2 : List Hk := [
  ⟨24, memoG [([(.agg [(I 4), (.sl true 3 [(I 0), (I 1), (I 1), (I 2), (I 2), (I 3)])]), (.sl true 3 [(I 2), (I 4), (I (-2))])], (.tup [(.sl false 1 [(I 4)]), (I 0)])), ([(.agg [(I 4), (.sl true 3 [(I 0), (I 1), (I 1), (I 2), (I 2), (I 3)])]), (.sl true 5 [(I 3), (I 1), (I 2), (I (-2)), (I 1)])], (.tup [(.sl false 3 [(I 1), (I 1), (I 3)]), (I 0)]))]⟩,
  ⟨27, memoG [([(.agg [(I 4), (.sl true 3 [(I 0), (I 1), (I 1), (I 2), (I 2), (I 3)])]), (.sl true 5 [(I 3), (I 1), (I 2), (I (-2)), (I 1)]), (.sl true 3 [(I 1), (I 3), (I 1)])], (I 0)), ([(.agg [(I 4), (.sl true 3 [(I 0), (I 1), (I 1), (I 2), (I 2), (I 3)])]), (.sl true 2 [(I 1), (I 2)]), (.sl true 2 [(I 2), (I 1)])], (I 18))]⟩,
  ⟨30, memoG [([(.agg [(I 4), (.sl true 3 [(I 0), (I 1), (I 1), (I 2), (I 2), (I 3)])]), (.sl true 3 [(I 2), (I 4), (I (-2))]), (.sl true 1 [(I 4)]), (.sl true 2 [(I 1), (I 1), (I 0), (I 2), (I 0), (I 0)])], (I 0)), ([(.agg [(I 4), (.sl true 3 [(I 0), (I 1), (I 1), (I 2), (I 2), (I 3)])]), (.sl true 3 [(I 2), (I 4), (I (-2))]), (.sl true 1 [(I 4)]), (.sl true 1 [(I 2), (I 0), (I 0)])], (I 16))]⟩,
  ⟨32, memoG [([(.agg [(I 4), (.sl true 3 [(I 0), (I 1), (I 1), (I 2), (I 2), (I 3)])]), (.sl true 4 [(I 4), (I 1), (I 3), (I 2)])], (.tup [(.sl false 2 [(I 1), (I 4)]), (I 0)]))]⟩,
  ⟨34, memoG [([(.agg [(I 4), (.sl true 3 [(I 0), (I 1), (I 1), (I 2), (I 2), (I 3)])]), (.sl true 4 [(I 4), (I 1), (I 3), (I 2)])], (.tup [(.sl false 3 [(.sl false 2 [(I 1), (I 4)]), (.sl false 1 [(I 3)]), (.sl false 1 [(I 2)])]), (I 0)]))]⟩,
  ⟨36, memoG [([(.agg [(I 4), (.sl true 3 [(I 0), (I 1), (I 1), (I 2), (I 2), (I 3)])]), (.sl true 4 [(I 4), (I 1), (I 3), (I 2)]), (.sl true 3 [(I 1), (I 2), (I 3)])], (.tup [(I 3), (I 0)]))]⟩,
  ⟨38, memoG [([(.agg [(I 4), (.sl true 3 [(I 0), (I 1), (I 1), (I 2), (I 2), (I 3)])]), (.sl true 4 [(I 4), (I 1), (I 3), (I 2)])], (.tup [(.sl false 3 [(I 1), (I 2), (I 3)]), (I 0)]))]⟩,
  ⟨41, memoG [([(.agg [(I 4), (.sl true 3 [(I 0), (I 1), (I 1), (I 2), (I 2), (I 3)])]), (.sl true 4 [(I 4), (I 1), (I 3), (I 2)])], (.tup [(I 3), (I 0)]))]⟩,
  ⟨43, memoG [([(.agg [(I 4), (.sl true 3 [(I 0), (I 1), (I 1), (I 2), (I 2), (I 3)])]), (.sl true 4 [(I 1), (I 4), (I 3), (I 2)]), (.sl true 3 [(I 4), (I 1), (I 2)])], (.tup [(.sl false 3 [(I (-2)), (I (-3)), (I 2)]), (I 0)]))]⟩,
  ⟨45, memoG [([(.agg [(I 4), (.sl true 3 [(I 0), (I 1), (I 1), (I 2), (I 2), (I 3)])]), (.sl true 4 [(I 1), (I 4), (I 3), (I 2)]), (.sl true 3 [(I 4), (I 1), (I 2)])], (.tup [(.sl false 2 [(I 1), (I 4)]), (I 0)]))]⟩,
  ⟨29, memoG [([(.agg [(I 4), (.sl true 3 [(I 0), (I 1), (I 1), (I 2), (I 2), (I 3)])]), (.sl true 5 [(I 3), (I 1), (I 2), (I (-2)), (I 1)]), (.sl true 3 [(I 1), (I 3), (I 1)])], (.tup [(.sl false 4 [(I 2), (I 2), (I 0), (I 1), (I 0), (I 0), (I 1), (I 1), (I 0), (I 1), (I 1), (I 0)]), (I 0)]))]⟩
  ] ++ hks1
theorem hks2_ok : ∀ h ∈ hks2, HkOK Try.prog h := by
  intro h hm
  unfold hks2 at hm
  rw [List.mem_append] at hm
  rcases hm with hm | hm
  · simp only [List.mem_cons, List.not_mem_nil, or_false] at hm
    rcases hm with rfl | rfl | rfl | rfl | rfl | rfl | rfl | rfl | rfl | rfl | rfl
    · exact memoG_ok (by simp only [List.forall_mem_cons, List.not_mem_nil, false_implies, implies_true, and_true]; exact ⟨pc0, pc1⟩)
    · exact memoG_ok (by simp only [List.forall_mem_cons, List.not_mem_nil, false_implies, implies_true, and_true]; exact ⟨pc2, pc3⟩)
    · exact memoG_ok (by simp only [List.forall_mem_cons, List.not_mem_nil, false_implies, implies_true, and_true]; exact ⟨pc4, pc5⟩)
    · exact memoG_ok (by simp only [List.forall_mem_cons, List.not_mem_nil, false_implies, implies_true, and_true]; exact pc6)
    · exact memoG_ok (by simp only [List.forall_mem_cons, List.not_mem_nil, false_implies, implies_true, and_true]; exact pc7)
    · exact memoG_ok (by simp only [List.forall_mem_cons, List.not_mem_nil, false_implies, implies_true, and_true]; exact pc8)
    · exact memoG_ok (by simp only [List.forall_mem_cons, List.not_mem_nil, false_implies, implies_true, and_true]; exact pc9)
    · exact memoG_ok (by simp only [List.forall_mem_cons, List.not_mem_nil, false_implies, implies_true, and_true]; exact pc10)
    · exact memoG_ok (by simp only [List.forall_mem_cons, List.not_mem_nil, false_implies, implies_true, and_true]; exact pc11)
    · exact memoG_ok (by simp only [List.forall_mem_cons, List.not_mem_nil, false_implies, implies_true, and_true]; exact pc12)
    · exact memoG_ok (by simp only [List.forall_mem_cons, List.not_mem_nil, false_implies, implies_true, and_true]; exact pc13)
  · exact hks1_ok h hm

theorem works_ok : PureOK Try.prog 19 [] (B true) := eval_tab hks2_ok (n := 100) (k := 30) (show evalE hks2 tab1 kn1 ovlX 100 30 19 [] = some (.val (B true)) by kernel_rfl)
end Go.AM

/- LAWS, PART 1: StrokeBenches. Own work. -/
set_option linter.unusedSimpArgs false
set_option linter.unusedVariables false
namespace Go.AM
open Go.RowKit Go.Proofs

theorem great_ok (f : Bool) (b : Bch) (hb : b.c.length ≤ 9223372036854775807) : PureOK Try.prog 18 [Bn f b] (B (decide (40 < b.c.length))) := by
  refine pure_of (walk Try.func18 form18 res18 (by show 1 ≤ _; decide) ?_)
  simp (disch := omega) [G18, wrap_id]
  omega

theorem law3' (f g : Bool) (b : Bch) (l : List Int) (hb : b.c.length ≤ 9223372036854775807) (hl : l.length ≤ 9223372036854775807) : PureOK Try.prog 3 [Bn f b, Ls g l] (B true) := by
  refine pure_of (walk Try.func3 form3 res3 (by show 2 ≤ _; decide) ?_)
  simp (disch := omega) [G3, wrap_id]
  refine callW_pure rfl (great_ok f b hb) ?_
  by_cases h1 : 40 < b.c.length
  · simp (disch := omega) [wrap_id, h1]
    exact callW_pure rfl works_ok (by simp)
  · by_cases h2 : 70 < l.length
    · have h2' : (70 : Int) < l.length := by omega
      simp (disch := omega) [wrap_id, h1, h2, h2']
      exact callW_pure rfl works_ok (by simp)
    · have h2' : ¬ (70 : Int) < l.length := by omega
      simp (disch := omega) [wrap_id, h1, h2, h2']
      refine pureW_of rfl (bench_ok f b (by omega)) ?_
      simp (disch := omega) [wrap_id]
      refine pureW_of rfl (refBench_ok f b (by omega)) ?_
      simp (disch := omega) [wrap_id]
      refine pureW_of rfl (list_ok f g b l (by omega) (by omega)) ?_
      simp (disch := omega) [wrap_id]
      refine pureW_of rfl (refList_ok f g b l (by omega) (by omega)) ?_
      simp (disch := omega) [wrap_id]
      refine pureW_of rfl works_ok ?_
      simp (disch := omega) [wrap_id]

theorem law3 (b : Bch) (l : List Int) (hb : BOK b) (hl : l.length ≤ 9223372036854775807 ∧ ∀ n ∈ l, In64 n) : PureOK Try.prog 3 [Bn false b, Ls false l] (B true) := law3' false false b l hb.len hl.1

end Go.AM
