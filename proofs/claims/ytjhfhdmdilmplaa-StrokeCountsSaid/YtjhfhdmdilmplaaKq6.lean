/-
  HOOKS OF THE EVALUATOR: contracts as answers to closed calls. Own work.
  TABLE ENTRIES OF THE EVALUATOR. Own work (printed by a program of this claim).
  Works, by the evaluator. Own work.
  THE TABLE OF THE EVALUATOR for the stroke layer, with its proofs. Own work.
  CLOSED CALLS found by the evaluator in the kernel. Own work (printed by a program of this claim).
  CLOSED CALLS found by the evaluator in the kernel. Own work (printed by a program of this claim).
  CLOSED CALLS found by the evaluator in the kernel. Own work (printed by a program of this claim).
  WORKS: the closed calls as hooks, and the whole of it. Own work (printed by a program of this claim).
-/
import Derived.Test.YtjhfhdmdilmplaaKq5

/- HOOKS OF THE EVALUATOR: contracts as answers to closed calls. Own work. -/
set_option linter.unusedSimpArgs false
set_option linter.unusedVariables false
namespace Go.AM
open Go.RowKit Go.Proofs

def dI : AV → Option Int
  | .v (.int .i64 n) => some n
  | _ => none
theorem dI_eq {x : AV} {n : Int} (h : dI x = some n) : x = I n := by
  unfold dI at h
  split at h
  · cases h; rfl
  · cases h
def dIs : List AV → Option (List Int)
  | [] => some []
  | a :: zs => match dI a with
    | some n => (match dIs zs with
      | some l => some (n :: l)
      | none => none)
    | none => none
theorem dIs_eq : ∀ {cs : List AV} {l : List Int}, dIs cs = some l → cs = l.map fun n => I n
  | [], l, h => by cases h; rfl
  | a :: zs, l, h => by
    simp only [dIs] at h
    split at h
    · rename_i n hn
      split at h
      · rename_i l' hl; cases h; rw [dI_eq hn, dIs_eq hl]; rfl
      · cases h
    · cases h
def dL : AV → Option (Bool × List Int)
  | .sl f n cs => match dIs cs with
    | some l => if Nat.beq l.length n && Nat.ble n 1000 then some (f, l) else none
    | none => none
  | _ => none
theorem dL_eq {x : AV} {f l} (h : dL x = some (f, l)) : x = Ls f l ∧ l.length ≤ 1000 := by
  unfold dL at h
  split at h
  · split at h
    · rename_i l' hl
      split at h
      · rename_i hc
        simp only [Bool.and_eq_true] at hc
        cases h
        have e := Nat.eq_of_beq_eq_true hc.1
        have e2 := Nat.le_of_ble_eq_true hc.2
        subst e
        rw [dIs_eq hl]; exact ⟨rfl, e2⟩
      · cases h
    · cases h
  · cases h
def dPs : List AV → Option (List (Int × Int))
  | [] => some []
  | [_] => none
  | a :: b :: zs => match dI a, dI b with
    | some m, some n => (match dPs zs with
      | some l => some ((m, n) :: l)
      | none => none)
    | _, _ => none
theorem dPs_eq : ∀ {cs : List AV} {l : List (Int × Int)}, dPs cs = some l → cs = flat2 l
  | [], l, h => by cases h; rfl
  | [_], l, h => by cases h
  | a :: b :: zs, l, h => by
    simp only [dPs] at h
    split at h
    · rename_i m n hm hn
      split at h
      · rename_i l' hl; cases h; rw [dI_eq hm, dI_eq hn, dPs_eq hl]; rfl
      · cases h
    · cases h
def dP : AV → Option (Bool × List (Int × Int))
  | .sl f n cs => match dPs cs with
    | some l => if Nat.beq l.length n && Nat.ble n 1000 then some (f, l) else none
    | none => none
  | _ => none
theorem dP_eq {x : AV} {f l} (h : dP x = some (f, l)) : x = Ps f l ∧ l.length ≤ 1000 := by
  unfold dP at h
  split at h
  · split at h
    · rename_i l' hl
      split at h
      · rename_i hc
        simp only [Bool.and_eq_true] at hc
        cases h
        have e := Nat.eq_of_beq_eq_true hc.1
        have e2 := Nat.le_of_ble_eq_true hc.2
        subst e
        rw [dPs_eq hl]; exact ⟨rfl, e2⟩
      · cases h
    · cases h
  · cases h
def dB : AV → Option (Bool × Bch)
  | .agg [x, y] => match dI x, dP y with
    | some n, some (f, c) => some (f, ⟨n, c⟩)
    | _, _ => none
  | _ => none
theorem dB_eq {x : AV} {f b} (h : dB x = some (f, b)) : x = Bn f b ∧ b.c.length ≤ 1000 := by
  unfold dB at h
  split at h
  · split at h
    · rename_i n f' c hn hp
      cases h
      rw [dI_eq hn, (dP_eq hp).1]; exact ⟨rfl, (dP_eq hp).2⟩
    · cases h
  · cases h
def smI (n : Int) : Bool := match n with
  | .ofNat m => Nat.ble m 1000000
  | .negSucc m => Nat.blt m 1000000
theorem smI_eq {n : Int} (h : smI n = true) : -1000000 ≤ n ∧ n ≤ 1000000 := by
  cases n with
  | ofNat m => have := Nat.le_of_ble_eq_true h; simp; omega
  | negSucc m => simp only [smI, Nat.blt_eq] at h; omega
def smL : List Int → Bool
  | [] => true
  | a :: l => smI a && smL l
theorem smL_eq : ∀ {l : List Int}, smL l = true → Small l
  | [], h => fun x hx => by simp at hx
  | a :: l, h => by
    simp only [smL, Bool.and_eq_true] at h
    intro x hx
    rcases List.mem_cons.1 hx with rfl | hx
    · exact smI_eq h.1
    · exact smL_eq h.2 x hx

section
variable {P : Program} {f : FuncId}
def hkI (f : FuncId) (F : Int → AV) : Hk := ⟨f, fun ys => match ys with
  | [x] => (match dI x with
    | some n => if smI n then some (F n) else none
    | none => none)
  | _ => none⟩
theorem hkI_ok {F : Int → AV} (h : ∀ n, -1000000 ≤ n ∧ n ≤ 1000000 → PureOK P f [I n] (F n)) : HkOK P (hkI f F) := by
  intro ys r hr
  simp only [hkI] at hr ⊢
  split at hr
  · split at hr
    · rename_i n hn
      split at hr
      · rename_i hs; cases hr; rw [dI_eq hn]; exact h n (smI_eq hs)
      · cases hr
    · cases hr
  · cases hr
def hkLL (f : FuncId) (F : List Int → List Int → AV) : Hk := ⟨f, fun ys => match ys with
  | [x, y] => (match dL x, dL y with
    | some (_, l), some (_, m) => some (F l m)
    | _, _ => none)
  | _ => none⟩
theorem hkLL_ok {F : List Int → List Int → AV} (h : ∀ a b l m, l.length ≤ 1000 → m.length ≤ 1000 → PureOK P f [Ls a l, Ls b m] (F l m)) : HkOK P (hkLL f F) := by
  intro ys r hr
  simp only [hkLL] at hr ⊢
  split at hr
  · split at hr
    · rename_i a l b m hl hm
      cases hr; rw [(dL_eq hl).1, (dL_eq hm).1]; exact h _ _ _ _ (dL_eq hl).2 (dL_eq hm).2
    · cases hr
  · cases hr
def hkIIL (f : FuncId) (F : Int → Int → List Int → AV) : Hk := ⟨f, fun ys => match ys with
  | [x, y, z] => (match dI x, dI y, dL z with
    | some a, some b, some (_, l) => some (F a b l)
    | _, _, _ => none)
  | _ => none⟩
theorem hkIIL_ok {F : Int → Int → List Int → AV} (h : ∀ a b g l, l.length ≤ 1000 → PureOK P f [I a, I b, Ls g l] (F a b l)) : HkOK P (hkIIL f F) := by
  intro ys r hr
  simp only [hkIIL] at hr ⊢
  split at hr
  · split at hr
    · rename_i a b g l h1 h2 h3
      cases hr; rw [dI_eq h1, dI_eq h2, (dL_eq h3).1]; exact h _ _ _ _ (dL_eq h3).2
    · cases hr
  · cases hr
def hkLI (f : FuncId) (F : List Int → Int → Option AV) : Hk := ⟨f, fun ys => match ys with
  | [x, y] => (match dL x, dI y with
    | some (_, l), some n => F l n
    | _, _ => none)
  | _ => none⟩
theorem hkLI_ok {F : List Int → Int → Option AV} (h : ∀ a l n r, l.length ≤ 1000 → F l n = some r → PureOK P f [Ls a l, I n] r) : HkOK P (hkLI f F) := by
  intro ys r hr
  simp only [hkLI] at hr ⊢
  split at hr
  · split at hr
    · rename_i a l n hl hn
      rw [(dL_eq hl).1, dI_eq hn]; exact h _ _ _ _ (dL_eq hl).2 hr
    · cases hr
  · cases hr
def hkB (f : FuncId) (F : Bch → AV) : Hk := ⟨f, fun ys => match ys with
  | [x] => (match dB x with
    | some (_, b) => some (F b)
    | _ => none)
  | _ => none⟩
theorem hkB_ok {F : Bch → AV} (h : ∀ a b, b.c.length ≤ 1000 → PureOK P f [Bn a b] (F b)) : HkOK P (hkB f F) := by
  intro ys r hr
  simp only [hkB] at hr ⊢
  split at hr
  · split at hr
    · rename_i a b hb
      cases hr; rw [(dB_eq hb).1]; exact h _ _ (dB_eq hb).2
    · cases hr
  · cases hr
def hkBL (f : FuncId) (F : Bch → List Int → AV) : Hk := ⟨f, fun ys => match ys with
  | [x, y] => (match dB x, dL y with
    | some (_, b), some (_, l) => if smL l then some (F b l) else none
    | _, _ => none)
  | _ => none⟩
theorem hkBL_ok {F : Bch → List Int → AV} (h : ∀ a g b l, b.c.length ≤ 1000 → l.length ≤ 1000 → Small l → PureOK P f [Bn a b, Ls g l] (F b l)) : HkOK P (hkBL f F) := by
  intro ys r hr
  simp only [hkBL] at hr ⊢
  split at hr
  · split at hr
    · rename_i a b g l hb hl
      split at hr
      · rename_i hs
        cases hr; rw [(dB_eq hb).1, (dL_eq hl).1]; exact h _ _ _ _ (dB_eq hb).2 (dL_eq hl).2 (smL_eq hs)
      · cases hr
    · cases hr
  · cases hr
def hkBLL (f : FuncId) (F : Bch → List Int → List Int → AV) : Hk := ⟨f, fun ys => match ys with
  | [x, y, z] => (match dB x, dL y, dL z with
    | some (_, b), some (_, l), some (_, m) => some (F b l m)
    | _, _, _ => none)
  | _ => none⟩
theorem hkBLL_ok {F : Bch → List Int → List Int → AV} (h : ∀ a g k b l m, b.c.length ≤ 1000 → l.length ≤ 1000 → m.length ≤ 1000 → PureOK P f [Bn a b, Ls g l, Ls k m] (F b l m)) : HkOK P (hkBLL f F) := by
  intro ys r hr
  simp only [hkBLL] at hr ⊢
  split at hr
  · split at hr
    · rename_i a b g l k m hb hl hm
      cases hr; rw [(dB_eq hb).1, (dL_eq hl).1, (dL_eq hm).1]; exact h _ _ _ _ _ _ (dB_eq hb).2 (dL_eq hl).2 (dL_eq hm).2
    · cases hr
  · cases hr
def hkBI (f : FuncId) (F : Bch → Int → AV) : Hk := ⟨f, fun ys => match ys with
  | [x, y] => (match dB x, dI y with
    | some (_, b), some n => if smI b.L && smI n then some (F b n) else none
    | _, _ => none)
  | _ => none⟩
theorem hkBI_ok {F : Bch → Int → AV} (h : ∀ a b n, b.c.length ≤ 1000 → (-1000000 ≤ b.L ∧ b.L ≤ 1000000) → (-1000000 ≤ n ∧ n ≤ 1000000) → PureOK P f [Bn a b, I n] (F b n)) : HkOK P (hkBI f F) := by
  intro ys r hr
  simp only [hkBI] at hr ⊢
  split at hr
  · split at hr
    · rename_i a b n hb hn
      split at hr
      · rename_i hs
        simp only [Bool.and_eq_true] at hs
        cases hr; rw [(dB_eq hb).1, dI_eq hn]; exact h _ _ _ (dB_eq hb).2 (smI_eq hs.1) (smI_eq hs.2)
      · cases hr
    · cases hr
  · cases hr
def hkBII (f : FuncId) (F : Bch → Int → Int → AV) : Hk := ⟨f, fun ys => match ys with
  | [x, y, z] => (match dB x, dI y, dI z with
    | some (_, b), some n, some m => if smI n && smI m then some (F b n m) else none
    | _, _, _ => none)
  | _ => none⟩
theorem hkBII_ok {F : Bch → Int → Int → AV} (h : ∀ a b n m, b.c.length ≤ 1000 → (-1000000 ≤ n ∧ n ≤ 1000000) → (-1000000 ≤ m ∧ m ≤ 1000000) → PureOK P f [Bn a b, I n, I m] (F b n m)) : HkOK P (hkBII f F) := by
  intro ys r hr
  simp only [hkBII] at hr ⊢
  split at hr
  · split at hr
    · rename_i a b n m hb hn hm
      split at hr
      · rename_i hs
        simp only [Bool.and_eq_true] at hs
        cases hr; rw [(dB_eq hb).1, dI_eq hn, dI_eq hm]; exact h _ _ _ _ (dB_eq hb).2 (smI_eq hs.1) (smI_eq hs.2)
      · cases hr
    · cases hr
  · cases hr
end

/-- The hooks of the stroke layer. -/
def hks1 : List Hk := [
  hkI 100 fun n => I (max n (-n) - 1),
  hkI 84 fun n => I (if n < 0 then -2 * n - 1 else 2 * n - 2),
  hkLL 26 fun l m => B (decide (l = m)),
  hkIIL 56 fun a b l => B (allIn a b l),
  hkLI 90 fun l v => some (I (idxI (fun x => v == x) l)),
  hkLI 58 fun l v => some (B (l.contains v)),
  hkB 20 fun b => I (chkB b),
  hkB 21 fun b => I (chkB b),
  hkBL 22 fun b l => I (chkL b l),
  hkBL 23 fun b l => I (chkL b l),
  hkBI 51 fun b n => B ((decide (1 ≤ n) && decide (n ≤ b.L)) || (decide (n ≤ -1) && decide (-b.L ≤ n))),
  hkI 86 fun n => I (if n < 0 then -1 - n else n - 1),
  hkBII 52 fun b x y => B (canB b x y)]

theorem hks1_ok : ∀ h ∈ hks1, HkOK Try.prog h := by
  intro h hm
  simp only [hks1, List.mem_cons, List.not_mem_nil, or_false] at hm
  rcases hm with rfl | rfl | rfl | rfl | rfl | rfl | rfl | rfl | rfl | rfl | rfl | rfl | rfl
  · exact hkI_ok line_ok
  · exact hkI_ok key_ok
  · exact hkLL_ok fun a b l m hl hm => equal_ok a b l m (by omega) (by omega)
  · exact hkIIL_ok fun a b g l hl => within_ok a b g l (by omega)
  · exact hkLI_ok fun a l n r hl e => by cases e; exact index_ok a l (by omega) n
  · exact hkLI_ok fun a l n r hl e => by cases e; exact contains_ok a l (by omega) n
  · exact hkB_ok fun a b hb => bench_ok a b (by omega)
  · exact hkB_ok fun a b hb => refBench_ok a b (by omega)
  · exact hkBL_ok fun a g b l hb hl hs => list_ok a g b l (by omega) (by omega)
  · exact hkBL_ok fun a g b l hb hl hs => refList_ok a g b l (by omega) (by omega)
  · exact hkBI_ok fun a b n hb h1 h2 => isStroke_ok a b h1 n
  · exact hkI_ok refLine_ok
  · exact hkBII_ok fun a b n m hb h1 h2 => refCan_ok a b (by omega) n m h1 h2

end Go.AM

/- TABLE ENTRIES OF THE EVALUATOR. Own work (printed by a program of this claim). -/
set_option maxRecDepth 100000
namespace Go.AM
open Go.RowKit Go.Proofs

/-- oxgall/oxgalllaw02.great -/
def C18 : Code := ⟨18, true, 7, [(2, none)], G18⟩
theorem cok18 : CodeOK Try.prog C18 := codeOK (fn := Try.f18) (ts := [2]) Try.func18 form18 (resTmps_C res18) (by kernel_rfl) (by kernel_rfl)
/-- oxgall/oxgalllaw02.Works -/
def C19 : Code := ⟨19, true, 218, [(0, none)], G19⟩
theorem cok19 : CodeOK Try.prog C19 := codeOK (fn := Try.f19) (ts := [0]) Try.func19 form19 (resTmps_C res19) (by kernel_rfl) (by kernel_rfl)
/-- oxgall/stroke.CheckBench -/
def C20 : Code := ⟨20, true, 50, [(2, none)], G20⟩
theorem cok20 : CodeOK Try.prog C20 := codeOK (fn := Try.f20) (ts := [2]) Try.func20 form20 (resTmps_C res20) (by kernel_rfl) (by kernel_rfl)
/-- oxgall/oxgallref02.CheckBench -/
def C21 : Code := ⟨21, true, 61, [(2, none)], G21⟩
theorem cok21 : CodeOK Try.prog C21 := codeOK (fn := Try.f21) (ts := [2]) Try.func21 form21 (resTmps_C res21) (by kernel_rfl) (by kernel_rfl)
/-- oxgall/stroke.CheckList -/
def C22 : Code := ⟨22, true, 28, [(4, none)], G22⟩
theorem cok22 : CodeOK Try.prog C22 := codeOK (fn := Try.f22) (ts := [4]) Try.func22 form22 (resTmps_C res22) (by kernel_rfl) (by kernel_rfl)
/-- oxgall/oxgallref02.CheckList -/
def C23 : Code := ⟨23, true, 27, [(4, none)], G23⟩
theorem cok23 : CodeOK Try.prog C23 := codeOK (fn := Try.f23) (ts := [4]) Try.func23 form23 (resTmps_C res23) (by kernel_rfl) (by kernel_rfl)
/-- oxgall/stroke.Short -/
def C24 : Code := ⟨24, true, 30, [(4, none), (5, none)], G24⟩
theorem cok24 : CodeOK Try.prog C24 := codeOK (fn := Try.f24) (ts := [4, 5]) Try.func24 form24 (resTmps_C res24) (by kernel_rfl) (by kernel_rfl)
/-- oxgall/oxgallref02.Short -/
def C25 : Code := ⟨25, true, 16, [(4, none), (5, none)], G25⟩
theorem cok25 : CodeOK Try.prog C25 := codeOK (fn := Try.f25) (ts := [4, 5]) Try.func25 form25 (resTmps_C res25) (by kernel_rfl) (by kernel_rfl)
/-- oxgall/oxgallref02.Equal -/
def C26 : Code := ⟨26, true, 26, [(4, none)], G26⟩
theorem cok26 : CodeOK Try.prog C26 := codeOK (fn := Try.f26) (ts := [4]) Try.func26 form26 (resTmps_C res26) (by kernel_rfl) (by kernel_rfl)
/-- oxgall/stroke.Same -/
def C27 : Code := ⟨27, true, 30, [(6, none)], G27⟩
theorem cok27 : CodeOK Try.prog C27 := codeOK (fn := Try.f27) (ts := [6]) Try.func27 form27 (resTmps_C res27) (by kernel_rfl) (by kernel_rfl)
/-- oxgall/oxgallref02.Same -/
def C28 : Code := ⟨28, true, 24, [(6, none)], G28⟩
theorem cok28 : CodeOK Try.prog C28 := codeOK (fn := Try.f28) (ts := [6]) Try.func28 form28 (resTmps_C res28) (by kernel_rfl) (by kernel_rfl)
/-- oxgall/stroke.Chain -/
def C29 : Code := ⟨29, true, 29, [(6, none), (7, none)], G29⟩
theorem cok29 : CodeOK Try.prog C29 := codeOK (fn := Try.f29) (ts := [6, 7]) Try.func29 form29 (resTmps_C res29) (by kernel_rfl) (by kernel_rfl)
/-- oxgall/stroke.CheckChain -/
def C30 : Code := ⟨30, true, 55, [(8, none)], G30⟩
theorem cok30 : CodeOK Try.prog C30 := codeOK (fn := Try.f30) (ts := [8]) Try.func30 form30 (resTmps_C res30) (by kernel_rfl) (by kernel_rfl)
/-- oxgall/oxgallref02.CheckChain -/
def C31 : Code := ⟨31, true, 54, [(8, none)], G31⟩
theorem cok31 : CodeOK Try.prog C31 := codeOK (fn := Try.f31) (ts := [8]) Try.func31 form31 (resTmps_C res31) (by kernel_rfl) (by kernel_rfl)
/-- oxgall/stroke.Firsts -/
def C32 : Code := ⟨32, true, 35, [(4, none), (5, none)], G32⟩
theorem cok32 : CodeOK Try.prog C32 := codeOK (fn := Try.f32) (ts := [4, 5]) Try.func32 form32 (resTmps_C res32) (by kernel_rfl) (by kernel_rfl)
/-- oxgall/oxgallref02.Firsts -/
def C33 : Code := ⟨33, true, 18, [(4, none), (5, none)], G33⟩
theorem cok33 : CodeOK Try.prog C33 := codeOK (fn := Try.f33) (ts := [4, 5]) Try.func33 form33 (resTmps_C res33) (by kernel_rfl) (by kernel_rfl)
/-- oxgall/stroke.Rounds -/
def C34 : Code := ⟨34, true, 52, [(4, none), (5, none)], G34⟩
theorem cok34 : CodeOK Try.prog C34 := codeOK (fn := Try.f34) (ts := [4, 5]) Try.func34 form34 (resTmps_C res34) (by kernel_rfl) (by kernel_rfl)
/-- oxgall/oxgallref02.Rounds -/
def C35 : Code := ⟨35, true, 52, [(4, none), (5, none)], G35⟩
theorem cok35 : CodeOK Try.prog C35 := codeOK (fn := Try.f35) (ts := [4, 5]) Try.func35 form35 (resTmps_C res35) (by kernel_rfl) (by kernel_rfl)
/-- oxgall/stroke.CheckSpine -/
def C36 : Code := ⟨36, true, 70, [(6, none), (7, none)], G36⟩
theorem cok36 : CodeOK Try.prog C36 := codeOK (fn := Try.f36) (ts := [6, 7]) Try.func36 form36 (resTmps_C res36) (by kernel_rfl) (by kernel_rfl)
/-- oxgall/oxgallref02.CheckSpine -/
def C37 : Code := ⟨37, true, 82, [(6, none), (7, none)], G37⟩
theorem cok37 : CodeOK Try.prog C37 := codeOK (fn := Try.f37) (ts := [6, 7]) Try.func37 form37 (resTmps_C res37) (by kernel_rfl) (by kernel_rfl)
/-- oxgall/stroke.Spine -/
def C38 : Code := ⟨38, true, 112, [(4, none), (5, none)], G38⟩
theorem cok38 : CodeOK Try.prog C38 := codeOK (fn := Try.f38) (ts := [4, 5]) Try.func38 form38 (resTmps_C res38) (by kernel_rfl) (by kernel_rfl)
/-- oxgall/oxgalllaw02.lists -/
def C39 : Code := ⟨39, true, 27, [(4, none)], G39⟩
theorem cok39 : CodeOK Try.prog C39 := codeOK (fn := Try.f39) (ts := [4]) Try.func39 form39 (resTmps_C res39) (by kernel_rfl) (by kernel_rfl)
/-- oxgall/oxgallref02.Form -/
def C40 : Code := ⟨40, true, 28, [(4, none)], G40⟩
theorem cok40 : CodeOK Try.prog C40 := codeOK (fn := Try.f40) (ts := [4]) Try.func40 form40 (resTmps_C res40) (by kernel_rfl) (by kernel_rfl)
/-- oxgall/stroke.Count -/
def C41 : Code := ⟨41, true, 28, [(4, none), (5, none)], G41⟩
theorem cok41 : CodeOK Try.prog C41 := codeOK (fn := Try.f41) (ts := [4, 5]) Try.func41 form41 (resTmps_C res41) (by kernel_rfl) (by kernel_rfl)
/-- oxgall/oxgallref02.Count -/
def C42 : Code := ⟨42, true, 100, [(4, none), (5, none)], G42⟩
theorem cok42 : CodeOK Try.prog C42 := codeOK (fn := Try.f42) (ts := [4, 5]) Try.func42 form42 (resTmps_C res42) (by kernel_rfl) (by kernel_rfl)
/-- oxgall/stroke.Way -/
def C43 : Code := ⟨43, true, 28, [(6, none), (7, none)], G43⟩
theorem cok43 : CodeOK Try.prog C43 := codeOK (fn := Try.f43) (ts := [6, 7]) Try.func43 form43 (resTmps_C res43) (by kernel_rfl) (by kernel_rfl)
/-- oxgall/oxgallref02.Way -/
def C44 : Code := ⟨44, true, 23, [(6, none), (7, none)], G44⟩
theorem cok44 : CodeOK Try.prog C44 := codeOK (fn := Try.f44) (ts := [6, 7]) Try.func44 form44 (resTmps_C res44) (by kernel_rfl) (by kernel_rfl)
/-- oxgall/stroke.Common -/
def C45 : Code := ⟨45, true, 61, [(6, none), (7, none)], G45⟩
theorem cok45 : CodeOK Try.prog C45 := codeOK (fn := Try.f45) (ts := [6, 7]) Try.func45 form45 (resTmps_C res45) (by kernel_rfl) (by kernel_rfl)
/-- oxgall/oxgallref02.Common -/
def C46 : Code := ⟨46, true, 53, [(6, none), (7, none)], G46⟩
theorem cok46 : CodeOK Try.prog C46 := codeOK (fn := Try.f46) (ts := [6, 7]) Try.func46 form46 (resTmps_C res46) (by kernel_rfl) (by kernel_rfl)
/-- oxgall/oxgalllaw02.fine -/
def C47 : Code := ⟨47, true, 19, [(4, none)], G47⟩
theorem cok47 : CodeOK Try.prog C47 := codeOK (fn := Try.f47) (ts := [4]) Try.func47 form47 (resTmps_C res47) (by kernel_rfl) (by kernel_rfl)
/-- oxgall/oxgalllaw02.Moved -/
def C48 : Code := ⟨48, true, 87, [(6, none), (7, none)], G48⟩
theorem cok48 : CodeOK Try.prog C48 := codeOK (fn := Try.f48) (ts := [6, 7]) Try.func48 form48 (resTmps_C res48) (by kernel_rfl) (by kernel_rfl)
/-- oxgall/oxgallref02.Back -/
def C49 : Code := ⟨49, true, 21, [(2, none)], G49⟩
theorem cok49 : CodeOK Try.prog C49 := codeOK (fn := Try.f49) (ts := [2]) Try.func49 form49 (resTmps_C res49) (by kernel_rfl) (by kernel_rfl)
/-- oxgall/oxgalllaw02.through -/
def C50 : Code := ⟨50, true, 37, [(6, none)], G50⟩
theorem cok50 : CodeOK Try.prog C50 := codeOK (fn := Try.f50) (ts := [6]) Try.func50 form50 (resTmps_C res50) (by kernel_rfl) (by kernel_rfl)
/-- oxgall/oxgallref02.IsStroke -/
def C51 : Code := ⟨51, true, 24, [(4, none)], G51⟩
theorem cok51 : CodeOK Try.prog C51 := codeOK (fn := Try.f51) (ts := [4]) Try.func51 form51 (resTmps_C res51) (by kernel_rfl) (by kernel_rfl)
/-- oxgall/oxgallref02.Can -/
def C52 : Code := ⟨52, true, 37, [(6, none)], G52⟩
theorem cok52 : CodeOK Try.prog C52 := codeOK (fn := Try.f52) (ts := [6]) Try.func52 form52 (resTmps_C res52) (by kernel_rfl) (by kernel_rfl)
/-- oxgall/oxgalllaw02.free -/
def C53 : Code := ⟨53, true, 22, [(6, none)], G53⟩
theorem cok53 : CodeOK Try.prog C53 := codeOK (fn := Try.f53) (ts := [6]) Try.func53 form53 (resTmps_C res53) (by kernel_rfl) (by kernel_rfl)
/-- oxgall/oxgalllaw02.Bench -/
def C54 : Code := ⟨54, true, 6, [(0, some (true, 2))], G54⟩
theorem cok54 : CodeOK Try.prog C54 := codeOK (fn := Try.f54) (ts := [0]) Try.func54 form54 resc54 (by kernel_rfl) (by kernel_rfl)
/-- oxgall/oxgalllaw02.move -/
def C55 : Code := ⟨55, true, 11, [(6, some (true, 3))], G55⟩
theorem cok55 : CodeOK Try.prog C55 := codeOK (fn := Try.f55) (ts := [6]) Try.func55 form55 resc55 (by kernel_rfl) (by kernel_rfl)
/-- oxgall/stroke.within -/
def C56 : Code := ⟨56, true, 11, [(6, none)], G56⟩
theorem cok56 : CodeOK Try.prog C56 := codeOK (fn := Try.f56) (ts := [6]) Try.func56 form56 (resTmps_C res56) (by kernel_rfl) (by kernel_rfl)
/-- slices.Contains[[][2]int,[2]int] -/
def C57 : Code := ⟨57, true, 9, [(4, none)], G57⟩
theorem cok57 : CodeOK Try.prog C57 := codeOK (fn := Try.f57) (ts := [4]) Try.func57 form57 (resTmps_C res57) (by kernel_rfl) (by kernel_rfl)
/-- slices.Contains[[]int,int] -/
def C58 : Code := ⟨58, true, 9, [(4, none)], G58⟩
theorem cok58 : CodeOK Try.prog C58 := codeOK (fn := Try.f58) (ts := [4]) Try.func58 form58 (resTmps_C res58) (by kernel_rfl) (by kernel_rfl)
/-- oxgall/stroke.open -/
def C59 : Code := ⟨59, true, 24, [(4, none), (5, none)], G59⟩
theorem cok59 : CodeOK Try.prog C59 := codeOK (fn := Try.f59) (ts := [4, 5]) Try.func59 form59 (resTmps_C res59) (by kernel_rfl) (by kernel_rfl)
/-- (*oxgall/stroke.table).form -/
def C60 : Code := ⟨60, true, 33, [(4, none)], G60⟩
theorem cok60 : CodeOK Try.prog C60 := codeOK (fn := Try.f60) (ts := [4]) Try.func60 form60 (resTmps_C res60) (by kernel_rfl) (by kernel_rfl)
/-- slices.Equal[[]int,int] -/
def C61 : Code := ⟨61, true, 26, [(4, none)], G61⟩
theorem cok61 : CodeOK Try.prog C61 := codeOK (fn := Try.f61) (ts := [4]) Try.func61 form61 (resTmps_C res61) (by kernel_rfl) (by kernel_rfl)
/-- oxgall/oxgallref02.Two -/
def C62 : Code := ⟨62, true, 17, [(6, none)], G62⟩
theorem cok62 : CodeOK Try.prog C62 := codeOK (fn := Try.f62) (ts := [6]) Try.func62 form62 (resTmps_C res62) (by kernel_rfl) (by kernel_rfl)
/-- oxgall/stroke.newTable -/
def C63 : Code := ⟨63, true, 36, [(2, none)], G63⟩
theorem cok63 : CodeOK Try.prog C63 := codeOK (fn := Try.f63) (ts := [2]) Try.func63 form63 (resTmps_C res63) (by kernel_rfl) (by kernel_rfl)
/-- (*oxgall/stroke.table).down -/
def C64 : Code := ⟨64, true, 55, [(4, none)], G64⟩
theorem cok64 : CodeOK Try.prog C64 := codeOK (fn := Try.f64) (ts := [4]) Try.func64 form64 (resTmps_C res64) (by kernel_rfl) (by kernel_rfl)
/-- (*oxgall/stroke.table).up -/
def C65 : Code := ⟨65, true, 49, [(6, none)], G65⟩
theorem cok65 : CodeOK Try.prog C65 := codeOK (fn := Try.f65) (ts := [6]) Try.func65 form65 (resTmps_C res65) (by kernel_rfl) (by kernel_rfl)
/-- slices.Clone[[]int,int] -/
def C66 : Code := ⟨66, true, 8, [(2, none)], G66⟩
theorem cok66 : CodeOK Try.prog C66 := codeOK (fn := Try.f66) (ts := [2]) Try.func66 form66 (resTmps_C res66) (by kernel_rfl) (by kernel_rfl)
/-- (*oxgall/stroke.table).isMove -/
def C67 : Code := ⟨67, true, 84, [(6, none)], G67⟩
theorem cok67 : CodeOK Try.prog C67 := codeOK (fn := Try.f67) (ts := [6]) Try.func67 form67 (resTmps_C res67) (by kernel_rfl) (by kernel_rfl)
/-- (*oxgall/stroke.table).move -/
def C68 : Code := ⟨68, true, 51, [(6, none)], G68⟩
theorem cok68 : CodeOK Try.prog C68 := codeOK (fn := Try.f68) (ts := [6]) Try.func68 form68 (resTmps_C res68) (by kernel_rfl) (by kernel_rfl)
/-- oxgall/oxgallref02.Move -/
def C69 : Code := ⟨69, true, 127, [(6, none), (7, none)], G69⟩
theorem cok69 : CodeOK Try.prog C69 := codeOK (fn := Try.f69) (ts := [6, 7]) Try.func69 form69 (resTmps_C res69) (by kernel_rfl) (by kernel_rfl)
/-- (*oxgall/stroke.table).pile -/
def C70 : Code := ⟨70, false, 22, [(4, none)], G70⟩
theorem cok70 : CodeOK Try.prog C70 := codeOK (fn := Try.f70) (ts := [4]) Try.func70 form70 (resTmps_C res70) (by kernel_rfl) (by kernel_rfl)
/-- (*oxgall/stroke.pile).fronts -/
def C71 : Code := ⟨71, true, 4, [(2, none)], G71⟩
theorem cok71 : CodeOK Try.prog C71 := codeOK (fn := Try.f71) (ts := [2]) Try.func71 form71 (resTmps_C res71) (by kernel_rfl) (by kernel_rfl)
/-- oxgall/oxgallref02.firsts -/
def C72 : Code := ⟨72, true, 81, [(4, none)], G72⟩
theorem cok72 : CodeOK Try.prog C72 := codeOK (fn := Try.f72) (ts := [4]) Try.func72 form72 (resTmps_C res72) (by kernel_rfl) (by kernel_rfl)
/-- (*oxgall/stroke.pile).take -/
def C73 : Code := ⟨73, true, 41, [], G73⟩
theorem cok73 : CodeOK Try.prog C73 := codeOK (fn := Try.f73) (ts := []) Try.func73 form73 (resTmps_C res73) (by kernel_rfl) (by kernel_rfl)
/-- oxgall/oxgallref02.without -/
def C74 : Code := ⟨74, true, 15, [(4, none)], G74⟩
theorem cok74 : CodeOK Try.prog C74 := codeOK (fn := Try.f74) (ts := [4]) Try.func74 form74 (resTmps_C res74) (by kernel_rfl) (by kernel_rfl)
/-- (*oxgall/stroke.table).can -/
def C75 : Code := ⟨75, true, 25, [(6, none)], G75⟩
theorem cok75 : CodeOK Try.prog C75 := codeOK (fn := Try.f75) (ts := [6]) Try.func75 form75 (resTmps_C res75) (by kernel_rfl) (by kernel_rfl)
/-- slices.Reverse[[]int,int] -/
def C76 : Code := ⟨76, true, 28, [], G76⟩
theorem cok76 : CodeOK Try.prog C76 := codeOK (fn := Try.f76) (ts := []) Try.func76 form76 (resTmps_C res76) (by kernel_rfl) (by kernel_rfl)
/-- oxgall/oxgallref02.Reduced -/
def C77 : Code := ⟨77, true, 31, [(4, none)], G77⟩
theorem cok77 : CodeOK Try.prog C77 := codeOK (fn := Try.f77) (ts := [4]) Try.func77 form77 (resTmps_C res77) (by kernel_rfl) (by kernel_rfl)
/-- oxgall/oxgallref02.first -/
def C78 : Code := ⟨78, true, 53, [(4, none)], G78⟩
theorem cok78 : CodeOK Try.prog C78 := codeOK (fn := Try.f78) (ts := [4]) Try.func78 form78 (resTmps_C res78) (by kernel_rfl) (by kernel_rfl)
/-- (*oxgall/stroke.table).count -/
def C79 : Code := ⟨79, true, 84, [(4, none)], G79⟩
theorem cok79 : CodeOK Try.prog C79 := codeOK (fn := Try.f79) (ts := [4]) Try.func79 form79 (resTmps_C res79) (by kernel_rfl) (by kernel_rfl)
/-- slices.Concat[[]int,int] -/
def C80 : Code := ⟨80, true, 36, [(2, none)], G80⟩
theorem cok80 : CodeOK Try.prog C80 := codeOK (fn := Try.f80) (ts := [2]) Try.func80 form80 (resTmps_C res80) (by kernel_rfl) (by kernel_rfl)
/-- oxgall/stroke.back -/
def C81 : Code := ⟨81, true, 24, [(2, none)], G81⟩
theorem cok81 : CodeOK Try.prog C81 := codeOK (fn := Try.f81) (ts := [2]) Try.func81 form81 (resTmps_C res81) (by kernel_rfl) (by kernel_rfl)
/-- (*oxgall/stroke.pile).front -/
def C82 : Code := ⟨82, true, 23, [(4, none)], G82⟩
theorem cok82 : CodeOK Try.prog C82 := codeOK (fn := Try.f82) (ts := [4]) Try.func82 form82 (resTmps_C res82) (by kernel_rfl) (by kernel_rfl)
/-- oxgall/stroke.least[int] -/
def C83 : Code := ⟨83, true, 28, [(4, none)], G83⟩
theorem cok83 : CodeOK Try.prog C83 := codeOK (fn := Try.f83) (ts := [4]) Try.func83 form83 (resTmps_C res83) (by kernel_rfl) (by kernel_rfl)
/-- oxgall/stroke.key -/
def C84 : Code := ⟨84, true, 11, [(2, none)], G84⟩
theorem cok84 : CodeOK Try.prog C84 := codeOK (fn := Try.f84) (ts := [2]) Try.func84 form84 (resTmps_C res84) (by kernel_rfl) (by kernel_rfl)
/-- oxgall/oxgallref02.both -/
def C85 : Code := ⟨85, true, 65, [(6, none), (7, none)], G85⟩
theorem cok85 : CodeOK Try.prog C85 := codeOK (fn := Try.f85) (ts := [6, 7]) Try.func85 form85 (resTmps_C res85) (by kernel_rfl) (by kernel_rfl)
/-- oxgall/oxgallref02.Line -/
def C86 : Code := ⟨86, true, 9, [(2, none)], G86⟩
theorem cok86 : CodeOK Try.prog C86 := codeOK (fn := Try.f86) (ts := [2]) Try.func86 form86 (resTmps_C res86) (by kernel_rfl) (by kernel_rfl)
/-- slices.ContainsFunc[[]int,int] -/
def C87 : Code := ⟨87, true, 9, [(4, none)], G87⟩
theorem cok87 : CodeOK Try.prog C87 := codeOK (fn := Try.f87) (ts := [4]) Try.func87 form87 (resTmps_C res87) (by kernel_rfl) (by kernel_rfl)
/-- oxgall/stroke.within$1 -/
def C88 : Code := ⟨88, true, 13, [(4, none)], G88⟩
theorem cok88 : CodeOK Try.prog C88 := codeOK (fn := Try.f88) (ts := [4]) Try.func88 form88 (resTmps_C res88) (by kernel_rfl) (by kernel_rfl)
/-- slices.Index[[][2]int,[2]int] -/
def C89 : Code := ⟨89, true, 19, [(4, none)], G89⟩
theorem cok89 : CodeOK Try.prog C89 := codeOK (fn := Try.f89) (ts := [4]) Try.func89 form89 (resTmps_C res89) (by kernel_rfl) (by kernel_rfl)
/-- slices.Index[[]int,int] -/
def C90 : Code := ⟨90, true, 19, [(4, none)], G90⟩
theorem cok90 : CodeOK Try.prog C90 := codeOK (fn := Try.f90) (ts := [4]) Try.func90 form90 (resTmps_C res90) (by kernel_rfl) (by kernel_rfl)
/-- (*oxgall/stroke.table).down$1 -/
def C91 : Code := ⟨91, true, 13, [], G91⟩
theorem cok91 : CodeOK Try.prog C91 := codeOK (fn := Try.f91) (ts := []) Try.func91 form91 (resTmps_C res91) (by kernel_rfl) (by kernel_rfl)
/-- (*oxgall/stroke.table).down$2 -/
def C92 : Code := ⟨92, true, 17, [], G92⟩
theorem cok92 : CodeOK Try.prog C92 := codeOK (fn := Try.f92) (ts := []) Try.func92 form92 (resTmps_C res92) (by kernel_rfl) (by kernel_rfl)
/-- (*oxgall/stroke.table).undone -/
def C93 : Code := ⟨93, true, 49, [(4, none), (5, none)], G93⟩
theorem cok93 : CodeOK Try.prog C93 := codeOK (fn := Try.f93) (ts := [4, 5]) Try.func93 form93 (resTmps_C res93) (by kernel_rfl) (by kernel_rfl)
/-- slices.Reverse[[]oxgall/api.StrokeMove,oxgall/api.StrokeMove] -/
def C94 : Code := ⟨94, true, 28, [], G94⟩
theorem cok94 : CodeOK Try.prog C94 := codeOK (fn := Try.f94) (ts := []) Try.func94 form94 (resTmps_C res94) (by kernel_rfl) (by kernel_rfl)
/-- slices.Delete[[]int,int] -/
def C95 : Code := ⟨95, true, 33, [(6, none)], G95⟩
theorem cok95 : CodeOK Try.prog C95 := codeOK (fn := Try.f95) (ts := [6]) Try.func95 form95 (resTmps_C res95) (by kernel_rfl) (by kernel_rfl)
/-- slices.Insert[[]int,int] -/
def C96 : Code := ⟨96, true, 95, [(6, none)], G96⟩
theorem cok96 : CodeOK Try.prog C96 := codeOK (fn := Try.f96) (ts := [6]) Try.func96 form96 (resTmps_C res96) (by kernel_rfl) (by kernel_rfl)
/-- (*oxgall/stroke.pile).lay -/
def C97 : Code := ⟨97, true, 109, [], G97⟩
theorem cok97 : CodeOK Try.prog C97 := codeOK (fn := Try.f97) (ts := []) Try.func97 form97 (resTmps_C res97) (by kernel_rfl) (by kernel_rfl)
/-- (*oxgall/stroke.pile).fronts$1 -/
def C98 : Code := ⟨98, true, 30, [], G98⟩
theorem cok98 : CodeOK Try.prog C98 := codeOK (fn := Try.f98) (ts := []) Try.func98 form98 (resTmps_C res98) (by kernel_rfl) (by kernel_rfl)
/-- oxgall/oxgallref02.Key -/
def C99 : Code := ⟨99, true, 12, [(2, none)], G99⟩
theorem cok99 : CodeOK Try.prog C99 := codeOK (fn := Try.f99) (ts := [2]) Try.func99 form99 (resTmps_C res99) (by kernel_rfl) (by kernel_rfl)
/-- oxgall/stroke.line -/
def C100 : Code := ⟨100, true, 8, [(2, none)], G100⟩
theorem cok100 : CodeOK Try.prog C100 := codeOK (fn := Try.f100) (ts := [2]) Try.func100 form100 (resTmps_C res100) (by kernel_rfl) (by kernel_rfl)
/-- oxgall/oxgallref02.undone -/
def C101 : Code := ⟨101, true, 58, [(4, none), (5, none)], G101⟩
theorem cok101 : CodeOK Try.prog C101 := codeOK (fn := Try.f101) (ts := [4, 5]) Try.func101 form101 (resTmps_C res101) (by kernel_rfl) (by kernel_rfl)
/-- (*oxgall/stroke.table).waits -/
def C102 : Code := ⟨102, true, 60, [(10, none)], G102⟩
theorem cok102 : CodeOK Try.prog C102 := codeOK (fn := Try.f102) (ts := [10]) Try.func102 form102 (resTmps_C res102) (by kernel_rfl) (by kernel_rfl)
/-- slices.Grow[[]int,int] -/
def C103 : Code := ⟨103, true, 27, [(4, none)], G103⟩
theorem cok103 : CodeOK Try.prog C103 := codeOK (fn := Try.f103) (ts := [4]) Try.func103 form103 (resTmps_C res103) (by kernel_rfl) (by kernel_rfl)
/-- slices.IndexFunc[[]int,int] -/
def C104 : Code := ⟨104, true, 19, [(4, none)], G104⟩
theorem cok104 : CodeOK Try.prog C104 := codeOK (fn := Try.f104) (ts := [4]) Try.func104 form104 (resTmps_C res104) (by kernel_rfl) (by kernel_rfl)
/-- slices.rotateRight[int] -/
def C106 : Code := ⟨106, true, 10, [], G106⟩
theorem cok106 : CodeOK Try.prog C106 := codeOK (fn := Try.f106) (ts := []) Try.func106 form106 (resTmps_C res106) (by kernel_rfl) (by kernel_rfl)
/-- slices.rotateLeft[int] -/
def C107 : Code := ⟨107, true, 14, [], G107⟩
theorem cok107 : CodeOK Try.prog C107 := codeOK (fn := Try.f107) (ts := []) Try.func107 form107 (resTmps_C res107) (by kernel_rfl) (by kernel_rfl)
end Go.AM

/- Works, by the evaluator. Own work. -/
set_option maxRecDepth 100000
namespace Go.AM
open Go.RowKit Go.Proofs

def ovlX : FuncId → List AV → List HObj → Option AV
  | f, [.sl _ m cs, .ms id _ _ 1], hp => if f = 105 ∧ cs.length = m then (match cellsE hp id with | some _ => some (B false) | none => none) else none
  | f, [.sl _ m cs, .mc id _ _ _ 1], hp => if f = 105 ∧ cs.length = m then (match cellsE hp id with | some _ => some (B false) | none => none) else none
  | _, _, _ => none

def tab1 : List Code := [C18, C19, C20, C21, C22, C23, C24, C25, C26, C27, C28, C29, C30, C31, C32, C33, C34, C35, C36, C37, C38, C39, C40, C41, C42, C43, C44, C45, C46, C47, C48, C49, C50, C51, C52, C53, C54, C55, C56, C57, C58, C59, C60, C61, C62, C63, C64, C65, C66, C67, C68, C69, C70, C71, C72, C73, C74, C75, C76, C77, C78, C79, C80, C81, C82, C83, C84, C85, C86, C87, C88, C89, C90, C91, C92, C93, C94, C95, C96, C97, C98, C99, C100, C101, C102, C103, C104, C106, C107]

def kn1 : List Kn := [⟨95, .del, 8, [I 0]⟩, ⟨96, .ins 105 106, 8, [I 0]⟩]

end Go.AM

/- THE TABLE OF THE EVALUATOR for the stroke layer, with its proofs. Own work. -/
set_option maxRecDepth 100000
namespace Go.AM
open Go.RowKit Go.Proofs

theorem tab1_ok : ∀ c ∈ tab1, CodeOK Try.prog c := by
  unfold tab1
  simp only [List.forall_mem_cons, List.not_mem_nil, false_implies, implies_true, and_true]
  exact ⟨cok18, cok19, cok20, cok21, cok22, cok23, cok24, cok25, cok26, cok27, cok28, cok29, cok30, cok31, cok32, cok33, cok34, cok35, cok36, cok37, cok38, cok39, cok40, cok41, cok42, cok43, cok44, cok45, cok46, cok47, cok48, cok49, cok50, cok51, cok52, cok53, cok54, cok55, cok56, cok57, cok58, cok59, cok60, cok61, cok62, cok63, cok64, cok65, cok66, cok67, cok68, cok69, cok70, cok71, cok72, cok73, cok74, cok75, cok76, cok77, cok78, cok79, cok80, cok81, cok82, cok83, cok84, cok85, cok86, cok87, cok88, cok89, cok90, cok91, cok92, cok93, cok94, cok95, cok96, cok97, cok98, cok99, cok100, cok101, cok102, cok103, cok104, cok106, cok107⟩

theorem ovlX_ok : ∀ f xs hp r, ovlX f xs hp = some r → ExtOK Try.prog f xs (hpf hp) r := by
  intro f xs hp r h
  unfold ovlX at h
  split at h
  · split at h
    · rename_i hc
      obtain ⟨rfl, hc⟩ := hc
      split at h
      · rename_i bs hbs
        cases h
        exact ext_ovl Try.func105 (by kernel_rfl) (by kernel_rfl) (by kernel_rfl) (tS := 25) (tR := 4) (by kernel_rfl) Try.underlying25 (agg := false) (sz := 1) (by kernel_rfl) (by omega) (cellsE_eq hbs) (.inl rfl)
      · cases h
    · cases h
  · split at h
    · rename_i hc
      obtain ⟨rfl, hc⟩ := hc
      split at h
      · rename_i bs hbs
        cases h
        exact ext_ovl Try.func105 (by kernel_rfl) (by kernel_rfl) (by kernel_rfl) (tS := 25) (tR := 4) (by kernel_rfl) Try.underlying25 (agg := false) (sz := 1) (by kernel_rfl) (by omega) (cellsE_eq hbs) (.inr ⟨_, rfl⟩)
      · cases h
    · cases h
  · cases h

theorem kn1_ok : ∀ k ∈ kn1, KnOK Try.prog k := by
  unfold kn1
  simp only [List.forall_mem_cons, List.not_mem_nil, false_implies, implies_true, and_true]
  refine ⟨⟨⟨Try.f95, Try.func95, form95, res95, by decide +kernel⟩, rfl, rfl, fun xf rf h => by cases h⟩, ⟨⟨Try.f96, Try.func96, form96, res96, by decide +kernel⟩, rfl, rfl, ?_⟩⟩
  intro xf rf h g m ys hys hh id' off' n' c' bs hb
  cases h
  exact ext_ovl Try.func105 (by kernel_rfl) (by kernel_rfl) (by kernel_rfl) (tS := 25) (tR := 4) (by kernel_rfl) Try.underlying25 (agg := false) (sz := 1) (by kernel_rfl) (by omega) hb (.inr ⟨_, rfl⟩)

/-- The table with these hooks. -/
def tabH (hs : List Hk) (h : ∀ k ∈ hs, HkOK Try.prog k) : Tab Try.prog := ⟨hs, h, tab1, tab1_ok, kn1, kn1_ok, ovlX, ovlX_ok⟩

theorem eval_tab {hs : List Hk} (h : ∀ k ∈ hs, HkOK Try.prog k) {n k : Nat} {f : FuncId} {ys : List AV} {r : AV} (e : evalE hs tab1 kn1 ovlX n k f ys = some (.val r)) : PureOK Try.prog f ys r := evalE_ok (tabH hs h) e

/-- Answers found before. -/
def memoG : List (List AV × AV) → List AV → Option AV
  | [], _ => none
  | (a, r) :: t, ys => if eqL (avEq 8) ys a then some r else memoG t ys
theorem memoG_ok {f : FuncId} : ∀ {t : List (List AV × AV)}, (∀ p ∈ t, PureOK Try.prog f p.1 p.2) → HkOK Try.prog ⟨f, memoG t⟩
  | [], _, ys, r, h => by cases h
  | (a, q) :: t, ht, ys, r, h => by
    have h' : memoG ((a, q) :: t) ys = some r := h
    simp only [memoG] at h'
    split at h'
    · rename_i he; cases h'
      rw [eqL_eq (fun a b hab => avEq_eq hab) he]
      exact ht (a, q) (by simp)
    · exact memoG_ok (f := f) (t := t) (fun p hp => ht p (by simp [hp])) ys r h'

end Go.AM

/- CLOSED CALLS found by the evaluator in the kernel. Own work (printed by a program of this claim). -/
set_option maxRecDepth 1000000
namespace Go.AM
open Go.RowKit Go.Proofs

theorem pc0 : PureOK Try.prog 24 [(.agg [(I 4), (.sl true 3 [(I 0), (I 1), (I 1), (I 2), (I 2), (I 3)])]), (.sl true 3 [(I 2), (I 4), (I (-2))])] (.tup [(.sl false 1 [(I 4)]), (I 0)]) := eval_tab hks1_ok (n := 100) (k := 30) (show evalE hks1 tab1 kn1 ovlX 100 30 24 [(.agg [(I 4), (.sl true 3 [(I 0), (I 1), (I 1), (I 2), (I 2), (I 3)])]), (.sl true 3 [(I 2), (I 4), (I (-2))])] = some (.val (.tup [(.sl false 1 [(I 4)]), (I 0)])) by kernel_rfl)
theorem pc3 : PureOK Try.prog 27 [(.agg [(I 4), (.sl true 3 [(I 0), (I 1), (I 1), (I 2), (I 2), (I 3)])]), (.sl true 2 [(I 1), (I 2)]), (.sl true 2 [(I 2), (I 1)])] (I 18) := eval_tab hks1_ok (n := 100) (k := 30) (show evalE hks1 tab1 kn1 ovlX 100 30 27 [(.agg [(I 4), (.sl true 3 [(I 0), (I 1), (I 1), (I 2), (I 2), (I 3)])]), (.sl true 2 [(I 1), (I 2)]), (.sl true 2 [(I 2), (I 1)])] = some (.val (I 18)) by kernel_rfl)
theorem pc6 : PureOK Try.prog 32 [(.agg [(I 4), (.sl true 3 [(I 0), (I 1), (I 1), (I 2), (I 2), (I 3)])]), (.sl true 4 [(I 4), (I 1), (I 3), (I 2)])] (.tup [(.sl false 2 [(I 1), (I 4)]), (I 0)]) := eval_tab hks1_ok (n := 100) (k := 30) (show evalE hks1 tab1 kn1 ovlX 100 30 32 [(.agg [(I 4), (.sl true 3 [(I 0), (I 1), (I 1), (I 2), (I 2), (I 3)])]), (.sl true 4 [(I 4), (I 1), (I 3), (I 2)])] = some (.val (.tup [(.sl false 2 [(I 1), (I 4)]), (I 0)])) by kernel_rfl)
theorem pc9 : PureOK Try.prog 38 [(.agg [(I 4), (.sl true 3 [(I 0), (I 1), (I 1), (I 2), (I 2), (I 3)])]), (.sl true 4 [(I 4), (I 1), (I 3), (I 2)])] (.tup [(.sl false 3 [(I 1), (I 2), (I 3)]), (I 0)]) := eval_tab hks1_ok (n := 100) (k := 30) (show evalE hks1 tab1 kn1 ovlX 100 30 38 [(.agg [(I 4), (.sl true 3 [(I 0), (I 1), (I 1), (I 2), (I 2), (I 3)])]), (.sl true 4 [(I 4), (I 1), (I 3), (I 2)])] = some (.val (.tup [(.sl false 3 [(I 1), (I 2), (I 3)]), (I 0)])) by kernel_rfl)
theorem pc12 : PureOK Try.prog 45 [(.agg [(I 4), (.sl true 3 [(I 0), (I 1), (I 1), (I 2), (I 2), (I 3)])]), (.sl true 4 [(I 1), (I 4), (I 3), (I 2)]), (.sl true 3 [(I 4), (I 1), (I 2)])] (.tup [(.sl false 2 [(I 1), (I 4)]), (I 0)]) := eval_tab hks1_ok (n := 100) (k := 30) (show evalE hks1 tab1 kn1 ovlX 100 30 45 [(.agg [(I 4), (.sl true 3 [(I 0), (I 1), (I 1), (I 2), (I 2), (I 3)])]), (.sl true 4 [(I 1), (I 4), (I 3), (I 2)]), (.sl true 3 [(I 4), (I 1), (I 2)])] = some (.val (.tup [(.sl false 2 [(I 1), (I 4)]), (I 0)])) by kernel_rfl)
end Go.AM

/- CLOSED CALLS found by the evaluator in the kernel. Own work (printed by a program of this claim). -/
set_option maxRecDepth 1000000
namespace Go.AM
open Go.RowKit Go.Proofs

theorem pc1 : PureOK Try.prog 24 [(.agg [(I 4), (.sl true 3 [(I 0), (I 1), (I 1), (I 2), (I 2), (I 3)])]), (.sl true 5 [(I 3), (I 1), (I 2), (I (-2)), (I 1)])] (.tup [(.sl false 3 [(I 1), (I 1), (I 3)]), (I 0)]) := eval_tab hks1_ok (n := 100) (k := 30) (show evalE hks1 tab1 kn1 ovlX 100 30 24 [(.agg [(I 4), (.sl true 3 [(I 0), (I 1), (I 1), (I 2), (I 2), (I 3)])]), (.sl true 5 [(I 3), (I 1), (I 2), (I (-2)), (I 1)])] = some (.val (.tup [(.sl false 3 [(I 1), (I 1), (I 3)]), (I 0)])) by kernel_rfl)
theorem pc4 : PureOK Try.prog 30 [(.agg [(I 4), (.sl true 3 [(I 0), (I 1), (I 1), (I 2), (I 2), (I 3)])]), (.sl true 3 [(I 2), (I 4), (I (-2))]), (.sl true 1 [(I 4)]), (.sl true 2 [(I 1), (I 1), (I 0), (I 2), (I 0), (I 0)])] (I 0) := eval_tab hks1_ok (n := 100) (k := 30) (show evalE hks1 tab1 kn1 ovlX 100 30 30 [(.agg [(I 4), (.sl true 3 [(I 0), (I 1), (I 1), (I 2), (I 2), (I 3)])]), (.sl true 3 [(I 2), (I 4), (I (-2))]), (.sl true 1 [(I 4)]), (.sl true 2 [(I 1), (I 1), (I 0), (I 2), (I 0), (I 0)])] = some (.val (I 0)) by kernel_rfl)
theorem pc7 : PureOK Try.prog 34 [(.agg [(I 4), (.sl true 3 [(I 0), (I 1), (I 1), (I 2), (I 2), (I 3)])]), (.sl true 4 [(I 4), (I 1), (I 3), (I 2)])] (.tup [(.sl false 3 [(.sl false 2 [(I 1), (I 4)]), (.sl false 1 [(I 3)]), (.sl false 1 [(I 2)])]), (I 0)]) := eval_tab hks1_ok (n := 100) (k := 30) (show evalE hks1 tab1 kn1 ovlX 100 30 34 [(.agg [(I 4), (.sl true 3 [(I 0), (I 1), (I 1), (I 2), (I 2), (I 3)])]), (.sl true 4 [(I 4), (I 1), (I 3), (I 2)])] = some (.val (.tup [(.sl false 3 [(.sl false 2 [(I 1), (I 4)]), (.sl false 1 [(I 3)]), (.sl false 1 [(I 2)])]), (I 0)])) by kernel_rfl)
theorem pc10 : PureOK Try.prog 41 [(.agg [(I 4), (.sl true 3 [(I 0), (I 1), (I 1), (I 2), (I 2), (I 3)])]), (.sl true 4 [(I 4), (I 1), (I 3), (I 2)])] (.tup [(I 3), (I 0)]) := eval_tab hks1_ok (n := 100) (k := 30) (show evalE hks1 tab1 kn1 ovlX 100 30 41 [(.agg [(I 4), (.sl true 3 [(I 0), (I 1), (I 1), (I 2), (I 2), (I 3)])]), (.sl true 4 [(I 4), (I 1), (I 3), (I 2)])] = some (.val (.tup [(I 3), (I 0)])) by kernel_rfl)
theorem pc13 : PureOK Try.prog 29 [(.agg [(I 4), (.sl true 3 [(I 0), (I 1), (I 1), (I 2), (I 2), (I 3)])]), (.sl true 5 [(I 3), (I 1), (I 2), (I (-2)), (I 1)]), (.sl true 3 [(I 1), (I 3), (I 1)])] (.tup [(.sl false 4 [(I 2), (I 2), (I 0), (I 1), (I 0), (I 0), (I 1), (I 1), (I 0), (I 1), (I 1), (I 0)]), (I 0)]) := eval_tab hks1_ok (n := 100) (k := 30) (show evalE hks1 tab1 kn1 ovlX 100 30 29 [(.agg [(I 4), (.sl true 3 [(I 0), (I 1), (I 1), (I 2), (I 2), (I 3)])]), (.sl true 5 [(I 3), (I 1), (I 2), (I (-2)), (I 1)]), (.sl true 3 [(I 1), (I 3), (I 1)])] = some (.val (.tup [(.sl false 4 [(I 2), (I 2), (I 0), (I 1), (I 0), (I 0), (I 1), (I 1), (I 0), (I 1), (I 1), (I 0)]), (I 0)])) by kernel_rfl)
end Go.AM

/- CLOSED CALLS found by the evaluator in the kernel. Own work (printed by a program of this claim). -/
set_option maxRecDepth 1000000
namespace Go.AM
open Go.RowKit Go.Proofs

theorem pc2 : PureOK Try.prog 27 [(.agg [(I 4), (.sl true 3 [(I 0), (I 1), (I 1), (I 2), (I 2), (I 3)])]), (.sl true 5 [(I 3), (I 1), (I 2), (I (-2)), (I 1)]), (.sl true 3 [(I 1), (I 3), (I 1)])] (I 0) := eval_tab hks1_ok (n := 100) (k := 30) (show evalE hks1 tab1 kn1 ovlX 100 30 27 [(.agg [(I 4), (.sl true 3 [(I 0), (I 1), (I 1), (I 2), (I 2), (I 3)])]), (.sl true 5 [(I 3), (I 1), (I 2), (I (-2)), (I 1)]), (.sl true 3 [(I 1), (I 3), (I 1)])] = some (.val (I 0)) by kernel_rfl)
theorem pc5 : PureOK Try.prog 30 [(.agg [(I 4), (.sl true 3 [(I 0), (I 1), (I 1), (I 2), (I 2), (I 3)])]), (.sl true 3 [(I 2), (I 4), (I (-2))]), (.sl true 1 [(I 4)]), (.sl true 1 [(I 2), (I 0), (I 0)])] (I 16) := eval_tab hks1_ok (n := 100) (k := 30) (show evalE hks1 tab1 kn1 ovlX 100 30 30 [(.agg [(I 4), (.sl true 3 [(I 0), (I 1), (I 1), (I 2), (I 2), (I 3)])]), (.sl true 3 [(I 2), (I 4), (I (-2))]), (.sl true 1 [(I 4)]), (.sl true 1 [(I 2), (I 0), (I 0)])] = some (.val (I 16)) by kernel_rfl)
theorem pc8 : PureOK Try.prog 36 [(.agg [(I 4), (.sl true 3 [(I 0), (I 1), (I 1), (I 2), (I 2), (I 3)])]), (.sl true 4 [(I 4), (I 1), (I 3), (I 2)]), (.sl true 3 [(I 1), (I 2), (I 3)])] (.tup [(I 3), (I 0)]) := eval_tab hks1_ok (n := 100) (k := 30) (show evalE hks1 tab1 kn1 ovlX 100 30 36 [(.agg [(I 4), (.sl true 3 [(I 0), (I 1), (I 1), (I 2), (I 2), (I 3)])]), (.sl true 4 [(I 4), (I 1), (I 3), (I 2)]), (.sl true 3 [(I 1), (I 2), (I 3)])] = some (.val (.tup [(I 3), (I 0)])) by kernel_rfl)
theorem pc11 : PureOK Try.prog 43 [(.agg [(I 4), (.sl true 3 [(I 0), (I 1), (I 1), (I 2), (I 2), (I 3)])]), (.sl true 4 [(I 1), (I 4), (I 3), (I 2)]), (.sl true 3 [(I 4), (I 1), (I 2)])] (.tup [(.sl false 3 [(I (-2)), (I (-3)), (I 2)]), (I 0)]) := eval_tab hks1_ok (n := 100) (k := 30) (show evalE hks1 tab1 kn1 ovlX 100 30 43 [(.agg [(I 4), (.sl true 3 [(I 0), (I 1), (I 1), (I 2), (I 2), (I 3)])]), (.sl true 4 [(I 1), (I 4), (I 3), (I 2)]), (.sl true 3 [(I 4), (I 1), (I 2)])] = some (.val (.tup [(.sl false 3 [(I (-2)), (I (-3)), (I 2)]), (I 0)])) by kernel_rfl)
end Go.AM

/- WORKS: the closed calls as hooks, and the whole of it. Own work (printed by a program of this claim). -/
set_option maxRecDepth 1000000
namespace Go.AM
open Go.RowKit Go.Proofs

def hks2 : List Hk := [
  ⟨24, memoG [([(.agg [(I 4), (.sl true 3 [(I 0), (I 1), (I 1), (I 2), (I 2), (I 3)])]), (.sl true 3 [(I 2), (I 4), (I (-2))])], (.tup [(.sl false 1 [(I 4)]), (I 0)])), ([(.agg [(I 4), (.sl true 3 [(I 0), (I 1), (I 1), (I 2), (I 2), (I 3)])]), (.sl true 5 [(I 3), (I 1), (I 2), (I (-2)), (I 1)])], (.tup [(.sl false 3 [(I 1), (I 1), (I 3)]), (I 0)]))]⟩,
  ⟨27, memoG [([(.agg [(I 4), (.sl true 3 [(I 0), (I 1), (I 1), (I 2), (I 2), (I 3)])]), (.sl true 5 [(I 3), (I 1), (I 2), (I (-2)), (I 1)]), (.sl true 3 [(I 1), (I 3), (I 1)])], (I 0)), ([(.agg [(I 4), (.sl true 3 [(I 0), (I 1), (I 1), (I 2), (I 2), (I 3)])]), (.sl true 2 [(I 1), (I 2)]), (.sl true 2 [(I 2), (I 1)])], (I 18))]⟩,
  ⟨30, memoG [([(.agg [(I 4), (.sl true 3 [(I 0), (I 1), (I 1), (I 2), (I 2), (I 3)])]), (.sl true 3 [(I 2), (I 4), (I (-2))]), (.sl true 1 [(I 4)]), (.sl true 2 [(I 1), (I 1), (I 0), (I 2), (I 0), (I 0)])], (I 0)), ([(.agg [(I 4), (.sl true 3 [(I 0), (I 1), (I 1), (I 2), (I 2), (I 3)])]), (.sl true 3 [(I 2), (I 4), (I (-2))]), (.sl true 1 [(I 4)]), (.sl true 1 [(I 2), (I 0), (I 0)])], (I 16))]⟩,
  ⟨32, memoG [([(.agg [(I 4), (.sl true 3 [(I 0), (I 1), (I 1), (I 2), (I 2), (I 3)])]), (.sl true 4 [(I 4), (I 1), (I 3), (I 2)])], (.tup [(.sl false 2 [(I 1), (I 4)]), (I 0)]))]⟩,
  ⟨34, memoG [([(.agg [(I 4), (.sl true 3 [(I 0), (I 1), (I 1), (I 2), (I 2), (I 3)])]), (.sl true 4 [(I 4), (I 1), (I 3), (I 2)])], (.tup [(.sl false 3 [(.sl false 2 [(I 1), (I 4)]), (.sl false 1 [(I 3)]), (.sl false 1 [(I 2)])]), (I 0)]))]⟩,
  ⟨36, memoG [([(.agg [(I 4), (.sl true 3 [(I 0), (I 1), (I 1), (I 2), (I 2), (I 3)])]), (.sl true 4 [(I 4), (I 1), (I 3), (I 2)]), (.sl true 3 [(I 1), (I 2), (I 3)])], (.tup [(I 3), (I 0)]))]⟩,
  ⟨38, memoG [([(.agg [(I 4), (.sl true 3 [(I 0), (I 1), (I 1), (I 2), (I 2), (I 3)])]), (.sl true 4 [(I 4), (I 1), (I 3), (I 2)])], (.tup [(.sl false 3 [(I 1), (I 2), (I 3)]), (I 0)]))]⟩,
  ⟨41, memoG [([(.agg [(I 4), (.sl true 3 [(I 0), (I 1), (I 1), (I 2), (I 2), (I 3)])]), (.sl true 4 [(I 4), (I 1), (I 3), (I 2)])], (.tup [(I 3), (I 0)]))]⟩,
  ⟨43, memoG [([(.agg [(I 4), (.sl true 3 [(I 0), (I 1), (I 1), (I 2), (I 2), (I 3)])]), (.sl true 4 [(I 1), (I 4), (I 3), (I 2)]), (.sl true 3 [(I 4), (I 1), (I 2)])], (.tup [(.sl false 3 [(I (-2)), (I (-3)), (I 2)]), (I 0)]))]⟩,
  ⟨45, memoG [([(.agg [(I 4), (.sl true 3 [(I 0), (I 1), (I 1), (I 2), (I 2), (I 3)])]), (.sl true 4 [(I 1), (I 4), (I 3), (I 2)]), (.sl true 3 [(I 4), (I 1), (I 2)])], (.tup [(.sl false 2 [(I 1), (I 4)]), (I 0)]))]⟩,
  ⟨29, memoG [([(.agg [(I 4), (.sl true 3 [(I 0), (I 1), (I 1), (I 2), (I 2), (I 3)])]), (.sl true 5 [(I 3), (I 1), (I 2), (I (-2)), (I 1)]), (.sl true 3 [(I 1), (I 3), (I 1)])], (.tup [(.sl false 4 [(I 2), (I 2), (I 0), (I 1), (I 0), (I 0), (I 1), (I 1), (I 0), (I 1), (I 1), (I 0)]), (I 0)]))]⟩
  ] ++ hks1
theorem hks2_ok : ∀ h ∈ hks2, HkOK Try.prog h := by
  intro h hm
  unfold hks2 at hm
  rw [List.mem_append] at hm
  rcases hm with hm | hm
  · simp only [List.mem_cons, List.not_mem_nil, or_false] at hm
    rcases hm with rfl | rfl | rfl | rfl | rfl | rfl | rfl | rfl | rfl | rfl | rfl
    · exact memoG_ok (by simp only [List.forall_mem_cons, List.not_mem_nil, false_implies, implies_true, and_true]; exact ⟨pc0, pc1⟩)
    · exact memoG_ok (by simp only [List.forall_mem_cons, List.not_mem_nil, false_implies, implies_true, and_true]; exact ⟨pc2, pc3⟩)
    · exact memoG_ok (by simp only [List.forall_mem_cons, List.not_mem_nil, false_implies, implies_true, and_true]; exact ⟨pc4, pc5⟩)
    · exact memoG_ok (by simp only [List.forall_mem_cons, List.not_mem_nil, false_implies, implies_true, and_true]; exact pc6)
    · exact memoG_ok (by simp only [List.forall_mem_cons, List.not_mem_nil, false_implies, implies_true, and_true]; exact pc7)
    · exact memoG_ok (by simp only [List.forall_mem_cons, List.not_mem_nil, false_implies, implies_true, and_true]; exact pc8)
    · exact memoG_ok (by simp only [List.forall_mem_cons, List.not_mem_nil, false_implies, implies_true, and_true]; exact pc9)
    · exact memoG_ok (by simp only [List.forall_mem_cons, List.not_mem_nil, false_implies, implies_true, and_true]; exact pc10)
    · exact memoG_ok (by simp only [List.forall_mem_cons, List.not_mem_nil, false_implies, implies_true, and_true]; exact pc11)
    · exact memoG_ok (by simp only [List.forall_mem_cons, List.not_mem_nil, false_implies, implies_true, and_true]; exact pc12)
    · exact memoG_ok (by simp only [List.forall_mem_cons, List.not_mem_nil, false_implies, implies_true, and_true]; exact pc13)
  · exact hks1_ok h hm

theorem works_ok : PureOK Try.prog 19 [] (B true) := eval_tab hks2_ok (n := 100) (k := 30) (show evalE hks2 tab1 kn1 ovlX 100 30 19 [] = some (.val (B true)) by kernel_rfl)
end Go.AM
