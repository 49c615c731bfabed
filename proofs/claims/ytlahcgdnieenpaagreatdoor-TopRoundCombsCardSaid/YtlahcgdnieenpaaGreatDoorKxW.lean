/-
  A stroke that turns two circles of a row is two combs: its round, and when two colours are both at the first places, are where the combs meet, and the works functions are right (TopRoundCombs).
  Conditions: none beyond the statement's own (the row's listed variables, tied by the card to the program's text). Own work;the frame after the worked proofs.
-/
import Derived.Test.YtlahcgdnieenpaaGreatDoorKt8
import Derived.Test.YtlahcgdnieenpaaGreatDoorKx31
import Derived.Test.YtlahcgdnieenpaaGreatDoorKx34
import Derived.Test.YtlahcgdnieenpaaGreatDoorKx30
import Derived.Test.YtlahcgdnieenpaaGreatDoorCards
import Derived.ProofKit
import Derived.OpenShut
import Derived.ChangeOld
import Derived.Below
import Derived.SevenTiedAt
import Derived.LaidOnce
set_option linter.all false
set_option linter.unusedVariables false
set_option linter.unusedSimpArgs false
namespace Go.Proofs.YtlahcgdnieenpaaGreatDoor.topRoundCombsDone
open Go Go.ChangeShapes Go.WideShapes Go.ChangeAt Go.RowKit Go.AM

theorem own:ownKnob Tryz.prog.godebug=none:=by kernel_rfl
theorem laidOut:laidOutB Tryz.prog=true:=Facts.laidOut
def qAq : Obj -> Obj
  | .cells _ t frozen => .cells (Lib.deBruijn32tab.map fun z=>Value.int .u8 ((z:Nat):Int)).toArray t frozen
  | o=>o
def qAr : Obj -> Obj
  | .cells _ t frozen => .cells (Lib.deBruijn64tab.map fun z=>Value.int .u8 ((z:Nat):Int)).toArray t frozen
  | o=>o
/-- The settled world, the library's tables holding what their initialisers lay: the witness. -/
noncomputable def Js (os:Os):World:={ World.holding Tryz.prog os ⟨#[], #[], []⟩ with heap:=((World.holding Tryz.prog os ⟨#[], #[], []⟩).heap.modify 0 qAq).modify 1 qAr }
theorem qiy (os:Os) (args:Array Value):laidMet Tryz.prog Rows.topRoundCombsRow.laid ((Js os).forCall (fun _ _=>0) ⟨#[], args, []⟩).memory :=
  laidMet_of_run' 8 (by kernel_rfl) (by kernel_rfl)
abbrev spec:OpenSpec:=OpenSpec.ofChange Rows.topRoundCombsSpec
theorem witness_row (os : Os) {H : Type} (enc : TypeId × Value -> H) :
    spec.preRow enc Tryz.prog Tryz.f3 Rows.topRoundCombsRow.domain false Rows.topRoundCombsRow.laid ((Js os).forCall (fun _ _=>0) ⟨#[], #[.int .u8 0, .int .u8 0, .int .u8 0, .int .u8 0], []⟩).memory #[.int .u8 0, .int .u8 0, .int .u8 0, .int .u8 0]:=by
  have hw : (DataW.whole enc Tryz.prog ((Js os).forCall (fun _ _ => 0) ⟨#[], #[.int .u8 0, .int .u8 0, .int .u8 0, .int .u8 0], []⟩).memory Tryz.f3.params.toList spec.vars false (#[.int .u8 0, .int .u8 0, .int .u8 0, .int .u8 0] : Array Value).toList 8).map (fun x => (x.1, x.2.1)) =
      some ([.lit (.int .u8 0), .lit (.int .u8 0), .lit (.int .u8 0), .lit (.int .u8 0)], []):=by kernel_rfl
  obtain ⟨⟨x1, x2, x3⟩, hx, hx1⟩:=Option.map_eq_some_iff.1 hw;simp only [Prod.mk.injEq] at hx1;obtain ⟨rfl, rfl⟩:=hx1;exact OpenSpec.preRow_of_cond 8 hx (by kernel_rfl) (fun k hk=>by first | (cases hk;rfl) | cases hk) (by kernel_rfl) (qiy os _)

set_option maxRecDepth 100000 in
set_option maxHeartbeats 2000000 in
theorem lifted (os : Os) (started : os.Started) (H : Type) (enc : TypeId × Value -> H) (F : Stop.Interp) :
    ReturnsInHanded {} Tryz.checked os 3 .any (spec.preRow enc Tryz.prog Tryz.f3 Rows.topRoundCombsRow.domain false Rows.topRoundCombsRow.laid) ((spec.at F).post enc Tryz.prog Tryz.f3 false true false false):=by
  refine returnsInHanded_of_row (C := Tryz.checked) (s := spec) own started (by kernel_rfl) Tryz.func3
    (witness_row_at (enc:=enc) (C:=Tryz.checked) false (Js os) #[.int .u8 0, .int .u8 0, .int .u8 0, .int .u8 0] rfl (by kernel_rfl) (by kernel_rfl) (by kernel_rfl) (witness_row os enc)) ?_
  intro W base args ds gs before hval0 hW _ hcond0 hsz0 hL hsh _;clear hcond0 hsz0;have htab:TabOK (qib W) W:=qtS rfl hL;have hval:∀ (j:Nat) t v, Tryz.f3.params[j]?=some t->args[j]?=some v->Value.okWide Tryz.prog W .any base t v:=hval0;have hW':=hW;obtain ⟨p, q, hA0, hV0, rfl, _, _⟩:=hW;have hA:DataW.TrodAll enc Tryz.prog W 0 (fun _=>true) true Tryz.f3.params.toList args.toList ds p:=hA0;rw [Tryz.params3] at hA hval;obtain ⟨v0, vs0, d_0, ds0, p0, q0, hargs, rfl, rfl, h0, r0⟩:=trodAll_cons hA;obtain ⟨v1, vs1, d_1, ds1, p1, q1, rfl, rfl, rfl, h1, r1⟩:=trodAll_cons r0;obtain ⟨v2, vs2, d_2, ds2, p2, q2, rfl, rfl, rfl, h2, r2⟩:=trodAll_cons r1;obtain ⟨v3, vs3, d_3, ds3, p3, q3, rfl, rfl, rfl, h3, r3⟩:=trodAll_cons r2;obtain ⟨rfl, rfl, rfl⟩:=trodAll_nil r3;obtain rfl:args=#[v0, v1, v2, v3]:=by cases args;simp_all
  obtain ⟨rfl, rfl⟩:=trodVars_none hV0;have lt0:∀ x∈p0, x.block<W.heap.size:=by obtain ⟨m, hm⟩:=h0;exact DataW.trod_lt m _ _ _ hm
  obtain ⟨z0, rfl⟩:=okWide_int Tryz.underlying5 (hval 0 5 v0 rfl rfl);obtain ⟨x0, ⟨n0, hx0, k0⟩, e0⟩:=Wy rd5 rfl h0;obtain rfl:x0 = .v (.int .u8 n0):=by simpa using hx0
  have lt1:∀ x∈p1, x.block<W.heap.size:=by obtain ⟨m, hm⟩:=h1;exact DataW.trod_lt m _ _ _ hm
  obtain ⟨z1, rfl⟩:=okWide_int Tryz.underlying5 (hval 1 5 v1 rfl rfl);obtain ⟨x1, ⟨n1, hx1, k1⟩, e1⟩:=Wy rd5 rfl h1;obtain rfl:x1 = .v (.int .u8 n1):=by simpa using hx1
  have lt2:∀ x∈p2, x.block<W.heap.size:=by obtain ⟨m, hm⟩:=h2;exact DataW.trod_lt m _ _ _ hm
  obtain ⟨z2, rfl⟩:=okWide_int Tryz.underlying5 (hval 2 5 v2 rfl rfl);obtain ⟨x2, ⟨n2, hx2, k2⟩, e2⟩:=Wy rd5 rfl h2;obtain rfl:x2 = .v (.int .u8 n2):=by simpa using hx2
  have lt3:∀ x∈p3, x.block<W.heap.size:=by obtain ⟨m, hm⟩:=h3;exact DataW.trod_lt m _ _ _ hm
  obtain ⟨z3, rfl⟩:=okWide_int Tryz.underlying5 (hval 3 5 v3 rfl rfl);obtain ⟨x3, ⟨n3, hx3, k3⟩, e3⟩:=Wy rd5 rfl h3;obtain rfl:x3 = .v (.int .u8 n3):=by simpa using hx3
  clear hA0 hval0;have hp:z8 Tryz.prog 3 [.v (.int .u8 n0), .v (.int .u8 n1), .v (.int .u8 n2), .v (.int .u8 n3)] (B true):=quY k0 k1 k2 k3;refine (qc7 htab hp rfl (fun i hi=>?_)).mono fun e W' ⟨he, bel⟩=>?_
  . match i, hi with
    | 0, _=>exact e0
    | 1, _=>exact e1
    | 2, _=>exact e2
    | 3, _=>exact e3
    | i+4, hi=>first | (simp at hi;done) | (simp at hi;omega)
  subst he;exact ⟨_, rfl, _, _, _, [], _, [], hW', trodAll_mk1 (shut_bool Tryz.underlying4 _), (trodAll_cons_mk (Below.trod laidOut (by kernel_rfl) (of_decide_eq_true (by kernel_rfl)) h0 bel lt0) (trodAll_cons_mk (Below.trod laidOut (by kernel_rfl) (of_decide_eq_true (by kernel_rfl)) h1 bel lt1) (trodAll_cons_mk (Below.trod laidOut (by kernel_rfl) (of_decide_eq_true (by kernel_rfl)) h2 bel lt2) (trodAll_cons_mk (Below.trod laidOut (by kernel_rfl) (of_decide_eq_true (by kernel_rfl)) h3 bel lt3) trodAll_mk0)))), rfl, bel.frame _, fun h=>by cases h⟩

theorem named:Tryz.pinned.checked.prog.funcNamed Rows.topRoundCombsRow.func=some 3:=Facts.t6
theorem instanced:(Tryz.f3).isInstance Tryz.pinned.checked.prog Rows.topRoundCombsRow.origin Rows.topRoundCombsRow.targs:=(of_decide_eq_true (by kernel_rfl))
theorem wrapped:(Tryz.f3).isWrapper Tryz.pinned.checked.prog Rows.topRoundCombsRow.wrapper Rows.topRoundCombsRow.mainSum:=(by unfold Func.isWrapper;first | (rw [if_pos (by decide +kernel)];kernel_rfl) | (rw [if_neg (by decide +kernel)];exact ⟨rfl, rfl⟩))
theorem closed:joinedFacts Tryz.pinned.checked.prog 3 Tryz.f3 (OpenSpec.ofChange Rows.topRoundCombsSpec).bare Rows.topRoundCombsRow=true:=Facts.closed
theorem over:Rows.TopRoundCombsSaid :=
  OpenClaim.holds_of_cond 3 Tryz.f3 rfl rfl rfl rfl rfl rfl rfl ⟨rfl, rfl, rfl, rfl, rfl⟩ rfl rfl rfl rfl rfl named Tryz.func3 closed
    instanced wrapped
    (fun os started H enc _ F0=>by rw [OpenClaim.pre_eq_preRow];exact lifted os started H enc F0)

/-- The statement: the card. -/
theorem proved:Rows.TopRoundCombsCardSaid :=
  Claim7.holds_tied_plain_at .later [] [.data, .data] true (true, "ad380be4d3f95229a2cc48498b3d3b203099f129e3b0ef10760ca3cbb8ed0dc2") false
    over (fun _ h=>by cases h) Facts.t1 (fun _ h=>by cases h) (OpenClaim.laidByTextAt_later rfl rfl Own.tie (by kernel_rfl)) rfl ⟨rfl, rfl⟩ Facts.t2 rfl
    (fun f fn hf hfn => by
      obtain rfl : f = 3 := Option.some.inj ((show Tryz.prog.funcNamed "oxgall/oxgalltop.TopRoundCombs" = some 3 from Facts.t6).symm.trans hf) |>.symm
      obtain rfl:fn=Tryz.f3:=(Option.some.inj (Tryz.func3.symm.trans hfn)).symm
      exact ⟨Facts.t3, fun j t ht => by
        rw [Tryz.params3] at ht;have hj:j<4:=by have:=(Array.getElem?_eq_some_iff.1 ht).1;simpa using this
        match j, hj with
        | 0, _ =>
          obtain rfl:t=5:=by simpa using ht.symm
          exact Facts.t4
        | 1, _ =>
          obtain rfl:t=5:=by simpa using ht.symm
          exact Facts.t4
        | 2, _ =>
          obtain rfl:t=5:=by simpa using ht.symm
          exact Facts.t4
        | 3, _ =>
          obtain rfl:t=5:=by simpa using ht.symm
          exact Facts.t4
        ⟩)
    (Facts.t5 Facts.t6)
#print axioms proved
end Go.Proofs.YtlahcgdnieenpaaGreatDoor.topRoundCombsDone
