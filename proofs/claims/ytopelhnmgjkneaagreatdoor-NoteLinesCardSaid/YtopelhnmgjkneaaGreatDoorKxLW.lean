/-
  The law NoteLines holds for every text and every line: code and specification read and write them alike.
  Conditions: none beyond the statement's own (the row's listed variables, tied by the card to the program's text). Own work;the frame after the worked proofs.
-/
import Derived.Test.YtopelhnmgjkneaaGreatDoorKxL2
import Derived.Test.YtopelhnmgjkneaaGreatDoorCards
import Derived.Test.YtopelhnmgjkneaaGreatDoorKxLT
import Derived.ProofKit
import Derived.OpenShut
import Derived.ChangeOld
import Derived.Below
import Derived.SevenTiedAt
import Derived.ChangeMaps5
set_option linter.all false
set_option linter.unusedVariables false
set_option linter.unusedSimpArgs false
set_option linter.unnecessarySimpa false
namespace Go.Proofs.YtopelhnmgjkneaaGreatDoor.noteLinesDone
open Go Go.ChangeShapes Go.WideShapes Go.ChangeAt Go.RowKit Go.AM

abbrev spec:OpenSpec:=OpenSpec.ofChange Rows.noteLinesSpec
theorem witness_row (os : Os) {H : Type} (enc : TypeId × Value → H) :
    spec.preRow enc Tryz.prog Tryz.f3 Rows.noteLinesRow.domain false Rows.noteLinesRow.laid ((qkc os).forCall (fun _ _=>0) ⟨#[], #[.string ⟨#[]⟩, .agg #[.int .i64 0, .string ⟨#[]⟩, .slice none 0 0, .int .i64 0]], []⟩).memory #[.string ⟨#[]⟩, .agg #[.int .i64 0, .string ⟨#[]⟩, .slice none 0 0, .int .i64 0]]:=by
  have hw : (DataW.whole enc Tryz.prog ((qkc os).forCall (fun _ _ => 0) ⟨#[], #[.string ⟨#[]⟩, .agg #[.int .i64 0, .string ⟨#[]⟩, .slice none 0 0, .int .i64 0]], []⟩).memory Tryz.f3.params.toList spec.vars false (#[.string ⟨#[]⟩, .agg #[.int .i64 0, .string ⟨#[]⟩, .slice none 0 0, .int .i64 0]] : Array Value).toList 8).map (fun x => (x.1, x.2.1)) =
      some ([.lit (.string []), .agg [.lit (.int .i64 0), .lit (.string []), .nil, .lit (.int .i64 0)]], []):=by kernel_rfl
  obtain ⟨⟨x1, x2, x3⟩, hx, hx1⟩:=Option.map_eq_some_iff.1 hw
  simp only [Prod.mk.injEq] at hx1
  obtain ⟨rfl, rfl⟩:=hx1
  exact OpenSpec.preRow_of_cond 8 hx (by kernel_rfl) (fun k hk=>by first | (cases hk;rfl) | cases hk) (by kernel_rfl) (qtp os _)

set_option maxRecDepth 100000 in
set_option maxHeartbeats 2000000 in
theorem lifted (os : Os) (started : os.Started) (H : Type) (enc : TypeId × Value → H) (F : Stop.Interp) :
    ReturnsInHanded {} Tryz.checked os 3 .any (spec.preRow enc Tryz.prog Tryz.f3 Rows.noteLinesRow.domain false Rows.noteLinesRow.laid) ((spec.at F).post enc Tryz.prog Tryz.f3 false true false false):=by
  refine returnsInHanded_of_row (C := Tryz.checked) (s := spec) own started (by kernel_rfl) Tryz.func3
    (witness_row_at (enc:=enc) (C:=Tryz.checked) false (qkc os) #[.string ⟨#[]⟩, .agg #[.int .i64 0, .string ⟨#[]⟩, .slice none 0 0, .int .i64 0]] rfl (by kernel_rfl) (by kernel_rfl) (by kernel_rfl) (witness_row os enc)) ?_
  intro W base args ds gs before hval0 hW _ hcond0 hsz0 hL hsh _
  clear hcond0 hsz0
  have htab:TabOK (qja W) W:=qvz rfl hL
  have hval:∀ (j:Nat) t v, Tryz.f3.params[j]?=some t→args[j]?=some v→Value.okWide Tryz.prog W .any base t v:=hval0
  have hW':=hW
  obtain ⟨p, q, hA0, hV0, rfl, _, _⟩:=hW
  have hA:DataW.TrodAll enc Tryz.prog W 0 (fun _=>true) true Tryz.f3.params.toList args.toList ds p:=hA0
  rw [Tryz.params3] at hA hval
  obtain ⟨v0, vs0, d_0, ds0, p0, q0, hargs, rfl, rfl, h0, r0⟩:=trodAll_cons hA
  obtain ⟨v1, vs1, d_1, ds1, p1, q1, rfl, rfl, rfl, h1, r1⟩:=trodAll_cons r0
  obtain ⟨rfl, rfl, rfl⟩:=trodAll_nil r1
  obtain rfl:args=#[v0, v1]:=by cases args;simp_all
  obtain ⟨rfl, rfl⟩:=trodVars_none hV0
  have lt0:∀ x∈p0, x.block<W.heap.size:=by obtain ⟨m, hm⟩:=h0;exact DataW.trod_lt m _ _ _ hm
  have lt1:∀ x∈p1, x.block<W.heap.size:=by obtain ⟨m, hm⟩:=h1;exact DataW.trod_lt m _ _ _ hm
  obtain ⟨z0, rfl⟩:=okWide_string Tryz.underlying9 (hval 0 9 v0 rfl rfl)
  obtain ⟨x0, ⟨s0, hx0⟩, e0⟩:=qtz rd9 rfl h0
  obtain rfl:x0=S s0:=by simpa using hx0
  obtain ⟨cs1, rfl, hs1⟩:=okWide_struct Tryz.underlying24 (hval 1 24 v1 rfl rfl)
  obtain ⟨_, ⟨l1, rfl, k1⟩, e1⟩:=qty qv9 h1
  clear hA0 hval0
  have hp:qC Tryz.prog 3 [S s0, LnV l1] (B true):=qwE s0 l1 k1
  refine (qqx htab hp rfl (fun i hi=>?_)).mono fun e W' ⟨he, bel⟩=>?_
  · match i, hi with
    | 0, _=>exact e0
    | 1, _=>exact e1
    | i+2, hi=>first | (simp at hi;done) | (simp at hi;omega)
  subst he
  exact ⟨_, rfl, _, _, _, [], _, [], hW', trodAll_mk1 (shut_bool Tryz.underlying4 _), (trodAll_cons_mk (Below.trod qun (by kernel_rfl) (of_decide_eq_true (by kernel_rfl)) h0 bel lt0) (trodAll_cons_mk (Below.trod qun (by kernel_rfl) (of_decide_eq_true (by kernel_rfl)) h1 bel lt1) trodAll_mk0)), rfl, bel.frame _, fun h=>by cases h⟩

theorem named:Tryz.pinned.checked.prog.funcNamed Rows.noteLinesRow.func=some 3:=by kernel_rfl
theorem instanced:(Tryz.f3).isInstance Tryz.pinned.checked.prog Rows.noteLinesRow.origin Rows.noteLinesRow.targs:=(of_decide_eq_true (by kernel_rfl))
theorem wrapped:(Tryz.f3).isWrapper Tryz.pinned.checked.prog Rows.noteLinesRow.wrapper Rows.noteLinesRow.mainSum:=(by unfold Func.isWrapper;first | (rw [if_pos (by decide +kernel)];kernel_rfl) | (rw [if_neg (by decide +kernel)];exact ⟨rfl, rfl⟩))
theorem closed:joinedFacts Tryz.pinned.checked.prog 3 Tryz.f3 (OpenSpec.ofChange Rows.noteLinesSpec).bare Rows.noteLinesRow=true:=by kernel_rfl
theorem over:Rows.NoteLinesSaid :=
  OpenClaim.holds_of_cond 3 Tryz.f3 rfl rfl rfl rfl rfl rfl rfl ⟨rfl, rfl, rfl, rfl, rfl⟩ rfl rfl rfl rfl rfl named Tryz.func3 closed
    instanced wrapped
    (fun os started H enc _ F0=>by rw [OpenClaim.pre_eq_preRow];exact lifted os started H enc F0)

/-- The statement: the card. -/
theorem proved:Rows.NoteLinesCardSaid :=
  Claim7.holds_tied_plain_at .later [] [.data, .data, .data, .data, .sentinel, .sentinel, .pinned] true (true, "14d9ea18fe29258e7b16952f67f25f65cff9062b88d802288d7932fb3414c39e") true
    over (fun _ h=>by cases h) (by kernel_rfl) (fun _ h=>by cases h) noteLines_row_tie rfl ⟨rfl, rfl⟩ (by kernel_rfl) rfl
    (fun f fn hf hfn => by
      obtain rfl : f = 3 := Option.some.inj ((show Tryz.prog.funcNamed "oxgall/oxgalllaw12.NoteLines" = some 3 by kernel_rfl).symm.trans hf) |>.symm
      obtain rfl:fn=Tryz.f3:=(Option.some.inj (Tryz.func3.symm.trans hfn)).symm
      exact ⟨by kernel_rfl, fun j t ht => by
        rw [Tryz.params3] at ht
        have hj:j<2:=by
          have:=(Array.getElem?_eq_some_iff.1 ht).1
          simpa using this
        match j, hj with
        | 0, _ =>
          obtain rfl:t=9:=by simpa using ht.symm
          exact (show Tryz.prog.wantsStandIn 9=false by kernel_rfl)
        | 1, _ =>
          obtain rfl:t=24:=by simpa using ht.symm
          exact (show Tryz.prog.wantsStandIn 24=false by kernel_rfl)
        ⟩)
    (by kernel_rfl)
#print axioms proved
end Go.Proofs.YtopelhnmgjkneaaGreatDoor.noteLinesDone
