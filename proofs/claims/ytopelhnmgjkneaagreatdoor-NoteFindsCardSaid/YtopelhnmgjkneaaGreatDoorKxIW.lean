/-
  The law NoteFinds holds for every day, part and word: code and specification find it alike.
  Conditions: none beyond the statement's own (the row's listed variables, tied by the card to the program's text). Own work;the frame after the worked proofs.
-/
import Derived.Test.YtopelhnmgjkneaaGreatDoorKxI1
import Derived.Test.YtopelhnmgjkneaaGreatDoorCards
import Derived.Test.YtopelhnmgjkneaaGreatDoorKxIT
import Derived.ProofKit
import Derived.OpenShut
import Derived.ChangeOld
import Derived.Below
import Derived.SevenTiedAt
import Derived.ChangeMaps5
set_option linter.all false
set_option linter.unusedVariables false
set_option linter.unusedSimpArgs false
set_option linter.unnecessarySimpa false
namespace Go.Proofs.YtopelhnmgjkneaaGreatDoor.noteFindsDone
open Go Go.ChangeShapes Go.WideShapes Go.ChangeAt Go.RowKit Go.AM

abbrev spec:OpenSpec:=OpenSpec.ofChange Rows.noteFindsSpec
theorem witness_row (os : Os) {H : Type} (enc : TypeId × Value → H) :
    spec.preRow enc Tryz.prog Tryz.f7 Rows.noteFindsRow.domain false Rows.noteFindsRow.laid ((qkc os).forCall (fun _ _=>0) ⟨#[], #[.agg #[.slice none 0 0, .int .i64 0, .int .i64 0, .slice none 0 0, .slice none 0 0], .agg #[.int .u8 0, .int .i64 0, .int .i64 0], .string ⟨#[]⟩], []⟩).memory #[.agg #[.slice none 0 0, .int .i64 0, .int .i64 0, .slice none 0 0, .slice none 0 0], .agg #[.int .u8 0, .int .i64 0, .int .i64 0], .string ⟨#[]⟩]:=by
  have hw : (DataW.whole enc Tryz.prog ((qkc os).forCall (fun _ _ => 0) ⟨#[], #[.agg #[.slice none 0 0, .int .i64 0, .int .i64 0, .slice none 0 0, .slice none 0 0], .agg #[.int .u8 0, .int .i64 0, .int .i64 0], .string ⟨#[]⟩], []⟩).memory Tryz.f7.params.toList spec.vars false (#[.agg #[.slice none 0 0, .int .i64 0, .int .i64 0, .slice none 0 0, .slice none 0 0], .agg #[.int .u8 0, .int .i64 0, .int .i64 0], .string ⟨#[]⟩] : Array Value).toList 8).map (fun x => (x.1, x.2.1)) =
      some ([.agg [.nil, .lit (.int .i64 0), .lit (.int .i64 0), .nil, .nil], .agg [.lit (.int .u8 0), .lit (.int .i64 0), .lit (.int .i64 0)], .lit (.string [])], []):=by kernel_rfl
  obtain ⟨⟨x1, x2, x3⟩, hx, hx1⟩:=Option.map_eq_some_iff.1 hw
  simp only [Prod.mk.injEq] at hx1
  obtain ⟨rfl, rfl⟩:=hx1
  exact OpenSpec.preRow_of_cond 8 hx (by kernel_rfl) (fun k hk=>by first | (cases hk;rfl) | cases hk) (by kernel_rfl) (qtp os _)

set_option maxRecDepth 100000 in
set_option maxHeartbeats 2000000 in
theorem lifted (os : Os) (started : os.Started) (H : Type) (enc : TypeId × Value → H) (F : Stop.Interp) :
    ReturnsInHanded {} Tryz.checked os 7 .any (spec.preRow enc Tryz.prog Tryz.f7 Rows.noteFindsRow.domain false Rows.noteFindsRow.laid) ((spec.at F).post enc Tryz.prog Tryz.f7 false true false false):=by
  refine returnsInHanded_of_row (C := Tryz.checked) (s := spec) own started (by kernel_rfl) Tryz.func7
    (witness_row_at (enc:=enc) (C:=Tryz.checked) false (qkc os) #[.agg #[.slice none 0 0, .int .i64 0, .int .i64 0, .slice none 0 0, .slice none 0 0], .agg #[.int .u8 0, .int .i64 0, .int .i64 0], .string ⟨#[]⟩] rfl (by kernel_rfl) (by kernel_rfl) (by kernel_rfl) (witness_row os enc)) ?_
  intro W base args ds gs before hval0 hW _ hcond0 hsz0 hL hsh _
  clear hcond0 hsz0
  have htab:TabOK (qja W) W:=qvz rfl hL
  have hval:∀ (j:Nat) t v, Tryz.f7.params[j]?=some t→args[j]?=some v→Value.okWide Tryz.prog W .any base t v:=hval0
  have hW':=hW
  obtain ⟨p, q, hA0, hV0, rfl, _, _⟩:=hW
  have hA:DataW.TrodAll enc Tryz.prog W 0 (fun _=>true) true Tryz.f7.params.toList args.toList ds p:=hA0
  rw [Tryz.params7] at hA hval
  obtain ⟨v0, vs0, d_0, ds0, p0, q0, hargs, rfl, rfl, h0, r0⟩:=trodAll_cons hA
  obtain ⟨v1, vs1, d_1, ds1, p1, q1, rfl, rfl, rfl, h1, r1⟩:=trodAll_cons r0
  obtain ⟨v2, vs2, d_2, ds2, p2, q2, rfl, rfl, rfl, h2, r2⟩:=trodAll_cons r1
  obtain ⟨rfl, rfl, rfl⟩:=trodAll_nil r2
  obtain rfl:args=#[v0, v1, v2]:=by cases args;simp_all
  obtain ⟨rfl, rfl⟩:=trodVars_none hV0
  have lt0:∀ x∈p0, x.block<W.heap.size:=by obtain ⟨m, hm⟩:=h0;exact DataW.trod_lt m _ _ _ hm
  have lt1:∀ x∈p1, x.block<W.heap.size:=by obtain ⟨m, hm⟩:=h1;exact DataW.trod_lt m _ _ _ hm
  have lt2:∀ x∈p2, x.block<W.heap.size:=by obtain ⟨m, hm⟩:=h2;exact DataW.trod_lt m _ _ _ hm
  obtain ⟨cs0, rfl, hs0⟩:=okWide_struct Tryz.underlying39 (hval 0 39 v0 rfl rfl)
  obtain ⟨_, ⟨d0, rfl, k0⟩, e0⟩:=qty qwa h0
  obtain ⟨cs1, rfl, hs1⟩:=okWide_struct Tryz.underlying56 (hval 1 56 v1 rfl rfl)
  obtain ⟨_, ⟨p1, rfl, k1⟩, e1⟩:=qty qvV h1
  obtain ⟨z2, rfl⟩:=okWide_string Tryz.underlying9 (hval 2 9 v2 rfl rfl)
  obtain ⟨x2, ⟨s2, hx2⟩, e2⟩:=qtz rd9 rfl h2
  obtain rfl:x2=S s2:=by simpa using hx2
  clear hA0 hval0
  have hp:qC Tryz.prog 7 [DyV d0, .agg (ptC p1), S s2] (B true):=qwA d0 k0 p1 k1.1 s2
  refine (qqx htab hp rfl (fun i hi=>?_)).mono fun e W' ⟨he, bel⟩=>?_
  · match i, hi with
    | 0, _=>exact e0
    | 1, _=>exact e1
    | 2, _=>exact e2
    | i+3, hi=>first | (simp at hi;done) | (simp at hi;omega)
  subst he
  exact ⟨_, rfl, _, _, _, [], _, [], hW', trodAll_mk1 (shut_bool Tryz.underlying4 _), (trodAll_cons_mk (Below.trod qun (by kernel_rfl) (of_decide_eq_true (by kernel_rfl)) h0 bel lt0) (trodAll_cons_mk (Below.trod qun (by kernel_rfl) (of_decide_eq_true (by kernel_rfl)) h1 bel lt1) (trodAll_cons_mk (Below.trod qun (by kernel_rfl) (of_decide_eq_true (by kernel_rfl)) h2 bel lt2) trodAll_mk0))), rfl, bel.frame _, fun h=>by cases h⟩

theorem named:Tryz.pinned.checked.prog.funcNamed Rows.noteFindsRow.func=some 7:=by kernel_rfl
theorem instanced:(Tryz.f7).isInstance Tryz.pinned.checked.prog Rows.noteFindsRow.origin Rows.noteFindsRow.targs:=(of_decide_eq_true (by kernel_rfl))
theorem wrapped:(Tryz.f7).isWrapper Tryz.pinned.checked.prog Rows.noteFindsRow.wrapper Rows.noteFindsRow.mainSum:=(by unfold Func.isWrapper;first | (rw [if_pos (by decide +kernel)];kernel_rfl) | (rw [if_neg (by decide +kernel)];exact ⟨rfl, rfl⟩))
theorem closed:joinedFacts Tryz.pinned.checked.prog 7 Tryz.f7 (OpenSpec.ofChange Rows.noteFindsSpec).bare Rows.noteFindsRow=true:=by kernel_rfl
theorem over:Rows.NoteFindsSaid :=
  OpenClaim.holds_of_cond 7 Tryz.f7 rfl rfl rfl rfl rfl rfl rfl ⟨rfl, rfl, rfl, rfl, rfl⟩ rfl rfl rfl rfl rfl named Tryz.func7 closed
    instanced wrapped
    (fun os started H enc _ F0=>by rw [OpenClaim.pre_eq_preRow];exact lifted os started H enc F0)

/-- The statement: the card. -/
theorem proved:Rows.NoteFindsCardSaid :=
  Claim7.holds_tied_plain_at .later [] [.data, .data, .data, .data, .sentinel, .sentinel, .pinned] true (true, "14d9ea18fe29258e7b16952f67f25f65cff9062b88d802288d7932fb3414c39e") true
    over (fun _ h=>by cases h) (by kernel_rfl) (fun _ h=>by cases h) noteFinds_row_tie rfl ⟨rfl, rfl⟩ (by kernel_rfl) rfl
    (fun f fn hf hfn => by
      obtain rfl : f = 7 := Option.some.inj ((show Tryz.prog.funcNamed "oxgall/oxgalllaw12.NoteFinds" = some 7 by kernel_rfl).symm.trans hf) |>.symm
      obtain rfl:fn=Tryz.f7:=(Option.some.inj (Tryz.func7.symm.trans hfn)).symm
      exact ⟨by kernel_rfl, fun j t ht => by
        rw [Tryz.params7] at ht
        have hj:j<3:=by
          have:=(Array.getElem?_eq_some_iff.1 ht).1
          simpa using this
        match j, hj with
        | 0, _ =>
          obtain rfl:t=39:=by simpa using ht.symm
          exact (show Tryz.prog.wantsStandIn 39=false by kernel_rfl)
        | 1, _ =>
          obtain rfl:t=56:=by simpa using ht.symm
          exact (show Tryz.prog.wantsStandIn 56=false by kernel_rfl)
        | 2, _ =>
          obtain rfl:t=9:=by simpa using ht.symm
          exact (show Tryz.prog.wantsStandIn 9=false by kernel_rfl)
        ⟩)
    (by kernel_rfl)
#print axioms proved
end Go.Proofs.YtopelhnmgjkneaaGreatDoor.noteFindsDone
