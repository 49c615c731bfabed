/-
  The law NoteKnown holds: the known answers.
  Conditions: none beyond the statement's own (the row's listed variables, tied by the card to the program's text). Own work;the frame after the worked proofs.
-/
import Derived.Test.YtopelhnmgjkneaaGreatDoorKxK1
import Derived.Test.YtopelhnmgjkneaaGreatDoorCards
import Derived.Test.YtopelhnmgjkneaaGreatDoorKxKT
import Derived.ProofKit
import Derived.OpenShut
import Derived.ChangeOld
import Derived.Below
import Derived.SevenTiedAt
import Derived.ChangeMaps5
set_option linter.all false
set_option linter.unusedVariables false
set_option linter.unusedSimpArgs false
set_option linter.unnecessarySimpa false
namespace Go.Proofs.YtopelhnmgjkneaaGreatDoor.noteKnownDone
open Go Go.ChangeShapes Go.WideShapes Go.ChangeAt Go.RowKit Go.AM

abbrev spec:OpenSpec:=OpenSpec.ofChange Rows.noteKnownSpec
theorem witness_row (os : Os) {H : Type} (enc : TypeId × Value → H) :
    spec.preRow enc Tryz.prog Tryz.f17 Rows.noteKnownRow.domain false Rows.noteKnownRow.laid ((qkc os).forCall (fun _ _=>0) ⟨#[], #[], []⟩).memory #[]:=by
  have hw : (DataW.whole enc Tryz.prog ((qkc os).forCall (fun _ _ => 0) ⟨#[], #[], []⟩).memory Tryz.f17.params.toList spec.vars false (#[] : Array Value).toList 8).map (fun x => (x.1, x.2.1)) =
      some ([], []):=by kernel_rfl
  obtain ⟨⟨x1, x2, x3⟩, hx, hx1⟩:=Option.map_eq_some_iff.1 hw
  simp only [Prod.mk.injEq] at hx1
  obtain ⟨rfl, rfl⟩:=hx1
  exact OpenSpec.preRow_of_cond 8 hx (by kernel_rfl) (fun k hk=>by first | (cases hk;rfl) | cases hk) (by kernel_rfl) (qtp os _)

set_option maxRecDepth 100000 in
set_option maxHeartbeats 2000000 in
theorem lifted (os : Os) (started : os.Started) (H : Type) (enc : TypeId × Value → H) (F : Stop.Interp) :
    ReturnsInHanded {} Tryz.checked os 17 .any (spec.preRow enc Tryz.prog Tryz.f17 Rows.noteKnownRow.domain false Rows.noteKnownRow.laid) ((spec.at F).post enc Tryz.prog Tryz.f17 false true false false):=by
  refine returnsInHanded_of_row (C := Tryz.checked) (s := spec) own started (by kernel_rfl) Tryz.func17
    (witness_row_at (enc:=enc) (C:=Tryz.checked) false (qkc os) #[] rfl (by kernel_rfl) (by kernel_rfl) (by kernel_rfl) (witness_row os enc)) ?_
  intro W base args ds gs before hval0 hW _ hcond0 hsz0 hL hsh _
  clear hcond0 hsz0
  have htab:TabOK (qja W) W:=qvz rfl hL
  have hval:∀ (j:Nat) t v, Tryz.f17.params[j]?=some t→args[j]?=some v→Value.okWide Tryz.prog W .any base t v:=hval0
  have hW':=hW
  obtain ⟨p, q, hA0, hV0, rfl, _, _⟩:=hW
  have hA:DataW.TrodAll enc Tryz.prog W 0 (fun _=>true) true Tryz.f17.params.toList args.toList ds p:=hA0
  rw [Tryz.params17] at hA hval
  obtain ⟨hargs, rfl, rfl⟩:=trodAll_nil hA
  obtain rfl:args=#[]:=by cases args;simp_all
  obtain ⟨rfl, rfl⟩:=trodVars_none hV0
  clear hA0 hval0
  have hp:qC Tryz.prog 17 [] (B true):=qws
  refine (qqx htab hp rfl (fun i hi=>(by simp at hi))).mono fun e W' ⟨he, bel⟩=>?_
  subst he
  exact ⟨_, rfl, _, _, _, [], _, [], hW', trodAll_mk1 (shut_bool Tryz.underlying4 _), rfl, rfl, bel.frame _, fun h=>by cases h⟩

theorem named:Tryz.pinned.checked.prog.funcNamed Rows.noteKnownRow.func=some 17:=by kernel_rfl
theorem instanced:(Tryz.f17).isInstance Tryz.pinned.checked.prog Rows.noteKnownRow.origin Rows.noteKnownRow.targs:=(of_decide_eq_true (by kernel_rfl))
theorem wrapped:(Tryz.f17).isWrapper Tryz.pinned.checked.prog Rows.noteKnownRow.wrapper Rows.noteKnownRow.mainSum:=(by unfold Func.isWrapper;first | (rw [if_pos (by decide +kernel)];kernel_rfl) | (rw [if_neg (by decide +kernel)];exact ⟨rfl, rfl⟩))
theorem closed:joinedFacts Tryz.pinned.checked.prog 17 Tryz.f17 (OpenSpec.ofChange Rows.noteKnownSpec).bare Rows.noteKnownRow=true:=by kernel_rfl
theorem over:Rows.NoteKnownSaid :=
  OpenClaim.holds_of_cond 17 Tryz.f17 rfl rfl rfl rfl rfl rfl rfl ⟨rfl, rfl, rfl, rfl, rfl⟩ rfl rfl rfl rfl rfl named Tryz.func17 closed
    instanced wrapped
    (fun os started H enc _ F0=>by rw [OpenClaim.pre_eq_preRow];exact lifted os started H enc F0)

/-- The statement: the card. -/
theorem proved:Rows.NoteKnownCardSaid :=
  Claim7.holds_tied_plain_at .later [] [.data, .data, .data, .data, .sentinel, .sentinel, .pinned] true (true, "14d9ea18fe29258e7b16952f67f25f65cff9062b88d802288d7932fb3414c39e") true
    over (fun _ h=>by cases h) (by kernel_rfl) (fun _ h=>by cases h) noteKnown_row_tie rfl ⟨rfl, rfl⟩ (by kernel_rfl) rfl
    (fun f fn hf hfn => by
      obtain rfl : f = 17 := Option.some.inj ((show Tryz.prog.funcNamed "oxgall/oxgalllaw12.NoteKnown" = some 17 by kernel_rfl).symm.trans hf) |>.symm
      obtain rfl:fn=Tryz.f17:=(Option.some.inj (Tryz.func17.symm.trans hfn)).symm
      exact ⟨by kernel_rfl, fun j t ht => by
        rw [Tryz.params17] at ht
        have hj:j<0:=by
          have:=(Array.getElem?_eq_some_iff.1 ht).1
          simpa using this
        match j, hj with
        | j, hj=>exact absurd hj (by omega)
        ⟩)
    (by kernel_rfl)
#print axioms proved
end Go.Proofs.YtopelhnmgjkneaaGreatDoor.noteKnownDone
