/-
  The law NoteLaid holds for every list of pairs of bytes, and every byte.
  Conditions: none beyond the statement's own (the row's listed variables, tied by the card to the program's text). Own work;the frame after the worked proofs.
-/
import Derived.Test.YtopelhnmgjkneaaGreatDoorKxA2
import Derived.Test.YtopelhnmgjkneaaGreatDoorCards
import Derived.Test.YtopelhnmgjkneaaGreatDoorKxAT
import Derived.ProofKit
import Derived.OpenShut
import Derived.ChangeOld
import Derived.Below
import Derived.SevenTiedAt
import Derived.ChangeMaps5
set_option linter.all false
set_option linter.unusedVariables false
set_option linter.unusedSimpArgs false
set_option linter.unnecessarySimpa false
namespace Go.Proofs.YtopelhnmgjkneaaGreatDoor.noteLaidDone
open Go Go.ChangeShapes Go.WideShapes Go.ChangeAt Go.RowKit Go.AM

abbrev spec:OpenSpec:=OpenSpec.ofChange Rows.noteLaidSpec
theorem witness_row (os : Os) {H : Type} (enc : TypeId × Value → H) :
    spec.preRow enc Tryz.prog Tryz.f16 Rows.noteLaidRow.domain false Rows.noteLaidRow.laid ((qkc os).forCall (fun _ _=>0) ⟨#[], #[.slice none 0 0, .int .u8 0], []⟩).memory #[.slice none 0 0, .int .u8 0]:=by
  have hw : (DataW.whole enc Tryz.prog ((qkc os).forCall (fun _ _ => 0) ⟨#[], #[.slice none 0 0, .int .u8 0], []⟩).memory Tryz.f16.params.toList spec.vars false (#[.slice none 0 0, .int .u8 0] : Array Value).toList 8).map (fun x => (x.1, x.2.1)) =
      some ([.nil, .lit (.int .u8 0)], []):=by kernel_rfl
  obtain ⟨⟨x1, x2, x3⟩, hx, hx1⟩:=Option.map_eq_some_iff.1 hw
  simp only [Prod.mk.injEq] at hx1
  obtain ⟨rfl, rfl⟩:=hx1
  exact OpenSpec.preRow_of_cond 8 hx (by kernel_rfl) (fun k hk=>by first | (cases hk;rfl) | cases hk) (by kernel_rfl) (qtp os _)

set_option maxRecDepth 100000 in
set_option maxHeartbeats 2000000 in
theorem lifted (os : Os) (started : os.Started) (H : Type) (enc : TypeId × Value → H) (F : Stop.Interp) :
    ReturnsInHanded {} Tryz.checked os 16 .any (spec.preRow enc Tryz.prog Tryz.f16 Rows.noteLaidRow.domain false Rows.noteLaidRow.laid) ((spec.at F).post enc Tryz.prog Tryz.f16 false true false false):=by
  refine returnsInHanded_of_row (C := Tryz.checked) (s := spec) own started (by kernel_rfl) Tryz.func16
    (witness_row_at (enc:=enc) (C:=Tryz.checked) false (qkc os) #[.slice none 0 0, .int .u8 0] rfl (by kernel_rfl) (by kernel_rfl) (by kernel_rfl) (witness_row os enc)) ?_
  intro W base args ds gs before hval0 hW _ hcond0 hsz0 hL hsh _
  clear hcond0 hsz0
  have htab:TabOK (qja W) W:=qvz rfl hL
  have hval:∀ (j:Nat) t v, Tryz.f16.params[j]?=some t→args[j]?=some v→Value.okWide Tryz.prog W .any base t v:=hval0
  have hW':=hW
  obtain ⟨p, q, hA0, hV0, rfl, _, _⟩:=hW
  have hA:DataW.TrodAll enc Tryz.prog W 0 (fun _=>true) true Tryz.f16.params.toList args.toList ds p:=hA0
  rw [Tryz.params16] at hA hval
  obtain ⟨v0, vs0, d_0, ds0, p0, q0, hargs, rfl, rfl, h0, r0⟩:=trodAll_cons hA
  obtain ⟨v1, vs1, d_1, ds1, p1, q1, rfl, rfl, rfl, h1, r1⟩:=trodAll_cons r0
  obtain ⟨rfl, rfl, rfl⟩:=trodAll_nil r1
  obtain rfl:args=#[v0, v1]:=by cases args;simp_all
  obtain ⟨rfl, rfl⟩:=trodVars_none hV0
  have lt0:∀ x∈p0, x.block<W.heap.size:=by obtain ⟨m, hm⟩:=h0;exact DataW.trod_lt m _ _ _ hm
  have lt1:∀ x∈p1, x.block<W.heap.size:=by obtain ⟨m, hm⟩:=h1;exact DataW.trod_lt m _ _ _ hm
  obtain ⟨a0, len0, cap0, rfl⟩:=okWide_slice Tryz.underlying87 (hval 0 87 v0 rfl rfl)
  obtain ⟨x0, ⟨l0, hx0, k0⟩, e0⟩:=qtz qxv rfl h0
  obtain rfl:x0=qxt false l0:=by simpa using hx0
  obtain ⟨z1, rfl⟩:=okWide_int Tryz.underlying5 (hval 1 5 v1 rfl rfl)
  obtain ⟨x1, ⟨n1, hx1, k1⟩, e1⟩:=qtz rd5 rfl h1
  obtain rfl:x1 = .v (.int .u8 n1):=by simpa using hx1
  clear hA0 hval0
  have hp:qC Tryz.prog 16 [qxt false l0, .v (.int .u8 n1)] (B true):=qwN l0 k0 n1 k1
  refine (qqx htab hp rfl (fun i hi=>?_)).mono fun e W' ⟨he, bel⟩=>?_
  · match i, hi with
    | 0, _=>exact e0
    | 1, _=>exact e1
    | i+2, hi=>first | (simp at hi;done) | (simp at hi;omega)
  subst he
  exact ⟨_, rfl, _, _, _, [], _, [], hW', trodAll_mk1 (shut_bool Tryz.underlying4 _), (trodAll_cons_mk (Below.trod qun (by kernel_rfl) (of_decide_eq_true (by kernel_rfl)) h0 bel lt0) (trodAll_cons_mk (Below.trod qun (by kernel_rfl) (of_decide_eq_true (by kernel_rfl)) h1 bel lt1) trodAll_mk0)), rfl, bel.frame _, fun h=>by cases h⟩

theorem named:Tryz.pinned.checked.prog.funcNamed Rows.noteLaidRow.func=some 16:=by kernel_rfl
theorem instanced:(Tryz.f16).isInstance Tryz.pinned.checked.prog Rows.noteLaidRow.origin Rows.noteLaidRow.targs:=(of_decide_eq_true (by kernel_rfl))
theorem wrapped:(Tryz.f16).isWrapper Tryz.pinned.checked.prog Rows.noteLaidRow.wrapper Rows.noteLaidRow.mainSum:=(by unfold Func.isWrapper;first | (rw [if_pos (by decide +kernel)];kernel_rfl) | (rw [if_neg (by decide +kernel)];exact ⟨rfl, rfl⟩))
theorem closed:joinedFacts Tryz.pinned.checked.prog 16 Tryz.f16 (OpenSpec.ofChange Rows.noteLaidSpec).bare Rows.noteLaidRow=true:=by kernel_rfl
theorem over:Rows.NoteLaidSaid :=
  OpenClaim.holds_of_cond 16 Tryz.f16 rfl rfl rfl rfl rfl rfl rfl ⟨rfl, rfl, rfl, rfl, rfl⟩ rfl rfl rfl rfl rfl named Tryz.func16 closed
    instanced wrapped
    (fun os started H enc _ F0=>by rw [OpenClaim.pre_eq_preRow];exact lifted os started H enc F0)

/-- The statement: the card. -/
theorem proved:Rows.NoteLaidCardSaid :=
  Claim7.holds_tied_plain_at .later [] [.data, .data, .data, .data, .sentinel, .sentinel, .pinned] true (true, "14d9ea18fe29258e7b16952f67f25f65cff9062b88d802288d7932fb3414c39e") true
    over (fun _ h=>by cases h) (by kernel_rfl) (fun _ h=>by cases h) noteLaid_row_tie rfl ⟨rfl, rfl⟩ (by kernel_rfl) rfl
    (fun f fn hf hfn => by
      obtain rfl : f = 16 := Option.some.inj ((show Tryz.prog.funcNamed "oxgall/oxgalllaw12.NoteLaid" = some 16 by kernel_rfl).symm.trans hf) |>.symm
      obtain rfl:fn=Tryz.f16:=(Option.some.inj (Tryz.func16.symm.trans hfn)).symm
      exact ⟨by kernel_rfl, fun j t ht => by
        rw [Tryz.params16] at ht
        have hj:j<2:=by
          have:=(Array.getElem?_eq_some_iff.1 ht).1
          simpa using this
        match j, hj with
        | 0, _ =>
          obtain rfl:t=87:=by simpa using ht.symm
          exact (show Tryz.prog.wantsStandIn 87=false by kernel_rfl)
        | 1, _ =>
          obtain rfl:t=5:=by simpa using ht.symm
          exact (show Tryz.prog.wantsStandIn 5=false by kernel_rfl)
        ⟩)
    (by kernel_rfl)
#print axioms proved
end Go.Proofs.YtopelhnmgjkneaaGreatDoor.noteLaidDone
