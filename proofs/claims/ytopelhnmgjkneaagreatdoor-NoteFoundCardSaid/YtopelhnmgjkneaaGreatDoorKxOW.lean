/-
  The law NoteFound holds for every day, every part done so often, and every word cut out of it.
  Conditions: none beyond the statement's own (the row's listed variables, tied by the card to the program's text). Own work;the frame after the worked proofs.
-/
import Derived.Test.YtopelhnmgjkneaaGreatDoorKxO1
import Derived.Test.YtopelhnmgjkneaaGreatDoorCards
import Derived.Test.YtopelhnmgjkneaaGreatDoorKxOT
import Derived.ProofKit
import Derived.OpenShut
import Derived.ChangeOld
import Derived.Below
import Derived.SevenTiedAt
import Derived.ChangeMaps5
set_option linter.all false
set_option linter.unusedVariables false
set_option linter.unusedSimpArgs false
set_option linter.unnecessarySimpa false
namespace Go.Proofs.YtopelhnmgjkneaaGreatDoor.noteFoundDone
open Go Go.ChangeShapes Go.WideShapes Go.ChangeAt Go.RowKit Go.AM

abbrev spec:OpenSpec:=OpenSpec.ofChange Rows.noteFoundSpec
theorem witness_row (os : Os) {H : Type} (enc : TypeId × Value → H) :
    spec.preRow enc Tryz.prog Tryz.f15 Rows.noteFoundRow.domain false Rows.noteFoundRow.laid ((qkc os).forCall (fun _ _=>0) ⟨#[], #[.agg #[.slice none 0 0, .int .i64 0, .int .i64 0, .slice none 0 0, .slice none 0 0], .int .u8 0, .int .u8 0, .int .u64 0, .int .u8 0, .int .u8 0], []⟩).memory #[.agg #[.slice none 0 0, .int .i64 0, .int .i64 0, .slice none 0 0, .slice none 0 0], .int .u8 0, .int .u8 0, .int .u64 0, .int .u8 0, .int .u8 0]:=by
  have hw : (DataW.whole enc Tryz.prog ((qkc os).forCall (fun _ _ => 0) ⟨#[], #[.agg #[.slice none 0 0, .int .i64 0, .int .i64 0, .slice none 0 0, .slice none 0 0], .int .u8 0, .int .u8 0, .int .u64 0, .int .u8 0, .int .u8 0], []⟩).memory Tryz.f15.params.toList spec.vars false (#[.agg #[.slice none 0 0, .int .i64 0, .int .i64 0, .slice none 0 0, .slice none 0 0], .int .u8 0, .int .u8 0, .int .u64 0, .int .u8 0, .int .u8 0] : Array Value).toList 8).map (fun x => (x.1, x.2.1)) =
      some ([.agg [.nil, .lit (.int .i64 0), .lit (.int .i64 0), .nil, .nil], .lit (.int .u8 0), .lit (.int .u8 0), .lit (.int .u64 0), .lit (.int .u8 0), .lit (.int .u8 0)], []):=by kernel_rfl
  obtain ⟨⟨x1, x2, x3⟩, hx, hx1⟩:=Option.map_eq_some_iff.1 hw
  simp only [Prod.mk.injEq] at hx1
  obtain ⟨rfl, rfl⟩:=hx1
  exact OpenSpec.preRow_of_cond 8 hx (by kernel_rfl) (fun k hk=>by first | (cases hk;rfl) | cases hk) (by kernel_rfl) (qtp os _)

set_option maxRecDepth 100000 in
set_option maxHeartbeats 2000000 in
theorem lifted (os : Os) (started : os.Started) (H : Type) (enc : TypeId × Value → H) (F : Stop.Interp) :
    ReturnsInHanded {} Tryz.checked os 15 .any (spec.preRow enc Tryz.prog Tryz.f15 Rows.noteFoundRow.domain false Rows.noteFoundRow.laid) ((spec.at F).post enc Tryz.prog Tryz.f15 false true false false):=by
  refine returnsInHanded_of_row (C := Tryz.checked) (s := spec) own started (by kernel_rfl) Tryz.func15
    (witness_row_at (enc:=enc) (C:=Tryz.checked) false (qkc os) #[.agg #[.slice none 0 0, .int .i64 0, .int .i64 0, .slice none 0 0, .slice none 0 0], .int .u8 0, .int .u8 0, .int .u64 0, .int .u8 0, .int .u8 0] rfl (by kernel_rfl) (by kernel_rfl) (by kernel_rfl) (witness_row os enc)) ?_
  intro W base args ds gs before hval0 hW _ hcond0 hsz0 hL hsh _
  clear hcond0 hsz0
  have htab:TabOK (qja W) W:=qvz rfl hL
  have hval:∀ (j:Nat) t v, Tryz.f15.params[j]?=some t→args[j]?=some v→Value.okWide Tryz.prog W .any base t v:=hval0
  have hW':=hW
  obtain ⟨p, q, hA0, hV0, rfl, _, _⟩:=hW
  have hA:DataW.TrodAll enc Tryz.prog W 0 (fun _=>true) true Tryz.f15.params.toList args.toList ds p:=hA0
  rw [Tryz.params15] at hA hval
  obtain ⟨v0, vs0, d_0, ds0, p0, q0, hargs, rfl, rfl, h0, r0⟩:=trodAll_cons hA
  obtain ⟨v1, vs1, d_1, ds1, p1, q1, rfl, rfl, rfl, h1, r1⟩:=trodAll_cons r0
  obtain ⟨v2, vs2, d_2, ds2, p2, q2, rfl, rfl, rfl, h2, r2⟩:=trodAll_cons r1
  obtain ⟨v3, vs3, d_3, ds3, p3, q3, rfl, rfl, rfl, h3, r3⟩:=trodAll_cons r2
  obtain ⟨v4, vs4, d_4, ds4, p4, q4, rfl, rfl, rfl, h4, r4⟩:=trodAll_cons r3
  obtain ⟨v5, vs5, d_5, ds5, p5, q5, rfl, rfl, rfl, h5, r5⟩:=trodAll_cons r4
  obtain ⟨rfl, rfl, rfl⟩:=trodAll_nil r5
  obtain rfl:args=#[v0, v1, v2, v3, v4, v5]:=by cases args;simp_all
  obtain ⟨rfl, rfl⟩:=trodVars_none hV0
  have lt0:∀ x∈p0, x.block<W.heap.size:=by obtain ⟨m, hm⟩:=h0;exact DataW.trod_lt m _ _ _ hm
  have lt1:∀ x∈p1, x.block<W.heap.size:=by obtain ⟨m, hm⟩:=h1;exact DataW.trod_lt m _ _ _ hm
  have lt2:∀ x∈p2, x.block<W.heap.size:=by obtain ⟨m, hm⟩:=h2;exact DataW.trod_lt m _ _ _ hm
  have lt3:∀ x∈p3, x.block<W.heap.size:=by obtain ⟨m, hm⟩:=h3;exact DataW.trod_lt m _ _ _ hm
  have lt4:∀ x∈p4, x.block<W.heap.size:=by obtain ⟨m, hm⟩:=h4;exact DataW.trod_lt m _ _ _ hm
  have lt5:∀ x∈p5, x.block<W.heap.size:=by obtain ⟨m, hm⟩:=h5;exact DataW.trod_lt m _ _ _ hm
  obtain ⟨cs0, rfl, hs0⟩:=okWide_struct Tryz.underlying39 (hval 0 39 v0 rfl rfl)
  obtain ⟨_, ⟨d0, rfl, k0⟩, e0⟩:=qty qwa h0
  obtain ⟨z1, rfl⟩:=okWide_int Tryz.underlying5 (hval 1 5 v1 rfl rfl)
  obtain ⟨x1, ⟨n1, hx1, k1⟩, e1⟩:=qtz rd5 rfl h1
  obtain rfl:x1 = .v (.int .u8 n1):=by simpa using hx1
  obtain ⟨z2, rfl⟩:=okWide_int Tryz.underlying5 (hval 2 5 v2 rfl rfl)
  obtain ⟨x2, ⟨n2, hx2, k2⟩, e2⟩:=qtz rd5 rfl h2
  obtain rfl:x2 = .v (.int .u8 n2):=by simpa using hx2
  obtain ⟨z3, rfl⟩:=okWide_int Tryz.underlying81 (hval 3 81 v3 rfl rfl)
  obtain ⟨x3, ⟨n3, hx3, k3⟩, e3⟩:=qtz qxS rfl h3
  obtain rfl:x3 = .v (.int .u64 n3):=by simpa using hx3
  obtain ⟨z4, rfl⟩:=okWide_int Tryz.underlying5 (hval 4 5 v4 rfl rfl)
  obtain ⟨x4, ⟨n4, hx4, k4⟩, e4⟩:=qtz rd5 rfl h4
  obtain rfl:x4 = .v (.int .u8 n4):=by simpa using hx4
  obtain ⟨z5, rfl⟩:=okWide_int Tryz.underlying5 (hval 5 5 v5 rfl rfl)
  obtain ⟨x5, ⟨n5, hx5, k5⟩, e5⟩:=qtz rd5 rfl h5
  obtain rfl:x5 = .v (.int .u8 n5):=by simpa using hx5
  clear hA0 hval0
  have hp:qC Tryz.prog 15 [DyV d0, .v (.int .u8 n1), .v (.int .u8 n2), .v (.int .u64 n3), .v (.int .u8 n4), .v (.int .u8 n5)] (B true):=qwK d0 k0 n1 k1 n2 k2 n3 k3 n4 k4 n5 k5
  refine (qqx htab hp rfl (fun i hi=>?_)).mono fun e W' ⟨he, bel⟩=>?_
  · match i, hi with
    | 0, _=>exact e0
    | 1, _=>exact e1
    | 2, _=>exact e2
    | 3, _=>exact e3
    | 4, _=>exact e4
    | 5, _=>exact e5
    | i+6, hi=>first | (simp at hi;done) | (simp at hi;omega)
  subst he
  exact ⟨_, rfl, _, _, _, [], _, [], hW', trodAll_mk1 (shut_bool Tryz.underlying4 _), (trodAll_cons_mk (Below.trod qun (by kernel_rfl) (of_decide_eq_true (by kernel_rfl)) h0 bel lt0) (trodAll_cons_mk (Below.trod qun (by kernel_rfl) (of_decide_eq_true (by kernel_rfl)) h1 bel lt1) (trodAll_cons_mk (Below.trod qun (by kernel_rfl) (of_decide_eq_true (by kernel_rfl)) h2 bel lt2) (trodAll_cons_mk (Below.trod qun (by kernel_rfl) (of_decide_eq_true (by kernel_rfl)) h3 bel lt3) (trodAll_cons_mk (Below.trod qun (by kernel_rfl) (of_decide_eq_true (by kernel_rfl)) h4 bel lt4) (trodAll_cons_mk (Below.trod qun (by kernel_rfl) (of_decide_eq_true (by kernel_rfl)) h5 bel lt5) trodAll_mk0)))))), rfl, bel.frame _, fun h=>by cases h⟩

theorem named:Tryz.pinned.checked.prog.funcNamed Rows.noteFoundRow.func=some 15:=by kernel_rfl
theorem instanced:(Tryz.f15).isInstance Tryz.pinned.checked.prog Rows.noteFoundRow.origin Rows.noteFoundRow.targs:=(of_decide_eq_true (by kernel_rfl))
theorem wrapped:(Tryz.f15).isWrapper Tryz.pinned.checked.prog Rows.noteFoundRow.wrapper Rows.noteFoundRow.mainSum:=(by unfold Func.isWrapper;first | (rw [if_pos (by decide +kernel)];kernel_rfl) | (rw [if_neg (by decide +kernel)];exact ⟨rfl, rfl⟩))
theorem closed:joinedFacts Tryz.pinned.checked.prog 15 Tryz.f15 (OpenSpec.ofChange Rows.noteFoundSpec).bare Rows.noteFoundRow=true:=by kernel_rfl
theorem over:Rows.NoteFoundSaid :=
  OpenClaim.holds_of_cond 15 Tryz.f15 rfl rfl rfl rfl rfl rfl rfl ⟨rfl, rfl, rfl, rfl, rfl⟩ rfl rfl rfl rfl rfl named Tryz.func15 closed
    instanced wrapped
    (fun os started H enc _ F0=>by rw [OpenClaim.pre_eq_preRow];exact lifted os started H enc F0)

/-- The statement: the card. -/
theorem proved:Rows.NoteFoundCardSaid :=
  Claim7.holds_tied_plain_at .later [] [.data, .data, .data, .data, .sentinel, .sentinel, .pinned] true (true, "14d9ea18fe29258e7b16952f67f25f65cff9062b88d802288d7932fb3414c39e") true
    over (fun _ h=>by cases h) (by kernel_rfl) (fun _ h=>by cases h) noteFound_row_tie rfl ⟨rfl, rfl⟩ (by kernel_rfl) rfl
    (fun f fn hf hfn => by
      obtain rfl : f = 15 := Option.some.inj ((show Tryz.prog.funcNamed "oxgall/oxgalllaw12.NoteFound" = some 15 by kernel_rfl).symm.trans hf) |>.symm
      obtain rfl:fn=Tryz.f15:=(Option.some.inj (Tryz.func15.symm.trans hfn)).symm
      exact ⟨by kernel_rfl, fun j t ht => by
        rw [Tryz.params15] at ht
        have hj:j<6:=by
          have:=(Array.getElem?_eq_some_iff.1 ht).1
          simpa using this
        match j, hj with
        | 0, _ =>
          obtain rfl:t=39:=by simpa using ht.symm
          exact (show Tryz.prog.wantsStandIn 39=false by kernel_rfl)
        | 1, _ =>
          obtain rfl:t=5:=by simpa using ht.symm
          exact (show Tryz.prog.wantsStandIn 5=false by kernel_rfl)
        | 2, _ =>
          obtain rfl:t=5:=by simpa using ht.symm
          exact (show Tryz.prog.wantsStandIn 5=false by kernel_rfl)
        | 3, _ =>
          obtain rfl:t=81:=by simpa using ht.symm
          exact (show Tryz.prog.wantsStandIn 81=false by kernel_rfl)
        | 4, _ =>
          obtain rfl:t=5:=by simpa using ht.symm
          exact (show Tryz.prog.wantsStandIn 5=false by kernel_rfl)
        | 5, _ =>
          obtain rfl:t=5:=by simpa using ht.symm
          exact (show Tryz.prog.wantsStandIn 5=false by kernel_rfl)
        ⟩)
    (by kernel_rfl)
#print axioms proved
end Go.Proofs.YtopelhnmgjkneaaGreatDoor.noteFoundDone
