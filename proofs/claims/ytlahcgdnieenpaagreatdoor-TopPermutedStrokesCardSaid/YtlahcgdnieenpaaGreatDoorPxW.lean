/-
  Strokes that exchange neighbours on a row: lists that make the same pattern make the same of each row, short forms and ways do, and the works functions are right (TopPermutedStrokes).
  Conditions: none beyond the statement's own (the row's listed variables, tied by the card to the program's text). Own work;the frame after the worked proofs.
-/
import Derived.Test.YtlahcgdnieenpaaGreatDoorPt9
import Derived.Test.YtlahcgdnieenpaaGreatDoorPx31
import Derived.Test.YtlahcgdnieenpaaGreatDoorPx35
import Derived.Test.YtlahcgdnieenpaaGreatDoorPx18
import Derived.Test.YtlahcgdnieenpaaGreatDoorPx30
import Derived.Test.YtlahcgdnieenpaaGreatDoorCards
import Derived.ProofKit
import Derived.OpenShut
import Derived.ChangeOld
import Derived.Below
import Derived.SevenTiedAt
import Derived.LaidOnce
set_option linter.all false
set_option linter.unusedVariables false
set_option linter.unusedSimpArgs false
namespace Go.Proofs.YtlahcgdnieenpaaGreatDoor.topPermutedStrokesDone
open Go Go.ChangeShapes Go.WideShapes Go.ChangeAt Go.RowKit Go.AM

theorem own:ownKnob Tryz.prog.godebug=none:=by kernel_rfl
theorem laidOut:laidOutB Tryz.prog=true:=Facts.laidOut
def qiu:Obj->Obj
  | .cells _ t frozen => .cells (Lib.deBruijn32tab.map fun z=>Value.int .u8 ((z:Nat):Int)).toArray t frozen
  | o=>o
def qiv:Obj->Obj
  | .cells _ t frozen => .cells (Lib.deBruijn64tab.map fun z=>Value.int .u8 ((z:Nat):Int)).toArray t frozen
  | o=>o
/-- The settled world, the library's tables holding what their initialisers lay: the witness. -/
noncomputable def VO (o:Os):World:={ World.holding Tryz.prog o ⟨#[],#[],[]⟩ with heap:=((World.holding Tryz.prog o ⟨#[],#[],[]⟩).heap.modify 0 qiu).modify 1 qiv }
theorem ve (o:Os) (a:Array Value):laidMet Tryz.prog Rows.topPermutedStrokesRow.laid ((VO o).forCall (fun _ _=>0) ⟨#[],a,[]⟩).memory :=
  laidMet_of_run' 8 (by kernel_rfl) (by kernel_rfl)
abbrev spec:OpenSpec:=OpenSpec.ofChange Rows.topPermutedStrokesSpec
theorem witness_row (o:Os) {H:Type} (enc:TypeId×Value->H) :
    spec.preRow enc Tryz.prog Tryz.f4 Rows.topPermutedStrokesRow.domain false Rows.topPermutedStrokesRow.laid ((VO o).forCall (fun _ _=>0) ⟨#[],#[.slice none 0 0,.slice none 0 0,.agg #[.int .u8 0,.int .u8 0,.int .u8 0,.int .u8 0,.int .u8 0,.int .u8 0]],[]⟩).memory #[.slice none 0 0,.slice none 0 0,.agg #[.int .u8 0,.int .u8 0,.int .u8 0,.int .u8 0,.int .u8 0,.int .u8 0]]:=by
  have w:(DataW.whole enc Tryz.prog ((VO o).forCall (fun _ _=>0) ⟨#[],#[.slice none 0 0,.slice none 0 0,.agg #[.int .u8 0,.int .u8 0,.int .u8 0,.int .u8 0,.int .u8 0,.int .u8 0]],[]⟩).memory Tryz.f4.params.toList spec.vars false (#[.slice none 0 0,.slice none 0 0,.agg #[.int .u8 0,.int .u8 0,.int .u8 0,.int .u8 0,.int .u8 0,.int .u8 0]]:Array Value).toList 8).map (fun x=>(x.1,x.2.1)) =
      some ([.nil,.nil,.agg [.lit (.int .u8 0),.lit (.int .u8 0),.lit (.int .u8 0),.lit (.int .u8 0),.lit (.int .u8 0),.lit (.int .u8 0)]],[]):=by kernel_rfl
  obtain ⟨⟨X,j,z⟩,v,h⟩:=RL.1 w;simp only [qmm] at h;obtain ⟨rfl,rfl⟩:=h;exact OpenSpec.preRow_of_cond 8 v (by kernel_rfl) (fun k u=>by first | (cases u;rfl) | cases u) (by kernel_rfl) (ve o _)

set_option maxRecDepth 100000 in
set_option maxHeartbeats 2000000 in
theorem lifted (O:Os) (r:O.Started) (H:Type) (enc:TypeId×Value->H) (F:Stop.Interp) :
    ReturnsInHanded {} Tryz.checked O 4 .any (spec.preRow enc Tryz.prog Tryz.f4 Rows.topPermutedStrokesRow.domain false Rows.topPermutedStrokesRow.laid) ((spec.at F).post enc Tryz.prog Tryz.f4 false true false false):=by
  refine returnsInHanded_of_row (C:=Tryz.checked) (s:=spec) own r (by kernel_rfl) Tryz.func4
    (witness_row_at (enc:=enc) (C:=Tryz.checked) false (VO O) #[.slice none 0 0,.slice none 0 0,.agg #[.int .u8 0,.int .u8 0,.int .u8 0,.int .u8 0,.int .u8 0,.int .u8 0]] rfl (by kernel_rfl) (by kernel_rfl) (by kernel_rfl) (witness_row O enc)) ?_
  intro W z a ds gs f u E _ c y hL y2 _;clear c y;have o:TabOK (Lg W) W:=qbO rfl hL;have l:∀ (j:Nat) t v,Tryz.f4.params[j]?=some t->a[j]?=some v->Value.okWide Tryz.prog W .any z t v:=u;have L:=E;obtain ⟨p,q,A,V,rfl,_,_⟩:=E;have D:DataW.TrodAll enc Tryz.prog W 0 (fun _=>true) true Tryz.f4.params.toList a.toList ds p:=A;rw [Tryz.params4] at D l;obtain ⟨v0,y3,x5,x8,p0,q0,M,rfl,rfl,d,r0⟩:=trodAll_cons D;obtain ⟨v1,y4,x6,x9,p1,q1,rfl,rfl,rfl,w,r1⟩:=trodAll_cons r0;obtain ⟨v2,y5,x7,y0,p2,q2,rfl,rfl,rfl,k,r2⟩:=trodAll_cons r1;obtain ⟨rfl,rfl,rfl⟩:=trodAll_nil r2;obtain rfl:a=#[v0,v1,v2]:=by cases a;simp_all
  obtain ⟨rfl,rfl⟩:=trodVars_none V;have R:∀ x∈p0,x.block<W.heap.size:=by obtain ⟨m,hm⟩:=d;exact DataW.trod_lt m _ _ _ hm
  obtain ⟨a0,x2,Y,rfl⟩:=okWide_slice (e:=5) (show Tryz.prog.underlying 37=_ by kernel_rfl) (l 0 37 v0 rfl rfl);obtain ⟨x0,⟨l0,N,k0⟩,e0⟩:=MC qkT rfl d;obtain rfl:x0=Ubs false l0:=by simpa using N
  have T:∀ x∈p1,x.block<W.heap.size:=by obtain ⟨m,hm⟩:=w;exact DataW.trod_lt m _ _ _ hm
  obtain ⟨a1,x3,Z,rfl⟩:=okWide_slice (e:=5) (show Tryz.prog.underlying 37=_ by kernel_rfl) (l 1 37 v1 rfl rfl);obtain ⟨x1,⟨Q,P,k1⟩,e1⟩:=MC qkT rfl w;obtain rfl:x1=Ubs false Q:=by simpa using P
  have X:∀ x∈p2,x.block<W.heap.size:=by obtain ⟨m,hm⟩:=k;exact DataW.trod_lt m _ _ _ hm
  obtain ⟨x4,rfl,y1⟩:=Lq (n:=6) (e:=5) (show Tryz.prog.underlying 38=_ by kernel_rfl) (l 2 38 v2 rfl rfl);obtain ⟨_,⟨J,rfl,K⟩,e2⟩:=pp qlY k;clear A u;have hp:qx Tryz.prog 4 [Ubs false l0,Ubs false Q,.agg (J.map fun n=>Ub n)] (B true):=fu ql3 ql0 qiE false false l0 Q J k0 k1 K.1 K.2;refine (TL o hp rfl (fun i g=>?_)).mono fun e W' ⟨he,b⟩=>?_
  . match i,g with
    | 0,_=>exact e0
    | 1,_=>exact e1
    | 2,_=>exact e2
    | i+3,g=>first | (simp at g;done) | (simp at g;omega)
  subst he;exact ⟨_,rfl,_,_,_,[],_,[],L,trodAll_mk1 (shut_bool Tryz.underlying4 _),(trodAll_cons_mk (Below.trod laidOut (by kernel_rfl) (qn4 (by kernel_rfl)) d b R) (trodAll_cons_mk (Below.trod laidOut (by kernel_rfl) (qn4 (by kernel_rfl)) w b T) (trodAll_cons_mk (Below.trod laidOut (by kernel_rfl) (qn4 (by kernel_rfl)) k b X) trodAll_mk0))),rfl,b.frame _,fun h=>by cases h⟩

theorem named:Tryz.pinned.checked.prog.funcNamed Rows.topPermutedStrokesRow.func=some 4:=Facts.t6
theorem instanced:(Tryz.f4).isInstance Tryz.pinned.checked.prog Rows.topPermutedStrokesRow.origin Rows.topPermutedStrokesRow.targs:=(qn4 (by kernel_rfl))
theorem wrapped:(Tryz.f4).isWrapper Tryz.pinned.checked.prog Rows.topPermutedStrokesRow.wrapper Rows.topPermutedStrokesRow.mainSum:=(by unfold Func.isWrapper;first | (rw [if_pos (by decide +kernel)];kernel_rfl) | (rw [if_neg (by decide +kernel)];exact ⟨rfl,rfl⟩))
theorem closed:joinedFacts Tryz.pinned.checked.prog 4 Tryz.f4 (OpenSpec.ofChange Rows.topPermutedStrokesSpec).bare Rows.topPermutedStrokesRow=true:=Facts.closed
theorem over:Rows.TopPermutedStrokesSaid :=
  OpenClaim.holds_of_cond 4 Tryz.f4 rfl rfl rfl rfl rfl rfl rfl ⟨rfl,rfl,rfl,rfl,rfl⟩ rfl rfl rfl rfl rfl named Tryz.func4 closed
    instanced wrapped
    (fun o s H e _ u=>by rw [OpenClaim.pre_eq_preRow];exact lifted o s H e u)

/-- The statement: the card. -/
theorem proved:Rows.TopPermutedStrokesCardSaid :=
  Claim7.holds_tied_plain_at .later [] [.data, .data] true (true, "ad380be4d3f95229a2cc48498b3d3b203099f129e3b0ef10760ca3cbb8ed0dc2") false
    over (fun _ h=>by cases h) Facts.t1 (fun _ h=>by cases h) (OpenClaim.laidByTextAt_later rfl rfl Own.tie (by kernel_rfl)) rfl ⟨rfl,rfl⟩ Facts.t2 rfl
    (fun f v z n=>by
      obtain rfl : f = 4 := Option.some.inj ((show Tryz.prog.funcNamed "oxgall/oxgalltop.TopPermutedStrokes" = some 4 from Facts.t6).symm.trans z) |>.symm
      obtain rfl:v=Tryz.f4:=(qnq (Tryz.func4.symm.trans n)).symm
      exact ⟨Facts.t3,fun j t u=>by
        rw [Tryz.params4] at u;have y:j<3:=by have:=(qms.1 u).1;simpa using this
        match j,y with
        | 0,_ =>
          obtain rfl:t=37:=by simpa using u.symm
          exact Facts.t4_37
        | 1,_ =>
          obtain rfl:t=37:=by simpa using u.symm
          exact Facts.t4_37
        | 2,_ =>
          obtain rfl:t=38:=by simpa using u.symm
          exact Facts.t4_38
        ⟩)
    (Facts.t5 Facts.t6)
#print axioms proved
end Go.Proofs.YtlahcgdnieenpaaGreatDoor.topPermutedStrokesDone
