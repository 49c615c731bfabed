/-
  Kc3: texts joined: Am18 Sl1 Gn1 Gn2 Gn3 Mp2 Rr1 Rr2 Rr3 Rr5 Rr6 Rd. Own work.
-/
import Derived.Test.YtfpfnlnmilndmaaGreatDoorKc2
import Derived.ChangeKeysEq
import Derived.Laws.StructEq
import Derived.WalkKit
import Derived.ProofKit
import Derived.OpenShut
import Derived.ChangeOld
import Derived.Below
import Derived.Deep.Slices
set_option linter.unusedSimpArgs false
set_option linter.unusedVariables false

namespace Go.AM
open Go.RowKit
def PureW (P : Program) (f : FuncId) (xs : List AV) (hp : List HObj) (K : AV → List (Nat × HObj) → Prop) : Prop :=
 ∃ ys ids,purifyAll (hpf hp) xs = some (ys,ids) ∧ ((∃ r,PureOK P f ys r ∧ K r (bif r.scalar then [] else gones ids)) ∨ (∃ m sz cs,MadeOK P f ys m sz cs ∧ K (.ms hp.length 0 m sz) (gones ids ++ [(hp.length,.cells cs)])) ∨ ∃ Φ,MapOK P f ys Φ ∧ K (.mp hp.length) (gones ids ++ [(hp.length,.mpp Φ)]))
def AOp.wp (P : Program) (o : AOp) (F : Nat → AV) (hp : List HObj) (K : AV → List (Nat × HObj) → Prop) : Prop :=
 ∃ r ws,o.sem P (evF F) (hpf hp) hp.length r ws ∧ K r ws
def contA (P : Program) (E : HE) (os : List AOp) (d : Option Nat) (fr : List (Nat × AV)) (hp : List HObj) (K : St → Prop) (r : AV) (ws : List (Nat × HObj)) : Prop := aops P E os ⟨frPut fr d r,writeL hp ws⟩ K
def contC (P : Program) (E : HE) (os : List AOp) (d : Nat) (fr : List (Nat × AV)) (K : St → Prop) (r : AV) (hp : List HObj) : Prop := aops P E os ⟨(d,r) :: fr,hp⟩ K
def contD (P : Program) (os : List AOp) (d : Option Nat) (fr : List (Nat × AV)) (hp : List HObj) (tr : Tr) (ft : List Nat) (K : St → Tr → Prop) (r : AV) (ws : List (Nat × HObj)) : Prop :=
 dops P os ⟨frPut fr d r,writeL hp ws⟩ (tr ++ [(ft,ws.map (·.1))]) K
section
variable {P : Program} {E : HE} {fr : List (Nat × AV)} {hp : List HObj} {F : Nat → AV} {os : List AOp} {KS : St → Prop} {KD : St → Tr → Prop} {tr : Tr} {K : AV → List (Nat × HObj) → Prop}
theorem gones_nil : gones [] = [] := rfl
theorem gones_cons {i is} : gones (i :: is) = (i,.gone) :: gones is := rfl
theorem get_cons {k t x} : get ((k,x) :: fr) t = if k = t then x else get fr t := rfl
theorem get_nil {t} : get [] t = .any := rfl
theorem ev_t {t} : evF F (.t t) = F t := rfl
theorem ev_k {x} : evF F (.k x) = x := rfl
theorem x_contA {d : Option Nat} {r ws} : contA P E os d fr hp KS r ws = aops P E os ⟨frPut fr d r,writeL hp ws⟩ KS := rfl
theorem x_contC {d : Nat} {r hp} : contC P E os d fr KS r hp = aops P E os ⟨(d,r) :: fr,hp⟩ KS := rfl
theorem x_contD {d : Option Nat} {ft r ws} : contD P os d fr hp tr ft KD r ws = dops P os ⟨frPut fr d r,writeL hp ws⟩ (tr ++ [(ft,ws.map (·.1))]) KD := rfl
theorem x_nil : aops P E [] ⟨fr,hp⟩ KS = KS ⟨fr,hp⟩ := rfl
theorem x_dnil : dops P [] ⟨fr,hp⟩ tr KD = KD ⟨fr,hp⟩ tr := rfl
theorem x_call {d f args} : aops P E (.call d f args :: os) ⟨fr,hp⟩ KS = CallW P f (args.map (evF (get fr))) hp (contC P E os d fr KS) := rfl
def CallvW (P : Program) (E : HE) (x : AV) (args : List AV) (hp : List HObj) (KC : AV → List HObj → Prop) : Prop := match x with
 | .fn (.func f) first caps => funOK P f = true ∧ CallW P f (first ++ args ++ caps) hp KC
 | .yl id => ∃ K0,E.Y id args hp K0 ∧ ∀ r hp',K0 r hp' → KC r hp'
 | _ => False
theorem x_callv {d x args} : aops P E (.callv d x args :: os) ⟨fr,hp⟩ KS = CallvW P E (evF (get fr) x) (args.map (evF (get fr))) hp (contC P E os d fr KS) := by
 simp only [aops,aop,CallvW]
 generalize evF (get fr) x = u
 cases u with
 | fn f as bs => cases f <;> rfl
 | _ => rfl
theorem cv_fn {f first caps args} {KC : AV → List HObj → Prop} : CallvW P E (.fn (.func f) first caps) args hp KC = (funOK P f = true ∧ CallW P f (first ++ args ++ caps) hp KC) := rfl
theorem dx_mv {a0 a1} : dops P (.mv a0 a1 :: os) ⟨fr,hp⟩ tr KD = (AOp.mv a0 a1).wp P (get fr) hp (contD P os (some a0) fr hp tr ([]) KD) := rfl
theorem dx_pick {a0 a1 a2 a3} : dops P (.pick a0 a1 a2 a3 :: os) ⟨fr,hp⟩ tr KD = (AOp.pick a0 a1 a2 a3).wp P (get fr) hp (contD P os (some a0) fr hp tr ([]) KD) := rfl
theorem dx_bin {a0 a1 a2 a3} : dops P (.bin a0 a1 a2 a3 :: os) ⟨fr,hp⟩ tr KD = (AOp.bin a0 a1 a2 a3).wp P (get fr) hp (contD P os (some a0) fr hp tr ([]) KD) := rfl
theorem dx_bing {a0 a1 a2 a3 a4} : dops P (.bing a0 a1 a2 a3 a4 :: os) ⟨fr,hp⟩ tr KD = (AOp.bing a0 a1 a2 a3 a4).wp P (get fr) hp (contD P os (some a0) fr hp tr ([]) KD) := rfl
theorem dx_un {a0 a1 a2} : dops P (.un a0 a1 a2 :: os) ⟨fr,hp⟩ tr KD = (AOp.un a0 a1 a2).wp P (get fr) hp (contD P os (some a0) fr hp tr ([]) KD) := rfl
theorem dx_ext {a0 a1 a2} : dops P (.ext a0 a1 a2 :: os) ⟨fr,hp⟩ tr KD = (AOp.ext a0 a1 a2).wp P (get fr) hp (contD P os (some a0) fr hp tr ([]) KD) := rfl
theorem dx_ld {a0 a1 a2 a3} : dops P (.ld a0 a1 a2 a3 :: os) ⟨fr,hp⟩ tr KD = (AOp.ld a0 a1 a2 a3).wp P (get fr) hp (contD P os (some a0) fr hp tr ((evF (get fr) a3).ids) KD) := by simp [dops,AOp.wp,contD,AOp.foot,AOp.heapy,AOp.opds,AOp.dst,St.step]
theorem dx_st {a0 a1 a2} : dops P (.st a0 a1 a2 :: os) ⟨fr,hp⟩ tr KD = (AOp.st a0 a1 a2).wp P (get fr) hp (contD P os none fr hp tr ((evF (get fr) a1).ids ++ (evF (get fr) a2).ids) KD) := by simp [dops,AOp.wp,contD,AOp.foot,AOp.heapy,AOp.opds,AOp.dst,St.step]
theorem dx_box {a0 a1 a2} : dops P (.box a0 a1 a2 :: os) ⟨fr,hp⟩ tr KD = (AOp.box a0 a1 a2).wp P (get fr) hp (contD P os (some a0) fr hp tr ([]) KD) := rfl
theorem dx_al {a0 a1} : dops P (.al a0 a1 :: os) ⟨fr,hp⟩ tr KD = (AOp.al a0 a1).wp P (get fr) hp (contD P os (some a0) fr hp tr ([]) KD) := rfl
theorem dx_bsl {a0 a1 a2 a3 a4} : dops P (.bsl a0 a1 a2 a3 a4 :: os) ⟨fr,hp⟩ tr KD = (AOp.bsl a0 a1 a2 a3 a4).wp P (get fr) hp (contD P os (some a0) fr hp tr ((a4.map (·.2)).flatMap fun x => (evF (get fr) x).ids) KD) := rfl
theorem dx_bld {a0 a1 a2} : dops P (.bld a0 a1 a2 :: os) ⟨fr,hp⟩ tr KD = (AOp.bld a0 a1 a2).wp P (get fr) hp (contD P os (some a0) fr hp tr ([]) KD) := rfl
theorem dx_fa {a0 a1 a2} : dops P (.fa a0 a1 a2 :: os) ⟨fr,hp⟩ tr KD = (AOp.fa a0 a1 a2).wp P (get fr) hp (contD P os (some a0) fr hp tr ([]) KD) := rfl
theorem dx_fld {a0 a1 a2 a3 a4} : dops P (.fld a0 a1 a2 a3 a4 :: os) ⟨fr,hp⟩ tr KD = (AOp.fld a0 a1 a2 a3 a4).wp P (get fr) hp (contD P os (some a0) fr hp tr ([]) KD) := rfl
theorem dx_ia {a0 a1 a2 a3} : dops P (.ia a0 a1 a2 a3 :: os) ⟨fr,hp⟩ tr KD = (AOp.ia a0 a1 a2 a3).wp P (get fr) hp (contD P os (some a0) fr hp tr ([]) KD) := rfl
theorem dx_iaa {a0 a1 a2 a3 a4} : dops P (.iaa a0 a1 a2 a3 a4 :: os) ⟨fr,hp⟩ tr KD = (AOp.iaa a0 a1 a2 a3 a4).wp P (get fr) hp (contD P os (some a0) fr hp tr ([]) KD) := rfl
theorem dx_idx {a0 a1 a2 a3 a4 a5} : dops P (.idx a0 a1 a2 a3 a4 a5 :: os) ⟨fr,hp⟩ tr KD = (AOp.idx a0 a1 a2 a3 a4 a5).wp P (get fr) hp (contD P os (some a0) fr hp tr ([]) KD) := rfl
theorem dx_ids {a0 a1 a2} : dops P (.ids a0 a1 a2 :: os) ⟨fr,hp⟩ tr KD = (AOp.ids a0 a1 a2).wp P (get fr) hp (contD P os (some a0) fr hp tr ([]) KD) := rfl
theorem dx_len {a0 a1} : dops P (.len a0 a1 :: os) ⟨fr,hp⟩ tr KD = (AOp.len a0 a1).wp P (get fr) hp (contD P os (some a0) fr hp tr ([]) KD) := rfl
theorem dx_lns {a0 a1} : dops P (.lns a0 a1 :: os) ⟨fr,hp⟩ tr KD = (AOp.lns a0 a1).wp P (get fr) hp (contD P os (some a0) fr hp tr ([]) KD) := rfl
theorem dx_lnm {a0 a1} : dops P (.lnm a0 a1 :: os) ⟨fr,hp⟩ tr KD = (AOp.lnm a0 a1).wp P (get fr) hp (contD P os (some a0) fr hp tr ((evF (get fr) a1).ids) KD) := by simp [dops,AOp.wp,contD,AOp.foot,AOp.heapy,AOp.opds,AOp.dst,St.step]
theorem dx_slc {a0 a1 a2 a3 a4 a5} : dops P (.slc a0 a1 a2 a3 a4 a5 :: os) ⟨fr,hp⟩ tr KD = (AOp.slc a0 a1 a2 a3 a4 a5).wp P (get fr) hp (contD P os (some a0) fr hp tr ([]) KD) := rfl
theorem dx_sls {a0 a1 a2 a3} : dops P (.sls a0 a1 a2 a3 :: os) ⟨fr,hp⟩ tr KD = (AOp.sls a0 a1 a2 a3).wp P (get fr) hp (contD P os (some a0) fr hp tr ([]) KD) := rfl
theorem dx_app {a0 a1 a2 a3 a4} : dops P (.app a0 a1 a2 a3 a4 :: os) ⟨fr,hp⟩ tr KD = (AOp.app a0 a1 a2 a3 a4).wp P (get fr) hp (contD P os (some a0) fr hp tr ((evF (get fr) a3).ids ++ (evF (get fr) a4).ids) KD) := by simp [dops,AOp.wp,contD,AOp.foot,AOp.heapy,AOp.opds,AOp.dst,St.step]
theorem dx_cpy {a0 a1 a2 a3} : dops P (.cpy a0 a1 a2 a3 :: os) ⟨fr,hp⟩ tr KD = (AOp.cpy a0 a1 a2 a3).wp P (get fr) hp (contD P os (some a0) fr hp tr ((evF (get fr) a2).ids ++ (evF (get fr) a3).ids) KD) := by simp [dops,AOp.wp,contD,AOp.foot,AOp.heapy,AOp.opds,AOp.dst,St.step]
theorem dx_mks {a0 a1 a2 a3 a4 a5} : dops P (.mks a0 a1 a2 a3 a4 a5 :: os) ⟨fr,hp⟩ tr KD = (AOp.mks a0 a1 a2 a3 a4 a5).wp P (get fr) hp (contD P os (some a0) fr hp tr ([]) KD) := rfl
theorem dx_cnv {a0 a1 a2} : dops P (.cnv a0 a1 a2 :: os) ⟨fr,hp⟩ tr KD = (AOp.cnv a0 a1 a2).wp P (get fr) hp (contD P os (some a0) fr hp tr ([]) KD) := rfl
theorem dx_mx {a0 a1 a2 a3} : dops P (.mx a0 a1 a2 a3 :: os) ⟨fr,hp⟩ tr KD = (AOp.mx a0 a1 a2 a3).wp P (get fr) hp (contD P os (some a0) fr hp tr ([]) KD) := rfl
theorem dx_nilc {a0 a1} : dops P (.nilc a0 a1 :: os) ⟨fr,hp⟩ tr KD = (AOp.nilc a0 a1).wp P (get fr) hp (contD P os (some a0) fr hp tr ([]) KD) := rfl
theorem dx_mkf {a0 a1 a2 a3} : dops P (.mkf a0 a1 a2 a3 :: os) ⟨fr,hp⟩ tr KD = (AOp.mkf a0 a1 a2 a3).wp P (get fr) hp (contD P os (some a0) fr hp tr ([]) KD) := rfl
theorem dx_call {a0 a1 a2} : dops P (.call a0 a1 a2 :: os) ⟨fr,hp⟩ tr KD = (AOp.call a0 a1 a2).wp P (get fr) hp (contD P os (some a0) fr hp tr (a2.flatMap fun x => (evF (get fr) x).ids) KD) := rfl
theorem ids_v {x} : (AV.v x).ids = [] := rfl
theorem ids_sl {a b c} : (AV.sl a b c).ids = [] := rfl
theorem ids_ptr {a b} : (AV.ptr a b).ids = [] := rfl
theorem ids_ref {a b} : (AV.ref a b).ids = [a] := rfl
theorem ids_ms {a b c d} : (AV.ms a b c d).ids = [a] := rfl
theorem ids_mp {a} : (AV.mp a).ids = [a] := rfl
theorem ids_any : AV.any.ids = [] := rfl
theorem ids_fn {a b c} : (AV.fn a b c).ids = b.flatMap AV.ids0 ++ c.flatMap AV.ids0 := rfl
theorem ids1_agg {cs} : (AV.agg cs).ids1 = cs.flatMap AV.ids0 := rfl
theorem ids0_v {x} : (AV.v x).ids0 = [] := rfl
theorem ids0_sl {a b c} : (AV.sl a b c).ids0 = [] := rfl
theorem ids0_ptr {a b} : (AV.ptr a b).ids0 = [] := rfl
theorem ids0_ref {a b} : (AV.ref a b).ids0 = [a] := rfl
theorem ids0_ms {a b c d} : (AV.ms a b c d).ids0 = [a] := rfl
theorem ids0_mp {a} : (AV.mp a).ids0 = [a] := rfl
theorem ids_agg {cs} : (AV.agg cs).ids = cs.flatMap AV.ids1 := rfl
theorem ids_tup {cs} : (AV.tup cs).ids = cs.flatMap AV.ids1 := rfl
theorem ids1_v {x} : (AV.v x).ids1 = [] := rfl
theorem ids1_sl {a b c} : (AV.sl a b c).ids1 = [] := rfl
theorem ids1_ptr {a b} : (AV.ptr a b).ids1 = [] := rfl
theorem ids1_ref {a b} : (AV.ref a b).ids1 = [a] := rfl
theorem ids1_ms {a b c d} : (AV.ms a b c d).ids1 = [a] := rfl
theorem ids1_mp {a} : (AV.mp a).ids1 = [a] := rfl
theorem ids1_any : AV.any.ids1 = [] := rfl
theorem ids1_fn {a b c} : (AV.fn a b c).ids1 = b.flatMap AV.ids0 ++ c.flatMap AV.ids0 := rfl
theorem x_wcall {d f args} : (AOp.call d f args).wp P F hp K = PureW P f (args.map (evF F)) hp K := by
 apply propext
 constructor
 · rintro ⟨r,ws,⟨ys,ids,h1,h2⟩,h3⟩
   rcases h2 with ⟨h2,rfl⟩ | ⟨m,sz,cs,h2,rfl,rfl⟩ | ⟨Φ,h2,rfl,rfl⟩
   · exact ⟨ys,ids,h1,.inl ⟨r,h2,h3⟩⟩
   · exact ⟨ys,ids,h1,.inr (.inl ⟨m,sz,cs,h2,h3⟩)⟩
   · exact ⟨ys,ids,h1,.inr (.inr ⟨Φ,h2,h3⟩)⟩
 · rintro ⟨ys,ids,h1,h2⟩
   rcases h2 with ⟨r,h2,h3⟩ | ⟨m,sz,cs,h2,h3⟩ | ⟨Φ,h2,h3⟩
   · exact ⟨r,_,⟨ys,ids,h1,.inl ⟨h2,rfl⟩⟩,h3⟩
   · exact ⟨_,_,⟨ys,ids,h1,.inr (.inl ⟨m,sz,cs,h2,rfl,rfl⟩)⟩,h3⟩
   · exact ⟨_,_,⟨ys,ids,h1,.inr (.inr ⟨Φ,h2,rfl,rfl⟩)⟩,h3⟩
theorem xo_mv {a0 a1} : aops P E (.mv a0 a1 :: os) ⟨fr,hp⟩ KS = (AOp.mv a0 a1).wp P (get fr) hp (contA P E os (some a0) fr hp KS) := rfl
theorem xo_pick {a0 a1 a2 a3} : aops P E (.pick a0 a1 a2 a3 :: os) ⟨fr,hp⟩ KS = (AOp.pick a0 a1 a2 a3).wp P (get fr) hp (contA P E os (some a0) fr hp KS) := rfl
theorem xo_bin {a0 a1 a2 a3} : aops P E (.bin a0 a1 a2 a3 :: os) ⟨fr,hp⟩ KS = (AOp.bin a0 a1 a2 a3).wp P (get fr) hp (contA P E os (some a0) fr hp KS) := rfl
theorem xo_bing {a0 a1 a2 a3 a4} : aops P E (.bing a0 a1 a2 a3 a4 :: os) ⟨fr,hp⟩ KS = (AOp.bing a0 a1 a2 a3 a4).wp P (get fr) hp (contA P E os (some a0) fr hp KS) := rfl
theorem xo_un {a0 a1 a2} : aops P E (.un a0 a1 a2 :: os) ⟨fr,hp⟩ KS = (AOp.un a0 a1 a2).wp P (get fr) hp (contA P E os (some a0) fr hp KS) := rfl
theorem xo_ext {a0 a1 a2} : aops P E (.ext a0 a1 a2 :: os) ⟨fr,hp⟩ KS = (AOp.ext a0 a1 a2).wp P (get fr) hp (contA P E os (some a0) fr hp KS) := rfl
theorem xo_ld {a0 a1 a2 a3} : aops P E (.ld a0 a1 a2 a3 :: os) ⟨fr,hp⟩ KS = (AOp.ld a0 a1 a2 a3).wp P (get fr) hp (contA P E os (some a0) fr hp KS) := rfl
theorem xo_st {a0 a1 a2} : aops P E (.st a0 a1 a2 :: os) ⟨fr,hp⟩ KS = (AOp.st a0 a1 a2).wp P (get fr) hp (contA P E os none fr hp KS) := rfl
theorem xo_box {a0 a1 a2} : aops P E (.box a0 a1 a2 :: os) ⟨fr,hp⟩ KS = (AOp.box a0 a1 a2).wp P (get fr) hp (contA P E os (some a0) fr hp KS) := rfl
theorem xo_al {a0 a1} : aops P E (.al a0 a1 :: os) ⟨fr,hp⟩ KS = (AOp.al a0 a1).wp P (get fr) hp (contA P E os (some a0) fr hp KS) := rfl
theorem xo_bsl {a0 a1 a2 a3 a4} : aops P E (.bsl a0 a1 a2 a3 a4 :: os) ⟨fr,hp⟩ KS = (AOp.bsl a0 a1 a2 a3 a4).wp P (get fr) hp (contA P E os (some a0) fr hp KS) := rfl
theorem xo_bld {a0 a1 a2} : aops P E (.bld a0 a1 a2 :: os) ⟨fr,hp⟩ KS = (AOp.bld a0 a1 a2).wp P (get fr) hp (contA P E os (some a0) fr hp KS) := rfl
theorem xo_fa {a0 a1 a2} : aops P E (.fa a0 a1 a2 :: os) ⟨fr,hp⟩ KS = (AOp.fa a0 a1 a2).wp P (get fr) hp (contA P E os (some a0) fr hp KS) := rfl
theorem xo_fld {a0 a1 a2 a3 a4} : aops P E (.fld a0 a1 a2 a3 a4 :: os) ⟨fr,hp⟩ KS = (AOp.fld a0 a1 a2 a3 a4).wp P (get fr) hp (contA P E os (some a0) fr hp KS) := rfl
theorem xo_ia {a0 a1 a2 a3} : aops P E (.ia a0 a1 a2 a3 :: os) ⟨fr,hp⟩ KS = (AOp.ia a0 a1 a2 a3).wp P (get fr) hp (contA P E os (some a0) fr hp KS) := rfl
theorem xo_iaa {a0 a1 a2 a3 a4} : aops P E (.iaa a0 a1 a2 a3 a4 :: os) ⟨fr,hp⟩ KS = (AOp.iaa a0 a1 a2 a3 a4).wp P (get fr) hp (contA P E os (some a0) fr hp KS) := rfl
theorem xo_idx {a0 a1 a2 a3 a4 a5} : aops P E (.idx a0 a1 a2 a3 a4 a5 :: os) ⟨fr,hp⟩ KS = (AOp.idx a0 a1 a2 a3 a4 a5).wp P (get fr) hp (contA P E os (some a0) fr hp KS) := rfl
theorem xo_ids {a0 a1 a2} : aops P E (.ids a0 a1 a2 :: os) ⟨fr,hp⟩ KS = (AOp.ids a0 a1 a2).wp P (get fr) hp (contA P E os (some a0) fr hp KS) := rfl
theorem xo_len {a0 a1} : aops P E (.len a0 a1 :: os) ⟨fr,hp⟩ KS = (AOp.len a0 a1).wp P (get fr) hp (contA P E os (some a0) fr hp KS) := rfl
theorem xo_lns {a0 a1} : aops P E (.lns a0 a1 :: os) ⟨fr,hp⟩ KS = (AOp.lns a0 a1).wp P (get fr) hp (contA P E os (some a0) fr hp KS) := rfl
theorem xo_lnm {a0 a1} : aops P E (.lnm a0 a1 :: os) ⟨fr,hp⟩ KS = (AOp.lnm a0 a1).wp P (get fr) hp (contA P E os (some a0) fr hp KS) := rfl
theorem xo_slc {a0 a1 a2 a3 a4 a5} : aops P E (.slc a0 a1 a2 a3 a4 a5 :: os) ⟨fr,hp⟩ KS = (AOp.slc a0 a1 a2 a3 a4 a5).wp P (get fr) hp (contA P E os (some a0) fr hp KS) := rfl
theorem xo_sls {a0 a1 a2 a3} : aops P E (.sls a0 a1 a2 a3 :: os) ⟨fr,hp⟩ KS = (AOp.sls a0 a1 a2 a3).wp P (get fr) hp (contA P E os (some a0) fr hp KS) := rfl
theorem xo_app {a0 a1 a2 a3 a4} : aops P E (.app a0 a1 a2 a3 a4 :: os) ⟨fr,hp⟩ KS = (AOp.app a0 a1 a2 a3 a4).wp P (get fr) hp (contA P E os (some a0) fr hp KS) := rfl
theorem xo_cpy {a0 a1 a2 a3} : aops P E (.cpy a0 a1 a2 a3 :: os) ⟨fr,hp⟩ KS = (AOp.cpy a0 a1 a2 a3).wp P (get fr) hp (contA P E os (some a0) fr hp KS) := rfl
theorem xo_mks {a0 a1 a2 a3 a4 a5} : aops P E (.mks a0 a1 a2 a3 a4 a5 :: os) ⟨fr,hp⟩ KS = (AOp.mks a0 a1 a2 a3 a4 a5).wp P (get fr) hp (contA P E os (some a0) fr hp KS) := rfl
theorem xo_cnv {a0 a1 a2} : aops P E (.cnv a0 a1 a2 :: os) ⟨fr,hp⟩ KS = (AOp.cnv a0 a1 a2).wp P (get fr) hp (contA P E os (some a0) fr hp KS) := rfl
theorem xo_mx {a0 a1 a2 a3} : aops P E (.mx a0 a1 a2 a3 :: os) ⟨fr,hp⟩ KS = (AOp.mx a0 a1 a2 a3).wp P (get fr) hp (contA P E os (some a0) fr hp KS) := rfl
theorem xo_nilc {a0 a1} : aops P E (.nilc a0 a1 :: os) ⟨fr,hp⟩ KS = (AOp.nilc a0 a1).wp P (get fr) hp (contA P E os (some a0) fr hp KS) := rfl
theorem xo_mkf {a0 a1 a2 a3} : aops P E (.mkf a0 a1 a2 a3 :: os) ⟨fr,hp⟩ KS = (AOp.mkf a0 a1 a2 a3).wp P (get fr) hp (contA P E os (some a0) fr hp KS) := rfl
theorem ex_two {α β : Type} {a : α} {b : β} {K : α → β → Prop} {p : Prop} : (∃ r ws,(p ∧ r = a ∧ ws = b) ∧ K r ws) = (p ∧ K a b) :=
 propext ⟨fun ⟨_,_,⟨h,e1,e2⟩,k⟩ => ⟨h,by subst e1; subst e2; exact k⟩,fun ⟨h,k⟩ => ⟨a,b,⟨h,rfl,rfl⟩,k⟩⟩
theorem ex_one {α β : Type} {a : α} {b : β} {K : α → β → Prop} : (∃ r ws,(r = a ∧ ws = b) ∧ K r ws) = K a b :=
 propext ⟨fun ⟨_,_,⟨e1,e2⟩,k⟩ => by subst e1; subst e2; exact k,fun k => ⟨a,b,⟨rfl,rfl⟩,k⟩⟩
theorem ex_z {α β γ : Type} {p : γ → Prop} {f : γ → α} {b : β} {K : α → β → Prop} : (∃ r ws,(∃ z,p z ∧ r = f z ∧ ws = b) ∧ K r ws) = ∃ z,p z ∧ K (f z) b :=
 propext ⟨fun ⟨_,_,⟨z,h,e1,e2⟩,k⟩ => ⟨z,h,by subst e1; subst e2; exact k⟩,fun ⟨z,h,k⟩ => ⟨_,_,⟨z,h,rfl,rfl⟩,k⟩⟩
theorem ex_f {α β : Type} {K : α → β → Prop} : (∃ r ws,False ∧ K r ws) = False := by simp
theorem w_mv {d x} : (AOp.mv d x).wp P F hp K = K (evF F x) [] := ex_one
def PickW (c a b : AV) (K : AV → List (Nat × HObj) → Prop) : Prop := match c with
 | .v (.bool t) => K (bif t then a else b) []
 | _ => False
theorem w_pick {d c a b} : (AOp.pick d c a b).wp P F hp K = PickW (evF F c) (evF F a) (evF F b) K := by
 unfold AOp.wp; simp only [AOp.sem]
 generalize evF F c = u
 cases u with
 | v x => cases x <;> first | exact ex_one | exact ex_f
 | _ => exact ex_f
theorem w_pickB {t a b} : PickW (B t) a b K = K (bif t then a else b) [] := rfl
def BinW (op : BinOp) (x y : AV) (K : AV → List (Nat × HObj) → Prop) : Prop := match x,y with
 | .v a,.v b => ∃ z,binV op a b = some z ∧ K (.v z) []
 | _,_ => False
theorem w_bin {d op x y} : (AOp.bin d op x y).wp P F hp K = BinW op (evF F x) (evF F y) K := by
 unfold AOp.wp; simp only [AOp.sem]
 generalize evF F x = u
 generalize evF F y = v
 cases u <;> cases v <;> first | exact ex_z | exact ex_f
theorem bin_of {op a b z} (h : binV op a b = some z) : BinW op (.v a) (.v b) K = K (.v z) [] := by
 unfold BinW; simp only [h,Option.some.injEq,exists_eq_left']
theorem b_add {k : IntKind} {a b : Int} : BinW .add (.v (.int k a)) (.v (.int k b)) K = K (.v (.int k (k.wrap (a + b)))) [] := bin_of (by simp [binV])
theorem b_sub {k : IntKind} {a b : Int} : BinW .sub (.v (.int k a)) (.v (.int k b)) K = K (.v (.int k (k.wrap (a - b)))) [] := bin_of (by simp [binV])
theorem b_mul {k : IntKind} {a b : Int} : BinW .mul (.v (.int k a)) (.v (.int k b)) K = K (.v (.int k (k.wrap (a * b)))) [] := bin_of (by simp [binV])
theorem b_quo {k : IntKind} {a b : Int} (h : b ≠ 0) : BinW .quo (.v (.int k a)) (.v (.int k b)) K = K (.v (.int k (k.wrap (a.tdiv b)))) [] := bin_of (by simp [binV,h])
theorem b_rem {k : IntKind} {a b : Int} (h : b ≠ 0) : BinW .rem (.v (.int k a)) (.v (.int k b)) K = K (.v (.int k (a.tmod b))) [] := bin_of (by simp [binV,h])
theorem b_and {k : IntKind} {a b : Int} : BinW .and (.v (.int k a)) (.v (.int k b)) K = K (.v (.int k (k.wrap (BitVec.ofInt k.bits a &&& BitVec.ofInt k.bits b).toNat))) [] := bin_of (by simp [binV])
theorem b_or {k : IntKind} {a b : Int} : BinW .or (.v (.int k a)) (.v (.int k b)) K = K (.v (.int k (k.wrap (BitVec.ofInt k.bits a ||| BitVec.ofInt k.bits b).toNat))) [] := bin_of (by simp [binV])
theorem b_xor {k : IntKind} {a b : Int} : BinW .xor (.v (.int k a)) (.v (.int k b)) K = K (.v (.int k (k.wrap (BitVec.ofInt k.bits a ^^^ BitVec.ofInt k.bits b).toNat))) [] := bin_of (by simp [binV])
theorem b_andNot {k : IntKind} {a b : Int} : BinW .andNot (.v (.int k a)) (.v (.int k b)) K = K (.v (.int k (k.wrap (BitVec.ofInt k.bits a &&& ~~~ BitVec.ofInt k.bits b).toNat))) [] := bin_of (by simp [binV])
theorem b_shl {k k' : IntKind} {a b : Int} (h : 0 ≤ b) : BinW .shl (.v (.int k a)) (.v (.int k' b)) K = K (.v (.int k (k.wrap (a * 2 ^ (min b.toNat k.bits))))) [] := bin_of (by simp [binV]; omega)
theorem b_shr {k k' : IntKind} {a b : Int} (h : 0 ≤ b) : BinW .shr (.v (.int k a)) (.v (.int k' b)) K = K (.v (.int k (a.fdiv (2 ^ (min b.toNat k.bits))))) [] := bin_of (by simp [binV]; omega)
theorem b_eql {k : IntKind} {a b : Int} : BinW .eql (.v (.int k a)) (.v (.int k b)) K = K (B (a == b)) [] := bin_of (by simp [binV])
theorem b_neq {k : IntKind} {a b : Int} : BinW .neq (.v (.int k a)) (.v (.int k b)) K = K (B (a != b)) [] := bin_of (by simp [binV])
theorem b_lss {k : IntKind} {a b : Int} : BinW .lss (.v (.int k a)) (.v (.int k b)) K = K (B (decide (a < b))) [] := bin_of (by simp [binV])
theorem b_leq {k : IntKind} {a b : Int} : BinW .leq (.v (.int k a)) (.v (.int k b)) K = K (B (decide (a ≤ b))) [] := bin_of (by simp [binV])
theorem b_gtr {k : IntKind} {a b : Int} : BinW .gtr (.v (.int k a)) (.v (.int k b)) K = K (B (decide (a > b))) [] := bin_of (by simp [binV])
theorem b_geq {k : IntKind} {a b : Int} : BinW .geq (.v (.int k a)) (.v (.int k b)) K = K (B (decide (a ≥ b))) [] := bin_of (by simp [binV])
def BingW (P : Program) (op : BinOp) (ty : TypeId) (x y : AV) (K : AV → List (Nat × HObj) → Prop) : Prop :=
 ∃ a b z,x.val = some a ∧ y.val = some b ∧ (∀ w,(binOp op ty a b).run P w = .ok z w) ∧ (∀ p q w,(eqGuard op ty p q a b).run P w = .ok () w) ∧ K (.v z) []
theorem w_bing {d op ty x y} : (AOp.bing d op ty x y).wp P F hp K = BingW P op ty (evF F x) (evF F y) K := by
 apply propext
 constructor
 · rintro ⟨r,ws,⟨a,b,z,h1,h2,h3,h4,rfl,rfl⟩,k⟩; exact ⟨a,b,z,h1,h2,h3,h4,k⟩
 · rintro ⟨a,b,z,h1,h2,h3,h4,k⟩; exact ⟨_,_,⟨a,b,z,h1,h2,h3,h4,rfl,rfl⟩,k⟩
def UnW (op : UnOp) (x : AV) (K : AV → List (Nat × HObj) → Prop) : Prop := match x with
 | .v a => ∃ z,unV op a = some z ∧ K (.v z) []
 | _ => False
theorem w_un {d op x} : (AOp.un d op x).wp P F hp K = UnW op (evF F x) K := by
 unfold AOp.wp; simp only [AOp.sem]
 generalize evF F x = u
 cases u <;> first | exact ex_z | exact ex_f
theorem u_neg {k : IntKind} {a : Int} : UnW .neg (.v (.int k a)) K = K (.v (.int k (k.wrap (0 - a)))) [] := by unfold UnW; simp [unV]
theorem u_not {b : Bool} : UnW .not (B b) K = K (B !b) [] := by unfold UnW; simp [unV]
def ExtW (x : AV) (i : Nat) (K : AV → List (Nat × HObj) → Prop) : Prop := match x with
 | .tup vs => ∃ y,vs[i]? = some y ∧ K y []
 | _ => False
theorem w_ext {d x i} : (AOp.ext d x i).wp P F hp K = ExtW (evF F x) i K := by
 unfold AOp.wp; simp only [AOp.sem]
 generalize evF F x = u
 cases u <;> first | exact ex_z | exact ex_f
def nthA : List AV → Nat → Option AV
 | [],_ => none
 | a :: l,n => if n = 0 then some a else nthA l (n - 1)
theorem nthA_eq : ∀ (l : List AV) (n : Nat),nthA l n = l[n]?
 | [],n => by simp [nthA]
 | a :: l,0 => by simp [nthA]
 | a :: l,n + 1 => by simp [nthA,nthA_eq l n]
theorem nthA_cons {a : AV} {l : List AV} {n} : nthA (a :: l) n = if n = 0 then some a else nthA l (n - 1) := rfl
def OneW (o : Option AV) (K : AV → List (Nat × HObj) → Prop) : Prop := match o with
 | some y => K y []
 | none => False
theorem one_some {y : AV} : OneW (some y) K = K y [] := rfl
theorem one_ex {o : Option AV} : (∃ y,o = some y ∧ K y []) = OneW o K := by
 cases o <;> simp [OneW]
theorem e_tup {vs : List AV} {i} : ExtW (.tup vs) i K = OneW (nthA vs i) K := by rw [nthA_eq]; exact one_ex
def CellsW (cs : List AV) (off sz : Nat) (agg : Bool) (K : AV → List (Nat × HObj) → Prop) : Prop := match agg with
 | true => off + sz ≤ cs.length ∧ K (.agg (view cs off sz)) []
 | false => ∃ y,cs[off]? = some y ∧ K y []
theorem cells_agg {cs : List AV} {off sz} : CellsW cs off sz true K = (off + sz ≤ cs.length ∧ K (.agg (view cs off sz)) []) := rfl
theorem cells_one {cs : List AV} {off sz} : CellsW cs off sz false K = OneW (nthA cs off) K := by rw [nthA_eq]; exact one_ex
theorem cells_ex {cs : List AV} {off sz agg} {p : Prop} : (∃ r ws,((match agg with | true => off + sz ≤ cs.length ∧ r = .agg (view cs off sz) | false => ∃ y,cs[off]? = some y ∧ r = y) ∧ ws = []) ∧ K r ws) = CellsW cs off sz agg K := by
 apply propext
 cases agg with
 | true =>
   constructor
   · rintro ⟨r,ws,⟨⟨h,rfl⟩,rfl⟩,k⟩; exact ⟨h,k⟩
   · rintro ⟨h,k⟩; exact ⟨_,_,⟨⟨h,rfl⟩,rfl⟩,k⟩
 | false =>
   constructor
   · rintro ⟨r,ws,⟨⟨y,h,rfl⟩,rfl⟩,k⟩; exact ⟨_,h,k⟩
   · rintro ⟨y,h,k⟩; exact ⟨_,_,⟨⟨y,h,rfl⟩,rfl⟩,k⟩
def LdW (hp : List HObj) (agg : Bool) (sz : Nat) (x : AV) (K : AV → List (Nat × HObj) → Prop) : Prop := match x with
 | .ptr cs off => CellsW cs off sz agg K
 | .ref id off => match hp[id]? with
   | some (.cells cs) => CellsW cs off sz agg K
   | _ => False
 | _ => False
theorem w_ld {d agg sz x} : (AOp.ld d agg sz x).wp P F hp K = LdW hp agg sz (evF F x) K := by
 unfold AOp.wp; simp only [AOp.sem,semLd]
 have sw : ∀ (cs : List AV) (off : Nat),(∃ r ws,(ws = [] ∧ (match agg with | true => off + sz ≤ cs.length ∧ r = .agg (view cs off sz) | false => ∃ y,cs[off]? = some y ∧ r = y)) ∧ K r ws) = CellsW cs off sz agg K := fun cs off => by
  rw [← cells_ex (p := True)]
  exact propext ⟨fun ⟨r,ws,⟨a,b⟩,k⟩ => ⟨r,ws,⟨b,a⟩,k⟩,fun ⟨r,ws,⟨a,b⟩,k⟩ => ⟨r,ws,⟨b,a⟩,k⟩⟩
 generalize evF F x = u
 cases u with
 | ptr cs off => exact sw cs off
 | ref id off =>
   simp only [hpf,LdW]
   generalize hp[id]? = o
   cases o with
   | none => exact ex_f
   | some o => cases o <;> first | exact sw _ _ | exact ex_f
 | _ => exact ex_f
theorem ld_ptr {agg sz cs off} : LdW hp agg sz (.ptr cs off) K = CellsW cs off sz agg K := rfl
def nthH : List HObj → Nat → Option HObj
 | [],_ => none
 | a :: l,n => if n = 0 then some a else nthH l (n - 1)
theorem nthH_eq : ∀ (l : List HObj) (n : Nat),nthH l n = l[n]?
 | [],n => by simp [nthH]
 | a :: l,0 => by simp [nthH]
 | a :: l,n + 1 => by simp [nthH,nthH_eq l n]
theorem nthH_cons {a : HObj} {l : List HObj} {n} : nthH (a :: l) n = if n = 0 then some a else nthH l (n - 1) := rfl
theorem nthH_end {l : List HObj} {o : HObj} : nthH (l ++ [o]) l.length = some o := by simp [nthH_eq]
theorem nthH_front {l k : List HObj} {n} (h : n < l.length) : nthH (l ++ k) n = nthH l n := by rw [nthH_eq,nthH_eq,List.getElem?_append_left h]
theorem set_end {l : List HObj} {o o' : HObj} : (l ++ [o]).set l.length o' = l ++ [o'] := by simp
def LdR (o : Option HObj) (agg : Bool) (sz off : Nat) (K : AV → List (Nat × HObj) → Prop) : Prop := match o with
 | some (.cells cs) => CellsW cs off sz agg K
 | _ => False
theorem ldr_some {cs agg sz off} : LdR (some (.cells cs)) agg sz off K = CellsW cs off sz agg K := rfl
theorem ld_ref {agg sz id off} : LdW hp agg sz (.ref id off) K = LdR (nthH hp id) agg sz off K := by
 simp only [LdW,nthH_eq]; rfl
def StW (hp : List HObj) (sz : Nat) (a x : AV) (K : AV → List (Nat × HObj) → Prop) : Prop := match a with
 | .ref id off => match hp[id]? with
   | some (.cells cs) => (x.cells.length = sz ∧ (x.cells.all AV.isCell) = true ∧ off + sz ≤ cs.length) ∧ K .any [(id,.cells (splice cs off x.cells))]
   | _ => False
 | _ => False
theorem w_st {sz a x} : (AOp.st sz a x).wp P F hp K = StW hp sz (evF F a) (evF F x) K := by
 unfold AOp.wp; simp only [AOp.sem,semSt]
 generalize evF F a = u
 cases u with
 | ref id off =>
   simp only [hpf,StW]
   generalize hp[id]? = o
   cases o with
   | none => exact ex_f
   | some o =>
     cases o with
     | cells cs =>
       apply propext
       constructor
       · rintro ⟨r,ws,⟨h1,h2,h3,rfl,rfl⟩,k⟩; exact ⟨⟨h1,h2,h3⟩,k⟩
       · rintro ⟨⟨h1,h2,h3⟩,k⟩; exact ⟨_,_,⟨h1,h2,h3,rfl,rfl⟩,k⟩
     | _ => exact ex_f
 | _ => exact ex_f
def StR (o : Option HObj) (sz id off : Nat) (x : AV) (K : AV → List (Nat × HObj) → Prop) : Prop := match o with
 | some (.cells cs) => (x.cells.length = sz ∧ (x.cells.all AV.isCell) = true ∧ off + sz ≤ cs.length) ∧ K .any [(id,.cells (splice cs off x.cells))]
 | _ => False
theorem str_some {cs sz id off x} : StR (some (.cells cs)) sz id off x K = ((x.cells.length = sz ∧ (x.cells.all AV.isCell) = true ∧ off + sz ≤ cs.length) ∧ K .any [(id,.cells (splice cs off x.cells))]) := rfl
theorem st_ref {sz id off x} : StW hp sz (.ref id off) x K = StR (nthH hp id) sz id off x K := by
 simp only [StW,nthH_eq]; rfl
theorem w_box {d sz x} : (AOp.box d sz x).wp P F hp K = (((evF F x).cells.length = sz ∧ ((evF F x).cells.all AV.isCell) = true) ∧ K (.ref hp.length 0) [(hp.length,.cells (evF F x).cells)]) := by
 unfold AOp.wp; simp only [AOp.sem]
 apply propext
 constructor
 · rintro ⟨r,ws,⟨h1,h2,rfl,rfl⟩,k⟩; exact ⟨⟨h1,h2⟩,k⟩
 · rintro ⟨⟨h1,h2⟩,k⟩; exact ⟨_,_,⟨h1,h2,rfl,rfl⟩,k⟩
theorem w_al {d z} : (AOp.al d z).wp P F hp K = K (.ref hp.length 0) [(hp.length,.cells z)] := ex_one
def BslW (P : Program) (hp : List HObj) (n sz : Nat) (zero : List AV) (is : List Nat) (xs : List AV) (K : AV → List (Nat × HObj) → Prop) : Prop :=
 ∃ ys ids,purifyAll (hpf hp) xs = some (ys,ids) ∧ (ys.all fun y => y.cells.all AV.isCell && y.cells.all AV.isPure && (y.cells.length == sz)) = true ∧ K (.sl true n (place (zrep n zero) sz (is.zip ys))) (gones ids)
theorem bsl_of {n sz : Nat} {zero : List AV} {is : List Nat} {xs ys : List AV} {ids : List Nat} (h1 : purifyAll (hpf hp) xs = some (ys,ids)) (h2 : (ys.all fun y => y.cells.all AV.isCell && y.cells.all AV.isPure && (y.cells.length == sz)) = true)
 (h3 : K (.sl true n (place (zrep n zero) sz (is.zip ys))) (gones ids)) : BslW P hp n sz zero is xs K := ⟨ys,ids,h1,h2,h3⟩
theorem place_nil {cs : List AV} {sz : Nat} : place cs sz [] = cs := rfl
theorem place_cons {cs : List AV} {sz i : Nat} {x : AV} {r} : place cs sz ((i,x) :: r) = place (splice cs (i * sz) x.cells) sz r := rfl
theorem placeF_nil {cs : List AV} : placeF cs [] = cs := rfl
theorem placeF_cons {cs : List AV} {off n : Nat} {x : AV} {r} : placeF cs ((off,n,x) :: r) = placeF (splice cs off x.cells) r := rfl
theorem w_bsl {d n sz z ps} : (AOp.bsl d n sz z ps).wp P F hp K = BslW P hp n sz z (ps.map (·.1)) (ps.map fun p => evF F p.2) K := by
 apply propext
 constructor
 · rintro ⟨r,ws,⟨ys,ids,h1,h2,rfl,rfl⟩,k⟩; exact ⟨ys,ids,h1,h2,k⟩
 · rintro ⟨ys,ids,h1,h2,k⟩; exact ⟨_,_,⟨ys,ids,h1,h2,rfl,rfl⟩,k⟩
theorem w_bld {d z ps} : (AOp.bld d z ps).wp P F hp K = ((ps.all fun p => (evF F p.2.2).cells.all AV.isCell && ((evF F p.2.2).cells.length == p.2.1)) = true ∧ K (.agg (placeF z (ps.map fun p => (p.1,p.2.1,evF F p.2.2)))) []) := ex_two
def FaW (x : AV) (off : Nat) (K : AV → List (Nat × HObj) → Prop) : Prop := match x with
 | .ptr cs o => K (.ptr cs (o + off)) []
 | .ref id o => K (.ref id (o + off)) []
 | _ => False
theorem w_fa {d x off} : (AOp.fa d x off).wp P F hp K = FaW (evF F x) off K := by
 unfold AOp.wp; simp only [AOp.sem]
 generalize evF F x = u
 cases u <;> first | exact ex_one | exact ex_f
theorem fa_ptr {cs o off} : FaW (.ptr cs o) off K = K (.ptr cs (o + off)) [] := rfl
theorem fa_ref {id o off} : FaW (.ref id o) off K = K (.ref id (o + off)) [] := rfl
def FldW (agg : Bool) (sz off : Nat) (x : AV) (K : AV → List (Nat × HObj) → Prop) : Prop := match x with
 | .agg cs => CellsW cs off sz agg K
 | _ => False
theorem w_fld {d agg sz off x} : (AOp.fld d agg sz off x).wp P F hp K = FldW agg sz off (evF F x) K := by
 unfold AOp.wp; simp only [AOp.sem]
 generalize evF F x = u
 cases u <;> first | exact cells_ex (p := True) | exact ex_f
theorem fld_agg {agg sz off cs} : FldW agg sz off (.agg cs) K = CellsW cs off sz agg K := rfl
def IaW (sz : Nat) (x i : AV) (K : AV → List (Nat × HObj) → Prop) : Prop := match x,i with
 | .sl _ n cs,.v (.int _ j) => (0 ≤ j ∧ j < n) ∧ cs.length = n * sz ∧ K (.ptr cs (j.toNat * sz)) []
 | .ms id off n sz',.v (.int _ j) => (0 ≤ j ∧ j < n) ∧ sz' = sz ∧ K (.ref id (off + j.toNat * sz)) []
 | .mc id off n _ sz',.v (.int _ j) => (0 ≤ j ∧ j < n) ∧ sz' = sz ∧ K (.ref id (off + j.toNat * sz)) []
 | _,_ => False
theorem w_ia {d sz x i} : (AOp.ia d sz x i).wp P F hp K = IaW sz (evF F x) (evF F i) K := by
 unfold AOp.wp; simp only [AOp.sem]
 generalize evF F x = u
 generalize evF F i = v
 cases u with
 | sl f n cs =>
   cases v with
   | v y =>
     cases y <;> first | exact ex_f | skip
     apply propext
     constructor
     · rintro ⟨r,ws,⟨h1,rfl,rfl,h2⟩,k⟩; exact ⟨h1,h2,k⟩
     · rintro ⟨h1,h2,k⟩; exact ⟨_,_,⟨h1,rfl,rfl,h2⟩,k⟩
   | _ => exact ex_f
 | ms id off n sz' =>
   cases v with
   | v y =>
     cases y <;> first | exact ex_f | skip
     apply propext
     constructor
     · rintro ⟨r,ws,⟨h1,h2,rfl,rfl⟩,k⟩; exact ⟨h1,h2,k⟩
     · rintro ⟨h1,h2,k⟩; exact ⟨_,_,⟨h1,h2,rfl,rfl⟩,k⟩
   | _ => exact ex_f
 | mc id off n c sz' =>
   cases v with
   | v y =>
     cases y <;> first | exact ex_f | skip
     apply propext
     constructor
     · rintro ⟨r,ws,⟨h1,h2,rfl,rfl⟩,k⟩; exact ⟨h1,h2,k⟩
     · rintro ⟨h1,h2,k⟩; exact ⟨_,_,⟨h1,h2,rfl,rfl⟩,k⟩
   | _ => exact ex_f
 | _ => cases v <;> exact ex_f
theorem ia_mc {sz id off n c sz' j k} : IaW sz (.mc id off n c sz') (.v (.int k j)) K = ((0 ≤ j ∧ j < n) ∧ sz' = sz ∧ K (.ref id (off + j.toNat * sz)) []) := rfl
theorem ia_sl {sz f n cs j k} : IaW sz (.sl f n cs) (.v (.int k j)) K = ((0 ≤ j ∧ j < n) ∧ cs.length = n * sz ∧ K (.ptr cs (j.toNat * sz)) []) := rfl
theorem ia_ms {sz id off n sz' j k} : IaW sz (.ms id off n sz') (.v (.int k j)) K = ((0 ≤ j ∧ j < n) ∧ sz' = sz ∧ K (.ref id (off + j.toNat * sz)) []) := rfl
def IaaW (ln sz : Nat) (x i : AV) (K : AV → List (Nat × HObj) → Prop) : Prop := match x,i with
 | .ptr cs o,.v (.int _ j) => (0 ≤ j ∧ j < ln) ∧ K (.ptr cs (o + j.toNat * sz)) []
 | .ref id o,.v (.int _ j) => (0 ≤ j ∧ j < ln) ∧ K (.ref id (o + j.toNat * sz)) []
 | _,_ => False
theorem w_iaa {d ln sz x i} : (AOp.iaa d ln sz x i).wp P F hp K = IaaW ln sz (evF F x) (evF F i) K := by
 unfold AOp.wp; simp only [AOp.sem]
 generalize evF F x = u
 generalize evF F i = v
 cases u with
 | ptr cs o =>
   cases v with
   | v y => cases y <;> first | exact ex_f | exact ex_two
   | _ => exact ex_f
 | ref id o =>
   cases v with
   | v y => cases y <;> first | exact ex_f | exact ex_two
   | _ => exact ex_f
 | _ => cases v <;> exact ex_f
theorem iaa_ptr {ln sz cs o j k} : IaaW ln sz (.ptr cs o) (.v (.int k j)) K = ((0 ≤ j ∧ j < ln) ∧ K (.ptr cs (o + j.toNat * sz)) []) := rfl
theorem iaa_ref {ln sz id o j k} : IaaW ln sz (.ref id o) (.v (.int k j)) K = ((0 ≤ j ∧ j < ln) ∧ K (.ref id (o + j.toNat * sz)) []) := rfl
def IdxW (ln : Nat) (agg : Bool) (sz : Nat) (x i : AV) (K : AV → List (Nat × HObj) → Prop) : Prop := match x,i with
 | .agg cs,.v (.int _ j) => (0 ≤ j ∧ j < ln) ∧ CellsW cs (j.toNat * sz) sz agg K
 | _,_ => False
theorem w_idx {d ln agg sz x i} : (AOp.idx d ln agg sz x i).wp P F hp K = IdxW ln agg sz (evF F x) (evF F i) K := by
 unfold AOp.wp; simp only [AOp.sem]
 generalize evF F x = u
 generalize evF F i = v
 cases u with
 | agg cs =>
   cases v with
   | v y =>
     cases y <;> first | exact ex_f | skip
     simp only [IdxW]
     rw [← cells_ex (p := True)]
     apply propext
     constructor
     · rintro ⟨r,ws,⟨h1,h2,h3⟩,k⟩; exact ⟨h1,r,ws,⟨h2,h3⟩,k⟩
     · rintro ⟨h1,r,ws,⟨h2,h3⟩,k⟩; exact ⟨r,ws,⟨h1,h2,h3⟩,k⟩
   | _ => exact ex_f
 | _ => cases v <;> exact ex_f
theorem idx_agg {ln agg sz cs j k} : IdxW ln agg sz (.agg cs) (.v (.int k j)) K = ((0 ≤ j ∧ j < ln) ∧ CellsW cs (j.toNat * sz) sz agg K) := rfl
def LenW (x : AV) (K : AV → List (Nat × HObj) → Prop) : Prop := match x with
 | .sl _ n _ => K (I n) []
 | .ms _ _ n _ => K (I n) []
 | .mc _ _ n _ _ => K (I n) []
 | _ => False
theorem w_len {d x} : (AOp.len d x).wp P F hp K = LenW (evF F x) K := by
 unfold AOp.wp; simp only [AOp.sem]
 generalize evF F x = u
 cases u <;> first | exact ex_one | exact ex_f
theorem len_sl {f n cs} : LenW (.sl f n cs) K = K (I n) [] := rfl
theorem len_mc {id off n c sz} : LenW (.mc id off n c sz) K = K (I n) [] := rfl
theorem len_ms {id off n sz} : LenW (.ms id off n sz) K = K (I n) [] := rfl
def SlcW (sz : Nat) (x : AV) (lo hi mx : Option AV) (K : AV → List (Nat × HObj) → Prop) : Prop := ∃ r ws,semSlc r ws sz x lo hi mx ∧ K r ws
theorem w_slc {d sz x lo hi mx} : (AOp.slc d sz x lo hi mx).wp P F hp K = SlcW sz (evF F x) (lo.map (evF F)) (hi.map (evF F)) (mx.map (evF F)) K := rfl
theorem I_inj {a b : Int} : (I a = I b) = (a = b) := by simp [I]
theorem slc_hi {sz f n cs j} : SlcW sz (.sl f n cs) none (some (I j)) none K = ((0 ≤ j ∧ j ≤ n ∧ cs.length = n * sz) ∧ K (.sl (f && decide (j.toNat = n)) j.toNat (view cs 0 (j.toNat * sz))) []) := by
 apply propext
 constructor
 · rintro ⟨r,ws,⟨l,h,h1,h2,h3,h4,h5,h6,h7⟩,k⟩
   simp only [I_inj] at h2
   subst h1; subst h2
   simp only [Nat.sub_zero,Nat.zero_mul] at h6
   subst h6; subst h7
   exact ⟨⟨by omega,by omega,h5⟩,by simpa using k⟩
 · rintro ⟨⟨h1,h2,h3⟩,k⟩
   exact ⟨_,_,⟨0,j.toNat,rfl,by rw [Int.toNat_of_nonneg h1],by omega,by omega,h3,rfl,rfl⟩,by simpa using k⟩
theorem slc_lo {sz f n cs j} : SlcW sz (.sl f n cs) (some (I j)) none none K = ((0 ≤ j ∧ j ≤ n ∧ cs.length = n * sz) ∧ K (.sl f (n - j.toNat) (view cs (j.toNat * sz) ((n - j.toNat) * sz))) []) := by
 apply propext
 constructor
 · rintro ⟨r,ws,⟨l,h,h1,h2,h3,h4,h5,h6,h7⟩,k⟩
   simp only [I_inj] at h1
   subst h1; subst h2
   simp only [decide_true,Bool.and_true] at h6
   subst h6; subst h7
   exact ⟨⟨by omega,by omega,h5⟩,by simpa using k⟩
 · rintro ⟨⟨h1,h2,h3⟩,k⟩
   exact ⟨_,_,⟨j.toNat,n,by rw [Int.toNat_of_nonneg h1],rfl,by omega,by omega,h3,rfl,rfl⟩,by simpa using k⟩
theorem slc_lohi {sz f n cs i j} : SlcW sz (.sl f n cs) (some (I i)) (some (I j)) none K = ((0 ≤ i ∧ i ≤ j ∧ j ≤ n ∧ cs.length = n * sz) ∧ K (.sl (f && decide (j.toNat = n)) (j.toNat - i.toNat) (view cs (i.toNat * sz) ((j.toNat - i.toNat) * sz))) []) := by
 apply propext
 constructor
 · rintro ⟨r,ws,⟨l,h,h1,h2,h3,h4,h5,h6,h7⟩,k⟩
   simp only [I_inj] at h1 h2
   subst h1; subst h2
   subst h6; subst h7
   exact ⟨⟨by omega,by omega,by omega,h5⟩,by simpa using k⟩
 · rintro ⟨⟨h1,h2,h3,h4⟩,k⟩
   exact ⟨_,_,⟨i.toNat,j.toNat,by rw [Int.toNat_of_nonneg h1],by rw [Int.toNat_of_nonneg (by omega)],by omega,by omega,h4,rfl,rfl⟩,by simpa using k⟩
def CnvW (k : IntKind) (x : AV) (K : AV → List (Nat × HObj) → Prop) : Prop := match x with
 | .v (.int _ n) => K (.v (.int k (k.wrap n))) []
 | _ => False
theorem w_cnv {d k x} : (AOp.cnv d k x).wp P F hp K = CnvW k (evF F x) K := by
 unfold AOp.wp; simp only [AOp.sem]
 generalize evF F x = u
 cases u with
 | v y => cases y <;> first | exact ex_one | exact ex_f
 | _ => exact ex_f
theorem cnv_int {k k' n} : CnvW k (.v (.int k' n)) K = K (.v (.int k (k.wrap n))) [] := rfl
def MxW (max : Bool) (x y : AV) (K : AV → List (Nat × HObj) → Prop) : Prop := match x,y with
 | .v (.int k a),.v (.int _ b) => K (.v (.int k (bif max then (if b > a then b else a) else (if b < a then b else a)))) []
 | _,_ => False
theorem w_mx {d max x y} : (AOp.mx d max x y).wp P F hp K = MxW max (evF F x) (evF F y) K := by
 unfold AOp.wp; simp only [AOp.sem]
 generalize evF F x = u
 generalize evF F y = v
 cases u with
 | v a =>
   cases v with
   | v b => cases a <;> cases b <;> first | exact ex_one | exact ex_f
   | _ => cases a <;> exact ex_f
 | _ => cases v <;> exact ex_f
theorem mx_int {max k a k' b} : MxW max (.v (.int k a)) (.v (.int k' b)) K = K (.v (.int k (bif max then (if b > a then b else a) else (if b < a then b else a)))) [] := rfl
theorem mx_max {k a k' b} : MxW true (.v (.int k a)) (.v (.int k' b)) K = K (.v (.int k (max a b))) [] := by
 rw [mx_int,cond_true]
 have : (if b > a then b else a) = max a b := by by_cases h : b > a <;> simp [h] <;> omega
 rw [this]
theorem mx_min {k a k' b} : MxW false (.v (.int k a)) (.v (.int k' b)) K = K (.v (.int k (min a b))) [] := by
 rw [mx_int,cond_false]
 have : (if b < a then b else a) = min a b := by by_cases h : b < a <;> simp [h] <;> omega
 rw [this]
def NilcW (x : AV) (K : AV → List (Nat × HObj) → Prop) : Prop := match x with
 | .ptr cs o => K (.ptr cs o) []
 | .ref id o => K (.ref id o) []
 | .fn (.func f) as bs => K (.fn (.func f) as bs) []
 | _ => False
theorem w_nilc {d x} : (AOp.nilc d x).wp P F hp K = NilcW (evF F x) K := by
 unfold AOp.wp; simp only [AOp.sem]
 generalize evF F x = u
 cases u with
 | fn f as bs => cases f <;> first | exact ex_one | exact ex_f
 | ptr => exact ex_one
 | ref => exact ex_one
 | _ => exact ex_f
theorem nilc_ptr {cs o} : NilcW (.ptr cs o) K = K (.ptr cs o) [] := rfl
theorem nilc_ref {id o} : NilcW (.ref id o) K = K (.ref id o) [] := rfl
theorem nilc_fn {f as bs} : NilcW (.fn (.func f) as bs) K = K (.fn (.func f) as bs) [] := rfl
theorem w_mkf {d f as bs} : (AOp.mkf d f as bs).wp P F hp K = K (.fn f (as.map (evF F)) (bs.map (evF F))) [] := ex_one
def AppW (hp : List HObj) (sz bytes : Nat) (x y : AV) (K : AV → List (Nat × HObj) → Prop) : Prop := ∃ m ys,elems (hpf hp) sz y = some (m,ys) ∧ (ys.all AV.isPC) = true ∧ ∃ r ws,semApp (hpf hp) hp.length r ws sz bytes x m ys ∧ K r ws
theorem w_app {d sz bytes x y} : (AOp.app d sz bytes x y).wp P F hp K = AppW hp sz bytes (evF F x) (evF F y) K := by
 apply propext
 constructor
 · rintro ⟨r,ws,⟨m,ys,h1,h2,h3⟩,k⟩; exact ⟨m,ys,h1,h2,r,ws,h3,k⟩
 · rintro ⟨m,ys,h1,h2,r,ws,h3,k⟩; exact ⟨r,ws,⟨m,ys,h1,h2,h3⟩,k⟩
theorem app_sl {sz bytes n m f g} {cs ys : List AV} : AppW hp sz bytes (.sl f n cs) (.sl g m ys) K =
 ((f = true ∧ ys.length = m * sz ∧ (ys.all AV.isPC) = true ∧ cs.length = n * sz ∧ (n + m) * bytes ≤ 140737488355328 ∧ n + m ≤ 140737488355328 ∧ (n = 0 ∨ 0 < m)) ∧ K (.ms hp.length 0 (n + m) sz) [(hp.length,.cells (cs ++ ys))]) := by
 apply propext
 constructor
 · rintro ⟨m',ys',h1,h2,r,ws,h3,k⟩
   simp only [elems] at h1
   split at h1
   · rename_i hl; cases h1
     obtain ⟨a1,a2,a3,a4,a5,rfl,rfl⟩ := h3
     exact ⟨⟨a1,hl,h2,a2,a3,a4,a5⟩,k⟩
   · cases h1
 · rintro ⟨⟨a1,a2,a3,a4,a5,a6,a7⟩,k⟩
   exact ⟨m,ys,by simp [elems,a2],a3,_,_,⟨a1,a4,a5,a6,a7,rfl,rfl⟩,k⟩
def AppR (o : Option HObj) (new sz bytes id off n sz' m : Nat) (ys : List AV) (K : AV → List (Nat × HObj) → Prop) : Prop := match o with
 | some (.cells cs) => (ys.length = m * sz ∧ (ys.all AV.isPC) = true ∧ sz' = sz ∧ off + n * sz ≤ cs.length ∧ (n + m) * bytes ≤ 140737488355328 ∧ n + m ≤ 140737488355328) ∧ K (.ms new 0 (n + m) sz) [(id,.gone),(new,.cells (view cs off (n * sz) ++ ys))]
 | _ => False
theorem appr_some {cs new sz bytes id off n sz' m ys} : AppR (some (.cells cs)) new sz bytes id off n sz' m ys K = ((ys.length = m * sz ∧ (ys.all AV.isPC) = true ∧ sz' = sz ∧ off + n * sz ≤ cs.length ∧ (n + m) * bytes ≤ 140737488355328 ∧ n + m ≤ 140737488355328) ∧ K (.ms new 0 (n + m) sz) [(id,.gone),(new,.cells (view cs off (n * sz) ++ ys))]) := rfl
theorem app_ms {sz bytes id off n sz' m g} {ys : List AV} : AppW hp sz bytes (.ms id off n sz') (.sl g m ys) K = AppR (nthH hp id) hp.length sz bytes id off n sz' m ys K := by
 apply propext
 rw [nthH_eq]
 constructor
 · rintro ⟨m',ys',h1,h2,r,ws,h3,k⟩
   simp only [elems] at h1
   split at h1
   · rename_i hl; cases h1
     simp only [semApp,hpf] at h3
     cases ho : hp[id]? with
     | none => rw [ho] at h3; exact h3.elim
     | some o =>
       rw [ho] at h3
       cases o with
       | cells cs =>
         obtain ⟨a1,a2,a3,a4,rfl,rfl⟩ := h3
         exact ⟨⟨hl,h2,a1,a2,a3,a4⟩,k⟩
       | _ => exact h3.elim
   · cases h1
 · intro h
   cases ho : hp[id]? with
   | none => rw [ho] at h; exact h.elim
   | some o =>
     rw [ho] at h
     cases o with
     | cells cs =>
       obtain ⟨⟨a1,a2,a3,a4,a5,a6⟩,k⟩ := h
       refine ⟨m,ys,by simp [elems,a1],a2,_,_,?_,k⟩
       simp only [semApp,hpf,ho]
       exact ⟨a3,a4,a5,a6,trivial,trivial⟩
     | _ => exact h.elim
def MksW (hp : List HObj) (sz bytes : Nat) (zero : List AV) (x y : AV) (K : AV → List (Nat × HObj) → Prop) : Prop :=
 ∃ k : Nat,x = I k ∧ y = I k ∧ k * bytes ≤ 140737488355328 ∧ k ≤ 140737488355328 ∧ zero.length = sz ∧ K (.ms hp.length 0 k sz) [(hp.length,.cells (zrep k zero))]
theorem w_mks {d sz bytes z n c} : (AOp.mks d sz bytes z n c).wp P F hp K = MksW hp sz bytes z (evF F n) (evF F c) K := by
 apply propext
 constructor
 · rintro ⟨r,ws,⟨k,h1,h2,h3,h4,h5,rfl,rfl⟩,hk⟩; exact ⟨k,h1,h2,h3,h4,h5,hk⟩
 · rintro ⟨k,h1,h2,h3,h4,h5,hk⟩; exact ⟨_,_,⟨k,h1,h2,h3,h4,h5,rfl,rfl⟩,hk⟩
theorem xo_cap {a0 a1} : aops P E (.cap a0 a1 :: os) ⟨fr,hp⟩ KS = (AOp.cap a0 a1).wp P (get fr) hp (contA P E os (some a0) fr hp KS) := rfl
theorem xo_clr {a0 a1 a2} : aops P E (.clr a0 a1 a2 :: os) ⟨fr,hp⟩ KS = (AOp.clr a0 a1 a2).wp P (get fr) hp (contA P E os none fr hp KS) := rfl
theorem xo_appz {a0 a1 a2 a3 a4 a5} : aops P E (.appz a0 a1 a2 a3 a4 a5 :: os) ⟨fr,hp⟩ KS = (AOp.appz a0 a1 a2 a3 a4 a5).wp P (get fr) hp (contA P E os (some a0) fr hp KS) := rfl
theorem xo_slp {a0 a1 a2 a3 a4 a5 a6} : aops P E (.slp a0 a1 a2 a3 a4 a5 a6 :: os) ⟨fr,hp⟩ KS = (AOp.slp a0 a1 a2 a3 a4 a5 a6).wp P (get fr) hp (contA P E os (some a0) fr hp KS) := rfl
theorem xo_mkm {a0} : aops P E (.mkm a0 :: os) ⟨fr,hp⟩ KS = (AOp.mkm a0).wp P (get fr) hp (contA P E os (some a0) fr hp KS) := rfl
theorem xo_ins {a0 a1 a2 a3} : aops P E (.ins a0 a1 a2 a3 :: os) ⟨fr,hp⟩ KS = (AOp.ins a0 a1 a2 a3).wp P (get fr) hp (contA P E os none fr hp KS) := rfl
theorem xo_lku {a0 a1 a2 a3 a4 a5} : aops P E (.lku a0 a1 a2 a3 a4 a5 :: os) ⟨fr,hp⟩ KS = (AOp.lku a0 a1 a2 a3 a4 a5).wp P (get fr) hp (contA P E os (some a0) fr hp KS) := rfl
theorem xo_mpe {a0 a1 a2 a3 a4} : aops P E (.mpe a0 a1 a2 a3 a4 :: os) ⟨fr,hp⟩ KS = (AOp.mpe a0 a1 a2 a3 a4).wp P (get fr) hp (contA P E os (some a0) fr hp KS) := rfl
theorem xo_est {a0 a1 a2} : aops P E (.est a0 a1 a2 :: os) ⟨fr,hp⟩ KS = (AOp.est a0 a1 a2).wp P (get fr) hp (contA P E os none fr hp KS) := rfl
theorem xo_del {a0 a1 a2} : aops P E (.del a0 a1 a2 :: os) ⟨fr,hp⟩ KS = (AOp.del a0 a1 a2).wp P (get fr) hp (contA P E os none fr hp KS) := rfl
theorem xo_eqk {a0 a1 a2 a3 a4} : aops P E (.eqk a0 a1 a2 a3 a4 :: os) ⟨fr,hp⟩ KS = (AOp.eqk a0 a1 a2 a3 a4).wp P (get fr) hp (contA P E os (some a0) fr hp KS) := rfl
theorem dx_cap {a0 a1} : dops P (.cap a0 a1 :: os) ⟨fr,hp⟩ tr KD = (AOp.cap a0 a1).wp P (get fr) hp (contD P os (some a0) fr hp tr ((AOp.cap a0 a1).foot (get fr)) KD) := rfl
theorem dx_clr {a0 a1 a2} : dops P (.clr a0 a1 a2 :: os) ⟨fr,hp⟩ tr KD = (AOp.clr a0 a1 a2).wp P (get fr) hp (contD P os none fr hp tr ((AOp.clr a0 a1 a2).foot (get fr)) KD) := rfl
theorem dx_appz {a0 a1 a2 a3 a4 a5} : dops P (.appz a0 a1 a2 a3 a4 a5 :: os) ⟨fr,hp⟩ tr KD = (AOp.appz a0 a1 a2 a3 a4 a5).wp P (get fr) hp (contD P os (some a0) fr hp tr ((AOp.appz a0 a1 a2 a3 a4 a5).foot (get fr)) KD) := rfl
theorem dx_slp {a0 a1 a2 a3 a4 a5 a6} : dops P (.slp a0 a1 a2 a3 a4 a5 a6 :: os) ⟨fr,hp⟩ tr KD = (AOp.slp a0 a1 a2 a3 a4 a5 a6).wp P (get fr) hp (contD P os (some a0) fr hp tr ((AOp.slp a0 a1 a2 a3 a4 a5 a6).foot (get fr)) KD) := rfl
theorem dx_mkm {a0} : dops P (.mkm a0 :: os) ⟨fr,hp⟩ tr KD = (AOp.mkm a0).wp P (get fr) hp (contD P os (some a0) fr hp tr ((AOp.mkm a0).foot (get fr)) KD) := rfl
theorem dx_ins {a0 a1 a2 a3} : dops P (.ins a0 a1 a2 a3 :: os) ⟨fr,hp⟩ tr KD = (AOp.ins a0 a1 a2 a3).wp P (get fr) hp (contD P os none fr hp tr ((AOp.ins a0 a1 a2 a3).foot (get fr)) KD) := rfl
theorem dx_lku {a0 a1 a2 a3 a4 a5} : dops P (.lku a0 a1 a2 a3 a4 a5 :: os) ⟨fr,hp⟩ tr KD = (AOp.lku a0 a1 a2 a3 a4 a5).wp P (get fr) hp (contD P os (some a0) fr hp tr ((AOp.lku a0 a1 a2 a3 a4 a5).foot (get fr)) KD) := rfl
theorem dx_mpe {a0 a1 a2 a3 a4} : dops P (.mpe a0 a1 a2 a3 a4 :: os) ⟨fr,hp⟩ tr KD = (AOp.mpe a0 a1 a2 a3 a4).wp P (get fr) hp (contD P os (some a0) fr hp tr ((AOp.mpe a0 a1 a2 a3 a4).foot (get fr)) KD) := rfl
theorem dx_est {a0 a1 a2} : dops P (.est a0 a1 a2 :: os) ⟨fr,hp⟩ tr KD = (AOp.est a0 a1 a2).wp P (get fr) hp (contD P os none fr hp tr ((AOp.est a0 a1 a2).foot (get fr)) KD) := rfl
theorem dx_del {a0 a1 a2} : dops P (.del a0 a1 a2 :: os) ⟨fr,hp⟩ tr KD = (AOp.del a0 a1 a2).wp P (get fr) hp (contD P os none fr hp tr ((AOp.del a0 a1 a2).foot (get fr)) KD) := rfl
theorem dx_eqk {a0 a1 a2 a3 a4} : dops P (.eqk a0 a1 a2 a3 a4 :: os) ⟨fr,hp⟩ tr KD = (AOp.eqk a0 a1 a2 a3 a4).wp P (get fr) hp (contD P os (some a0) fr hp tr ((AOp.eqk a0 a1 a2 a3 a4).foot (get fr)) KD) := rfl
theorem foot_lku {a0 a1 a2 a3 a4 a5} {G : Nat → AV} : (AOp.lku a0 a1 a2 a3 a4 a5).foot G = (evF G a4).ids ++ (evF G a5).ids := by simp [AOp.foot,AOp.heapy,AOp.opds]
theorem foot_mpe {a0 a1 a2 a3 a4} {G : Nat → AV} : (AOp.mpe a0 a1 a2 a3 a4).foot G = (evF G a3).ids ++ (evF G a4).ids := by simp [AOp.foot,AOp.heapy,AOp.opds]
theorem foot_est {a0 a1 a2} {G : Nat → AV} : (AOp.est a0 a1 a2).foot G = (evF G a0).ids ++ ((evF G a1).ids ++ (evF G a2).ids) := by simp [AOp.foot,AOp.heapy,AOp.opds]
theorem foot_ins {a0 a1 a2 a3} {G : Nat → AV} : (AOp.ins a0 a1 a2 a3).foot G = (evF G a1).ids ++ ((evF G a2).ids ++ (evF G a3).ids) := by simp [AOp.foot,AOp.heapy,AOp.opds]
theorem foot_del {a0 a1 a2} {G : Nat → AV} : (AOp.del a0 a1 a2).foot G = (evF G a1).ids ++ (evF G a2).ids := by simp [AOp.foot,AOp.heapy,AOp.opds]
theorem foot_appz {a0 a1 a2 a3 a4 a5} {G : Nat → AV} : (AOp.appz a0 a1 a2 a3 a4 a5).foot G = (evF G a4).ids ++ (evF G a5).ids := by simp [AOp.foot,AOp.heapy,AOp.opds]
theorem foot_clr {a0 a1 a2} {G : Nat → AV} : (AOp.clr a0 a1 a2).foot G = (evF G a2).ids := by simp [AOp.foot,AOp.heapy,AOp.opds]
theorem foot_eqk {a0 a1 a2 a3 a4} {G : Nat → AV} : (AOp.eqk a0 a1 a2 a3 a4).foot G = [] := rfl
theorem foot_cap {a0 a1} {G : Nat → AV} : (AOp.cap a0 a1).foot G = [] := rfl
theorem foot_mkm {a0} {G : Nat → AV} : (AOp.mkm a0).foot G = [] := rfl
def EqkW (neg : Bool) (ks : Bool × List Leaf) (x y : AV) (K : AV → List (Nat × HObj) → Prop) : Prop := ∃ a b z,x.val = some a ∧ y.val = some b ∧ eqK ks a b = some z ∧ K (B (neg != z)) []
theorem w_eqk {d neg ks x y} : (AOp.eqk d neg ks x y).wp P F hp K = EqkW neg ks (evF F x) (evF F y) K := by
 apply propext
 constructor
 · rintro ⟨r,ws,⟨a,b,z,h1,h2,h3,rfl,rfl⟩,k⟩; exact ⟨a,b,z,h1,h2,h3,k⟩
 · rintro ⟨a,b,z,h1,h2,h3,k⟩; exact ⟨_,_,⟨a,b,z,h1,h2,h3,rfl,rfl⟩,k⟩
theorem eqk_of {neg : Bool} {ks : Bool × List Leaf} {x y : AV} {a b : Value} {z : Bool} (hx : x.val = some a) (hy : y.val = some b) (hz : eqK ks a b = some z) : EqkW neg ks x y K = K (B (neg != z)) [] := by
 apply propext
 constructor
 · rintro ⟨a',b',z',e1,e2,e3,k⟩
   rw [hx] at e1; rw [hy] at e2
   cases e1; cases e2
   rw [hz] at e3; cases e3
   exact k
 · exact fun k => ⟨a,b,z,hx,hy,hz,k⟩
theorem eqk_pair {neg : Bool} {a b c d : Int} : EqkW neg (true,[.int,.int]) (.agg [I a,I b]) (.agg [I c,I d]) K = K (B (neg != decide ((a,b) = (c,d)))) [] := by
 refine eqk_of (a := .agg #[.int .i64 a,.int .i64 b]) (b := .agg #[.int .i64 c,.int .i64 d]) rfl rfl ?_
 simp only [eqK,eqLeaves,eqLeaf,if_true]
 have e1 : ∀ x y : Int,(x == y) = decide (x = y) := fun x y => rfl
 rw [e1,e1]
 by_cases h1 : a = c <;> by_cases h2 : b = d <;> simp [h1,h2]
variable {Q : Exit → St → Prop} {x y : AC}
def CondB (P : Program) (E : HE) (t : Bool) (x y : AC) (st : St) (Q : Exit → St → Prop) : Prop := (t = true → AWP P E x st Q) ∧ (t = false → AWP P E y st Q)
def CondX (P : Program) (E : HE) (c : AV) (x y : AC) (st : St) (Q : Exit → St → Prop) : Prop := match c with
 | .v (.bool t) => CondB P E t x y st Q
 | _ => False
theorem x_cond {c} : AWP P E (.cond c x y) ⟨fr,hp⟩ Q = CondX P E (evF (get fr) c) x y ⟨fr,hp⟩ Q := by
 simp only [AWP,CondX]
 generalize evF (get fr) c = u
 cases u with
 | v y => cases y <;> rfl
 | _ => rfl
theorem c_bool {t st} : CondX P E (B t) x y st Q = CondB P E t x y st Q := rfl
theorem c_true {st} : CondB P E true x y st Q = AWP P E x st Q := by simp [CondB]
theorem c_false {st} : CondB P E false x y st Q = AWP P E y st Q := by simp [CondB]
theorem c_split {t : Bool} {st : St} (h1 : t = true → AWP P E x st Q) (h2 : t = false → AWP P E y st Q) : CondB P E t x y st Q := ⟨h1,h2⟩
theorem x_skip : AWP P E .skip ⟨fr,hp⟩ Q = Q .normal ⟨fr,hp⟩ := rfl
theorem x_rgn {gs ks} : AWP P E (.rgn gs ks) ⟨fr,hp⟩ Q = agrps P E gs ⟨fr,hp⟩ fun st => Q .normal (st.keep ks) := rfl
theorem x_drw {gs un ks} : AWP P E (.drw gs un ks) ⟨fr,hp⟩ Q = dgrps P gs ⟨fr,hp⟩ [] fun st tr => compat tr un = true ∧ Q .normal (st.keep ks) := rfl
theorem x_seq : AWP P E (.seq x y) ⟨fr,hp⟩ Q = AWP P E x ⟨fr,hp⟩ (Exit.th (fun st => AWP P E y st Q) Q) := rfl
theorem x_block {id} : AWP P E (.block id x) ⟨fr,hp⟩ Q = AWP P E x ⟨fr,hp⟩ (Exit.blk id Q) := rfl
theorem x_exit {id} : AWP P E (.exit id) ⟨fr,hp⟩ Q = Q (.exit id) ⟨fr,hp⟩ := rfl
theorem x_ret : AWP P E .ret ⟨fr,hp⟩ Q = Q .ret ⟨fr,hp⟩ := rfl
theorem x_label {l} : AWP P E (.label l) ⟨fr,hp⟩ Q = Q .normal ⟨fr,hp⟩ := rfl
def cmp2 : Option (List Nat × List Nat) → Option (List Nat × List Nat) → Bool
 | some (ri,wi),some (rj,wj) => disj wi rj && disj wi wj && disj wj ri
 | _,_ => false
def nthT : Tr → Nat → Option (List Nat × List Nat)
 | [],_ => none
 | a :: l,n => if n = 0 then some a else nthT l (n - 1)
theorem nthT_eq : ∀ (l : Tr) (n : Nat),nthT l n = l[n]?
 | [],n => by simp [nthT]
 | a :: l,0 => by simp [nthT]
 | a :: l,n + 1 => by simp [nthT,nthT_eq l n]
theorem nthT_cons {a : List Nat × List Nat} {l : Tr} {n} : nthT (a :: l) n = if n = 0 then some a else nthT l (n - 1) := rfl
theorem compat_cons {i j un} : compat tr ((i,j) :: un) = (cmp2 (nthT tr i) (nthT tr j) && compat tr un) := by
 simp only [compat,nthT_eq]
 generalize tr[i]? = a
 generalize tr[j]? = b
 cases a <;> cases b <;> rfl
theorem compat_nil : compat tr [] = true := rfl
theorem cmp2_some {ri wi rj wj} : cmp2 (some (ri,wi)) (some (rj,wj)) = (disj wi rj && disj wi wj && disj wj ri) := rfl
theorem disj_nil {b : List Nat} : disj [] b = true := rfl
theorem disj_cons {x : Nat} {a b : List Nat} : disj (x :: a) b = (!b.contains x && disj a b) := rfl
def keepF (fr : List (Nat × AV)) (ks : List Nat) : List (Nat × AV) := ks.map fun t => (t,get fr t)
theorem x_keep {ks} : St.keep ⟨fr,hp⟩ ks = ⟨keepF fr ks,hp⟩ := rfl
theorem keep_cons {k ks} : keepF fr (k :: ks) = (k,get fr k) :: keepF fr ks := rfl
theorem keep_nil : keepF fr [] = [] := rfl
theorem th_n {st : St} : Exit.th KS Q .normal st = KS st := rfl
theorem th_e {st : St} {id} : Exit.th KS Q (.exit id) st = Q (.exit id) st := rfl
theorem th_r {st : St} : Exit.th KS Q .ret st = Q .ret st := rfl
theorem blk_n {st : St} {id} : Exit.blk id Q .normal st = Q .normal st := rfl
theorem blk_r {st : St} {id} : Exit.blk id Q .ret st = Q .ret st := rfl
theorem blk_e {st : St} {id id'} : Exit.blk id Q (.exit id') st = if id' = id then Q .normal st else Q (.exit id') st := rfl
theorem g_nil : agrps P E [] ⟨fr,hp⟩ KS = KS ⟨fr,hp⟩ := rfl
theorem g_none {gs} : agrps P E (⟨none,os⟩ :: gs) ⟨fr,hp⟩ KS = aops P E os ⟨fr,hp⟩ fun st => agrps P E gs st KS := rfl
def GdB (P : Program) (E : HE) (c b : Bool) (os : List AOp) (gs : List Grp) (st : St) (K : St → Prop) : Prop := (c = b → aops P E os st fun st => agrps P E gs st K) ∧ (c ≠ b → agrps P E gs (undefs os st) K)
def GdX (P : Program) (E : HE) (x : AV) (b : Bool) (os : List AOp) (gs : List Grp) (st : St) (K : St → Prop) : Prop := match x with
 | .v (.bool c) => GdB P E c b os gs st K
 | .v (.tuple _) => agrps P E gs (undefs os st) K
 | _ => False
theorem g_some {j b gs} : agrps P E (⟨some (j,b),os⟩ :: gs) ⟨fr,hp⟩ KS = GdX P E (get fr j) b os gs ⟨fr,hp⟩ KS := by
 simp only [agrps,GdX]
 generalize get fr j = u
 cases u with
 | v y => cases y <;> rfl
 | _ => rfl
theorem gd_bool {c b gs st} : GdX P E (B c) b os gs st KS = GdB P E c b os gs st KS := rfl
theorem gd_tuple {c b gs st} : GdX P E (.v (.tuple c)) b os gs st KS = agrps P E gs (undefs os st) KS := rfl
theorem gd_tt {gs st} : GdB P E true true os gs st KS = aops P E os st fun st => agrps P E gs st KS := by simp [GdB]
theorem gd_ff {gs st} : GdB P E false false os gs st KS = aops P E os st fun st => agrps P E gs st KS := by simp [GdB]
theorem gd_tf {gs st} : GdB P E true false os gs st KS = agrps P E gs (undefs os st) KS := by simp [GdB]
theorem gd_ft {gs st} : GdB P E false true os gs st KS = agrps P E gs (undefs os st) KS := by simp [GdB]
def DdB (P : Program) (c b : Bool) (os : List AOp) (gs : List Grp) (st : St) (tr : Tr) (K : St → Tr → Prop) : Prop :=
 (c = b → dops P os st tr fun st tr => dgrps P gs st tr K) ∧ (c ≠ b → dgrps P gs (undefs os st) (tr ++ os.map fun _ => ([],[])) K)
def DdX (P : Program) (x : AV) (b : Bool) (os : List AOp) (gs : List Grp) (st : St) (tr : Tr) (K : St → Tr → Prop) : Prop := match x with
 | .v (.bool c) => DdB P c b os gs st tr K
 | .v (.tuple _) => dgrps P gs (undefs os st) (tr ++ os.map fun _ => ([],[])) K
 | _ => False
theorem d_nil : dgrps P [] ⟨fr,hp⟩ tr KD = KD ⟨fr,hp⟩ tr := rfl
theorem d_none {gs} : dgrps P (⟨none,os⟩ :: gs) ⟨fr,hp⟩ tr KD = dops P os ⟨fr,hp⟩ tr fun st tr => dgrps P gs st tr KD := rfl
theorem d_some {j b gs} : dgrps P (⟨some (j,b),os⟩ :: gs) ⟨fr,hp⟩ tr KD = DdX P (get fr j) b os gs ⟨fr,hp⟩ tr KD := by
 simp only [dgrps,DdX]
 generalize get fr j = u
 cases u with
 | v y => cases y <;> rfl
 | _ => rfl
theorem dd_bool {c b gs st} : DdX P (B c) b os gs st tr KD = DdB P c b os gs st tr KD := rfl
theorem dd_tuple {c b gs st} : DdX P (.v (.tuple c)) b os gs st tr KD = dgrps P gs (undefs os st) (tr ++ os.map fun _ => ([],[])) KD := rfl
theorem dd_tt {gs st} : DdB P true true os gs st tr KD = dops P os st tr fun st tr => dgrps P gs st tr KD := by simp [DdB]
theorem dd_ff {gs st} : DdB P false false os gs st tr KD = dops P os st tr fun st tr => dgrps P gs st tr KD := by simp [DdB]
theorem dd_tf {gs st} : DdB P true false os gs st tr KD = dgrps P gs (undefs os st) (tr ++ os.map fun _ => ([],[])) KD := by simp [DdB]
theorem dd_ft {gs st} : DdB P false true os gs st tr KD = dgrps P gs (undefs os st) (tr ++ os.map fun _ => ([],[])) KD := by simp [DdB]
def undF : List AOp → List (Nat × AV) → List (Nat × AV)
 | [],fr => fr
 | o :: os,fr => undF os (frPut fr o.dst (.v (.tuple #[])))
theorem x_undefs : ∀ {os : List AOp} {fr : List (Nat × AV)},undefs os ⟨fr,hp⟩ = ⟨undF os fr,hp⟩
 | [],fr => rfl
 | o :: os,fr => by
   rw [undefs_cons]
   have : undefs [o] ⟨fr,hp⟩ = ⟨frPut fr o.dst (.v (.tuple #[])),hp⟩ := by rw [undefs_step]; rfl
   rw [this,x_undefs]; rfl
theorem undF_nil : undF [] fr = fr := rfl
theorem undF_cons {o : AOp} : undF (o :: os) fr = undF os (frPut fr o.dst (.v (.tuple #[]))) := rfl
theorem callW_pure {f : FuncId} {xs ys : List AV} {ids : List Nat} {r : AV} {KC : AV → List HObj → Prop} (h1 : purifyAll (hpf hp) xs = some (ys,ids)) (h2 : PureOK P f ys r) (h3 : KC r (writeL hp (bif r.scalar then [] else gones ids))) : CallW P f xs hp KC := by
 intro ro n w g vs hok hvs hrep
 refine (call_pure hok h1 hvs hrep h2).mono ?_
 rintro e w' ⟨v,rfl,g',q1,q2,q3⟩
 have hlen : ∀ p ∈ (bif r.scalar then [] else gones ids),p.1 ≤ hp.length := fun p hpm => by
  cases hs : r.scalar with
  | true => rw [hs] at hpm; simp at hpm
  | false =>
    rw [hs] at hpm
    simp only [cond_false,gones,List.mem_map] at hpm
    obtain ⟨i,hi,rfl⟩ := hpm
    exact Nat.le_of_lt (purifyAll_lt h1 i hi)
 rw [← hpf_write hlen] at q2 q3
 exact ⟨v,r,_,g',rfl,h3,q1,q2,q3⟩
theorem pureW_of {f : FuncId} {xs ys : List AV} {ids : List Nat} {r : AV} (h1 : purifyAll (hpf hp) xs = some (ys,ids)) (h2 : PureOK P f ys r) (h3 : K r (bif r.scalar then [] else gones ids)) : PureW P f xs hp K := ⟨ys,ids,h1,.inl ⟨r,h2,h3⟩⟩
theorem ret_n {ts : List Nat} {KC : AV → List HObj → Prop} : RetQ ts KC .normal ⟨fr,hp⟩ = KC (resAV ts fr) hp := rfl
theorem ret_r {ts : List Nat} {KC : AV → List HObj → Prop} : RetQ ts KC .ret ⟨fr,hp⟩ = KC (resAV ts fr) hp := rfl
theorem walk {f : FuncId} {fn : Func} {ac : AC} {ts : List Nat} {xs : List AV} {KC : AV → List HObj → Prop} (hf : P.funcs[f]? = some fn) (hc : formOf P fn ts = some ac) (hr : resTmps fn.results.toList = some ts)
 (hl : xs.length ≤ fn.ntmps) (h : AWP P (E1 P) ac ⟨argFr 0 xs,hp⟩ (RetQ ts KC)) : CallW P f xs hp KC := callW_form hf hc hr hl h
def Next {α : Type} (I : α → St) (C : α → Prop) (μ : α → Nat) (a : α) (st : St) : Prop := ∃ a',C a' ∧ μ a' < μ a ∧ St.le st (I a')
theorem St.le.rfl' (st : St) : St.le st st := fun N a w g h => ⟨g,h,.refl _ _ _⟩
theorem loop_of {α : Type} (I : α → St) (C : α → Prop) (μ : α → Nat) (a0 : α) {st : St} (h0 : C a0) (hs : St.le st (I a0)) (round : ∀ a,C a → AWP P E x (I a) (Exit.th (Next I C μ a) Q)) : AWP P E (.loop x) st Q :=
 ⟨α,I,C,μ,a0,h0,hs,round⟩
theorem loop_eq {α : Type} (I : α → St) (C : α → Prop) (μ : α → Nat) (a0 : α) {st : St} (h0 : C a0) (hs : st = I a0) (round : ∀ a,C a → AWP P E x (I a) (Exit.th (Next I C μ a) Q)) : AWP P E (.loop x) st Q :=
 loop_of I C μ a0 h0 (hs ▸ St.le.rfl' st) round
theorem next_eq {α : Type} {I : α → St} {C : α → Prop} {μ : α → Nat} {a : α} {st : St} (a' : α) (h : C a') (hm : μ a' < μ a) (hs : st = I a') : Next I C μ a st := ⟨a',h,hm,hs ▸ St.le.rfl' st⟩
theorem cells_ls {l : List Int} {j sz} (h : j < l.length) : CellsW (l.map fun n => I n) j sz false K = K (I (l.getD j 0)) [] := by
 simp [CellsW,h]
theorem out_v {r : AV} {x : Value} : Out r (.v x) hp = (r = .v x) := by
 apply propext
 constructor
 · rintro ⟨is,h⟩; simp [purify,purify1,purify0] at h; exact h.1.symm
 · rintro rfl; exact ⟨[],rfl⟩
theorem out_of {r x : AV} {is : List Nat} (h : purify (hpf hp) x = some (r,is)) : Out r x hp := ⟨is,h⟩
end
attribute [simp] xo_mv xo_pick xo_bin xo_bing xo_un xo_ext xo_ld xo_st xo_box xo_al xo_bsl xo_bld xo_fa xo_fld xo_ia xo_iaa xo_idx xo_ids xo_len xo_lns xo_lnm xo_slc xo_sls xo_app xo_cpy xo_mks xo_cnv xo_mx xo_nilc xo_mkf
attribute [simp] dx_mv dx_pick dx_bin dx_bing dx_un dx_ext dx_ld dx_st dx_box dx_al dx_bsl dx_bld dx_fa dx_fld dx_ia dx_iaa dx_idx dx_ids dx_len dx_lns dx_lnm dx_slc dx_sls dx_app dx_cpy dx_mks dx_cnv dx_mx dx_nilc dx_mkf dx_call
attribute [simp low] cells_agg cells_one
attribute [simp] app_sl app_ms appr_some slc_hi slc_lo slc_lohi Option.map_none Option.map_some place_nil place_cons placeF_nil placeF_cons nthA_cons one_some undF_nil undF_cons nthH_end set_end nthH_cons ldr_some str_some w_bing ret_n ret_r out_v
attribute [simp] x_contA x_contC x_contD x_nil x_dnil x_call x_callv cv_fn x_wcall ia_mc len_mc w_mv w_pick w_pickB w_bin b_add b_sub b_mul b_quo b_rem b_and b_or b_xor b_andNot b_shl b_shr b_eql b_neq b_lss b_leq b_gtr b_geq w_un u_neg u_not w_ext e_tup w_ld ld_ptr ld_ref w_st st_ref w_box w_al w_bsl w_bld w_fa fa_ptr fa_ref w_fld fld_agg w_ia ia_sl ia_ms w_iaa iaa_ptr iaa_ref w_idx idx_agg w_len len_sl len_ms w_slc w_cnv cnv_int w_mx mx_max mx_min w_nilc nilc_ptr nilc_ref nilc_fn w_mkf w_app w_mks x_cond c_bool c_true c_false x_skip x_rgn x_drw x_seq x_block x_exit x_ret x_label x_keep th_n th_e th_r blk_n blk_r blk_e g_nil g_none g_some gd_bool gd_tuple gd_tt gd_ff gd_tf gd_ft d_nil d_none d_some dd_bool dd_tuple dd_tt dd_ff dd_tf dd_ft x_undefs
attribute [simp] keep_cons keep_nil get_cons get_nil ev_t ev_k frPut writeL setL AOp.dst ids_v ids_sl ids_ptr ids_ref ids_ms ids_mp ids_any ids_fn ids_agg ids_tup ids1_agg ids0_v ids0_sl ids0_ptr ids0_ref ids0_ms ids0_mp ids1_v ids1_sl ids1_ptr ids1_ref ids1_ms ids1_mp ids1_any ids1_fn nthT_cons compat_cons compat_nil cmp2_some disj_nil disj_cons argFr resAV AV.cells AV.isCell AV.isPure AV.isPure0 AV.isPC view splice gones_nil gones_cons AV.scalar
attribute [simp] xo_cap dx_cap xo_clr dx_clr xo_appz dx_appz xo_slp dx_slp xo_mkm dx_mkm xo_ins dx_ins xo_lku dx_lku xo_mpe dx_mpe xo_est dx_est xo_del dx_del xo_eqk dx_eqk foot_lku foot_mpe foot_est foot_ins foot_del foot_appz foot_clr foot_eqk foot_cap foot_mkm w_eqk
end Go.AM

set_option maxRecDepth 100000
namespace Go.AM
open Go.RowKit
theorem wrap_id {n : Int} (h : -9223372036854775808 ≤ n ∧ n < 9223372036854775808) : IntKind.i64.wrap n = n := by
 simp [IntKind.wrap,IntKind.bits,IntKind.signed,Int.bmod]
 omega
variable {P : Program} {hp : List HObj} {K : AV → List (Nat × HObj) → Prop}
end Go.AM

namespace Go.AM
open Go.RowKit
abbrev Ls (f : Bool) (l : List Int) : AV := .sl f l.length (l.map fun n => I n)
def idxI {α : Type} (p : α → Bool) (l : List α) : Int := match l.findIdx? p with
 | some k => k
 | none => -1
theorem idxI_some {α : Type} {p : α → Bool} {l : List α} {i : Nat} (h : i < l.length) (hp : p l[i] = true) (hn : ∀ k (hk : k < l.length),k < i → p l[k] = false) : idxI p l = i := by
 have : l.findIdx? p = some i := List.findIdx?_eq_some_iff_getElem.2 ⟨h,hp,fun j hj => by simpa using hn j (by omega) hj⟩
 simp [idxI,this]
theorem idxI_none {α : Type} {p : α → Bool} {l : List α} (hn : ∀ k (hk : k < l.length),p l[k] = false) : idxI p l = -1 := by
 have : l.findIdx? p = none := List.findIdx?_eq_none_iff.2 fun x hx => by
  obtain ⟨k,hk,rfl⟩ := List.getElem_of_mem hx
  exact hn k hk
 simp [idxI,this]
theorem idxI_any {α : Type} (p : α → Bool) (l : List α) : decide (idxI p l ≥ 0) = l.any p := by
 cases h : l.findIdx? p with
 | some k =>
   have h1 : idxI p l = k := by simp [idxI,h]
   obtain ⟨hk,h2,_⟩ := List.findIdx?_eq_some_iff_getElem.1 h
   rw [h1]
   have : l.any p = true := List.any_eq_true.2 ⟨l[k],List.getElem_mem hk,h2⟩
   rw [this]; simp
 | none =>
   have h1 : idxI p l = -1 := by simp [idxI,h]
   have : l.any p = false := by
    rw [List.any_eq_false]; intro x hx
    have := List.findIdx?_eq_none_iff.1 h x hx
    simp [this]
   rw [h1,this]; rfl
def allIn (lo hi : Int) (l : List Int) : Bool := l.all fun x => decide (lo ≤ x) && decide (x ≤ hi)
theorem allIn_any (lo hi : Int) (l : List Int) : allIn lo hi l = !(l.any fun x => decide (x < lo) || decide (hi < x)) := by
 induction l with
 | nil => rfl
 | cons x l ih =>
   simp only [allIn,List.all_cons,List.any_cons] at ih ⊢
   rw [ih]
   by_cases h1 : lo ≤ x
   · by_cases h2 : x ≤ hi
     · simp [h1,h2,show ¬ x < lo by omega,show ¬ hi < x by omega]
     · simp [h1,h2,show hi < x by omega]
   · simp [h1,show x < lo by omega]
def flat2 (c : List (Int × Int)) : List AV := c.flatMap fun p => [I p.1,I p.2]
abbrev Ps (f : Bool) (c : List (Int × Int)) : AV := .sl f c.length (flat2 c)
abbrev Pr (p : Int × Int) : AV := .agg [I p.1,I p.2]
theorem flat2_len (c : List (Int × Int)) : (flat2 c).length = c.length * 2 := by
 induction c with
 | nil => rfl
 | cons p c ih => simp [flat2] at ih ⊢; omega
theorem flat2_drop (c : List (Int × Int)) (i : Nat) : (flat2 c).drop (i * 2) = flat2 (c.drop i) := by
 induction i generalizing c with
 | zero => simp
 | succ i ih =>
   cases c with
   | nil => simp [flat2]
   | cons p c =>
     have : (i + 1) * 2 = i * 2 + 1 + 1 := by omega
     rw [this]
     simp only [List.drop_succ_cons]
     rw [← ih c]
     rfl
theorem flat2_take (c : List (Int × Int)) (i : Nat) : (flat2 c).take (i * 2) = flat2 (c.take i) := by
 induction i generalizing c with
 | zero => simp [flat2]
 | succ i ih =>
   cases c with
   | nil => simp [flat2]
   | cons p c =>
     have : (i + 1) * 2 = i * 2 + 1 + 1 := by omega
     rw [this]
     show _ :: _ :: List.take (i * 2) (flat2 c) = _
     rw [ih c]
     rfl
theorem flat2_view {c : List (Int × Int)} {i : Nat} (h : i < c.length) : ((flat2 c).drop (i * 2)).take 2 = [I c[i].1,I c[i].2] := by
 rw [flat2_drop,List.drop_eq_getElem_cons h]
 rfl
theorem cells_pair {c : List (Int × Int)} {i : Nat} {K : AV → List (Nat × HObj) → Prop} (h : i < c.length) : CellsW (flat2 c) (i * 2) 2 true K = K (Pr (c.getD i (0,0))) [] := by
 have := flat2_len c
 simp only [CellsW,view,flat2_view h]
 simp [h]
 intro _; omega
theorem bing_pair {neg : Bool} {p q : Int × Int} {K : AV → List (Nat × HObj) → Prop} : EqkW neg (true,[.int,.int]) (Pr p) (Pr q) K = K (B (neg != decide (p = q))) [] := eqk_pair
theorem bing_pair2 {neg : Bool} {a b c d : Int} {K : AV → List (Nat × HObj) → Prop} : EqkW neg (true,[.int,.int]) (.agg [I a,I b]) (.agg [I c,I d]) K = K (B (neg != decide ((a,b) = (c,d)))) [] := eqk_pair
theorem not_take {c : List (Int × Int)} {i : Nat} (h : i < c.length) (hn : ∀ m (hm : m < c.length),m < i → c[m] ≠ c[i]) : (c.take i).contains c[i] = false := by
 simp only [List.contains_eq_mem,decide_eq_false_iff_not]
 intro hm
 obtain ⟨k,hk,e⟩ := List.getElem_of_mem hm
 have hk2 := hk
 rw [List.length_take] at hk2
 rw [List.getElem_take] at e
 exact hn k (by omega) (by omega) e
theorem in_take {c : List (Int × Int)} {i k : Nat} (h : i < c.length) (hk : k < i) (e : c[k] = c[i]) : (c.take i).contains c[i] = true := by
 simp only [List.contains_eq_mem,decide_eq_true_eq]
 rw [← e]
 have : (c.take i)[k]'(by simp; omega) = c[k] := by rw [List.getElem_take]
 rw [← this]; exact List.getElem_mem _
@[simp high] theorem ls_isPC (l : List Int) : (l.map fun n => I n).all AV.isPC = true := by simp [List.all_eq_true]
@[simp high] theorem ls_isPure (l : List Int) : (l.map fun n => I n).all AV.isPure = true := by simp [List.all_eq_true]
theorem out_ls {id n : Nat} {l : List Int} {hp : List HObj} (h : nthH hp id = some (.cells (l.map fun n => I n))) (hn : n = l.length) : Out (Ls false l) (.ms id 0 n 1) hp := by
 subst hn
 rw [nthH_eq] at h
 refine out_of (is := [id]) ?_
 simp only [purify,purify1,purify0,hpf,h]
 rw [if_pos ⟨by simp,ls_isPure l⟩]
 simp only [view,List.drop_zero,Nat.mul_one]
 rw [List.take_of_length_le (by simp)]
def Small (l : List Int) : Prop := ∀ x ∈ l,-1000000 ≤ x ∧ x ≤ 1000000
theorem Small.at {l : List Int} (h : Small l) {i : Nat} (hi : i < l.length) : -1000000 ≤ l[i] ∧ l[i] ≤ 1000000 := h _ (List.getElem_mem hi)
theorem nthH_writeL {hp : List HObj} {ws : List (Nat × HObj)} (h : ∀ p ∈ ws,p.1 ≤ hp.length) (i : Nat) : nthH (writeL hp ws) i = Hp.write (hpf hp) ws i := by
 rw [nthH_eq]; exact congrFun (hpf_write h) i
def weak1 : AV → AV
 | .sl _ n cs => .sl false n cs
 | x => x
def weak : AV → AV
 | .tup vs => .tup (vs.map weak1)
 | .agg vs => .agg (vs.map weak1)
 | x => weak1 x
theorem nthH_set_same {hp : List HObj} {id : Nat} {o : HObj} (h : id < hp.length) : nthH (hp.set id o) id = some o := by
 rw [nthH_eq,List.getElem?_set_self h]
theorem nthH_set_ne {hp : List HObj} {id j : Nat} {o : HObj} (h : id ≠ j) : nthH (hp.set id o) j = nthH hp j := by
 rw [nthH_eq,nthH_eq,List.getElem?_set_ne h]
def rid : AV → Option Nat
 | .ms id _ _ _ => some id
 | _ => none
def RowIs (hp : List HObj) (x : AV) (l : List Int) : Prop :=
 (x = .sl true 0 [] ∧ l = []) ∨ ∃ id off cs,x = .ms id off l.length 1 ∧ nthH hp id = some (.cells cs) ∧ off + l.length ≤ cs.length ∧ view cs off l.length = l.map fun n => I n
def Fr (hp hp' : List HObj) (o : Nat → Prop) : Prop := hp.length ≤ hp'.length ∧ ∀ i,i < hp.length → ¬ o i → nthH hp' i = nthH hp i
theorem Fr.refl (hp : List HObj) (o : Nat → Prop) : Fr hp hp o := ⟨Nat.le_refl _,fun _ _ _ => rfl⟩
theorem nthH_lt {hp : List HObj} {i : Nat} {o : HObj} (h : nthH hp i = some o) : i < hp.length := by rw [nthH_eq] at h; exact hpf_lt h
theorem RowIs.lt {hp x l i} (h : RowIs hp x l) (hi : rid x = some i) : i < hp.length := by
 rcases h with ⟨rfl,_⟩ | ⟨id,off,cs,rfl,h2,_⟩
 · cases hi
 · cases hi; exact nthH_lt h2
theorem RowIs.mono {hp H x l} (h : RowIs hp x l) (hk : ∀ i,rid x = some i → nthH H i = nthH hp i) : RowIs H x l := by
 rcases h with h | ⟨id,off,cs,rfl,h2,h3⟩
 · exact .inl h
 · exact .inr ⟨id,off,cs,rfl,(hk id rfl).trans h2,h3⟩
section
variable {hp : List HObj} {K : AV → List (Nat × HObj) → Prop}
end
theorem app_row {hp : List HObj} {x : AV} {l : List Int} {v : Int} {K : AV → List (Nat × HObj) → Prop} (h : RowIs hp x l) (hl : l.length ≤ 1000000)
 (hK : ∀ ws,(∀ i,i < hp.length → rid x ≠ some i → nthH (writeL hp ws) i = nthH hp i) → hp.length < (writeL hp ws).length → nthH (writeL hp ws) hp.length = some (.cells ((l ++ [v]).map fun n => I n)) → K (.ms hp.length 0 (l.length + 1) 1) ws) :
 AppW hp 1 8 x (.sl true 1 [I v]) K := by
 rcases h with ⟨rfl,rfl⟩ | ⟨id,off,cs,rfl,h2,h3,h4⟩
 · rw [app_sl]
   refine ⟨by simp,hK _ (fun i hi _ => ?_) ?_ ?_⟩
   · rw [nthH_writeL (by simp),nthH_eq]; simp only [Hp.write]; rw [Hp.set_other _ _ (by omega)]; rfl
   · have := nthH_lt (hp := writeL hp [(hp.length,HObj.cells ([] ++ [I v]))]) (i := hp.length) (o := .cells [I v]) (by rw [nthH_writeL (by simp)]; simp [Hp.write,Hp.set_same])
     exact this
   · rw [nthH_writeL (by simp)]; simp [Hp.write,Hp.set_same]
 · have hlt := nthH_lt h2
   rw [app_ms,h2,appr_some]
   have hn : nthH (writeL hp [(id,HObj.gone),(hp.length,HObj.cells (view cs off (l.length * 1) ++ [I v]))]) hp.length = some (.cells ((l ++ [v]).map fun n => I n)) := by
    rw [nthH_writeL (by simp; omega)]
    simp only [Hp.write,Hp.set_same,Nat.mul_one,h4]
    simp
   refine ⟨by simp; omega,hK _ (fun i hi hr => ?_) (nthH_lt hn) hn⟩
   rw [nthH_writeL (by simp; omega),nthH_eq]; simp only [Hp.write]
   rw [Hp.set_other _ _ (by omega),Hp.set_other _ _ (fun e => hr (by rw [e]; rfl))]; rfl
def AccR (hp : List HObj) (x : AV) (l : List Int) : Prop := (x = .sl true 0 [] ∧ l = []) ∨ ∃ id,x = .ms id 0 l.length 1 ∧ l ≠ [] ∧ nthH hp id = some (.cells (l.map fun n => I n))
theorem AccR.row {hp x l} (h : AccR hp x l) : RowIs hp x l := by
 rcases h with h | ⟨id,rfl,_,h⟩
 · exact .inl h
 · exact .inr ⟨id,0,_,rfl,h,by simp,by simp [view]; rw [List.take_of_length_le (by simp)]⟩
theorem AccR.mono {hp H x l} (h : AccR hp x l) (hk : ∀ i,rid x = some i → nthH H i = nthH hp i) : AccR H x l := by
 rcases h with h | ⟨id,rfl,h1,h2⟩
 · exact .inl h
 · exact .inr ⟨id,rfl,h1,(hk id rfl).trans h2⟩
theorem AccR.out {hp x l} (h : AccR hp x l) : Out (Ls l.isEmpty l) x hp := by
 rcases h with ⟨rfl,rfl⟩ | ⟨id,rfl,h1,h2⟩
 · exact ⟨[],rfl⟩
 · have e : l.isEmpty = false := by simpa using h1
   rw [e]; exact out_ls h2 rfl
theorem rf_of {P : Program} {E : HE} {g : Opd} {ps ks : List Nat} {x y : AC} {fr : List (Nat × AV)} {hp : List HObj} {Q : Exit → St → Prop} {K0 : List HObj → Prop}
 (h1 : E.R (evF (get fr) g) hp (fun xs hp' K => hpf hp' hp.length = some (.lp .ready (hp.length + 1)) ∧ xs.length = ps.length ∧
       AWP P E x { fr := putPs ps xs fr,hp := hp' } (Exit.th (fun st1 => hpf st1.hp hp.length = some (.lp .ready (hp.length + 1)) ∧
        AWP P E y { fr := st1.fr,hp := setL st1.hp hp.length (.lp .busy (hp.length + 1)) } (RoundQ hp.length K)) (fun _ _ => False))) K0)
 (h2 : ∀ hp',K0 hp' → RfEnd hp.length fr ks Q hp') : AWP P E (.rf g ps x y ks) ⟨fr,hp⟩ Q := ⟨K0,h1,h2⟩
theorem hpf_nthH (hp : List HObj) (i : Nat) : hpf hp i = nthH hp i := (nthH_eq hp i).symm
theorem rfEnd_ready {id : Nat} {fr : List (Nat × AV)} {ks : List Nat} {Q : Exit → St → Prop} {hp : List HObj} {m : Nat} (h : nthH hp id = some (.lp .ready m)) (hq : Q .normal (St.keep { fr := fr,hp := hp.set id .gone } ks)) : RfEnd id fr ks Q hp := by
 simp only [RfEnd,hpf_nthH,h]
 have := nthH_lt h
 simp only [setL,this,if_true]
 exact hq
theorem AccR.pur {hp x l} (h : AccR hp x l) : ∃ f ids,purify (hpf hp) x = some (Ls f l,ids) ∧ ∀ i ∈ ids,rid x = some i ∧ i < hp.length := by
 rcases h with ⟨rfl,rfl⟩ | ⟨id,rfl,_,h2⟩
 · exact ⟨true,[],rfl,fun i hi => by simp at hi⟩
 · refine ⟨false,[id],?_,fun i hi => by simp at hi; subst hi; exact ⟨rfl,nthH_lt h2⟩⟩
   simp only [purify,purify1,purify0,hpf_nthH,h2]
   rw [if_pos ⟨by simp,ls_isPure l⟩]
   simp only [view,List.drop_zero,Nat.mul_one]
   rw [List.take_of_length_le (by simp)]
theorem ms_pur {hp : List HObj} {id n : Nat} {l : List Int} (h : nthH hp id = some (.cells (l.map fun n => I n))) (hn : n = l.length) : purify (hpf hp) (.ms id 0 n 1) = some (Ls false l,[id]) := by
 subst hn
 simp only [purify,purify1,purify0,hpf_nthH,h]
 rw [if_pos ⟨by simp,ls_isPure l⟩]
 simp only [view,List.drop_zero,Nat.mul_one]
 rw [List.take_of_length_le (by simp)]
def MkR (hp : List HObj) (x : AV) (l : List Int) : Prop := (x = .sl true 0 [] ∧ l = []) ∨ ∃ id,x = .ms id 0 l.length 1 ∧ nthH hp id = some (.cells (l.map fun n => I n))
theorem AccR.mk {hp x l} (h : AccR hp x l) : MkR hp x l := by
 rcases h with h | ⟨id,h1,_,h2⟩
 · exact .inl h
 · exact .inr ⟨id,h1,h2⟩
theorem MkR.row {hp x l} (h : MkR hp x l) : RowIs hp x l := by
 rcases h with h | ⟨id,rfl,h⟩
 · exact .inl h
 · exact .inr ⟨id,0,_,rfl,h,by simp,by simp [view]; rw [List.take_of_length_le (by simp)]⟩
theorem MkR.mono {hp H x l} (h : MkR hp x l) (hk : ∀ i,rid x = some i → nthH H i = nthH hp i) : MkR H x l := by
 rcases h with h | ⟨id,rfl,h2⟩
 · exact .inl h
 · exact .inr ⟨id,rfl,(hk id rfl).trans h2⟩
theorem MkR.pur {hp x l} (h : MkR hp x l) : ∃ f ids,purify (hpf hp) x = some (Ls f l,ids) ∧ ∀ i ∈ ids,rid x = some i ∧ i < hp.length := by
 rcases h with ⟨rfl,rfl⟩ | ⟨id,rfl,h2⟩
 · exact ⟨true,[],rfl,fun i hi => by simp at hi⟩
 · exact ⟨false,[id],ms_pur h2 rfl,fun i hi => by simp at hi; subst hi; exact ⟨rfl,nthH_lt h2⟩⟩
def Fzn (hp : List HObj) (ids : List Nat) (fr fr' : List (Nat × AV)) : Prop :=
 ∀ t,get fr' t = get fr t ∨ ∃ is,purify (hpf hp) (get fr t) = some (get fr' t,is) ∧ ∀ i ∈ is,i ∈ ids
theorem Fzn.refl {hp ids fr} : Fzn hp ids fr fr := fun _ => .inl rfl
theorem Fzn.keep {hp ids fr fr'} {k : Nat} {x : AV} (h : Fzn hp ids fr fr') : Fzn hp ids ((k,x) :: fr) ((k,x) :: fr') := fun t => by
 rw [get_cons,get_cons]; split
 · exact .inl rfl
 · exact h t
theorem Fzn.new {hp ids fr fr'} {k : Nat} {x y : AV} {is : List Nat} (hx : purify (hpf hp) x = some (y,is)) (hs : ∀ i ∈ is,i ∈ ids) (h : Fzn hp ids fr fr') : Fzn hp ids ((k,x) :: fr) ((k,y) :: fr') := fun t => by
 rw [get_cons,get_cons]; split
 · exact .inr ⟨is,hx,hs⟩
 · exact h t
theorem hideK' {P : Program} {E : HE} {c : AC} {st : St} {K : Exit → St → Prop} (h : ∀ K',K' = K → AWP P E c st K') : AWP P E c st K := h K rfl
variable {P : Program}
def AWS (P : Program) (ac : AC) (st : St) (Q : Exit → St → Prop) : Prop :=
 ∀ (N : Nat) (c : Go.Code) (a : Act) (w : World) (g : G) (R : Exit → Act → World → Prop) (ro : Option Nat) (n : Nat),
   Fits P N c ac → (ro = none ∨ ac.noRf = true) → Sim N st a w g → Lands N st a w g Q R → c.wpIn (W ro) n P R a w
theorem aws_of {ac : AC} {st : St} {Q : Exit → St → Prop} (h : AWP P (E1 P) ac st Q) : AWS P ac st Q := fun N c a w g R ro n hf hr hs hl =>
 fits_sound (E := E1 P) (w1 := w) (g1 := g) ys_E1 rs_E1 hf hr h (.refl _ _) hs hl
theorem aws_seq {x y : AC} {st : St} {Q : Exit → St → Prop} (h : AWS P x st (Exit.th (fun st => AWS P y st Q) Q)) : AWS P (.seq x y) st Q := fun N c a w g R ro n hf hr hs hl => by
 cases c <;> first | exact hf.elim | skip
 rename_i c1 c2
 have hr1 : ro = none ∨ x.noRf = true := hr.imp (fun h => h) (fun h => by simp [AC.noRf] at h; exact h.1)
 have hr2 : ro = none ∨ y.noRf = true := hr.imp (fun h => h) (fun h => by simp [AC.noRf] at h; exact h.2)
 refine wpIn_seq (h _ _ _ _ _ _ _ _ hf.1 hr1 hs fun e st' a' w' g' hq hs' hu hd => ?_)
 cases e with
 | normal => exact hq _ _ _ _ _ _ _ _ hf.2 hr2 hs' (fun e st2 a2 w2 g2 q2 s2 u2 d2 => hl e st2 a2 w2 g2 q2 s2 (hu.trans u2) (hd.trans hu.tr.size u2 d2))
 | _ => exact hl _ _ _ _ _ hq hs' hu hd
theorem aws_step {x y : AC} {st : St} {Q : Exit → St → Prop} (h : AWP P (E1 P) x st (Exit.th (fun st => AWS P y st Q) Q)) : AWS P (.seq x y) st Q := aws_seq (aws_of h)
theorem callW_aws {f : FuncId} {fn : Func} {ac : AC} {ts : List Nat} {xs : List AV} {hp : List HObj} {K : AV → List HObj → Prop} (hf : P.funcs[f]? = some fn) (hc : formOf P fn ts = some ac) (hr : resTmps fn.results.toList = some ts)
 (hl : xs.length ≤ fn.ntmps) (h : AWS P ac { fr := argFr 0 xs,hp := hp } (RetQ ts K)) : CallW P f xs hp K := by
 simp only [formOf,Option.map_eq_some_iff] at hc
 obtain ⟨c,hb,rfl⟩ := hc
 have hfit := ann_fits (P := P) (N := fn.ntmps) (rt := ts) (ex := []) (l := ts) (comp_fits c)
 have hr := resTmps_C (P := P) hr
 rw [← retC_tmps] at h
 intro ro n w g vs hok hvs hrep
 have go : CallsIn (W none) n P f vs w fun e w' => ∃ v r hp' g', e = .returned v ∧ K r hp' ∧ Rep w' g' false r v ∧ HeapOK (hpf hp') g' w' ∧ Upd (hpf hp) g w (hpf hp') g' w' := by
  refine callsIn_of_wp_marks hf hb trivial (h _ _ _ _ g _ _ _ hfit (.inl rfl) ?_ ?_) rfl
  · refine ⟨by simp [hvs]; omega,fun t => ?_,hok⟩
    show Rep w g false (get (argFr 0 xs) t) _
    rw [argFr_get]
    simp only [Nat.zero_le,if_true,Nat.sub_zero]
    by_cases ht : t < xs.length
    · have e1 : xs.getD t .any = xs[t] := by simp [ht]
      rw [e1]
      have := hrep t ht
      simp only [Array.getD_eq_getD_getElem?] at this ⊢
      rw [Array.getElem?_append_left (by omega)]
      exact this
    · have e1 : xs.getD t .any = .any := by simp [Nat.le_of_not_lt ht]
      rw [e1]; exact .any _ _
  · intro e st' a' w' g' hq hs hu hd
    obtain ⟨ms,d1,d2,d3⟩ := hd
    simp only [List.append_nil] at d1
    have fin : (∃ xs,resC (hpf st'.hp) st'.fr (ts.map (·,none)) xs ∧ K (tupOf xs) st'.hp) → LeavesInM (W none) n P fn a'.tmps (fun e w' => ∃ v r hp' g',e = .returned v ∧ K r hp' ∧ Rep w' g' false r v ∧ HeapOK (hpf hp') g' w' ∧ Upd (hpf hp) g w (hpf hp') g' w') a'.defers .returning w' := fun ⟨ys,hy,hK⟩ => by
     rw [d1]
     obtain ⟨k1,k2,k3⟩ := take_marks ms w' d2 d3 hs.2.2 hu
     refine leaves_marks ms w' d2 (fun D hD => (d3 D hD).2.1) ?_
     obtain ⟨v,j1,j2⟩ := run_resultsC (P := P) k1 (fun i => (hs.2.1 i).mono k3) hr hy
     exact ⟨v,j1,v,_,_,g',rfl,hK,j2,k1,k2⟩
    cases e with
    | normal => exact fin hq
    | ret => exact fin hq
    | _ => exact hq.elim
 exact go
variable {P : Program}
def RowM (hp : List HObj) (x : AV) (l : List Int) : Prop := ∃ id off cs,x = .ms id off l.length 1 ∧ nthH hp id = some (.cells cs) ∧ off + l.length ≤ cs.length ∧ view cs off l.length = (l.map fun n => I n) ∧ (cs.all AV.isPC) = true
theorem RowM.row {hp x l} (h : RowM hp x l) : RowIs hp x l := by
 obtain ⟨id,off,cs,h1,h2,h3,h4,_⟩ := h
 exact .inr ⟨id,off,cs,h1,h2,h3,h4⟩
theorem pcL_pure {l : List AV} (h : (l.all AV.isPC) = true) : (l.all AV.isPure) = true := by
 rw [List.all_eq_true] at h ⊢
 exact fun x hx => pc_pure (h x hx)
theorem RowM.mono {hp H x l} (h : RowM hp x l) (hk : ∀ i,rid x = some i → nthH H i = nthH hp i) : RowM H x l := by
 obtain ⟨id,off,cs,rfl,h1,h2⟩ := h
 exact ⟨id,off,cs,rfl,(hk id rfl).trans h1,h2⟩
theorem RowM.lt {hp x l i} (h : RowM hp x l) (hi : rid x = some i) : i < hp.length := h.row.lt hi
theorem RowM.pur {hp x l} (h : RowM hp x l) : ∃ ids,purify (hpf hp) x = some (Ls false l,ids) := by
 obtain ⟨id,off,cs,rfl,h1,h2,h3,h4⟩ := h
 refine ⟨[id],?_⟩
 simp only [purify,purify1,purify0,hpf_nthH,h1]
 rw [Nat.mul_one,h3,if_pos ⟨h2,pcL_pure h4⟩]
theorem or_nat {a c : Nat} (ha : a < 2 ^ 60) (hc : c < 2 ^ 60) : IntKind.i64.wrap ((BitVec.ofInt IntKind.i64.bits (a : Int) ||| BitVec.ofInt IntKind.i64.bits (c : Int)).toNat : Int) = ((a ||| c : Nat) : Int) := by
 have e : (BitVec.ofInt IntKind.i64.bits (a : Int) ||| BitVec.ofInt IntKind.i64.bits (c : Int)).toNat = a ||| c := by
  show (BitVec.ofInt 64 (a : Int) ||| BitVec.ofInt 64 (c : Int)).toNat = a ||| c
  rw [BitVec.toNat_or,BitVec.ofInt_natCast,BitVec.ofInt_natCast,BitVec.toNat_ofNat,BitVec.toNat_ofNat,Nat.mod_eq_of_lt (by omega),Nat.mod_eq_of_lt (by omega)]
 have h : a ||| c < 2 ^ 60 := Nat.or_lt_two_pow ha hc
 rw [e,wrap_id (by omega)]
theorem shl_nat {i : Nat} (hi : i ≤ 60) : IntKind.i64.wrap ((1 : Int) * 2 ^ (min (i : Int).toNat IntKind.i64.bits)) = ((2 ^ i : Nat) : Int) := by
 have e : min (i : Int).toNat IntKind.i64.bits = i := by show min i 64 = i; omega
 have h : (2 : Nat) ^ i ≤ 2 ^ 60 := Nat.pow_le_pow_right (by decide) hi
 rw [e,Int.one_mul]
 have : ((2 : Int) ^ i) = ((2 ^ i : Nat) : Int) := by norm_cast
 rw [this]
 generalize (2 : Nat) ^ i = p at *
 rw [wrap_id (by omega)]
def pwN (i : Nat) : Nat := 2 ^ i
def orN (a c : Nat) : Nat := a ||| c
theorem pwN_small {i : Nat} (h : i ≤ 59) : pwN i < 2 ^ 60 := Nat.pow_lt_pow_right (by decide) (by omega)
section
variable {K : AV → List (Nat × HObj) → Prop}
theorem bw_shl {i : Nat} (hi : i ≤ 60) : BinW .shl (I 1) (I (i : Int)) K = K (I (pwN i : Int)) [] := by
 rw [b_shl (by omega),shl_nat hi]; rfl
theorem bw_or {a c : Nat} (ha : a < 2 ^ 60) (hc : c < 2 ^ 60) : BinW .or (I (a : Int)) (I (c : Int)) K = K (I (orN a c : Int)) [] := by
 rw [b_or,or_nat ha hc]; rfl
end
end Go.AM

namespace Go.AM
open Go.RowKit
def AccG (hp : List HObj) (x : AV) (sz n : Nat) (cs : List AV) : Prop :=
 (x = .sl true 0 [] ∧ n = 0 ∧ cs = []) ∨ ∃ id,x = .ms id 0 n sz ∧ 0 < n ∧ nthH hp id = some (.cells cs) ∧ cs.length = n * sz ∧ (cs.all AV.isPC) = true
theorem AccG.nil {hp sz} : AccG hp (.sl true 0 []) sz 0 [] := .inl ⟨rfl,rfl,rfl⟩
theorem AccG.mono {hp H x sz n cs} (h : AccG hp x sz n cs) (hk : ∀ i,rid x = some i → nthH H i = nthH hp i) : AccG H x sz n cs := by
 rcases h with h | ⟨id,rfl,h1,h2,h3⟩
 · exact .inl h
 · exact .inr ⟨id,rfl,h1,(hk id rfl).trans h2,h3⟩
theorem AccG.lt {hp x sz n cs i} (h : AccG hp x sz n cs) (hi : rid x = some i) : i < hp.length := by
 rcases h with ⟨rfl,_⟩ | ⟨id,rfl,_,h2,_⟩
 · cases hi
 · cases hi; exact nthH_lt h2
theorem AccG.len {hp x sz n cs} (h : AccG hp x sz n cs) : cs.length = n * sz := by
 rcases h with ⟨_,rfl,rfl⟩ | ⟨id,_,_,_,h,_⟩
 · simp
 · exact h
theorem AccG.lenW {hp x sz n cs} {K : AV → List (Nat × HObj) → Prop} (h : AccG hp x sz n cs) : LenW x K = K (I n) [] := by
 rcases h with ⟨rfl,rfl,_⟩ | ⟨id,rfl,_⟩ <;> rfl
theorem AccG.pc {hp x sz n cs} (h : AccG hp x sz n cs) : (cs.all AV.isPC) = true := by
 rcases h with ⟨_,_,rfl⟩ | ⟨id,_,_,_,_,h⟩
 · rfl
 · exact h
theorem AccG.pur {hp x sz n cs} (h : AccG hp x sz n cs) : ∃ ids,purify (hpf hp) x = some (.sl (decide (n = 0)) n cs,ids) ∧ ∀ i ∈ ids,rid x = some i ∧ i < hp.length := by
 rcases h with ⟨rfl,rfl,rfl⟩ | ⟨id,rfl,h0,h2,h3,h4⟩
 · exact ⟨[],rfl,by simp⟩
 · refine ⟨[id],?_,by simp [rid,nthH_lt h2]⟩
   simp only [purify,purify1,purify0,hpf_nthH,h2]
   rw [if_pos ⟨by omega,pcL_pure h4⟩,decide_eq_false (by omega)]
   simp only [view,List.drop_zero]
   rw [List.take_of_length_le (by omega)]
theorem AccG.out {hp x sz n cs} (h : AccG hp x sz n cs) : Out (.sl (decide (n = 0)) n cs) x hp := by
 obtain ⟨ids,h1,_⟩ := h.pur
 exact out_of h1
theorem app_accG {hp : List HObj} {x : AV} {sz bytes n : Nat} {cs ys : List AV} {g : Bool} {K : AV → List (Nat × HObj) → Prop} (h : AccG hp x sz n cs) (hn : n ≤ 100000000) (hb : bytes ≤ 1000) (hy : ys.length = sz) (hpc : (ys.all AV.isPC) = true)
 (hK : ∀ ws,(∀ i,i < hp.length → rid x ≠ some i → nthH (writeL hp ws) i = nthH hp i) → hp.length < (writeL hp ws).length → AccG (writeL hp ws) (.ms hp.length 0 (n + 1) sz) sz (n + 1) (cs ++ ys) → K (.ms hp.length 0 (n + 1) sz) ws) :
 AppW hp sz bytes x (.sl g 1 ys) K := by
 have bd : (n + 1) * bytes ≤ 140737488355328 := Nat.le_trans (Nat.mul_le_mul (show n + 1 ≤ 100000001 by omega) hb) (by decide)
 rcases h with ⟨rfl,rfl,rfl⟩ | ⟨id,rfl,h0,h2,h3,h4⟩
 · rw [app_sl]
   have hn : nthH (writeL hp [(hp.length,HObj.cells ([] ++ ys))]) hp.length = some (.cells ([] ++ ys)) := by
    rw [nthH_writeL (by simp)]; simp [Hp.write,Hp.set_same]
   refine ⟨⟨rfl,by omega,hpc,by simp,bd,by omega,.inl rfl⟩,hK _ (fun i hi _ => ?_) (nthH_lt hn) (.inr ⟨hp.length,rfl,by omega,hn,by simp [hy],by simpa using hpc⟩)⟩
   rw [nthH_writeL (by simp),nthH_eq]; simp only [Hp.write]; rw [Hp.set_other _ _ (by omega)]; rfl
 · have hlt := nthH_lt h2
   rw [app_ms,h2,appr_some]
   have hv : view cs 0 (n * sz) = cs := by simp only [view,List.drop_zero]; rw [List.take_of_length_le (by omega)]
   rw [hv]
   have hn : nthH (writeL hp [(id,HObj.gone),(hp.length,HObj.cells (cs ++ ys))]) hp.length = some (.cells (cs ++ ys)) := by
    rw [nthH_writeL (by simp; omega)]
    simp only [Hp.write,Hp.set_same]
   refine ⟨⟨by omega,hpc,rfl,by omega,bd,by omega⟩,hK _ (fun i hi hr => ?_) (nthH_lt hn) (.inr ⟨hp.length,rfl,by omega,hn,?_,?_⟩)⟩
   · rw [nthH_writeL (by simp; omega),nthH_eq]; simp only [Hp.write]
     rw [Hp.set_other _ _ (by omega),Hp.set_other _ _ (fun e => hr (by rw [e]; rfl))]; rfl
   · rw [List.length_append,h3,hy,Nat.add_mul,Nat.one_mul]
   · rw [List.all_append,h4,hpc]; rfl
theorem callW_frz {P : Program} {f : FuncId} {xs : List AV} {hp : List HObj} {K : AV → List HObj → Prop} (h : CallW P f xs hp fun x H => ∃ y ids,purify (hpf H) x = some (y,ids) ∧ K y (writeL H (gones ids))) : CallW P f xs hp K := by
 intro ro n w g vs hok hvs hrep
 refine (h ro n w g vs hok hvs hrep).mono ?_
 rintro e w' ⟨v,x,H,g',rfl,⟨y,ids,hpur,hK⟩,hx,hok',hu⟩
 have q := purify_rep hok' (ids := ids) hpur (fun i hi => hi) hx
 obtain ⟨k1,k2⟩ := hok'.giveAll ids (purify_ids hpur)
 have lt : ∀ p ∈ gones ids,p.1 ≤ H.length := fun p hp' => by
  simp only [gones,List.mem_map] at hp'
  obtain ⟨i,hi,rfl⟩ := hp'
  obtain ⟨cs,hcs⟩ := purify_ids hpur i hi
  exact Nat.le_of_lt (hpf_lt hcs)
 have e : hpf (writeL H (gones ids)) = Hp.write (hpf H) (gones ids) := hpf_write lt
 exact ⟨v,y,_,_,rfl,hK,q.of,by rw [e]; exact k1,by rw [e]; exact hu.trans k2⟩
theorem nthH_gone {hp : List HObj} {ids : List Nat} {j : Nat} (h : ∀ i ∈ ids,i < hp.length) (hj : j ∉ ids) : nthH (writeL hp (gones ids)) j = nthH hp j := by
 have h1 : ∀ p ∈ gones ids,p.1 ≤ hp.length := fun p hp' => by
  simp only [gones,List.mem_map] at hp'
  obtain ⟨i,hi,rfl⟩ := hp'
  exact Nat.le_of_lt (h i hi)
 rw [nthH_writeL h1,write_gones,if_neg hj,nthH_eq]; rfl
theorem retC_agg {a sz : Nat} {fr : List (Nat × AV)} {hp : List HObj} {id off : Nat} {cs : List AV} {K : AV → List HObj → Prop} (h1 : get fr a = .ref id off) (h2 : nthH hp id = some (.cells cs)) (h3 : off + sz ≤ cs.length) (k : K (.agg (view cs off sz)) hp) :
 RetC [(a,some (true,sz))] K .ret ⟨fr,hp⟩ := by
 refine ⟨[.agg (view cs off sz)],⟨?_,trivial⟩,k⟩
 simp only [semLd,h1,hpf_nthH,h2]
 exact ⟨trivial,h3,trivial⟩
end Go.AM

namespace Go.AM
open Go.RowKit
section
variable {P : Program} {F : Nat → AV} {hp : List HObj} {K : AV → List (Nat × HObj) → Prop}
theorem slp_of {d sz ln : Nat} {x : Opd} {id off : Nat} {cs : List AV} (hx : evF F x = .ref id off) (h : nthH hp id = some (.cells cs)) (hl : off + ln * sz ≤ cs.length) (k : K (.mc id off ln ln sz) []) : (AOp.slp d sz ln x none none none).wp P F hp K := by
 refine ⟨_,_,?_,k⟩
 simp only [AOp.sem,hx,hpf_nthH,h]
 exact ⟨0,ln,ln,(by first | rfl | trivial),(by first | rfl | trivial),(by first | rfl | trivial),Nat.zero_le _,Nat.le_refl _,Nat.le_refl _,hl,by simp,(by first | rfl | trivial)⟩
theorem clr_of {sz : Nat} {z : List AV} {x : Opd} {id off n c : Nat} {cs : List AV} (hx : evF F x = .mc id off n c sz) (h : nthH hp id = some (.cells cs)) (hl : off + n * sz ≤ cs.length) (k : K .any [(id,.cells (splice cs off (zrep n z)))]) : (AOp.clr sz z x).wp P F hp K := by
 refine ⟨_,_,?_,k⟩
 simp only [AOp.sem,hx,hpf_nthH,h]
 exact ⟨cs,(by first | rfl | trivial),(by first | rfl | trivial),hl,(by first | rfl | trivial),(by first | rfl | trivial)⟩
end
end Go.AM

namespace Go.AM
open Go.RowKit
abbrev R3 := List Int × Nat × Int
def rowV (l : List Int) : Value := .agg (l.map fun n => Value.int .i64 n).toArray
structure MapR (n : Nat) (L : List R3) (clk : Nat) : Prop where
 brn : ∀ q ∈ L,q.2.1 < clk
 wid : ∀ q ∈ L,q.1.length = n
 keys : L.Pairwise fun q r => q.1 ≠ r.1
 brs : L.Pairwise fun q r => q.2.1 ≠ r.2.1
theorem MapR.nil {n clk : Nat} : MapR n [] clk := ⟨by simp,by simp,.nil,.nil⟩
theorem MapR.set {n : Nat} {A B : List R3} {q : R3} {clk : Nat} {v : Int} (h : MapR n (A ++ q :: B) clk) : MapR n (A ++ (q.1,q.2.1,v) :: B) clk := by
 obtain ⟨h1,h2,h3,h4⟩ := h
 refine ⟨fun r hr => ?_,fun r hr => ?_,?_,?_⟩
 · simp only [List.mem_append,List.mem_cons] at hr
   rcases hr with hr | rfl | hr
   · exact h1 r (by simp [hr])
   · exact h1 q (by simp)
   · exact h1 r (by simp [hr])
 · simp only [List.mem_append,List.mem_cons] at hr
   rcases hr with hr | rfl | hr
   · exact h2 r (by simp [hr])
   · exact h2 q (by simp)
   · exact h2 r (by simp [hr])
 · rw [List.pairwise_append,List.pairwise_cons] at h3 ⊢
   refine ⟨h3.1,⟨h3.2.1.1,h3.2.1.2⟩,fun a ha r hr => ?_⟩
   rcases List.mem_cons.1 hr with rfl | hr
   · exact h3.2.2 a ha q (by simp)
   · exact h3.2.2 a ha r (by simp [hr])
 · rw [List.pairwise_append,List.pairwise_cons] at h4 ⊢
   refine ⟨h4.1,⟨h4.2.1.1,h4.2.1.2⟩,fun a ha r hr => ?_⟩
   rcases List.mem_cons.1 hr with rfl | hr
   · exact h4.2.2 a ha q (by simp)
   · exact h4.2.2 a ha r (by simp [hr])
theorem MapR.push {n : Nat} {L : List R3} {E : List Int} {clk : Nat} {v : Int} (h : MapR n L clk) (hE : E.length = n) (hn : ∀ q ∈ L,q.1 ≠ E) : MapR n (L ++ [(E,clk,v)]) (clk + 1) := by
 obtain ⟨h1,h2,h3,h4⟩ := h
 refine ⟨fun r hr => ?_,fun r hr => ?_,?_,?_⟩
 · simp only [List.mem_append,List.mem_singleton] at hr
   rcases hr with hr | rfl
   · have := h1 r hr; omega
   · simp
 · simp only [List.mem_append,List.mem_singleton] at hr
   rcases hr with hr | rfl
   · exact h2 r hr
   · exact hE
 · rw [List.pairwise_append]
   refine ⟨h3,by simp,fun a ha r hr => ?_⟩
   rw [List.mem_singleton] at hr; subst hr
   exact hn a ha
 · rw [List.pairwise_append]
   refine ⟨h4,by simp,fun a ha r hr => ?_⟩
   rw [List.mem_singleton] at hr; subst hr
   have := h1 a ha
   simp only; omega
theorem MapR.del {n : Nat} {A B : List R3} {q : R3} {clk : Nat} (h : MapR n (A ++ q :: B) clk) : MapR n (A ++ B) clk := by
 obtain ⟨h1,h2,h3,h4⟩ := h
 have sub : List.Sublist (A ++ B) (A ++ q :: B) := List.Sublist.append_left (List.sublist_cons_self q B) A
 exact ⟨fun r hr => h1 r (sub.subset hr),fun r hr => h2 r (sub.subset hr),h3.sublist sub,h4.sublist sub⟩
section
variable {P : Program} {E : HE} {fr : List (Nat × AV)} {hp : List HObj} {F : Nat → AV} {os : List AOp} {KS : St → Prop} {K : AV → List (Nat × HObj) → Prop}
theorem hpf_of' {i : Nat} {o : HObj} (h : nthH hp i = some o) : hpf hp i = some o := by rw [hpf_nthH]; exact h
def RngX (hp : List HObj) (x : AV) (K : AV → List (Nat × HObj) → Prop) : Prop := match x with
 | .mp id => match nthH hp id with
   | some (.mp _ clk) => K (.ref hp.length 0) [(hp.length,.it id clk [] clk)]
   | some (.mpp Φ) => ∀ es clk,Φ es clk → K (.ref hp.length 0) [(id,.mp es clk),(hp.length,.it id clk [] clk)]
   | _ => False
 | _ => False
def NxtX (hp : List HObj) (x : AV) (K : AV → List (Nat × HObj) → Prop) : Prop := (AOp.nxt 0 (.k x)).many (evF fun _ => .any) (hpf hp) hp.length K
def EntX (hp : List HObj) (x : AV) (K : AV → List (Nat × HObj) → Prop) : Prop := (AOp.ent 0 (.k x)).many (evF fun _ => .any) (hpf hp) hp.length K
theorem xx_rng {a0 a1} : aops P E (.rng a0 a1 :: os) ⟨fr,hp⟩ KS = RngX hp (evF (get fr) a1) (contA P E os (some a0) fr hp KS) := by
 show (AOp.rng a0 a1).many (evF (get fr)) (hpf hp) hp.length (contA P E os (some a0) fr hp KS) = _
 simp only [AOp.many,RngX,hpf_nthH]
 rfl
theorem xx_nxt {a0 a1} : aops P E (.nxt a0 a1 :: os) ⟨fr,hp⟩ KS = NxtX hp (evF (get fr) a1) (contA P E os (some a0) fr hp KS) := rfl
theorem xx_ent {a0 a1} : aops P E (.ent a0 a1 :: os) ⟨fr,hp⟩ KS = EntX hp (evF (get fr) a1) (contA P E os (some a0) fr hp KS) := rfl
end
end Go.AM

namespace Go.AM
open Go.RowKit
def rsem (P : Program) (o : AOp) (ev : Opd → AV) (hp : List HObj) (r : AV) : Prop := match o with
 | .call _ f args => CallW P f (args.map ev) hp fun x hp' => x = r ∧ hp' = hp
 | o => o.sem P ev (hpf hp) hp.length r []
def rops (P : Program) : List AOp → St → (St → Prop) → Prop
 | [],st,K => K st
 | o :: os,st,K => ∃ r,rsem P o (evF (get st.fr)) st.hp r ∧ rops P os ⟨frPut st.fr o.dst r,st.hp⟩ K
def rgrps (P : Program) : List Grp → St → (St → Prop) → Prop
 | [],st,K => K st
 | ⟨none,os⟩ :: gs,st,K => rops P os st fun st => rgrps P gs st K
 | ⟨some _,_⟩ :: _,_,_ => False
def RROK (P : Program) (o : AOp) (R : Rec) (F : Nat → AV) (hp : List HObj) : Prop := R.dst = o.dst ∧ rsem P o (evF F) hp R.r
inductive RRun (P : Program) : List (Option (Nat × Bool) × AOp) → St → List Rec → St → Prop
 | nil (st : St) : RRun P [] st [] st
 | cons {o l st R Rs st'} : RROK P o R (get st.fr) st.hp → RRun P l ⟨frPut st.fr R.dst R.r,st.hp⟩ Rs st' → RRun P ((none,o) :: l) st (R :: Rs) st'
section
variable {P : Program} {N : Nat} {ro : Option Nat} {n : Nat}
def rflat (P : Program) : List (Option (Nat × Bool) × AOp) → St → (St → Prop) → Prop
 | [],st,K => K st
 | (none,o) :: l,st,K => ∃ r,rsem P o (evF (get st.fr)) st.hp r ∧ rflat P l ⟨frPut st.fr o.dst r,st.hp⟩ K
 | (some _,_) :: _,_,_ => False
theorem rgrp_sound : ∀ {l : List (Option (Nat × Bool) × AOp)} {st : St} {K : St → Prop},rgrps P (grp l) st K → rflat P l st K
 | [],st,K,h => h
 | (g, o) :: l, st, K, h => by
   have one : rgrps P (⟨g,[o]⟩ :: grp l) st K → rflat P ((g,o) :: l) st K := fun h => by
    cases g with
    | none =>
      obtain ⟨r,h1,h2⟩ := h
      exact ⟨r,h1,rgrp_sound h2⟩
    | some jb => exact h.elim
   simp only [grp] at h
   split at h
   · rename_i g' os gs hg
     split at h
     · rename_i hcond
       obtain ⟨rfl,hdst⟩ := hcond
       cases g with
       | none =>
         obtain ⟨r,h1,h2⟩ := h
         exact ⟨r,h1,rgrp_sound (by rw [hg]; exact h2)⟩
       | some jb => exact h.elim
     · rw [← hg] at h; exact one h
   · rename_i hg
     rw [← hg] at h; exact one h
theorem rrun_of : ∀ {l : List (Option (Nat × Bool) × AOp)} {st : St} {K : St → Prop},rflat P l st K → ∃ Rs st',RRun P l st Rs st' ∧ K st'
 | [],st,K,h => ⟨[],st,.nil st,h⟩
 | (none,o) :: l,st,K,⟨r,h1,h2⟩ => by
   obtain ⟨Rs,st',h3,h4⟩ := rrun_of h2
   exact ⟨⟨o.dst,r,[],[]⟩ :: Rs,st',.cons ⟨rfl,h1⟩ h3,h4⟩
 | (some _,_) :: _,_,_,h => h.elim
theorem rrun_len {l st Rs st'} (h : RRun P l st Rs st') : Rs.length = l.length := by
 induction h with
 | nil => rfl
 | cons _ _ ih => simp [ih]
theorem rrun_at {l st Rs st'} (h : RRun P l st Rs st') : ∀ i (hi : i < l.length) (hi' : i < Rs.length),l[i].1 = none ∧ RROK P l[i].2 Rs[i] (foldW (Rs.map Rec.F) (fun k => decide (k < i)) (get st.fr)) st.hp := by
 induction h with
 | nil => intro i hi; simp at hi
 | @cons o l st R Rs st' hok hrun ih =>
   intro i hi hi'
   cases i with
   | zero =>
     refine ⟨rfl,?_⟩
     rw [foldW_none (fun i => by simp)]
     exact hok
   | succ i =>
     obtain ⟨h1,h2⟩ := ih i (by simpa using hi) (by simpa using hi')
     refine ⟨by simpa using h1,?_⟩
     simp only [List.map_cons,foldW,List.getElem_cons_succ,Nat.zero_lt_succ,decide_true,if_true,Nat.add_lt_add_iff_right]
     rw [recF_app]
     exact h2
theorem rrun_end {l st Rs st'} (h : RRun P l st Rs st') : get st'.fr = foldW (Rs.map Rec.F) (fun _ => true) (get st.fr) ∧ st'.hp = st.hp := by
 induction h with
 | nil => exact ⟨rfl,rfl⟩
 | @cons o l st R Rs st' hok hrun ih =>
   simp only [List.map_cons,foldW,if_true]
   rw [recF_app]
   exact ih
theorem rsem_ext {o : AOp} {F F' : Nat → AV} {hp : List HObj} {r : AV} (h : rsem P o (evF F) hp r) (hF : ∀ x ∈ o.opds,evF F' x = evF F x) : rsem P o (evF F') hp r := by
 cases o with
 | call d f args =>
   have e : args.map (evF F') = args.map (evF F) := List.map_congr_left fun x hx => hF x hx
   simp only [rsem] at h ⊢
   rw [e]; exact h
 | _ =>
   simp only [rsem] at h ⊢
   exact sem_local (hp' := hpf hp) (new' := hp.length) h hF (fun _ _ => rfl) (fun _ => rfl)
structure RFix (P : Program) (N : Nat) (ops : Array Oper) (cl : List (Option (Nat × Bool) × AOp)) (pre : List (List Nat)) (un : List (Nat × Nat)) (st : St) (Rs : List Rec) (st' : St) : Prop where
 comp : compOps P N ops ops.toList = some cl
 ok : drawOK ops cl pre un = true
 run : RRun P cl st Rs st'
variable {ops : Array Oper} {cl : List (Option (Nat × Bool) × AOp)} {pre : List (List Nat)} {un : List (Nat × Nat)} {st : St} {Rs : List Rec} {st' : St}
theorem RFix.lens (f : RFix P N ops cl pre un st Rs st') : cl.length = ops.size ∧ Rs.length = ops.size :=
 ⟨by simpa using (compOps_len f.comp).1,by rw [rrun_len f.run]; simpa using (compOps_len f.comp).1⟩
theorem RFix.apart (f : RFix P N ops cl pre un st Rs st') {i k : Nat} (hik : i < k) (hk : k < cl.length) (hk' : k < Rs.length) (hp : i ∉ pre.getD k []) :
 (∀ d,Rs[i].dst = some d → d ∉ looksAt cl[k]) ∧ (∀ d,Rs[k].dst = some d → d ∉ looksAt cl[i]) ∧ ∀ d,Rs[i].dst = some d → Rs[k].dst ≠ some d := by
 obtain ⟨l1,l2⟩ := f.lens
 rcases draw_apart f.ok hik (by omega) hk with h | ⟨h1,h2⟩
 · exact absurd h hp
 obtain ⟨_,oi⟩ := rrun_at f.run i (by omega) (by omega)
 obtain ⟨_,ok⟩ := rrun_at f.run k hk hk'
 simp only [apartT,Bool.and_eq_true] at h1
 obtain ⟨⟨a1,a2⟩,a3⟩ := h1
 refine ⟨fun d hd => ?_,fun d hd => ?_,fun d hd hd' => ?_⟩
 · rw [← oi.1,hd] at a1; simpa [dstFree] using a1
 · rw [← ok.1,hd] at a2; simpa [dstFree] using a2
 · rw [← oi.1,← ok.1,hd,hd'] at a3; simp at a3
theorem RFix.serves (f : RFix P N ops cl pre un st Rs st') {X : Nat → Bool} (hX : Clo pre ops X) {i : Nat} (hi : i < cl.length) (hi' : i < Rs.length) (hx : X i = false) (hr : ∀ j ∈ pre.getD i [],X j = true) :
 RROK P cl[i].2 Rs[i] (frX Rs X st) st.hp := by
 obtain ⟨l1,l2⟩ := f.lens
 obtain ⟨hg,ok⟩ := rrun_at f.run i hi hi'
 refine ⟨ok.1,rsem_ext ok.2 fun x hx' => evF_eq fun d hd => ?_⟩
 have hd' : d ∈ looksAt cl[i] := by
  simp only [looksAt,List.mem_append,List.mem_flatMap]
  exact .inl ⟨x,hx',hd⟩
 refine foldW_agree rfl fun k hk hon => ?_
 simp only [List.length_map] at hk
 simp only [List.getElem_map] at hon
 rcases Nat.lt_trichotomy k i with h | h | h
 · by_cases hp : k ∈ pre.getD i []
   · rw [hr k hp]; simp [h]
   · exact absurd hd' ((f.apart h hi hi' hp).1 d (recF_on hon))
 · subst h; rw [hx]; simp
 · cases e : X k with
   | false => symm; simp; omega
   | true =>
     have hp : i ∉ pre.getD k [] := fun hp => by
      have := hX k (by omega) e i hp
      rw [hx] at this; cases this
     exact absurd hd' ((f.apart h (by omega) hk hp).2.1 d (recF_on hon))
theorem RFix.next (f : RFix P N ops cl pre un st Rs st') {X Y : Nat → Bool} (hX : Clo pre ops X) {i : Nat} (hi : i < cl.length) (hi' : i < Rs.length) (hx : X i = false) (hy : Y i = true) (hj : ∀ j,j ≠ i → Y j = X j) :
 frX Rs Y st = Rs[i].F.app (frX Rs X st) := by
 obtain ⟨l1,l2⟩ := f.lens
 have := foldW_insert (l := Rs.map Rec.F) (F := get st.fr) (by simpa using hi') hx hy hj (fun k hk hlt hxk key hon => by
  simp only [List.length_map] at hk
  simp only [List.getElem_map] at hon ⊢
  have hp : i ∉ pre.getD k [] := fun hp => by
   have := hX k (by omega) hxk i hp
   rw [hx] at this; cases this
  have a := f.apart hlt (by omega) hk hp
  have := a.2.2 key (recF_on hon)
  simpa [Rec.F] using this)
 simpa [frX] using this
theorem aop_of_rsem {E : HE} {o : AOp} {st : St} {r : AV} {K : St → Prop} (h : rsem P o (evF (get st.fr)) st.hp r) (hK : K ⟨frPut st.fr o.dst r,st.hp⟩) : aop P E o st K := by
 cases o with
 | call d f args =>
   simp only [rsem] at h
   exact fun ro n w g vs a b c => (h ro n w g vs a b c).mono fun e w' ⟨v,r',hp',g',e1,⟨e2,e3⟩,e4⟩ => ⟨v,r',hp',g',e1,by subst e2 e3; exact hK,e4⟩
 | callx => exact h.elim
 | callv => exact h.elim
 | rng => exact h.elim
 | nxt => exact h.elim
 | ent => exact h.elim
 | isn => exact h.elim
 | _ => exact ⟨r,[],h,hK⟩
theorem RFix.all (f : RFix P N ops cl pre un st Rs st') {w0 : World} {g0 : G} {Q : Exit → Act → World → Prop} {a0 : Act}
 (hQ : ∀ a w g,Sim N st' a w g → Upd (hpf st.hp) g0 w0 (hpf st'.hp) g w → a.defers = a0.defers → Q .normal a w) :
 ∀ (fuel : Nat) (listed : Array Bool) (a : Act) (w : World) (g : G) (fr : List (Nat × AV)),listed.size = ops.size → Clo pre ops (lst listed) → unl (lst listed) ops.size ≤ fuel → a.defers = a0.defers → get fr = frX Rs (lst listed) st → Sim N ⟨fr,st.hp⟩ a w g →
   Upd (hpf st.hp) g0 w0 (hpf st.hp) g w → wpAnyIn (W ro) n P .any ops Q fuel listed a w := by
 obtain ⟨l1,l2⟩ := f.lens
 have fin : ∀ (listed : Array Bool) (a : Act) (w : World) (g : G) (fr : List (Nat × AV)),(∀ i,i < ops.size → lst listed i = true) → a.defers = a0.defers → get fr = frX Rs (lst listed) st → Sim N ⟨fr,st.hp⟩ a w g →
  Upd (hpf st.hp) g0 w0 (hpf st.hp) g w → Q .normal a w := fun listed a w g fr h hD hF hs hu => by
  obtain ⟨e1,e2⟩ := rrun_end f.run
  have e3 : get fr = get st'.fr := by
   rw [hF,e1]
   funext t; exact foldW_agree rfl fun k hk _ => h k (by simp at hk; omega)
  refine hQ a w g ⟨hs.1,?_,?_⟩ (by rw [e2]; exact hu) hD
  · rw [← e3]; exact hs.2.1
  · rw [e2]; exact hs.2.2
 have ed := fun k (hk : k < ops.size) => (draw_edges f.ok hk (by omega)).1
 intro fuel
 induction fuel with
 | zero =>
   intro listed a w g fr hl hX hfu hD hF hs hu
   have h := unl_zero (X := lst listed) (n := ops.size) (by omega)
   exact ⟨ready_done h,fin listed a w g fr h hD hF hs hu⟩
 | succ fuel ih =>
   intro listed a w g fr hl hX hfu hD hF hs hu
   refine ⟨fun h => fin listed a w g fr (ready_nil hl ed h) hD hF hs hu,fun i hi => ?_⟩
   obtain ⟨hlt,hx,he⟩ := ready_spec hi
   have hget : ∀ j,j < ops.size → (listed.getD j false = true) → lst listed j = true := fun j hj h => by
    have : j < listed.size := by omega
    simpa [lst,this] using h
   have hr : ∀ j ∈ pre.getD i [],lst listed j = true := fun j hj => by
    obtain ⟨e,hm,hb,h⟩ := (draw_edges f.ok hlt (by omega)).2 j hj
    have hon := ed i hlt e hm hb
    have hL := hget e.on (by omega) (he e hm hb)
    rcases h with h | h
    · rw [← h]; exact hL
    · exact hX e.on (by omega) hL j h
   have hi' : i < listed.size := by omega
   have hy : lst (listed.setIfInBounds i true) i = true := by simp [lst,hi']
   have hj : ∀ j,j ≠ i → lst (listed.setIfInBounds i true) j = lst listed j := fun j hne => by
    simp only [lst,Array.getD_eq_getD_getElem?]
    rw [Array.getElem?_setIfInBounds_ne (Ne.symm hne)]
   have hrec := f.serves hX (i := i) (by omega) (by omega) hx hr
   have hnx := f.next hX (i := i) (by omega) (by omega) hx hy hj
   obtain ⟨c1,c2⟩ := (compOps_len f.comp).2 i (by simpa using hlt) (by omega)
   obtain ⟨hg0,_⟩ := rrun_at f.run i (by omega) (by omega)
   simp only [Array.getElem_toList] at c1 c2
   rw [hg0] at c2
   unfold wpOpIn
   simp only [Array.getElem?_eq_getElem hlt]
   rw [wanted_guard c2]
   simp only [guardVal,if_true]
   have hsem := hrec.2
   rw [← hF] at hsem
   refine aop_sound (E := E1 P) (st := ⟨fr,st.hp⟩) (K := fun st1 => st1 = ⟨frPut fr cl[i].2.dst Rs[i].r,st.hp⟩) c1 (aop_of_rsem hsem rfl) (w1 := w) (g1 := g) ys_E1 (.refl _ _) hs ?_
   rintro st1 a' w' g' rfl hs' hu' hD'
   refine ih _ a' w' g' _ (by simpa using hl) (fun k hk hk1 j hjm => ?_) ?_ (hD'.trans hD) ?_ hs' (hu.trans hu')
   · by_cases e : j = i
     · subst e; exact hy
     · rw [hj j e]
       by_cases e' : k = i
       · subst e'; exact hr j hjm
       · rw [hj k e'] at hk1; exact hX k hk hk1 j hjm
   · have := unl_set hx hy hj ops.size hlt
     omega
   · rw [hnx,← hF,recF_app,hrec.1]
theorem aws_read {gs : List Grp} {un : List (Nat × Nat)} {ks : List Nat} {st : St} {Q : Exit → St → Prop} (h : rgrps P gs st fun st' => Q .normal (st'.keep ks)) : AWS P (.drw gs un ks) st Q := by
 intro N c a w g R ro n hf hr hs hl
 cases c <;> first | exact hf.elim | skip
 rename_i id ops d
 obtain ⟨rfl,hm,cl,pre,hc,hd,rfl⟩ := hf
 obtain ⟨Rs,st',hrun,hK⟩ := rrun_of (rgrp_sound h)
 have f : RFix P N ops cl pre un st Rs st' := ⟨hc,hd,hrun⟩
 obtain ⟨l1,l2⟩ := f.lens
 refine wpIn_region_any hm ?_
 obtain ⟨hokd,hud⟩ := hs.2.2.drew
 have e1 : frX Rs (lst (Array.replicate ops.size false)) st = get st.fr := by
  have : frX Rs (lst (Array.replicate ops.size false)) st = foldW (Rs.map Rec.F) (fun _ => false) (get st.fr) := by
   funext t; exact foldW_agree rfl fun k hk _ => lst_false _ k (by simp at hk; omega)
  rw [this,foldW_none (fun _ => rfl)]
 refine f.all (g0 := g) (w0 := w) (a0 := a) (fun a' w' g' hs' hu' hD' => hl _ _ a' w' g' hK (hs'.keep ks) hu' (.nil hD')) ops.size _ a w.drew g st.fr (by simp) (fun k hk hk1 => ?_) ?_ rfl e1.symm ⟨hs.1,hs.2.1.mono hud.tr,hokd⟩ hud
 · rw [lst_false _ k hk] at hk1; cases hk1
 · have : ∀ m,unl (lst (Array.replicate ops.size false)) m ≤ m := fun m => by
    induction m with
    | zero => exact Nat.le_refl _
    | succ m ih => simp only [unl]; split <;> omega
   exact this _
end
end Go.AM

namespace Go.AM
open Go.RowKit
def gSee (w : World) : G := ⟨fun b o => ∃ v,w.cell? ⟨b,o,none⟩ = some v,fun _ => none⟩
theorem see_ok {hp g w} (h : HeapOK hp g w) : HeapOK (fun _ => none) (gSee w) w :=
 ⟨fun _ _ => rfl,fun _ _ h => (by cases h),fun _ _ _ _ _ _ _ h => (by cases h),fun _ _ h => h,fun t ht i hi => ⟨h.ex _ _ (h.tab t ht i hi).1,(h.tab t ht i hi).2⟩⟩
theorem see_pure {hp g w x v} (hok : HeapOK hp g w) (h : Rep w g true x v) : Rep w (gSee w) true x v := by
 generalize hp1 : true = p at h
 induction h with
 | v p x => exact .v _ x
 | any p x => exact .any _ x
 | sl p full n cs a cap vs hn hf hc hr ih =>
   refine .sl _ full n cs a cap vs hn hf (fun i hi => ?_) (fun i h => ih i h rfl)
   obtain ⟨ad,h1,h2,h3,h4⟩ := hc i hi
   exact ⟨ad,h1,h2,⟨_,h4⟩,h4⟩
 | agg p cs vs hl hr ih => exact .agg _ cs vs hl (fun i h => ih i h hp1)
 | tup p cs vs hl hr ih => exact .tup _ cs vs hl (fun i h => ih i h hp1)
 | ptr p cs off b o vs hc hr ih => exact .ptr _ cs off b o vs (fun i hi => ⟨⟨_,(hc i hi).2⟩,(hc i hi).2⟩) (fun i h => ih i h rfl)
 | fn p f as bs xs ys hl hl' hr hr' ih ih' => exact .fn _ f as bs xs ys hl hl' (fun i h => ih i h hp1) (fun i h => ih' i h hp1)
 | _ => cases hp1
inductive See (hp : List HObj) : AV → AV → Prop
 | any (x : AV) : See hp x .any
 | pure {x : AV} (h : x.isPure = true) : See hp x x
 | ref {id off : Nat} {cs cs' : List AV} (h : nthH hp id = some (.cells cs)) (hl : cs'.length = cs.length) (hs : ∀ i (h1 : i < cs.length) (h2 : i < cs'.length),See hp cs[i] cs'[i]) : See hp (.ref id off) (.ptr cs' off)
 | agg {cs cs' : List AV} (hl : cs'.length = cs.length) (hs : ∀ i (h1 : i < cs.length) (h2 : i < cs'.length),See hp cs[i] cs'[i]) : See hp (.agg cs) (.agg cs')
 | fn {f : Fn} {as as' bs bs' : List AV} (hl : as'.length = as.length) (hl' : bs'.length = bs.length) (hs : ∀ i (h1 : i < as.length) (h2 : i < as'.length),See hp as[i] as'[i]) (hs' : ∀ i (h1 : i < bs.length) (h2 : i < bs'.length),See hp bs[i] bs'[i]) : See hp (.fn f as bs) (.fn f as' bs')
 | ms {id off n sz : Nat} {cs cs' : List AV} (h : nthH hp id = some (.cells cs)) (hle : off + n * sz ≤ cs.length) (hl : cs'.length = n * sz) (hs : ∀ i (h1 : off + i < cs.length) (h2 : i < cs'.length),See hp cs[off + i] cs'[i]) : See hp (.ms id off n sz) (.sl false n cs')
theorem see_rep {hp : List HObj} {g w} (hok : HeapOK (hpf hp) g w) {x y : AV} (hs : See hp x y) : ∀ {v : Value},Rep w g false x v → Rep w (gSee w) true y v := by
 have cells : ∀ {id : Nat} {cs : List AV},nthH hp id = some (.cells cs) → ∃ l,g.ρ id = some l ∧ HRep w g (.cells cs) l := fun {id cs} h => by
  rw [nthH_eq] at h
  exact hok.rep id _ h
 induction hs with
 | any x => exact fun _ => .any _ _
 | pure h => exact fun hr => see_pure hok (pure_rep h hr)
 | @ref id off cs cs' h hl hs ih =>
   intro v hr
   cases hr with
   | ref _ _ c d hρ =>
     obtain ⟨l,h1,h2⟩ := cells h
     rw [hρ] at h1; cases h1
     obtain ⟨arr,ty,fz,a1,a2,a3,a4,a5⟩ := h2
     refine .ptr _ cs' off c d (fun i => (arr[d + i]?).getD undef) (fun i hi => ?_) (fun i hi => ?_)
     · obtain ⟨x,b1,b2⟩ := a5 i (by omega)
       have e : w.cell? ⟨c,d + i,none⟩ = some x := by simp [World.cell?,a1,b1]
       rw [b1]
       exact ⟨⟨_,e⟩,e⟩
     · obtain ⟨x,b1,b2⟩ := a5 i (by omega)
       rw [b1]
       exact ih i (by omega) hi b2
 | @agg cs cs' hl hs ih =>
   intro v hr
   cases hr with
   | agg _ _ vs h1 h2 => exact .agg _ _ vs (by omega) fun i hi => ih i (by omega) hi (h2 i (by omega))
 | @fn f as as' bs bs' hl hl' hs hs' ih ih' =>
   intro v hr
   cases hr with
   | fn _ _ _ _ xs ys h1 h2 h3 h4 => exact .fn _ _ _ _ xs ys (by omega) (by omega) (fun i hi => ih i (by omega) hi (h3 i (by omega))) (fun i hi => ih' i (by omega) hi (h4 i (by omega)))
 | @ms id off n sz cs cs' h hle hl hs ih =>
   intro v hr
   obtain ⟨l,h1,h2⟩ := cells h
   cases hr with
   | ms _ _ _ _ c d cap arr ty fz hρ hn hb hsz =>
     rw [hρ] at h1; cases h1
     obtain ⟨arr,ty,fz,a1,a2,a3,a4,a5⟩ := h2
     refine .sl _ false n cs' _ cap (fun i => (arr[d + off + i]?).getD undef) hn (fun h => by cases h) (fun i hi => ?_) (fun i hi => ?_)
     · obtain ⟨x,b1,b2⟩ := a5 (off + i) (by omega)
       rw [← Nat.add_assoc] at b1
       have e : w.cell? ⟨c,d + off + i,none⟩ = some x := by simp [World.cell?,a1,b1]
       rw [b1]
       exact ⟨_,rfl,rfl,⟨_,e⟩,e⟩
     · obtain ⟨x,b1,b2⟩ := a5 (off + i) (by omega)
       rw [← Nat.add_assoc] at b1
       rw [b1]
       exact ih i (by omega) hi b2
   | msz _ _ _ a l hρ =>
     have h0 : cs'.length = 0 := by rw [hl]; simp
     exact .sl _ false 0 cs' _ 0 (fun _ => undef) (Nat.le_refl _) (fun h => by cases h) (fun i hi => by omega) (fun i hi => by omega)
inductive SeeL (hp : List HObj) : List AV → List AV → Prop
 | nil : SeeL hp [] []
 | cons {x y xs ys} : See hp x y → SeeL hp xs ys → SeeL hp (x :: xs) (y :: ys)
theorem SeeL.at {hp : List HObj} {xs ys : List AV} (h : SeeL hp xs ys) : ys.length = xs.length ∧ ∀ i (h1 : i < xs.length) (h2 : i < ys.length),See hp xs[i] ys[i] := by
 induction h with
 | nil => exact ⟨rfl,fun i h => by simp at h⟩
 | cons a b ih =>
   refine ⟨by simp [ih.1],fun i h1 h2 => ?_⟩
   cases i with
   | zero => exact a
   | succ i => exact ih.2 i (by simpa using h1) (by simpa using h2)
theorem See.refL {hp : List HObj} {id off : Nat} {cs cs' : List AV} (h : nthH hp id = some (.cells cs)) (hs : SeeL hp cs cs') : See hp (.ref id off) (.ptr cs' off) := .ref h hs.at.1 hs.at.2
theorem callW_see {P : Program} {f : FuncId} {xs ys : List AV} {r : AV} {hp : List HObj} {K : AV → List HObj → Prop} (h1 : SeeL hp xs ys) (h2 : PureOK P f ys r) (hs : r.scalar = true) (h3 : K r hp) : CallW P f xs hp K := by
 intro ro n w g vs hok hvs hr
 obtain ⟨l1,l2⟩ := h1.at
 refine (h2 ro n w (gSee w) vs (see_ok hok) (by omega) (fun i hi => see_rep hok (l2 i (by omega) hi) (hr i (by omega)))).mono ?_
 rintro e w' ⟨v,g1,rfl,hr1,hok1,upd1⟩
 have keep : ∀ b,b < w.heap.size → w'.heap[b]? = w.heap[b]? := fun b hb => upd1.keep b hb (fun ⟨_,_,_,h,_⟩ => by cases h)
 have hcell : ∀ b q,g.S b q → w'.cell? ⟨b,q,none⟩ = w.cell? ⟨b,q,none⟩ := fun b q h => upd1.tr.cell b q (hok.ex b q h)
 have tr : Trans w g w' g := ⟨fun _ _ h => h,hcell,fun _ _ h => h,upd1.tr.shp,upd1.tr.os,upd1.tr.tape,upd1.tr.output,upd1.tr.size,upd1.tr.drawn⟩
 refine ⟨v,r,hp,g,rfl,h3,scalar_rep hs hr1,?_,tr,fun c hc => .inl hc,fun b q h => .inl h,fun b hb _ => keep b hb⟩
 exact hok.change (fun _ => False) tr (fun _ _ => rfl) (fun _ _ => rfl) (fun i o c d hi ho hl hr' => keep c (hok.lt ho hl hr')) (fun i o c d hi ho hl hr' q hq => hq) (fun _ h => h.elim) (fun _ _ _ _ _ _ _ h => h.elim) (fun b q h => by
  obtain ⟨v,hv⟩ := hok.ex b q h
  exact ⟨v,(hcell b q h).trans hv⟩)
def Agr (hp H : List HObj) : Prop := hp.length ≤ H.length ∧ ∀ j,j < hp.length → nthH H j = nthH hp j
theorem Agr.refl (hp : List HObj) : Agr hp hp := ⟨Nat.le_refl _,fun _ _ => rfl⟩
theorem Agr.app {hp H : List HObj} {o : HObj} (h : Agr hp H) : Agr hp (H ++ [o]) := ⟨by have := h.1; simp; omega,fun j hj => by
 have := h.1
 rw [nthH_eq,List.getElem?_append_left (by omega),← nthH_eq]; exact h.2 j hj⟩
theorem Agr.trans {hp H H' : List HObj} (h : Agr hp H) (k : Agr H H') : Agr hp H' := ⟨Nat.le_trans h.1 k.1,fun j hj => (k.2 j (by have := h.1; omega)).trans (h.2 j hj)⟩
theorem Agr.get {hp H : List HObj} {j : Nat} {o : HObj} (h : Agr hp H) (hj : nthH hp j = some o) : nthH H j = some o := (h.2 j (nthH_lt hj)).trans hj
def G.cut (g : G) (n : Nat) : G := { g with ρ := fun id => if id < n then g.ρ id else none }
theorem rep_cut {w0 : World} {g0 : G} {w : World} {g : G} {n : Nat} (hn : ∀ id l,g0.ρ id = some l → id < n) {p : Bool} {x : AV} {v0 : Value} (h0 : Rep w0 g0 p x v0) : ∀ {p' : Bool} {v : Value},Rep w g p' x v → Rep w (g.cut n) p' x v := by
 have at' : ∀ {id l},g0.ρ id = some l → (g.cut n).ρ id = g.ρ id := fun {id l} h => by simp [G.cut,hn id l h]
 induction h0 with
 | v p x => intro p' v h; cases h; exact .v _ _
 | any p x => intro p' v h; exact .any _ _
 | sl p full m cs a cap vs _ _ _ _ _ =>
   intro p' v h
   cases h with
   | sl _ _ _ _ a cap vs hn hf hc hr => exact .sl _ _ _ _ a cap vs hn hf hc (fun i hi => (hr i hi).pure rfl _)
 | ptr p cs off b o vs _ _ _ =>
   intro p' v h
   cases h with
   | ptr _ _ _ b o vs hc hr => exact .ptr _ _ _ b o vs hc (fun i hi => (hr i hi).pure rfl _)
 | agg p cs vs hl hr ih =>
   intro p' v h
   cases h with
   | agg _ _ vs' hl' hr' => exact .agg _ _ vs' hl' (fun i hi => ih i hi (hr' i hi))
 | tup p cs vs hl hr ih =>
   intro p' v h
   cases h with
   | tup _ _ vs' hl' hr' => exact .tup _ _ vs' hl' (fun i hi => ih i hi (hr' i hi))
 | fn p f as bs xs ys hl hl' hr hr' ih ih' =>
   intro p' v h
   cases h with
   | fn _ _ _ _ xs ys k1 k2 k3 k4 => exact .fn _ _ _ _ xs ys k1 k2 (fun i hi => ih i hi (k3 i hi)) (fun i hi => ih' i hi (k4 i hi))
 | ref id off c d hl =>
   intro p' v h
   cases h with
   | ref _ _ c d k => exact .ref _ _ c d ((at' hl).trans k)
 | ms id off n sz c d cap arr ty fz hl hn hb hs =>
   intro p' v h
   cases h with
   | ms _ _ _ _ c d cap arr ty fz k1 k2 k3 k4 => exact .ms _ _ _ _ c d cap arr ty fz ((at' hl).trans k1) k2 k3 k4
   | msz _ _ _ a l k1 => exact .msz _ _ _ a l ((at' hl).trans k1)
 | msz id off sz a l hl =>
   intro p' v h
   cases h with
   | ms _ _ _ _ c d cap arr ty fz k1 k2 k3 k4 => exact .ms _ _ _ _ c d cap arr ty fz ((at' hl).trans k1) k2 k3 k4
   | msz _ _ _ a l k1 => exact .msz _ _ _ a l ((at' hl).trans k1)
 | mp id c d hl =>
   intro p' v h
   cases h with
   | mp _ c d k => exact .mp _ c d ((at' hl).trans k)
 | mc id off n cap sz c d arr ty fz hl hn hb hs =>
   intro p' v h
   cases h with
   | mc _ _ _ _ _ c d arr ty fz k1 k2 k3 k4 => exact .mc _ _ _ _ _ c d arr ty fz ((at' hl).trans k1) k2 k3 k4
   | mcz _ _ _ a l k1 => exact .mcz _ _ _ a l ((at' hl).trans k1)
 | mcz id off sz a l hl =>
   intro p' v h
   cases h with
   | mc _ _ _ _ _ c d arr ty fz k1 k2 k3 k4 => exact .mc _ _ _ _ _ c d arr ty fz ((at' hl).trans k1) k2 k3 k4
   | mcz _ _ _ a l k1 => exact .mcz _ _ _ a l ((at' hl).trans k1)
 | yl id c hl =>
   intro p' v h
   cases h with
   | yl _ c k => exact .yl _ c ((at' hl).trans k)
def NoMpp (hp : List HObj) : Prop := ∀ i Φ,nthH hp i ≠ some (.mpp Φ)
theorem callW_agr {P : Program} {f : FuncId} {xs : List AV} {hp : List HObj} {K : AV → List HObj → Prop} (hm : NoMpp hp) (h : CallW P f xs hp fun x H => Agr hp H ∧ (x.isPure = true ∨ x.scalar = true) ∧ K x hp) : CallW P f xs hp K := by
 intro ro n w g vs hok hvs hr
 refine (h ro n w g vs hok hvs hr).mono ?_
 rintro e w' ⟨v,x,H,g',rfl,⟨ha,hx,hK⟩,hrep,hok',hu⟩
 have dom : ∀ id l,g.ρ id = some l → id < hp.length := fun id l hl => by
  rcases Nat.lt_or_ge id hp.length with h | h
  · exact h
  · have := hok.dom id (by simp [hpf,h]); rw [this] at hl; cases hl
 have same : ∀ id,id < hp.length → hpf H id = hpf hp id := fun id hid => by
  have := ha.2 id hid
  rw [nthH_eq,nthH_eq] at this
  exact this
 have ltH : ∀ {id o},hpf hp id = some o → id < hp.length := fun h => hpf_lt h
 have cutρ : ∀ {id},id < hp.length → (g'.cut hp.length).ρ id = g'.ρ id := fun h => by simp [G.cut,h]
 have tr : Trans w g w' (g'.cut hp.length) := ⟨hu.tr.S,hu.tr.cell,fun id l hl => (cutρ (dom id l hl)).trans (hu.tr.ρ id l hl),hu.tr.shp,hu.tr.os,hu.tr.tape,hu.tr.output,hu.tr.size,hu.tr.drawn⟩
 refine ⟨v,x,hp,g'.cut hp.length,rfl,hK,?_,⟨fun id hid => ?_,fun id o ho => ?_,fun id id' o o' c d d' ho ho' hl hl' hr1 hr2 => ?_,hok'.ex,hok'.tab⟩,tr,?_,hu.S,hu.keep⟩
 · rcases hx with hx | hx
   · exact ((pure_rep hx hrep).pure rfl _).of
   · exact scalar_rep hx hrep
 · have : ¬ id < hp.length := fun h => by simp [hpf,h] at hid
   simp [G.cut,this]
 · have hlt := ltH ho
   have hoH : hpf H id = some o := (same id hlt).trans ho
   obtain ⟨l,h1,h2⟩ := hok'.rep id o hoH
   obtain ⟨l0,k1,k2⟩ := hok.rep id o ho
   have hl : l = l0 := by have := hu.tr.ρ id l0 k1; rw [h1] at this; exact Option.some.inj this
   subst hl
   refine ⟨l,(cutρ hlt).trans h1,?_⟩
   cases o with
   | gone => cases l <;> trivial
   | cells cs =>
     cases l with
     | virg => exact h2
     | base L => exact h2
     | blk c d =>
       obtain ⟨arr,ty,fz,a1,a2,a3,a4,a5⟩ := h2
       obtain ⟨arr0,ty0,fz0,b1,b2,b3,b4,b5⟩ := k2
       refine ⟨arr,ty,fz,a1,a2,a3,a4,fun i hi => ?_⟩
       obtain ⟨y,c1,c2⟩ := a5 i hi
       obtain ⟨y0,d1,d2⟩ := b5 i hi
       exact ⟨y,c1,rep_cut dom d2 c2⟩
   | mp es clk =>
     cases l with
     | virg => exact h2.elim
     | base L => exact h2.elim
     | blk c d =>
       obtain ⟨ents,a1,a2,a3,a4,a5⟩ := h2
       obtain ⟨ents0,b1,b2,b3,b4,b5⟩ := k2
       refine ⟨ents,a1,a2,a3,a4,fun i hi => ?_⟩
       obtain ⟨e,c1,c2,c3,c4⟩ := a5 i hi
       obtain ⟨e0,d1,d2,d3,d4⟩ := b5 i hi
       exact ⟨e,c1,c2,c3,rep_cut dom d4 c4⟩
   | mpp Φ => exact absurd ((nthH_eq hp id).trans ho) (hm id Φ)
   | it m since seen stepped =>
     cases l with
     | virg => exact h2.elim
     | base L => exact h2.elim
     | blk c d =>
       obtain ⟨mb,a1,a2,a3,a4⟩ := h2
       obtain ⟨mb0,b1,b2,b3,b4⟩ := k2
       exact ⟨mb,a1,(cutρ (dom _ _ b2)).trans a2,a3,a4⟩
   | lp s mk =>
     cases l with
     | virg => exact h2.elim
     | base L => exact h2.elim
     | blk c d =>
       obtain ⟨L,a1,a2,a3,a4⟩ := h2
       obtain ⟨L0,b1,b2,b3,b4⟩ := k2
       exact ⟨L,(cutρ (dom _ _ b1)).trans a1,a2,a3,a4⟩
 · rw [cutρ (ltH ho)] at hr1
   rw [cutρ (ltH ho')] at hr2
   exact hok'.inj id id' o o' c d d' ((same id (ltH ho)).trans ho) ((same id' (ltH ho')).trans ho') hl hl' hr1 hr2
 · rintro c ⟨id,o,d,ho,hl,hr1⟩
   rw [cutρ (ltH ho)] at hr1
   exact hu.live c ⟨id,o,d,(same id (ltH ho)).trans ho,hl,hr1⟩
theorem callW_mon {P : Program} {f : FuncId} {xs : List AV} {hp : List HObj} {K K' : AV → List HObj → Prop} (h : CallW P f xs hp K) (hk : ∀ r hp',K r hp' → K' r hp') : CallW P f xs hp K' := fun ro n w g vs h1 h2 h3 =>
 (h ro n w g vs h1 h2 h3).mono fun e w' ⟨v,r,hp',g',e1,e2,e3⟩ => ⟨v,r,hp',g',e1,hk _ _ e2,e3⟩
theorem le_sub {fr fr' : List (Nat × AV)} {hp : List HObj} (h : ∀ p ∈ fr',get fr p.1 = p.2) : St.le ⟨fr,hp⟩ ⟨fr',hp⟩ := by
 intro N a w g ⟨h1,h2,h3⟩
 refine ⟨g,⟨h1,fun t => ?_,h3⟩,.refl _ _ _⟩
 have key : ∀ (l : List (Nat × AV)),(∀ p ∈ l,get fr p.1 = p.2) → get l t = get fr t ∨ get l t = .any := by
  intro l
  induction l with
  | nil => exact fun _ => .inr rfl
  | cons p l ih =>
    intro hl
    simp only [get]
    by_cases e : p.1 = t
    · rw [if_pos e]; left; rw [← e]; exact (hl p (by simp)).symm
    · rw [if_neg e]; exact ih fun q hq => hl q (by simp [hq])
 rcases key fr' h with e | e
 · show Rep w g false (get fr' t) _
   rw [e]; exact h2 t
 · show Rep w g false (get fr' t) _
   rw [e]; exact .any _ _
theorem next_sub {α : Type} {I : α → St} {C : α → Prop} {μ : α → Nat} {a : α} {fr fr' : List (Nat × AV)} {hp : List HObj} (a' : α) (h : C a') (hm : μ a' < μ a) (hI : I a' = ⟨fr',hp⟩) (hs : ∀ p ∈ fr',get fr p.1 = p.2) : Next I C μ a ⟨fr,hp⟩ :=
 ⟨a',h,hm,by rw [hI]; exact le_sub hs⟩
def contR (P : Program) (os : List AOp) (d : Option Nat) (fr : List (Nat × AV)) (hp : List HObj) (K : St → Prop) (r : AV) (ws : List (Nat × HObj)) : Prop := ws = [] ∧ rops P os ⟨frPut fr d r,hp⟩ K
section
variable {P : Program} {os : List AOp} {fr : List (Nat × AV)} {hp : List HObj} {K : St → Prop}
theorem r_gen {o : AOp} (hc : ∀ d f args,o ≠ .call d f args) : rops P (o :: os) ⟨fr,hp⟩ K = o.wp P (get fr) hp (contR P os o.dst fr hp K) := by
 have e : ∀ r,rsem P o (evF (get fr)) hp r = o.sem P (evF (get fr)) (hpf hp) hp.length r [] := fun r => by
  cases o with
  | call d f args => exact absurd rfl (hc d f args)
  | _ => rfl
 simp only [rops,AOp.wp,contR,e]
 exact propext ⟨fun ⟨r,h1,h2⟩ => ⟨r,[],h1,rfl,h2⟩,fun ⟨r,ws,h1,h2,h3⟩ => ⟨r,by rw [← h2]; exact h1,h3⟩⟩
theorem r_mv {a0 a1} : rops P (.mv a0 a1 :: os) ⟨fr,hp⟩ K = (AOp.mv a0 a1).wp P (get fr) hp (contR P os (some a0) fr hp K) := r_gen fun _ _ _ h => by cases h
theorem r_bin {a0 a1 a2 a3} : rops P (.bin a0 a1 a2 a3 :: os) ⟨fr,hp⟩ K = (AOp.bin a0 a1 a2 a3).wp P (get fr) hp (contR P os (some a0) fr hp K) := r_gen fun _ _ _ h => by cases h
theorem r_un {a0 a1 a2} : rops P (.un a0 a1 a2 :: os) ⟨fr,hp⟩ K = (AOp.un a0 a1 a2).wp P (get fr) hp (contR P os (some a0) fr hp K) := r_gen fun _ _ _ h => by cases h
theorem r_ext {a0 a1 a2} : rops P (.ext a0 a1 a2 :: os) ⟨fr,hp⟩ K = (AOp.ext a0 a1 a2).wp P (get fr) hp (contR P os (some a0) fr hp K) := r_gen fun _ _ _ h => by cases h
theorem r_ld {a0 a1 a2 a3} : rops P (.ld a0 a1 a2 a3 :: os) ⟨fr,hp⟩ K = (AOp.ld a0 a1 a2 a3).wp P (get fr) hp (contR P os (some a0) fr hp K) := r_gen fun _ _ _ h => by cases h
theorem r_fa {a0 a1 a2} : rops P (.fa a0 a1 a2 :: os) ⟨fr,hp⟩ K = (AOp.fa a0 a1 a2).wp P (get fr) hp (contR P os (some a0) fr hp K) := r_gen fun _ _ _ h => by cases h
theorem r_ia {a0 a1 a2 a3} : rops P (.ia a0 a1 a2 a3 :: os) ⟨fr,hp⟩ K = (AOp.ia a0 a1 a2 a3).wp P (get fr) hp (contR P os (some a0) fr hp K) := r_gen fun _ _ _ h => by cases h
theorem r_iaa {a0 a1 a2 a3 a4} : rops P (.iaa a0 a1 a2 a3 a4 :: os) ⟨fr,hp⟩ K = (AOp.iaa a0 a1 a2 a3 a4).wp P (get fr) hp (contR P os (some a0) fr hp K) := r_gen fun _ _ _ h => by cases h
theorem r_nilc {a0 a1} : rops P (.nilc a0 a1 :: os) ⟨fr,hp⟩ K = (AOp.nilc a0 a1).wp P (get fr) hp (contR P os (some a0) fr hp K) := r_gen fun _ _ _ h => by cases h
theorem r_len {a0 a1} : rops P (.len a0 a1 :: os) ⟨fr,hp⟩ K = (AOp.len a0 a1).wp P (get fr) hp (contR P os (some a0) fr hp K) := r_gen fun _ _ _ h => by cases h
theorem r_cont {d : Option Nat} {r ws} : contR P os d fr hp K r ws = (ws = [] ∧ rops P os ⟨frPut fr d r,hp⟩ K) := rfl
theorem r_nil : rops P [] ⟨fr,hp⟩ K = K ⟨fr,hp⟩ := rfl
theorem r_call {d f args} (r : AV) (h : ∀ KK : AV → List HObj → Prop,KK r hp → CallW P f (args.map (evF (get fr))) hp KK) (k : rops P os ⟨(d,r) :: fr,hp⟩ K) : rops P (.call d f args :: os) ⟨fr,hp⟩ K :=
 ⟨r,h _ ⟨rfl,rfl⟩,k⟩
theorem r_grp {os : List AOp} {gs : List Grp} {st : St} : rgrps P (⟨none,os⟩ :: gs) st K = rops P os st fun st => rgrps P gs st K := rfl
theorem r_grp0 {st : St} : rgrps P [] st K = K st := rfl
end
attribute [simp] r_mv r_bin r_un r_ext r_ld r_fa r_ia r_iaa r_nilc r_len r_cont r_nil r_grp r_grp0
end Go.AM

namespace Go.AM
open Go.RowKit
variable {P : Program}
theorem aws_block {id : Nat} {x : AC} {st : St} {Q : Exit → St → Prop} (h : AWS P x st (Exit.blk id Q)) : AWS P (.block id x) st Q := fun N c a w g R ro n hf hr hs hl => by
 cases c <;> first | exact hf.elim | skip
 obtain ⟨rfl,hf⟩ := hf
 refine wpIn_block (h _ _ _ _ _ _ _ _ hf hr hs fun e st' a' w' g' hq hs' hu hd => ?_)
 cases e with
 | exit id' =>
   simp only [Exit.blk] at hq
   simp only [Exit.inBlock]
   split
   · rename_i e; rw [if_pos e] at hq; exact hl _ _ _ _ _ hq hs' hu hd
   · rename_i e; rw [if_neg e] at hq; exact hl _ _ _ _ _ hq hs' hu hd
 | _ => exact hl _ _ _ _ _ hq hs' hu hd
theorem aws_cond {d : Opd} {x y : AC} {st : St} {Q : Exit → St → Prop} {t : Bool} (ht : evF (get st.fr) d = .v (.bool t)) (h1 : t = true → AWS P x st Q) (h2 : t = false → AWS P y st Q) : AWS P (.cond d x y) st Q := fun N c a w g R ro n hf hr hs hl => by
 cases c <;> first | exact hf.elim | skip
 rename_i d' c1 c2
 have hr1 : ro = none ∨ x.noRf = true := hr.imp (fun h => h) (fun h => by simp [AC.noRf] at h; exact h.1)
 have hr2 : ro = none ∨ y.noRf = true := hr.imp (fun h => h) (fun h => by simp [AC.noRf] at h; exact h.2)
 obtain ⟨hd,e1,e2⟩ := hf
 have := ev_rep hs.2.1 hd
 rw [ht] at this
 have hv : a.eval d' = .bool t := rep_v this
 exact wpIn_cond_split hv (fun e => h1 e _ _ _ _ _ _ _ _ e1 hr1 hs hl) (fun e => h2 e _ _ _ _ _ _ _ _ e2 hr2 hs hl)
theorem aws_loop {α : Type} {x : AC} {st : St} {Q : Exit → St → Prop} (I : α → St) (C : α → Prop) (μ : α → Nat) (a0 : α) (h0 : C a0) (hle : St.le st (I a0)) (hround : ∀ b,C b → AWS P x (I b) (Exit.th (Next I C μ b) Q)) : AWS P (.loop x) st Q := fun N c a w g R ro n hf hr hs hl => by
 cases c <;> first | exact hf.elim | skip
 rename_i c
 have hf : Fits P N c x := hf
 obtain ⟨g2,hs1,hu1⟩ := hle N a w g hs
 let Inv : Nat → Act → World → Prop := fun m a' w' => ∃ b g',C b ∧ μ b = m ∧ Sim N (I b) a' w' g' ∧ Upd (hpf st.hp) g w (hpf (I b).hp) g' w' ∧ DStep w a (hpf (I b).hp) g' w' a'
 have loop : ∀ (m : Nat) (a' : Act) (w' : World),Inv m a' w' → (Code.loop c).wpIn (W ro) n P R a' w' := fun m => by
  intro a' w' hI
  refine wpIn_loop_ghost Inv m hI ?_
  intro m a' w' ⟨b,g',hb,hm,hs',hu',hd'⟩
  refine hround b hb _ _ _ _ _ _ _ _ hf hr hs' fun e st2 a2 w2 g2 q2 s2 u2 d2 => ?_
  cases e with
  | normal =>
    obtain ⟨b',hb',hlt,hle'⟩ := q2
    obtain ⟨g3,hs3,hu3⟩ := hle' N a2 w2 g2 s2
    exact ⟨μ b',by omega,b',g3,hb',rfl,hs3,(hu'.trans u2).trans hu3,(hd'.trans hu'.tr.size u2 d2).keep hu3⟩
  | _ => exact hl _ _ _ _ _ q2 s2 (hu'.trans u2) (hd'.trans hu'.tr.size u2 d2)
 exact loop (μ a0) a w ⟨a0,g2,h0,rfl,hs1,hu1,.nil rfl⟩
end Go.AM

namespace Go.AM
open Go.RowKit
def rsem_g (P : Program) (o : AOp) (ev : Opd → AV) (hp : List HObj) (r : AV) : Prop := match o with
 | .call _ f args => CallW P f (args.map ev) hp fun x hp' => x = r ∧ hp' = hp
 | .callv _ x args => ∃ fid first caps,ev x = .fn (.func fid) first caps ∧ funOK P fid = true ∧ CallW P fid (first ++ args.map ev ++ caps) hp fun y hp' => y = r ∧ hp' = hp
 | o => o.sem P ev (hpf hp) hp.length r []
def rops_g (P : Program) : List AOp → St → (St → Prop) → Prop
 | [],st,K => K st
 | o :: os,st,K => ∃ r,rsem_g P o (evF (get st.fr)) st.hp r ∧ rops_g P os ⟨frPut st.fr o.dst r,st.hp⟩ K
def rgrps_g (P : Program) : List Grp → St → (St → Prop) → Prop
 | [],st,K => K st
 | ⟨none,os⟩ :: gs,st,K => rops_g P os st fun st => rgrps_g P gs st K
 | ⟨some (j,b),os⟩ :: gs,st,K => match get st.fr j with
   | .v (.bool c) => (c = b → rops_g P os st fun st => rgrps_g P gs st K) ∧ (c ≠ b → rgrps_g P gs (undefs os st) K)
   | .v (.tuple _) => rgrps_g P gs (undefs os st) K
   | _ => False
def RROK_g (P : Program) (gd : Option (Nat × Bool)) (o : AOp) (R : Rec) (F : Nat → AV) (hp : List HObj) : Prop := R.dst = o.dst ∧ ((gsat gd F ∧ rsem_g P o (evF F) hp R.r) ∨ (gunsat gd F ∧ R.r = .v undef))
inductive RRun_g (P : Program) : List (Option (Nat × Bool) × AOp) → St → List Rec → St → Prop
 | nil (st : St) : RRun_g P [] st [] st
 | cons {gd o l st R Rs st'} : RROK_g P gd o R (get st.fr) st.hp → RRun_g P l ⟨frPut st.fr R.dst R.r,st.hp⟩ Rs st' → RRun_g P ((gd,o) :: l) st (R :: Rs) st'
section
variable {P : Program} {N : Nat} {ro : Option Nat} {n : Nat}
def rflat_g (P : Program) : List (Option (Nat × Bool) × AOp) → St → (St → Prop) → Prop
 | [],st,K => K st
 | (none,o) :: l,st,K => ∃ r,rsem_g P o (evF (get st.fr)) st.hp r ∧ rflat_g P l ⟨frPut st.fr o.dst r,st.hp⟩ K
 | (some (j,b),o) :: l,st,K => match get st.fr j with
   | .v (.bool c) => (c = b → ∃ r,rsem_g P o (evF (get st.fr)) st.hp r ∧ rflat_g P l ⟨frPut st.fr o.dst r,st.hp⟩ K) ∧ (c ≠ b → rflat_g P l (undefs [o] st) K)
   | .v (.tuple _) => rflat_g P l (undefs [o] st) K
   | _ => False
theorem put_get {fr : List (Nat × AV)} {d : Option Nat} {r : AV} {j : Nat} (h : d ≠ some j) : get (frPut fr d r) j = get fr j := by
 cases d with
 | none => rfl
 | some d =>
   have : ¬ d = j := fun e => h (by rw [e])
   simp [frPut,get,this]
theorem rgrp_sound_g : ∀ {l : List (Option (Nat × Bool) × AOp)} {st : St} {K : St → Prop}, rgrps_g P (grp l) st K → rflat_g P l st K
 | [],st,K,h => h
 | (g, o) :: l, st, K, h => by
   have one : rgrps_g P (⟨g, [o]⟩ :: grp l) st K → rflat_g P ((g, o) :: l) st K := fun h => by
    cases g with
    | none =>
      obtain ⟨r,h1,h2⟩ := h
      exact ⟨r,h1,rgrp_sound_g h2⟩
    | some jb =>
      obtain ⟨j,b⟩ := jb
      simp only [rgrps_g,rflat_g] at h ⊢
      split at h
      · rename_i c hc
        try rw [hc]
        exact ⟨fun e => by obtain ⟨r,h1,h2⟩ := h.1 e; exact ⟨r,h1,rgrp_sound_g h2⟩,fun e => rgrp_sound_g (h.2 e)⟩
      · rename_i c hc
        try rw [hc]
        exact rgrp_sound_g h
      · exact h.elim
   simp only [grp] at h
   split at h
   · rename_i g' os gs hg
     split at h
     · rename_i hcond
       obtain ⟨rfl,hdst⟩ := hcond
       have ih : ∀ st K,rgrps_g P (⟨g,os⟩ :: gs) st K → rflat_g P l st K := fun st K h => rgrp_sound_g (by rw [hg]; exact h)
       cases g with
       | none =>
         obtain ⟨r,h1,h2⟩ := h
         exact ⟨r,h1,ih _ _ h2⟩
       | some jb =>
         obtain ⟨j,b⟩ := jb
         have hdst : o.dst ≠ some j := by simpa [freeOf] using hdst
         simp only [rgrps_g,rflat_g] at h ⊢
         split at h
         · rename_i c hc
           try rw [hc]
           refine ⟨fun e => ?_,fun e => ih _ _ ?_⟩
           · obtain ⟨r,h1,h2⟩ := h.1 e
             refine ⟨r,h1,ih _ _ ?_⟩
             simp only [rgrps_g]
             rw [put_get hdst,hc]
             exact ⟨fun _ => h2,fun h' => absurd e h'⟩
           · simp only [rgrps_g]
             rw [undefs_get hdst,hc]
             refine ⟨fun h' => absurd h' e,fun _ => ?_⟩
             rw [← undefs_cons]
             exact h.2 e
         · rename_i c hc
           try rw [hc]
           refine ih _ _ ?_
           simp only [rgrps_g]
           rw [undefs_get hdst,hc]
           simp only
           rw [← undefs_cons]
           exact h
         · exact h.elim
     · rw [← hg] at h; exact one h
   · rename_i hg
     rw [← hg] at h; exact one h
theorem undefs_put (o : AOp) (st : St) : undefs [o] st = ⟨frPut st.fr o.dst (.v undef),st.hp⟩ := by
 rw [undefs_step]; rfl
theorem rrun_of_g : ∀ {l : List (Option (Nat × Bool) × AOp)} {st : St} {K : St → Prop},rflat_g P l st K → ∃ Rs st',RRun_g P l st Rs st' ∧ K st'
 | [],st,K,h => ⟨[],st,.nil st,h⟩
 | (gd, o) :: l, st, K, h => by
   have go : gsat gd (get st.fr) → (∃ r,rsem_g P o (evF (get st.fr)) st.hp r ∧ rflat_g P l ⟨frPut st.fr o.dst r,st.hp⟩ K) → ∃ Rs st',RRun_g P ((gd,o) :: l) st Rs st' ∧ K st' := fun hg ⟨r,h1,h2⟩ => by
    obtain ⟨Rs,st',h3,h4⟩ := rrun_of_g h2
    exact ⟨⟨o.dst,r,[],[]⟩ :: Rs,st',.cons ⟨rfl,.inl ⟨hg,h1⟩⟩ h3,h4⟩
   have sk : gunsat gd (get st.fr) → rflat_g P l (undefs [o] st) K → ∃ Rs st',RRun_g P ((gd,o) :: l) st Rs st' ∧ K st' := fun hg h => by
    rw [undefs_put] at h
    obtain ⟨Rs,st',h3,h4⟩ := rrun_of_g h
    exact ⟨⟨o.dst,.v undef,[],[]⟩ :: Rs,st',.cons ⟨rfl,.inr ⟨hg,rfl⟩⟩ h3,h4⟩
   cases gd with
   | none => exact go trivial h
   | some jb =>
     obtain ⟨j,b⟩ := jb
     simp only [rflat_g] at h
     split at h
     · rename_i c hc
       by_cases e : c = b
       · subst e; exact go hc (h.1 rfl)
       · exact sk (.inl ⟨c,hc,e⟩) (h.2 e)
     · rename_i c hc
       exact sk (.inr ⟨c,hc⟩) h
     · exact h.elim
theorem rrun_len_g {l st Rs st'} (h : RRun_g P l st Rs st') : Rs.length = l.length := by
 induction h with
 | nil => rfl
 | cons _ _ ih => simp [ih]
theorem rrun_at_g {l st Rs st'} (h : RRun_g P l st Rs st') : ∀ i (hi : i < l.length) (hi' : i < Rs.length),RROK_g P l[i].1 l[i].2 Rs[i] (foldW (Rs.map Rec.F) (fun k => decide (k < i)) (get st.fr)) st.hp := by
 induction h with
 | nil => intro i hi; simp at hi
 | @cons gd o l st R Rs st' hok hrun ih =>
   intro i hi hi'
   cases i with
   | zero =>
     rw [foldW_none (fun i => by simp)]
     exact hok
   | succ i =>
     have h2 := ih i (by simpa using hi) (by simpa using hi')
     simp only [List.map_cons,foldW,List.getElem_cons_succ,Nat.zero_lt_succ,decide_true,if_true,Nat.add_lt_add_iff_right]
     rw [recF_app]
     exact h2
theorem rrun_end_g {l st Rs st'} (h : RRun_g P l st Rs st') : get st'.fr = foldW (Rs.map Rec.F) (fun _ => true) (get st.fr) ∧ st'.hp = st.hp := by
 induction h with
 | nil => exact ⟨rfl,rfl⟩
 | @cons gd o l st R Rs st' hok hrun ih =>
   simp only [List.map_cons,foldW,if_true]
   rw [recF_app]
   exact ih
theorem rsem_ext_g {o : AOp} {F F' : Nat → AV} {hp : List HObj} {r : AV} (h : rsem_g P o (evF F) hp r) (hF : ∀ x ∈ o.opds,evF F' x = evF F x) : rsem_g P o (evF F') hp r := by
 cases o with
 | call d f args =>
   have e : args.map (evF F') = args.map (evF F) := List.map_congr_left fun x hx => hF x hx
   simp only [rsem_g] at h ⊢
   rw [e]; exact h
 | callv d x args =>
   have e : args.map (evF F') = args.map (evF F) := List.map_congr_left fun y hy => hF y (List.mem_cons_of_mem _ hy)
   have e2 : evF F' x = evF F x := hF x (by simp [AOp.opds])
   simp only [rsem_g] at h ⊢
   rw [e,e2]; exact h
 | _ =>
   simp only [rsem_g] at h ⊢
   exact sem_local (hp' := hpf hp) (new' := hp.length) h hF (fun _ _ => rfl) (fun _ => rfl)
structure RFix_g (P : Program) (N : Nat) (ops : Array Oper) (cl : List (Option (Nat × Bool) × AOp)) (pre : List (List Nat)) (un : List (Nat × Nat)) (st : St) (Rs : List Rec) (st' : St) : Prop where
 comp : compOps P N ops ops.toList = some cl
 ok : drawOK ops cl pre un = true
 run : RRun_g P cl st Rs st'
variable {ops : Array Oper} {cl : List (Option (Nat × Bool) × AOp)} {pre : List (List Nat)} {un : List (Nat × Nat)} {st : St} {Rs : List Rec} {st' : St}
theorem RFix_g.lens (f : RFix_g P N ops cl pre un st Rs st') : cl.length = ops.size ∧ Rs.length = ops.size :=
 ⟨by simpa using (compOps_len f.comp).1,by rw [rrun_len_g f.run]; simpa using (compOps_len f.comp).1⟩
theorem RFix_g.apart (f : RFix_g P N ops cl pre un st Rs st') {i k : Nat} (hik : i < k) (hk : k < cl.length) (hk' : k < Rs.length) (hp : i ∉ pre.getD k []) :
 (∀ d,Rs[i].dst = some d → d ∉ looksAt cl[k]) ∧ (∀ d,Rs[k].dst = some d → d ∉ looksAt cl[i]) ∧ ∀ d,Rs[i].dst = some d → Rs[k].dst ≠ some d := by
 obtain ⟨l1,l2⟩ := f.lens
 rcases draw_apart f.ok hik (by omega) hk with h | ⟨h1,h2⟩
 · exact absurd h hp
 have oi := rrun_at_g f.run i (by omega) (by omega)
 have ok := rrun_at_g f.run k hk hk'
 simp only [apartT,Bool.and_eq_true] at h1
 obtain ⟨⟨a1,a2⟩,a3⟩ := h1
 refine ⟨fun d hd => ?_,fun d hd => ?_,fun d hd hd' => ?_⟩
 · rw [← oi.1,hd] at a1; simpa [dstFree] using a1
 · rw [← ok.1,hd] at a2; simpa [dstFree] using a2
 · rw [← oi.1,← ok.1,hd,hd'] at a3; simp at a3
theorem RFix_g.serves (f : RFix_g P N ops cl pre un st Rs st') {X : Nat → Bool} (hX : Clo pre ops X) {i : Nat} (hi : i < cl.length) (hi' : i < Rs.length) (hx : X i = false) (hr : ∀ j ∈ pre.getD i [],X j = true) :
 RROK_g P cl[i].1 cl[i].2 Rs[i] (frX Rs X st) st.hp := by
 obtain ⟨l1,l2⟩ := f.lens
 have ok := rrun_at_g f.run i hi hi'
 have same : ∀ d, d ∈ looksAt cl[i] → frX Rs X st d = foldW (Rs.map Rec.F) (fun k => decide (k < i)) (get st.fr) d := fun d hd' => by
  refine foldW_agree rfl fun k hk hon => ?_
  simp only [List.length_map] at hk
  simp only [List.getElem_map] at hon
  rcases Nat.lt_trichotomy k i with h | h | h
  · by_cases hp : k ∈ pre.getD i []
    · rw [hr k hp]; simp [h]
    · exact absurd hd' ((f.apart h hi hi' hp).1 d (recF_on hon))
  · subst h; rw [hx]; simp
  · cases e : X k with
    | false => symm; simp; omega
    | true =>
      have hp : i ∉ pre.getD k [] := fun hp => by
       have := hX k (by omega) e i hp
       rw [hx] at this; cases this
      exact absurd hd' ((f.apart h (by omega) hk hp).2.1 d (recF_on hon))
 have hg := guard_same (gd := cl[i].1) (F := foldW (Rs.map Rec.F) (fun k => decide (k < i)) (get st.fr)) (F' := frX Rs X st) (fun j b e => same j (by simp [looksAt,e]))
 refine ⟨ok.1,?_⟩
 rcases ok.2 with ⟨h1,h2⟩ | ⟨h1,h2⟩
 · refine .inl ⟨hg.1 h1,rsem_ext_g h2 fun x hx' => evF_eq fun d hd => same d ?_⟩
   simp only [looksAt,List.mem_append,List.mem_flatMap]
   exact .inl ⟨x,hx',hd⟩
 · exact .inr ⟨hg.2 h1,h2⟩
theorem RFix_g.next (f : RFix_g P N ops cl pre un st Rs st') {X Y : Nat → Bool} (hX : Clo pre ops X) {i : Nat} (hi : i < cl.length) (hi' : i < Rs.length) (hx : X i = false) (hy : Y i = true) (hj : ∀ j,j ≠ i → Y j = X j) :
 frX Rs Y st = Rs[i].F.app (frX Rs X st) := by
 obtain ⟨l1,l2⟩ := f.lens
 have := foldW_insert (l := Rs.map Rec.F) (F := get st.fr) (by simpa using hi') hx hy hj (fun k hk hlt hxk key hon => by
  simp only [List.length_map] at hk
  simp only [List.getElem_map] at hon ⊢
  have hp : i ∉ pre.getD k [] := fun hp => by
   have := hX k (by omega) hxk i hp
   rw [hx] at this; cases this
  have a := f.apart hlt (by omega) hk hp
  have := a.2.2 key (recF_on hon)
  simpa [Rec.F] using this)
 simpa [frX] using this
theorem aop_of_rsem_g {E : HE} {o : AOp} {st : St} {r : AV} {K : St → Prop} (h : rsem_g P o (evF (get st.fr)) st.hp r) (hK : K ⟨frPut st.fr o.dst r,st.hp⟩) : aop P E o st K := by
 cases o with
 | call d f args =>
   simp only [rsem_g] at h
   exact fun ro n w g vs a b c => (h ro n w g vs a b c).mono fun e w' ⟨v,r',hp',g',e1,⟨e2,e3⟩,e4⟩ => ⟨v,r',hp',g',e1,by subst e2 e3; exact hK,e4⟩
 | callx => exact h.elim
 | callv d x args =>
   simp only [rsem_g] at h
   obtain ⟨fid,first,caps,h1,h2,h⟩ := h
   simp only [aop,h1]
   exact ⟨h2,fun ro n w g vs a b c => (h ro n w g vs a b c).mono fun e w' ⟨v,r',hp',g',e1,⟨e2,e3⟩,e4⟩ => ⟨v,r',hp',g',e1,by subst e2 e3; exact hK,e4⟩⟩
 | rng => exact h.elim
 | nxt => exact h.elim
 | ent => exact h.elim
 | isn => exact h.elim
 | _ => exact ⟨r,[],h,hK⟩
theorem RFix_g.all (f : RFix_g P N ops cl pre un st Rs st') {w0 : World} {g0 : G} {Q : Exit → Act → World → Prop} {a0 : Act}
 (hQ : ∀ a w g,Sim N st' a w g → Upd (hpf st.hp) g0 w0 (hpf st'.hp) g w → a.defers = a0.defers → Q .normal a w) :
 ∀ (fuel : Nat) (listed : Array Bool) (a : Act) (w : World) (g : G) (fr : List (Nat × AV)),listed.size = ops.size → Clo pre ops (lst listed) → unl (lst listed) ops.size ≤ fuel → a.defers = a0.defers → get fr = frX Rs (lst listed) st → Sim N ⟨fr,st.hp⟩ a w g →
   Upd (hpf st.hp) g0 w0 (hpf st.hp) g w → wpAnyIn (W ro) n P .any ops Q fuel listed a w := by
 obtain ⟨l1,l2⟩ := f.lens
 have fin : ∀ (listed : Array Bool) (a : Act) (w : World) (g : G) (fr : List (Nat × AV)),(∀ i,i < ops.size → lst listed i = true) → a.defers = a0.defers → get fr = frX Rs (lst listed) st → Sim N ⟨fr,st.hp⟩ a w g →
  Upd (hpf st.hp) g0 w0 (hpf st.hp) g w → Q .normal a w := fun listed a w g fr h hD hF hs hu => by
  obtain ⟨e1,e2⟩ := rrun_end_g f.run
  have e3 : get fr = get st'.fr := by
   rw [hF,e1]
   funext t; exact foldW_agree rfl fun k hk _ => h k (by simp at hk; omega)
  refine hQ a w g ⟨hs.1,?_,?_⟩ (by rw [e2]; exact hu) hD
  · rw [← e3]; exact hs.2.1
  · rw [e2]; exact hs.2.2
 have ed := fun k (hk : k < ops.size) => (draw_edges f.ok hk (by omega)).1
 intro fuel
 induction fuel with
 | zero =>
   intro listed a w g fr hl hX hfu hD hF hs hu
   have h := unl_zero (X := lst listed) (n := ops.size) (by omega)
   exact ⟨ready_done h,fin listed a w g fr h hD hF hs hu⟩
 | succ fuel ih =>
   intro listed a w g fr hl hX hfu hD hF hs hu
   refine ⟨fun h => fin listed a w g fr (ready_nil hl ed h) hD hF hs hu,fun i hi => ?_⟩
   obtain ⟨hlt,hx,he⟩ := ready_spec hi
   have hget : ∀ j,j < ops.size → (listed.getD j false = true) → lst listed j = true := fun j hj h => by
    have : j < listed.size := by omega
    simpa [lst,this] using h
   have hr : ∀ j ∈ pre.getD i [],lst listed j = true := fun j hj => by
    obtain ⟨e,hm,hb,h⟩ := (draw_edges f.ok hlt (by omega)).2 j hj
    have hon := ed i hlt e hm hb
    have hL := hget e.on (by omega) (he e hm hb)
    rcases h with h | h
    · rw [← h]; exact hL
    · exact hX e.on (by omega) hL j h
   have hi' : i < listed.size := by omega
   have hy : lst (listed.setIfInBounds i true) i = true := by simp [lst,hi']
   have hj : ∀ j,j ≠ i → lst (listed.setIfInBounds i true) j = lst listed j := fun j hne => by
    simp only [lst,Array.getD_eq_getD_getElem?]
    rw [Array.getElem?_setIfInBounds_ne (Ne.symm hne)]
   have hrec := f.serves hX (i := i) (by omega) (by omega) hx hr
   have hnx := f.next hX (i := i) (by omega) (by omega) hx hy hj
   obtain ⟨c1,c2⟩ := (compOps_len f.comp).2 i (by simpa using hlt) (by omega)
   simp only [Array.getElem_toList] at c1 c2
   unfold wpOpIn
   simp only [Array.getElem?_eq_getElem hlt]
   rw [wanted_guard c2]
   have hcl : Clo pre ops (lst (listed.setIfInBounds i true)) := fun k hk hk1 j hjm => by
    by_cases e : j = i
    · subst e; exact hy
    · rw [hj j e]
      by_cases e' : k = i
      · subst e'; exact hr j hjm
      · rw [hj k e'] at hk1; exact hX k hk hk1 j hjm
   have hul : unl (lst (listed.setIfInBounds i true)) ops.size ≤ fuel := by
    have := unl_set hx hy hj ops.size hlt
    omega
   have hF' : FrOK w g (frX Rs (lst listed) st) a := by rw [← hF]; exact hs.2.1
   rcases hrec.2 with ⟨g1,hsem⟩ | ⟨g1,hun⟩
   · rw [(guardVal_sat hF').1 g1]
     simp only [if_true]
     rw [← hF] at hsem
     refine aop_sound (E := E1 P) (st := ⟨fr,st.hp⟩) (K := fun st1 => st1 = ⟨frPut fr cl[i].2.dst Rs[i].r,st.hp⟩) c1 (aop_of_rsem_g hsem rfl) (w1 := w) (g1 := g) ys_E1 (.refl _ _) hs ?_
     rintro st1 a' w' g' rfl hs' hu' hD'
     refine ih _ a' w' g' _ (by simpa using hl) hcl hul (hD'.trans hD) ?_ hs' (hu.trans hu')
     rw [hnx,← hF,recF_app,hrec.1]
   · rw [(guardVal_sat hF').2 g1]
     simp only [Bool.false_eq_true,if_false]
     refine ⟨fun _ _ => trivial,?_⟩
     obtain ⟨d1,d2⟩ := comp_dst c1
     have hdst : Rs[i].dst = ops[i].dst := hrec.1.trans d1
     rw [← hdst]
     refine ih _ (a.put Rs[i].dst undef) w g (frPut fr Rs[i].dst Rs[i].r) (by simpa using hl) hcl hul ((put_defers _ _ _).trans hD) ?_ ⟨by rw [put_size]; exact hs.1,?_,hs.2.2⟩ hu
     · rw [hnx,← hF,recF_app]
     · show FrOK w g (get (frPut fr Rs[i].dst Rs[i].r)) _
       rw [← recF_app]
       exact FrOK.app hs.2.1 (fun k e => by rw [show a.tmps.size = N from hs.1]; exact d2 k (by rw [← hdst]; exact e)) (by rw [hun]; exact .v _ _)
theorem aws_read_g {gs : List Grp} {un : List (Nat × Nat)} {ks : List Nat} {st : St} {Q : Exit → St → Prop} (h : rgrps_g P gs st fun st' => Q .normal (st'.keep ks)) : AWS P (.drw gs un ks) st Q := by
 intro N c a w g R ro n hf hr hs hl
 cases c <;> first | exact hf.elim | skip
 rename_i id ops d
 obtain ⟨rfl,hm,cl,pre,hc,hd,rfl⟩ := hf
 obtain ⟨Rs,st',hrun,hK⟩ := rrun_of_g (rgrp_sound_g h)
 have f : RFix_g P N ops cl pre un st Rs st' := ⟨hc,hd,hrun⟩
 obtain ⟨l1,l2⟩ := f.lens
 refine wpIn_region_any hm ?_
 obtain ⟨hokd,hud⟩ := hs.2.2.drew
 have e1 : frX Rs (lst (Array.replicate ops.size false)) st = get st.fr := by
  have : frX Rs (lst (Array.replicate ops.size false)) st = foldW (Rs.map Rec.F) (fun _ => false) (get st.fr) := by
   funext t; exact foldW_agree rfl fun k hk _ => lst_false _ k (by simp at hk; omega)
  rw [this,foldW_none (fun _ => rfl)]
 refine f.all (g0 := g) (w0 := w) (a0 := a) (fun a' w' g' hs' hu' hD' => hl _ _ a' w' g' hK (hs'.keep ks) hu' (.nil hD')) ops.size _ a w.drew g st.fr (by simp) (fun k hk hk1 => ?_) ?_ rfl e1.symm ⟨hs.1,hs.2.1.mono hud.tr,hokd⟩ hud
 · rw [lst_false _ k hk] at hk1; cases hk1
 · have : ∀ m,unl (lst (Array.replicate ops.size false)) m ≤ m := fun m => by
    induction m with
    | zero => exact Nat.le_refl _
    | succ m ih => simp only [unl]; split <;> omega
   exact this _
end
def contG (P : Program) (os : List AOp) (d : Option Nat) (fr : List (Nat × AV)) (hp : List HObj) (K : St → Prop) (r : AV) (ws : List (Nat × HObj)) : Prop := ws = [] ∧ rops_g P os ⟨frPut fr d r,hp⟩ K
section
variable {P : Program} {os : List AOp} {fr : List (Nat × AV)} {hp : List HObj} {K : St → Prop}
theorem q_gen {o : AOp} (hc : ∀ d f args,o ≠ .call d f args) (hv : ∀ d x args,o ≠ .callv d x args) : rops_g P (o :: os) ⟨fr,hp⟩ K = o.wp P (get fr) hp (contG P os o.dst fr hp K) := by
 have e : ∀ r,rsem_g P o (evF (get fr)) hp r = o.sem P (evF (get fr)) (hpf hp) hp.length r [] := fun r => by
  cases o with
  | call d f args => exact absurd rfl (hc d f args)
  | callv d x args => exact absurd rfl (hv d x args)
  | _ => rfl
 apply propext
 constructor
 · rintro ⟨r,h1,h2⟩
   exact ⟨r,[],by rw [← e]; exact h1,rfl,h2⟩
 · rintro ⟨r,ws,h1,rfl,h2⟩
   exact ⟨r,by rw [e]; exact h1,h2⟩
theorem q_mv {a0 a1} : rops_g P (.mv a0 a1 :: os) ⟨fr,hp⟩ K = (AOp.mv a0 a1).wp P (get fr) hp (contG P os (some a0) fr hp K) := q_gen (fun _ _ _ h => by cases h) (fun _ _ _ h => by cases h)
theorem q_bin {a0 a1 a2 a3} : rops_g P (.bin a0 a1 a2 a3 :: os) ⟨fr,hp⟩ K = (AOp.bin a0 a1 a2 a3).wp P (get fr) hp (contG P os (some a0) fr hp K) := q_gen (fun _ _ _ h => by cases h) (fun _ _ _ h => by cases h)
theorem q_pick {a0 a1 a2 a3} : rops_g P (.pick a0 a1 a2 a3 :: os) ⟨fr,hp⟩ K = (AOp.pick a0 a1 a2 a3).wp P (get fr) hp (contG P os (some a0) fr hp K) := q_gen (fun _ _ _ h => by cases h) (fun _ _ _ h => by cases h)
theorem q_ld {a0 a1 a2 a3} : rops_g P (.ld a0 a1 a2 a3 :: os) ⟨fr,hp⟩ K = (AOp.ld a0 a1 a2 a3).wp P (get fr) hp (contG P os (some a0) fr hp K) := q_gen (fun _ _ _ h => by cases h) (fun _ _ _ h => by cases h)
theorem q_ia {a0 a1 a2 a3} : rops_g P (.ia a0 a1 a2 a3 :: os) ⟨fr,hp⟩ K = (AOp.ia a0 a1 a2 a3).wp P (get fr) hp (contG P os (some a0) fr hp K) := q_gen (fun _ _ _ h => by cases h) (fun _ _ _ h => by cases h)
theorem q_cont {d : Option Nat} {r ws} : contG P os d fr hp K r ws = (ws = [] ∧ rops_g P os ⟨frPut fr d r,hp⟩ K) := rfl
theorem q_nil : rops_g P [] ⟨fr,hp⟩ K = K ⟨fr,hp⟩ := rfl
theorem q_callv {d x args fid first caps} (r : AV) (hx : evF (get fr) x = .fn (.func fid) first caps) (hf : funOK P fid = true) (h : ∀ KK : AV → List HObj → Prop,KK r hp → CallW P fid (first ++ args.map (evF (get fr)) ++ caps) hp KK) (k : rops_g P os ⟨(d,r) :: fr,hp⟩ K) : rops_g P (.callv d x args :: os) ⟨fr,hp⟩ K :=
 ⟨r,⟨fid,first,caps,hx,hf,h _ ⟨rfl,rfl⟩⟩,k⟩
theorem q_grp {os : List AOp} {gs : List Grp} {st : St} : rgrps_g P (⟨none,os⟩ :: gs) st K = rops_g P os st fun st => rgrps_g P gs st K := rfl
theorem q_grp0 {st : St} : rgrps_g P [] st K = K st := rfl
theorem q_true {j : Nat} {b : Bool} {gs : List Grp} (h : get fr j = .v (.bool b)) (k : rops_g P os ⟨fr,hp⟩ fun st => rgrps_g P gs st K) : rgrps_g P (⟨some (j,b),os⟩ :: gs) ⟨fr,hp⟩ K := by
 simp only [rgrps_g,h]
 exact ⟨fun _ => k,fun h => absurd rfl h⟩
theorem q_false {j : Nat} {b c : Bool} {gs : List Grp} (h : get fr j = .v (.bool c)) (hc : c ≠ b) (k : rgrps_g P gs (undefs os ⟨fr,hp⟩) K) : rgrps_g P (⟨some (j,b),os⟩ :: gs) ⟨fr,hp⟩ K := by
 simp only [rgrps_g,h]
 exact ⟨fun h => absurd h hc,fun _ => k⟩
end
attribute [simp] q_mv q_bin q_pick q_ld q_ia q_cont q_nil q_grp q_grp0
end Go.AM

namespace Go.AM
open Go.RowKit
def PurT (x : AV) : Prop := (x.isPure = true ∨ x.scalar = true) ∨ ∃ l,x = .tup l ∧ ∀ y ∈ l,y.isPure = true
theorem callW_agrT {P : Program} {f : FuncId} {xs : List AV} {hp : List HObj} {K : AV → List HObj → Prop} (hm : NoMpp hp) (h : CallW P f xs hp fun x H => Agr hp H ∧ PurT x ∧ K x hp) : CallW P f xs hp K := by
 intro ro n w g vs hok hvs hr
 refine (h ro n w g vs hok hvs hr).mono ?_
 rintro e w' ⟨v,x,H,g',rfl,⟨ha,hx,hK⟩,hrep,hok',hu⟩
 have dom : ∀ id l,g.ρ id = some l → id < hp.length := fun id l hl => by
  rcases Nat.lt_or_ge id hp.length with h | h
  · exact h
  · have := hok.dom id (by simp [hpf,h]); rw [this] at hl; cases hl
 have same : ∀ id,id < hp.length → hpf H id = hpf hp id := fun id hid => by
  have := ha.2 id hid
  rw [nthH_eq,nthH_eq] at this
  exact this
 have ltH : ∀ {id o},hpf hp id = some o → id < hp.length := fun h => hpf_lt h
 have cutρ : ∀ {id},id < hp.length → (g'.cut hp.length).ρ id = g'.ρ id := fun h => by simp [G.cut,h]
 have tr : Trans w g w' (g'.cut hp.length) := ⟨hu.tr.S,hu.tr.cell,fun id l hl => (cutρ (dom id l hl)).trans (hu.tr.ρ id l hl),hu.tr.shp,hu.tr.os,hu.tr.tape,hu.tr.output,hu.tr.size,hu.tr.drawn⟩
 refine ⟨v,x,hp,g'.cut hp.length,rfl,hK,?_,⟨fun id hid => ?_,fun id o ho => ?_,fun id id' o o' c d d' ho ho' hl hl' hr1 hr2 => ?_,hok'.ex,hok'.tab⟩,tr,?_,hu.S,hu.keep⟩
 · rcases hx with hx | ⟨l,rfl,hx⟩
   · rcases hx with hx | hx
     · exact ((pure_rep hx hrep).pure rfl _).of
     · exact scalar_rep hx hrep
   · cases hrep with
     | tup _ _ vs' hl' hr' =>
       refine .tup _ _ vs' hl' fun i hi => ?_
       exact ((pure_rep (hx _ (List.getElem_mem hi)) (hr' i hi)).pure rfl _).of
 · have : ¬ id < hp.length := fun h => by simp [hpf,h] at hid
   simp [G.cut,this]
 · have hlt := ltH ho
   have hoH : hpf H id = some o := (same id hlt).trans ho
   obtain ⟨l,h1,h2⟩ := hok'.rep id o hoH
   obtain ⟨l0,k1,k2⟩ := hok.rep id o ho
   have hl : l = l0 := by have := hu.tr.ρ id l0 k1; rw [h1] at this; exact Option.some.inj this
   subst hl
   refine ⟨l,(cutρ hlt).trans h1,?_⟩
   cases o with
   | gone => cases l <;> trivial
   | cells cs =>
     cases l with
     | virg => exact h2
     | base L => exact h2
     | blk c d =>
       obtain ⟨arr,ty,fz,a1,a2,a3,a4,a5⟩ := h2
       obtain ⟨arr0,ty0,fz0,b1,b2,b3,b4,b5⟩ := k2
       refine ⟨arr,ty,fz,a1,a2,a3,a4,fun i hi => ?_⟩
       obtain ⟨y,c1,c2⟩ := a5 i hi
       obtain ⟨y0,d1,d2⟩ := b5 i hi
       exact ⟨y,c1,rep_cut dom d2 c2⟩
   | mp es clk =>
     cases l with
     | virg => exact h2.elim
     | base L => exact h2.elim
     | blk c d =>
       obtain ⟨ents,a1,a2,a3,a4,a5⟩ := h2
       obtain ⟨ents0,b1,b2,b3,b4,b5⟩ := k2
       refine ⟨ents,a1,a2,a3,a4,fun i hi => ?_⟩
       obtain ⟨e,c1,c2,c3,c4⟩ := a5 i hi
       obtain ⟨e0,d1,d2,d3,d4⟩ := b5 i hi
       exact ⟨e,c1,c2,c3,rep_cut dom d4 c4⟩
   | mpp Φ => exact absurd ((nthH_eq hp id).trans ho) (hm id Φ)
   | it m since seen stepped =>
     cases l with
     | virg => exact h2.elim
     | base L => exact h2.elim
     | blk c d =>
       obtain ⟨mb,a1,a2,a3,a4⟩ := h2
       obtain ⟨mb0,b1,b2,b3,b4⟩ := k2
       exact ⟨mb,a1,(cutρ (dom _ _ b2)).trans a2,a3,a4⟩
   | lp s mk =>
     cases l with
     | virg => exact h2.elim
     | base L => exact h2.elim
     | blk c d =>
       obtain ⟨L,a1,a2,a3,a4⟩ := h2
       obtain ⟨L0,b1,b2,b3,b4⟩ := k2
       exact ⟨L,(cutρ (dom _ _ b1)).trans a1,a2,a3,a4⟩
 · rw [cutρ (ltH ho)] at hr1
   rw [cutρ (ltH ho')] at hr2
   exact hok'.inj id id' o o' c d d' ((same id (ltH ho)).trans ho) ((same id' (ltH ho')).trans ho') hl hl' hr1 hr2
 · rintro c ⟨id,o,d,ho,hl,hr1⟩
   rw [cutρ (ltH ho)] at hr1
   exact hu.live c ⟨id,o,d,(same id (ltH ho)).trans ho,hl,hr1⟩
end Go.AM

namespace Go.AM
open Go.RowKit
def gAll (w : World) : G := ⟨fun b o => ∃ v,w.cell? ⟨b,o,none⟩ = some v,fun _ => none⟩
theorem heapOK_all (w : World) (ht : TabOK (gAll w) w) : HeapOK (fun _ => none) (gAll w) w :=
 ⟨fun _ _ => rfl,fun _ _ h => (by cases h),fun _ _ _ _ _ _ _ h => (by cases h),fun _ _ h => h,ht⟩
def Rd (P : Program) (w : World) (t : TypeId) (Q : List AV → Prop) : Prop :=
 ∀ (H : Type) (enc : TypeId × Value → H) (fuel : Nat) (cs : List Value) (x : DataW H × List MemPlace),DataW.trod enc P w 0 (fun _ => true) true fuel t cs = some x →
   ∃ as : List AV,as.length = cs.length ∧ cs.length = P.cellsOf t ∧ Q as ∧ ∀ i (h : i < as.length),Rep w (gAll w) true as[i] (cs.getD i undef)
section
variable {P : Program} {w : World} {t e : TypeId}
theorem rd_mono {Q Q' : List AV → Prop} (h : Rd P w t Q) (hq : ∀ as,Q as → Q' as) : Rd P w t Q' := fun H enc fuel cs x hx => by
 obtain ⟨as,h1,h2,h3,h4⟩ := h H enc fuel cs x hx
 exact ⟨as,h1,h2,hq _ h3,h4⟩
theorem rd_int {k : IntKind} (ht : P.underlying t = some (.int k)) (hc : P.cellsOf t = 1) : Rd P w t fun as => ∃ n,as = [.v (.int k n)] ∧ (Lit.int k n).wf = true := by
 intro H enc fuel cs x hx
 cases fuel with
 | zero => simp [DataW.trod] at hx
 | succ m =>
   unfold DataW.trod at hx
   rw [ht] at hx
   split at hx <;> simp_all
   obtain ⟨⟨rfl,hw⟩,_⟩ := hx
   exact ⟨[.v (.int _ _)],rfl,⟨_,rfl,hw⟩,fun i hi => by
    have : i = 0 := by simpa using hi
    subst this; exact .v _ _⟩
theorem flatten_get {α : Type} {sz : Nat} : ∀ {els : List (List α)}, (∀ x ∈ els, x.length = sz) → ∀ (i : Nat), els.flatten[i]? = (els[i / sz]?).bind fun x => x[i % sz]?
 | [],_,i => by simp
 | x :: els, h, i => by
   have hx : x.length = sz := h x (by simp)
   rw [List.flatten_cons]
   by_cases hi : i < sz
   · rw [List.getElem?_append_left (by omega),Nat.div_eq_of_lt hi,Nat.mod_eq_of_lt hi]; simp
   · by_cases hz : sz = 0
     · subst hz
       have : ∀ (l : List (List α)),(∀ x ∈ l,x.length = 0) → l.flatten = [] := fun l hl => by
        rw [List.flatten_eq_nil_iff]; intro y hy; exact List.eq_nil_of_length_eq_zero (hl y hy)
       have e := this (x :: els) h
       rw [List.flatten_cons] at e
       rw [e]; simp; omega
     · rw [List.getElem?_append_right (by omega),hx,flatten_get (fun y hy => h y (by simp [hy]))]
       have e1 : i / sz = (i - sz) / sz + 1 := by
        have := Nat.div_eq_sub_div (b := sz) (a := i) (by omega) (by omega)
        exact this
       have e2 : i % sz = (i - sz) % sz := by rw [Nat.mod_eq_sub_mod (by omega)]
       rw [e1,e2]; simp
theorem flatten_len {α : Type} {sz : Nat} : ∀ {els : List (List α)},(∀ x ∈ els,x.length = sz) → els.flatten.length = els.length * sz
 | [],_ => by simp
 | x :: els,h => by
   rw [List.flatten_cons,List.length_append,flatten_len (fun y hy => h y (by simp [hy])),h x (by simp),List.length_cons,Nat.succ_mul]; omega
theorem choose_list {α : Type} {p : Nat → α → Prop} : ∀ {n : Nat},(∀ i,i < n → ∃ a,p i a) → ∃ l : List α,l.length = n ∧ ∀ i (h : i < l.length),p i l[i]
 | 0,_ => ⟨[],rfl,fun i h => by simp at h⟩
 | n + 1, h => by
   obtain ⟨l,h1,h2⟩ := choose_list (fun i hi => h i (Nat.lt_succ_of_lt hi))
   obtain ⟨a,ha⟩ := h n (Nat.lt_succ_self n)
   refine ⟨l ++ [a],by simp [h1],fun i hi => ?_⟩
   by_cases e : i < l.length
   · rw [List.getElem_append_left e]; exact h2 i e
   · have : i = n := by simp at hi; omega
     subst this
     rw [List.getElem_append_right (by omega)]
     simpa [h1] using ha
theorem addr_at (a : Addr) (h : a.spot = none) (n : Nat) : a.add n = ⟨a.block,a.off + n,none⟩ := by
 unfold Addr.add
 split
 · rename_i e; subst e; cases a; simp at h; subst h; rfl
 · rfl
theorem rd_slice {sz : Nat} {Q : List AV → Prop} (ht : P.underlying t = some (.slice e)) (hc : P.cellsOf t = 1) (hz : P.cellsOf e = sz) (h0 : 0 < sz) (he : Rd P w e Q) :
 Rd P w t fun as => ∃ els : List (List AV),(∀ x ∈ els,x.length = sz ∧ Q x) ∧ as = [.sl false els.length els.flatten] ∧ els.length ≤ maxLen := by
 intro H enc fuel cs x hx
 rcases Go.Deep.open_slice ht hx with ⟨rfl,rfl⟩ | ⟨a,len,cap,m,n,D,Pl,rfl,hb,hl,hm,hmm,rfl,hel⟩
 · refine ⟨[.sl false 0 []],rfl,by simp [hc],⟨[],fun x h => by simp at h,rfl,Nat.zero_le _⟩,fun i hi => ?_⟩
   have : i = 0 := by simpa using hi
   subst this
   exact .sl _ _ _ _ _ _ (fun _ => undef) (Nat.le_refl _) (fun h => by cases h) (fun i hi => by simp at hi) (fun i hi => by simp at hi)
 · simp only [if_true] at hmm
   subst hmm
   rw [hz] at hel
   have hel' : ∀ i,i < len → ∃ q : List AV × List Value,q.1.length = sz ∧ Q q.1 ∧ w.cells? 0 (a.add (i * sz)) sz = some q.2 ∧ q.2.length = sz ∧ ∀ j (h : j < q.1.length),Rep w (gAll w) true q.1[j] (q.2.getD j undef) := fun i hi => by
    obtain ⟨cs',h1,h2⟩ := hel i (by omega)
    obtain ⟨as,k1,k2,k3,k4⟩ := he H enc _ _ _ h2
    exact ⟨(as,cs'),by simp only; omega,k3,h1,by simp only; omega,k4⟩
   obtain ⟨qs,q1,q2⟩ := choose_list hel'
   have hlen : ∀ x ∈ qs.map (·.1),x.length = sz := fun x hx => by
    obtain ⟨q,hq,rfl⟩ := List.mem_map.1 hx
    obtain ⟨i,hi,rfl⟩ := List.getElem_of_mem hq
    exact (q2 i hi).1
   refine ⟨[.sl false len (qs.map (·.1)).flatten],rfl,by simp [hc],⟨qs.map (·.1),fun x hx => ?_,by simp [q1],by simp [q1]; omega⟩,fun i hi => ?_⟩
   · obtain ⟨q,hq,rfl⟩ := List.mem_map.1 hx
     obtain ⟨i,hi,rfl⟩ := List.getElem_of_mem hq
     exact ⟨(q2 i hi).1,(q2 i hi).2.1⟩
   · have : i = 0 := by simpa using hi
     subst this
     have fl := flatten_len hlen
     simp only [List.length_map,q1] at fl
     have cell : ∀ i,i < len * sz → ∃ v,a.spot = none ∧ w.cell? ⟨a.block,a.off + i,none⟩ = some v ∧ ∃ x,(qs.map (·.1)).flatten[i]? = some x ∧ Rep w (gAll w) true x v := fun i hi => by
      have hd : i / sz < len := by rw [Nat.div_lt_iff_lt_mul h0]; exact hi
      have hmo : i % sz < sz := Nat.mod_lt _ h0
      have hlen0 : 0 < len := Nat.lt_of_le_of_lt (Nat.zero_le _) hd
      obtain ⟨r1,r2,r3,r4,r5⟩ := q2 (i / sz) (by omega)
      obtain ⟨_,c2,c3⟩ := World.cells?_some r3
      have c4 := c3 (i % sz) hmo
      rw [List.getElem?_eq_getElem (by omega)] at c4
      have hsp0 : a.spot = none := by
       have c5 := (q2 0 (by omega)).2.2.1
       obtain ⟨_,d2,d3⟩ := World.cells?_some c5
       have d4 := d3 0 h0
       rw [List.getElem?_eq_getElem (by omega)] at d4
       have := World.cell?_spot d4
       simpa [Addr.add] using this
      rw [Deep.add_add,addr_at a hsp0] at c4
      have e1 : i / sz * sz + i % sz = i := by rw [Nat.mul_comm]; exact Nat.div_add_mod i sz
      rw [e1] at c4
      refine ⟨_,hsp0,c4,(qs[i / sz]'(by omega)).1[i % sz]'(by omega),?_,?_⟩
      · rw [flatten_get hlen]
        simp [show i / sz < qs.length by omega,show i % sz < (qs[i / sz]'(by omega)).1.length by omega]
      · have := r5 (i % sz) (by omega)
        simpa [show i % sz < (qs[i / sz]'(by omega)).2.length by omega] using this
     refine .sl _ _ _ _ (some a) m (fun i => (w.cell? ⟨a.block,a.off + i,none⟩).getD undef) hl (fun h => by cases h) (fun i hi => ?_) (fun i hi => ?_)
     · obtain ⟨v,s1,s2,_⟩ := cell i (by omega)
       exact ⟨a,rfl,s1,⟨v,s2⟩,by rw [s2]; rfl⟩
     · obtain ⟨v,s1,s2,x,s3,s4⟩ := cell i (by omega)
       simp only [s2,Option.getD_some]
       rw [List.getElem?_eq_getElem hi] at s3
       cases s3; exact s4
theorem rd_struct2 {c0 c1 : Nat} {f0 f1 : Field} {Q0 Q1 : List AV → Prop} (ht : P.underlying t = some (.struct #[f0,f1])) (hc : P.cellsOf t = c0 + c1) (ho0 : f0.offset = 0) (ho1 : f1.offset = c0) (hz0 : P.cellsOf f0.type = c0) (hz1 : P.cellsOf f1.type = c1)
 (h0 : Rd P w f0.type Q0) (h1 : Rd P w f1.type Q1) : Rd P w t fun as => ∃ a0 a1,a0.length = c0 ∧ a1.length = c1 ∧ as = a0 ++ a1 ∧ Q0 a0 ∧ Q1 a1 := by
 intro H enc fuel cs x hx
 obtain ⟨xs,n,_,rfl,hl,hn,hf⟩ := DataW.trod_struct ht hx
 have hn' : xs.length = 2 := hn
 have k0 := hf 0 f0 rfl
 have k1 := hf 1 f1 rfl
 rw [List.getElem?_eq_getElem (by omega)] at k0 k1
 obtain ⟨a0,p1,p2,p3,p4⟩ := h0 H enc _ _ _ k0
 obtain ⟨a1,q1,q2,q3,q4⟩ := h1 H enc _ _ _ k1
 rw [hz0] at p1 p2 p4
 rw [hz1] at q1 q2 q4
 rw [ho0] at p1 p2 p4
 rw [ho1] at q1 q2 q4
 refine ⟨a0 ++ a1,by rw [List.length_append]; omega,hl,⟨a0,a1,by omega,by omega,rfl,p3,q3⟩,fun i hi => ?_⟩
 rw [List.length_append] at hi
 by_cases h : i < a0.length
 · rw [List.getElem_append_left h]
   have := p4 i h
   simpa [List.getD,List.getElem?_take,List.getElem?_drop,show i < c0 by omega] using this
 · rw [List.getElem_append_right (by omega)]
   have := q4 (i - a0.length) (by omega)
   have e : c0 + (i - a0.length) = i := by omega
   simpa [List.getD,List.getElem?_take,List.getElem?_drop,show i - a0.length < c1 by omega,e] using this
theorem arg_one {H : Type} {enc : TypeId × Value → H} {Q : List AV → Prop} {v : Value} {d : DataW H} {p : List MemPlace} (hr : Rd P w t Q) (hv : v.cells = #[v]) (h : DataW.Trod enc P w 0 (fun _ => true) true t v d p) : ∃ x,Q [x] ∧ Rep w (gAll w) true x v := by
 obtain ⟨fuel,hf⟩ := h
 obtain ⟨as,h1,_,h2,h3⟩ := hr H enc _ _ _ hf
 rw [hv] at h1 h3
 match as,h1 with
 | [x],_ => exact ⟨x,h2,by simpa using h3 0 (by simp)⟩
theorem arg_agg {H : Type} {enc : TypeId × Value → H} {Q : List AV → Prop} {cs : Array Value} {d : DataW H} {p : List MemPlace} (hr : Rd P w t Q) (h : DataW.Trod enc P w 0 (fun _ => true) true t (.agg cs) d p) : ∃ as,Q as ∧ Rep w (gAll w) true (.agg as) (.agg cs) := by
 obtain ⟨fuel,hf⟩ := h
 obtain ⟨as,h1,_,h2,h3⟩ := hr H enc _ _ _ hf
 refine ⟨as,h2,?_⟩
 have e : cs = cs.toList.toArray := by simp
 rw [e]
 exact .agg _ as cs.toList (by simpa [Value.cells] using h1.symm) (fun i hi => by simpa [Value.cells] using h3 i hi)
theorem calls_true {f : FuncId} {xs : List AV} {vs : Array Value} (ht : TabOK (gAll w) w) (h : PureOK P f xs (B true)) (hn : vs.size = xs.length) (hr : ∀ i (h : i < xs.length),Rep w (gAll w) true xs[i] (vs.getD i undef)) :
 Calls P f vs w fun e w' => e = .returned (.bool true) ∧ Below w.heap.size w w' := by
 have h1 := h none 0 w (gAll w) vs (heapOK_all w ht) hn hr
 have h2 : CallsIn Fence.wide 0 P f vs w _ := h1
 refine (callsIn_wide.1 h2).mono fun e w' ⟨v,g',e1,e2,e3,e4⟩ => ?_
 subst e1
 have ev : v = .bool true := by cases e2; rfl
 subst ev
 refine ⟨rfl,e4.tr.os,e4.tr.tape,e4.tr.output,e4.tr.size,fun k hk => e4.keep k hk ?_⟩
 rintro ⟨id,o,d,ho,_⟩
 cases ho
end
end Go.AM
