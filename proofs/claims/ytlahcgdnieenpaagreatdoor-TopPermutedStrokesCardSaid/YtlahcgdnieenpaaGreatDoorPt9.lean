/-
  Pt9: texts joined: ArT Cl4 ArP. Own work.
-/
import Derived.Test.YtlahcgdnieenpaaGreatDoorPt8
import Derived.Test.YtlahcgdnieenpaaGreatDoorRows
import Derived.Lib.LaidTab
import Derived.Stop.LaidErr
import Derived.Deep.DeepHandedRow
import Derived.Test.YtlahcgdnieenpaaGreatDoorCards
import Derived.Test.YtlahcgdnieenpaaGreatDoorChecked
import Derived.ProofKit
import Derived.OpenShut
import Derived.ChangeOld
import Derived.Below
import Derived.SevenTiedAt
set_option linter.all false
set_option linter.unusedSimpArgs false
set_option linter.unusedVariables false
set_option linter.unusedSectionVars false

namespace Go.AM
open Go.RowKit Go.Proofs
theorem rd5 {w:World}:RdT Tryz.prog w 5 fun x=>∃ n,x=[.v (.int .u8 n)]/\0<=n/\n<256:=PI (sH Tryz.underlying5 (by kernel_rfl)) fun x ⟨n,h,u⟩=>⟨n,h,by simp [Lit.wf,IntKind.min,IntKind.max,IntKind.signed,IntKind.bits] at u;omega⟩
theorem Do {W:World} {n:String} {g:Nat} {c:Array Value} (u:Tryz.prog.globalNamed n=some g) (h:W.var? Tryz.prog n=some c):∃ (a:Array Value) (t:TypeId) (f:Nat×Nat),W.heap[g]?=some (.cells a t f)/\a.size=c.size:=by
 unfold World.var? at h;rw [u] at h;simp only [Option.bind_some] at h;split at h
 . rename_i x C c2 c3 v;cases h;exact ⟨_,_,_,v,rfl⟩
 cases h
theorem qbO {W : World} {l : List (String × DataW Unit)} (m : l = [("math/bits.deBruijn32tab", YtlahcgdnieenpaaGreatDoor.Rows.laid_math_bits_deBruijn32tab), ("math/bits.deBruijn64tab", YtlahcgdnieenpaaGreatDoor.Rows.laid_math_bits_deBruijn64tab)]) (h : laidMet Tryz.prog l W) : TabOK (Lg W) W := by
 subst m;have s:=laidMet.tail h
 have v : Tryz.prog.globalNamed "math/bits.deBruijn64tab" = some 1 := by kernel_rfl
 have a : Lib.TabIs Tryz.prog W "math/bits.deBruijn64tab" .u8 (Lib.deBruijn64tab.map fun z : Nat => (z : Int)) := Lib.tabIs_of_head (g := 1) (t := 367) (e := 5) (n := 64) v (by kernel_rfl) (by kernel_rfl) (by kernel_rfl) (by kernel_rfl) (by kernel_rfl) s
 intro t o;simp only [qkL,sg,qoX,or_false] at o;subst o;obtain ⟨A,T,f,E,q⟩:=Do v a;refine ⟨⟨A,T,f,E,by rw [q];rfl⟩,fun i y=>?_⟩;have u:i<(Lib.deBruijn64tab.map fun z:Nat=>(z:Int)).length:=y;have c:=a.cell v i u;have j:i<Lib.deBruijn64tab.length:=y;have b:(Lib.deBruijn64tab.map fun z:Nat=>(z:Int)).getD i 0=((Lib.deBruijn64tab.getD i 0:Nat):Int):=by rw [qmp,Wd u,qmv,qmp,Wd j];rfl
 exact ⟨⟨_,c⟩,_,c,qnH (Value.int .u8) b⟩
end Go.AM

namespace Go.Proofs.YtlahcgdnieenpaaGreatDoor.Facts
open Go Go.ChangeShapes Go.WideShapes Go.ChangeAt Go.RowKit
theorem t1:Rows.topPermutedStrokesRow.wfByText (OpenSpec.ofChange Rows.topPermutedStrokesSpec)=true:=by kernel_rfl
theorem t2 : Tryz.prog.mainIs = some (true, "ad380be4d3f95229a2cc48498b3d3b203099f129e3b0ef10760ca3cbb8ed0dc2".toList) := by kernel_rfl
theorem t3:false=Tryz.prog.looks []:=by kernel_rfl
theorem t4_37:Tryz.prog.wantsStandIn 37=false:=by kernel_rfl
theorem t4_38:Tryz.prog.wantsStandIn 38=false:=by kernel_rfl
theorem t6:Tryz.prog.funcNamed Rows.topPermutedStrokesRow.func=some 4:=by kernel_rfl
end Go.Proofs.YtlahcgdnieenpaaGreatDoor.Facts

namespace Go.AM
open Go.RowKit Go.Proofs
variable {w:World}
theorem Lq {P:Program} {r:Reach} {b:Nat} {t e:TypeId} {v:Value} {n:Nat} (z:P.underlying t=some (.array n e)) (h:Value.okWide P w r b t v):∃ c,v = .agg c/\c.size=P.cellsOf t:=by simp only [Value.okWide,z] at h;obtain ⟨c,u,j,_⟩:=h;exact ⟨c,u,j⟩
theorem FI:∀ {els:List (List AV)},(∀ x∈els,x.length=1/\∃ n,x=[.v (.int .u8 n)]/\0<=n/\n<256)->∃ l:List Int,l.length=els.length/\els.flatten=(l.map fun n=>Ub n)/\∀ n∈l,0<=n/\n<=255
 | [],_=>⟨[],rfl,rfl,fun a h=>by cases h⟩
 | x::els,h=>by
   obtain ⟨l,v,j,z⟩:=FI (els:=els) (fun y o=>h y (by simp [o]));obtain ⟨_,a,rfl,q⟩:=h x (by simp)
   exact ⟨a::l,by simp [v],by rw [qoR,j];rfl,fun b u=>by
    rcases sg.1 u with rfl | u
    . omega
    exact z b u⟩
theorem qkT :RdT Tryz.prog w 37 fun x=>∃ l:List Int,x=[Ubs false l]/\∀ n∈l,0<=n/\n<=255 :=
 PI (vW (sz:=1) (e:=5) (by kernel_rfl) (by kernel_rfl) (by kernel_rfl) (by omega) rd5) fun x ⟨E,h,u,j⟩=>by obtain ⟨l,k,K,v⟩:=FI h;exact ⟨l,by rw [u,K,<-k],v⟩
theorem qlY :RdT Tryz.prog w 38 fun x=>∃ l:List Int,x=(l.map fun n=>Ub n)/\l.length=6/\∀ n∈l,0<=n/\n<=255 :=
 PI (vV (n:=6) (sz:=1) (e:=5) (by kernel_rfl) (by kernel_rfl) (by kernel_rfl) (by omega) rd5) fun x ⟨E,h,u,v⟩=>by obtain ⟨l,k,K,j⟩:=FI u;exact ⟨l,by rw [v,K],by rw [k,h],j⟩
end Go.AM
