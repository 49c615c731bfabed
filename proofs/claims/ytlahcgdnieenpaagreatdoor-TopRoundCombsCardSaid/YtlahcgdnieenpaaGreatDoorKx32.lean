/-
  Kx32: Cl1. Own work.
-/
import Derived.Test.YtlahcgdnieenpaaGreatDoorCards
import Derived.Test.YtlahcgdnieenpaaGreatDoorChecked
import Derived.ProofKit
import Derived.OpenShut
import Derived.ChangeOld
import Derived.Below
import Derived.SevenTiedAt

set_option linter.all false
namespace Go.Proofs.YtlahcgdnieenpaaGreatDoor.Facts
open Go Go.ChangeShapes Go.WideShapes Go.ChangeAt Go.RowKit
theorem Yl {f:Nat->Bool} {a n:Nat} (h:(List.range' a n).all f=true) {t:Nat} (h1:a<=t) (h2:t<a+n):f t=true:=List.all_eq_true.1 h t (List.mem_range'_1.2 ⟨h1,h2⟩)
theorem l0:(List.range' 0 100).all (rowFine Tryz.prog)=true:=by kernel_rfl
theorem qEw:(List.range' 100 100).all (rowFine Tryz.prog)=true:=by kernel_rfl
theorem qEx:(List.range' 200 100).all (rowFine Tryz.prog)=true:=by kernel_rfl
theorem qEy:(List.range' 300 100).all (rowFine Tryz.prog)=true:=by kernel_rfl
theorem qEz:(List.range' 400 100).all (rowFine Tryz.prog)=true:=by kernel_rfl
theorem qEA:(List.range' 500 100).all (rowFine Tryz.prog)=true:=by kernel_rfl
theorem qEB:(List.range' 600 100).all (rowFine Tryz.prog)=true:=by kernel_rfl
theorem qEC:(List.range' 700 51).all (rowFine Tryz.prog)=true:=by kernel_rfl
theorem lg:(Tryz.prog.globals.all (fun g=>decide (g.type<Tryz.prog.types.size)))=true:=by kernel_rfl
theorem lf:(Tryz.prog.funcs.all (fun f=>f.params.all fun t=>decide (t<Tryz.prog.types.size)))=true:=by kernel_rfl
theorem lsz:Tryz.prog.types.size=751:=by kernel_rfl
theorem laidOut:laidOutB Tryz.prog=true:=by
 unfold laidOutB;rw [lg,lf,lsz];simp only [Bool.and_true];refine List.all_eq_true.2 fun t ht=>?_;have h:=List.mem_range.1 ht;by_cases h0:t<100;· exact Yl l0 (by omega) (by omega)
 by_cases h100:t<200;· exact Yl qEw (by omega) (by omega)
 by_cases h200:t<300;· exact Yl qEx (by omega) (by omega)
 by_cases h300:t<400;· exact Yl qEy (by omega) (by omega)
 by_cases h400:t<500;· exact Yl qEz (by omega) (by omega)
 by_cases h500:t<600;· exact Yl qEA (by omega) (by omega)
 by_cases h600:t<700;· exact Yl qEB (by omega) (by omega)
 exact Yl qEC (by omega) (by omega)
end Go.Proofs.YtlahcgdnieenpaaGreatDoor.Facts
