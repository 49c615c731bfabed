/-
  Px32: Cl1. Own work.
-/
import Derived.Test.YtlahcgdnieenpaaGreatDoorCards
import Derived.Test.YtlahcgdnieenpaaGreatDoorChecked
import Derived.ProofKit
import Derived.OpenShut
import Derived.ChangeOld
import Derived.Below
import Derived.SevenTiedAt

set_option linter.all false
namespace Go.Proofs.YtlahcgdnieenpaaGreatDoor.Facts
open Go Go.ChangeShapes Go.WideShapes Go.ChangeAt Go.RowKit Go.Proofs.Tryz
theorem Xe {f:Nat->Bool} {a n:Nat} (h:(List.range' a n).all f=true) {t:Nat} (u:a<=t) (v:t<a+n):f t=true:=List.all_eq_true.1 h t (List.mem_range'_1.2 ⟨u,v⟩)
theorem l0:(List.range' 0 100).all (rowFine prog)=true:=by kernel_rfl
theorem qlI:(List.range' 100 100).all (rowFine prog)=true:=by kernel_rfl
theorem qlJ:(List.range' 200 100).all (rowFine prog)=true:=by kernel_rfl
theorem qlK:(List.range' 300 100).all (rowFine prog)=true:=by kernel_rfl
theorem qlL:(List.range' 400 100).all (rowFine prog)=true:=by kernel_rfl
theorem qlM:(List.range' 500 100).all (rowFine prog)=true:=by kernel_rfl
theorem qlN:(List.range' 600 100).all (rowFine prog)=true:=by kernel_rfl
theorem qlO:(List.range' 700 51).all (rowFine prog)=true:=by kernel_rfl
theorem lg:(prog.globals.all (fun g=>decide (g.type<prog.types.size)))=true:=by kernel_rfl
theorem lf:(prog.funcs.all (fun f=>f.params.all fun t=>decide (t<prog.types.size)))=true:=by kernel_rfl
theorem lsz:prog.types.size=751:=by kernel_rfl
theorem laidOut:laidOutB prog=true:=by
 unfold laidOutB;rw [lg,lf,lsz];simp only [Bool.and_true];refine List.all_eq_true.2 fun t q=>?_;have h:=List.mem_range.1 q;by_cases g:t<100;· exact Xe l0 (by omega) (by omega)
 by_cases u:t<200;· exact Xe qlI (by omega) (by omega)
 by_cases v:t<300;· exact Xe qlJ (by omega) (by omega)
 by_cases j:t<400;· exact Xe qlK (by omega) (by omega)
 by_cases z:t<500;· exact Xe qlL (by omega) (by omega)
 by_cases y:t<600;· exact Xe qlM (by omega) (by omega)
 by_cases o:t<700;· exact Xe qlN (by omega) (by omega)
 exact Xe qlO (by omega) (by omega)
end Go.Proofs.YtlahcgdnieenpaaGreatDoor.Facts
