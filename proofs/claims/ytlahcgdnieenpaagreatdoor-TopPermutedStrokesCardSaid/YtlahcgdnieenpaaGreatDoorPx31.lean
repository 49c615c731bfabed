/-
  Px31: TieS. Own work.
-/
import Derived.Test.YtlahcgdnieenpaaGreatDoorRows
import Derived.LaidByTextLater
import Derived.SevenTiedAt

namespace Go.Proofs.YtlahcgdnieenpaaGreatDoor.Own
open Go
abbrev LD : List (String × DataW Unit) := [("math/bits.deBruijn32tab", Rows.laid_math_bits_deBruijn32tab), ("math/bits.deBruijn64tab", Rows.laid_math_bits_deBruijn64tab)]
theorem f1:Tryz.prog.worded (varsWordLater true)=true:=by kernel_rfl
theorem f2:Tryz.prog.worded (varsWordLater !true)=false:=by kernel_rfl
theorem f3:Tryz.prog.worded rootWordLater=true:=by kernel_rfl
theorem f4:LD.map (fun x=>Tryz.prog.kindOfLater x.1)=[LaidKind.data,LaidKind.data].map some:=by kernel_rfl
theorem f5 : (Tryz.prog.funcNamed "gosem.cut.vars").isSome = true := by kernel_rfl
theorem f6:varsNamedLaterB Tryz.prog (varsId Tryz.prog) LD=true:=by kernel_rfl
theorem f7:∀ o t,varsDone Tryz.prog 400 (varsId Tryz.prog) o t=true:=fun _ _=>by kernel_rfl
theorem f8:∀ o t,(DataW.laidRun Tryz.prog (varsWorld Tryz.prog 400 (varsId Tryz.prog) o t).memory 8 (LD.map (·.1))).map (·.1)=some LD:=fun _ _=>by kernel_rfl
theorem f9:∀ o t,(DataW.laidRun Tryz.prog (varsWorld Tryz.prog 400 (varsId Tryz.prog) o t).memory 8 (LD.map (·.1))).map (fun x=>decide x.2.Nodup&&laidRowsB Tryz.prog (varsWorld Tryz.prog 400 (varsId Tryz.prog) o t).memory x.2)=some true:=fun _ _=>by kernel_rfl
theorem tie:Tryz.prog.laidByTextLater LD [.data,.data] true:=Program.laidByTextLater_by_run 400 8 f1 f2 f3 f4 f5 f6 f7 f8 f9
end Go.Proofs.YtlahcgdnieenpaaGreatDoor.Own
