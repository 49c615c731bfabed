/-
  Px33: Cl2. Own work.
-/
import Derived.Test.YtlahcgdnieenpaaGreatDoorCards
import Derived.Test.YtlahcgdnieenpaaGreatDoorChecked
import Derived.ProofKit
import Derived.OpenShut
import Derived.ChangeOld
import Derived.Below
import Derived.SevenTiedAt

set_option linter.all false
namespace Go.Proofs.YtlahcgdnieenpaaGreatDoor.Facts
open Go Go.ChangeShapes Go.WideShapes Go.ChangeAt Go.RowKit
theorem c0:(Rows.topPermutedStrokesRow.wf (OpenSpec.ofChange (OpenSpec.ofChange Rows.topPermutedStrokesSpec).bare))=true:=by kernel_rfl
theorem c2:(mapsRowed Tryz.prog)=true:=by kernel_rfl
theorem c3:(Tryz.f4.params.all (Tryz.prog.readableRec ·))=true:=by kernel_rfl
theorem c4:(namedTie Tryz.prog Rows.topPermutedStrokesRow.named (OpenSpec.ofChange Rows.topPermutedStrokesSpec).bare.vars)=true:=by kernel_rfl
theorem c5:((Rows.topPermutedStrokesRow.stops==[]))=true:=by kernel_rfl
theorem c6:((Tryz.prog.stops==[]))=true:=by kernel_rfl
theorem c7:((Rows.topPermutedStrokesRow.knobs==[]))=true:=by kernel_rfl
theorem c8:((Tryz.prog.stopKnobs==[]))=true:=by kernel_rfl
theorem c13:((Rows.topPermutedStrokesRow.maps==(Tryz.f4.params.toList++(OpenSpec.ofChange Rows.topPermutedStrokesSpec).bare.plain.varTypes Tryz.prog).any (Tryz.prog.mapsRec ·)))=true:=by kernel_rfl
theorem c14:((Rows.topPermutedStrokesRow.ifaces==(Tryz.f4.params.toList++(OpenSpec.ofChange Rows.topPermutedStrokesSpec).bare.plain.varTypes Tryz.prog).any (Tryz.prog.ifacesRec ·)))=true:=by kernel_rfl
theorem c15:((Rows.topPermutedStrokesRow.mapsOut==Tryz.prog.mapsAmong Tryz.f4.resultTypes.toList))=true:=by kernel_rfl
theorem c16:((Rows.topPermutedStrokesRow.loops==(Tryz.f4.params.toList++(OpenSpec.ofChange Rows.topPermutedStrokesSpec).bare.plain.varTypes Tryz.prog).any (Tryz.prog.loopsFrom ·)))=true:=by kernel_rfl
theorem c17:((Rows.topPermutedStrokesRow.wideKeys==(Tryz.f4.params.toList++(OpenSpec.ofChange Rows.topPermutedStrokesSpec).bare.plain.varTypes Tryz.prog++Tryz.f4.resultTypes.toList).any (Tryz.prog.wideKeysFrom ·)))=true:=by kernel_rfl
theorem c18:((OpenSpec.ofChange Rows.topPermutedStrokesSpec).bare.vars.all (Tryz.prog.varReadable ·))=true:=by kernel_rfl
theorem c19:(Tryz.f4.resultTypes.all (fun t=>Tryz.prog.readableRec t&&decide (t<Tryz.prog.types.size)))=true:=by kernel_rfl
theorem c20:((Rows.topPermutedStrokesRow.ifacesOut==Tryz.f4.resultTypes.toList.any (Tryz.prog.ifacesRec ·)))=true:=by kernel_rfl
theorem c21:((Rows.topPermutedStrokesRow.loopsOut==Tryz.f4.resultTypes.toList.any (Tryz.prog.loopsFrom ·)))=true:=by kernel_rfl
theorem c22:((Rows.topPermutedStrokesRow.plainKeys==Tryz.prog.plainKeys))=true:=by kernel_rfl
theorem c23:(Rows.topPermutedStrokesRow.shortTexts.isNone)=true:=by kernel_rfl
theorem c24:(Tryz.prog.stopsHeard)=true:=by kernel_rfl
theorem c25:(Tryz.prog.mayEnter)=true:=by kernel_rfl
theorem c26:((Rows.topPermutedStrokesRow.lifted==Tryz.prog.liftsFinal))=true:=by kernel_rfl
theorem c27:((Tryz.prog.make==some Rows.topPermutedStrokesRow.make))=true:=by kernel_rfl
theorem c28:((Rows.topPermutedStrokesRow.kinds==(if Rows.topPermutedStrokesRow.domain.isEmpty then [] else Tryz.f4.params.toList.map fun t=>match Tryz.prog.underlying t with | some (.int k)=>some k | _=>none)))=true:=by kernel_rfl
theorem c29:((Rows.topPermutedStrokesRow.pinned==Rows.topPermutedStrokesRow.pinnedBy))=true:=by kernel_rfl
theorem c30:((Rows.topPermutedStrokesRow.veiled==(Tryz.f4.params.toList++(OpenSpec.ofChange Rows.topPermutedStrokesSpec).bare.plain.varTypes Tryz.prog++Tryz.f4.resultTypes.toList).any (Tryz.prog.veiledRec ·)))=true:=by kernel_rfl
theorem c31:(Rows.topPermutedStrokesRow.veiledFits Tryz.prog Tryz.f4.params.toList (Tryz.f4.params.toList++(OpenSpec.ofChange Rows.topPermutedStrokesSpec).bare.plain.varTypes Tryz.prog++Tryz.f4.resultTypes.toList))=true:=by kernel_rfl
end Go.Proofs.YtlahcgdnieenpaaGreatDoor.Facts
