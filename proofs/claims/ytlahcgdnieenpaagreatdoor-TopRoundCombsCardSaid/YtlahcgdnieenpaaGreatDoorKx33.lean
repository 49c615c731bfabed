/-
  Kx33: Cl2. Own work.
-/
import Derived.Test.YtlahcgdnieenpaaGreatDoorCards
import Derived.Test.YtlahcgdnieenpaaGreatDoorChecked
import Derived.ProofKit
import Derived.OpenShut
import Derived.ChangeOld
import Derived.Below
import Derived.SevenTiedAt

set_option linter.all false
namespace Go.Proofs.YtlahcgdnieenpaaGreatDoor.Facts
open Go Go.ChangeShapes Go.WideShapes Go.ChangeAt Go.RowKit
theorem c0:(Rows.topRoundCombsRow.wf (OpenSpec.ofChange (OpenSpec.ofChange Rows.topRoundCombsSpec).bare))=true:=by kernel_rfl
theorem c2:(mapsRowed Tryz.prog)=true:=by kernel_rfl
theorem c3:(Tryz.f3.params.all (Tryz.prog.readableRec ·))=true:=by kernel_rfl
theorem c4:(namedTie Tryz.prog Rows.topRoundCombsRow.named (OpenSpec.ofChange Rows.topRoundCombsSpec).bare.vars)=true:=by kernel_rfl
theorem c5:((Rows.topRoundCombsRow.stops==[]))=true:=by kernel_rfl
theorem c6:((Tryz.prog.stops==[]))=true:=by kernel_rfl
theorem c7:((Rows.topRoundCombsRow.knobs==[]))=true:=by kernel_rfl
theorem c8:((Tryz.prog.stopKnobs==[]))=true:=by kernel_rfl
theorem c13:((Rows.topRoundCombsRow.maps==(Tryz.f3.params.toList++(OpenSpec.ofChange Rows.topRoundCombsSpec).bare.plain.varTypes Tryz.prog).any (Tryz.prog.mapsRec ·)))=true:=by kernel_rfl
theorem c14:((Rows.topRoundCombsRow.ifaces==(Tryz.f3.params.toList++(OpenSpec.ofChange Rows.topRoundCombsSpec).bare.plain.varTypes Tryz.prog).any (Tryz.prog.ifacesRec ·)))=true:=by kernel_rfl
theorem c15:((Rows.topRoundCombsRow.mapsOut==Tryz.prog.mapsAmong Tryz.f3.resultTypes.toList))=true:=by kernel_rfl
theorem c16:((Rows.topRoundCombsRow.loops==(Tryz.f3.params.toList++(OpenSpec.ofChange Rows.topRoundCombsSpec).bare.plain.varTypes Tryz.prog).any (Tryz.prog.loopsFrom ·)))=true:=by kernel_rfl
theorem c17:((Rows.topRoundCombsRow.wideKeys==(Tryz.f3.params.toList++(OpenSpec.ofChange Rows.topRoundCombsSpec).bare.plain.varTypes Tryz.prog++Tryz.f3.resultTypes.toList).any (Tryz.prog.wideKeysFrom ·)))=true:=by kernel_rfl
theorem c18:((OpenSpec.ofChange Rows.topRoundCombsSpec).bare.vars.all (Tryz.prog.varReadable ·))=true:=by kernel_rfl
theorem c19:(Tryz.f3.resultTypes.all (fun t=>Tryz.prog.readableRec t&&decide (t<Tryz.prog.types.size)))=true:=by kernel_rfl
theorem c20:((Rows.topRoundCombsRow.ifacesOut==Tryz.f3.resultTypes.toList.any (Tryz.prog.ifacesRec ·)))=true:=by kernel_rfl
theorem c21:((Rows.topRoundCombsRow.loopsOut==Tryz.f3.resultTypes.toList.any (Tryz.prog.loopsFrom ·)))=true:=by kernel_rfl
theorem c22:((Rows.topRoundCombsRow.plainKeys==Tryz.prog.plainKeys))=true:=by kernel_rfl
theorem c23:(Rows.topRoundCombsRow.shortTexts.isNone)=true:=by kernel_rfl
theorem c24:(Tryz.prog.stopsHeard)=true:=by kernel_rfl
theorem c25:(Tryz.prog.mayEnter)=true:=by kernel_rfl
theorem c26:((Rows.topRoundCombsRow.lifted==Tryz.prog.liftsFinal))=true:=by kernel_rfl
theorem c27:((Tryz.prog.make==some Rows.topRoundCombsRow.make))=true:=by kernel_rfl
theorem c28:((Rows.topRoundCombsRow.kinds==(if Rows.topRoundCombsRow.domain.isEmpty then [] else Tryz.f3.params.toList.map fun t=>match Tryz.prog.underlying t with | some (.int k)=>some k | _=>none)))=true:=by kernel_rfl
theorem c29:((Rows.topRoundCombsRow.pinned==Rows.topRoundCombsRow.pinnedBy))=true:=by kernel_rfl
theorem c30:((Rows.topRoundCombsRow.veiled==(Tryz.f3.params.toList++(OpenSpec.ofChange Rows.topRoundCombsSpec).bare.plain.varTypes Tryz.prog++Tryz.f3.resultTypes.toList).any (Tryz.prog.veiledRec ·)))=true:=by kernel_rfl
theorem c31:(Rows.topRoundCombsRow.veiledFits Tryz.prog Tryz.f3.params.toList (Tryz.f3.params.toList++(OpenSpec.ofChange Rows.topRoundCombsSpec).bare.plain.varTypes Tryz.prog++Tryz.f3.resultTypes.toList))=true:=by kernel_rfl
end Go.Proofs.YtlahcgdnieenpaaGreatDoor.Facts
