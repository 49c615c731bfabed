/-
  Pt6: texts joined: Kw0. Own work.
-/
import Derived.Test.YtlahcgdnieenpaaGreatDoorPt5
set_option linter.all false
set_option linter.unusedSimpArgs false
set_option linter.unusedVariables false
set_option linter.unusedSectionVars false

namespace Go.AM
open Go.RowKit
abbrev TZ (P:Program):={T:TBL // TBz P T}
def kA {P:Program} (T:TZ P) (f:FuncId) (y:List AV) (q:PR) (u:(T.1 f).f=f:=by kernel_rfl) (v:(T.1 f).kn.isCode=true:=by kernel_rfl) (h:(hdN T.1 60).D f y (isQ q)=True:=by kernel_rfl):TZ P:=⟨qfw T.1 f y q,Mr T.2 u v (oN (n:=59) T.2 h)⟩
theorem kR {P:Program} (T:TZ P) (f:FuncId) (y:List AV) (q:PR) (h:(hdN T.1 60).D f y (isQ q)=True:=by kernel_rfl):Jp P f y q:=oN (n:=59) T.2 h
def kT {P:Program} (T:TZ P) (f:FuncId) (h:Jp P f [] (.val (B true))) (u:(T.1 f).f=f:=by kernel_rfl) (v:(T.1 f).kn.isCode=true:=by kernel_rfl):TZ P:=⟨qfw T.1 f [] (.val (B true)),Mr T.2 u v h⟩
end Go.AM
