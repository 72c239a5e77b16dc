/- Joined texts: what the statement needs, walks by program (wip/tools). -/
import Derived.Test.YtgbbgkcjpbdepaaGreatDoorRows
import Derived.Test.YtgbbgkcjpbdepaaGreatDoorA46
set_option linter.unusedVariables false
set_option linter.unusedSimpArgs false
set_option linter.unusedSectionVars false
set_option linter.unnecessarySimpa false
set_option maxRecDepth 100000
namespace Go.Proofs.YtgbbgkcjpbdepaaGreatDoor
open Go
theorem uP:mapsRowed Tryz.prog=true:=by kernel_rfl
theorem kQ:Tryz.prog.plainKeys=false:=by kernel_rfl
theorem ZL:Tryz.f3.params.all (Tryz.prog.readableRec ·)=true:=by kernel_rfl
theorem Z8:(Tryz.f3.params.toList++Rows.topSearchedBookSpec.plain.varTypes Tryz.prog).any (Tryz.prog.mapsRec ·)=false:=by kernel_rfl
theorem jW:(Tryz.f3.params.toList++Rows.topSearchedBookSpec.plain.varTypes Tryz.prog).any (Tryz.prog.ifacesRec ·)=false:=by kernel_rfl
theorem kZ:(Tryz.f3.params.toList++Rows.topSearchedBookSpec.plain.varTypes Tryz.prog).any (Tryz.prog.loopsFrom ·)=false:=by kernel_rfl
theorem Y7:(Tryz.f3.params.toList++Rows.topSearchedBookSpec.plain.varTypes Tryz.prog++Tryz.f3.resultTypes.toList).any (Tryz.prog.wideKeysFrom ·)=false:=by kernel_rfl
theorem jR:(Tryz.f3.params.toList++Rows.topSearchedBookSpec.plain.varTypes Tryz.prog++Tryz.f3.resultTypes.toList).any (Tryz.prog.veiledRec ·)=false:=by kernel_rfl
theorem YA:Rows.topSearchedBookRow.veiledFits Tryz.prog Tryz.f3.params.toList (Tryz.f3.params.toList++Rows.topSearchedBookSpec.plain.varTypes Tryz.prog++Tryz.f3.resultTypes.toList)=true:=by kernel_rfl
theorem kB:joinedFacts Tryz.prog 3 Tryz.f3 Rows.topSearchedBookSpec Rows.topSearchedBookRow=true:=by
 unfold joinedFacts
 rw [laidO,uP,ZL,YE,kX,jF,ZN,XO,kN,Z8,jW,kZ,Y7,kQ,kW,jR,YA]
 kernel_rfl
end Go.Proofs.YtgbbgkcjpbdepaaGreatDoor
