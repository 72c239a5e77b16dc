/- Joined texts: what the statement needs, walks by program (wip/tools). -/
import Derived.Test.YtgbbgkcjpbdepaaGreatDoorA48
import Derived.LaidOnce
import Derived.KernelRfl
set_option linter.unusedVariables false
set_option linter.unusedSimpArgs false
set_option linter.unusedSectionVars false
set_option linter.unnecessarySimpa false
set_option maxRecDepth 100000
namespace Go.Proofs.YtgbbgkcjpbdepaaGreatDoor
open Go
theorem tw1:Tryz.prog.worded (varsWordLater true)=true:=by kernel_rfl
theorem tw2:Tryz.prog.worded (varsWordLater !true)=false:=by kernel_rfl
theorem tw3:Tryz.prog.worded rootWordLater=true:=by kernel_rfl
theorem tg:(Tryz.prog.funcNamed "gosem.cut.vars").isSome=true:=by kernel_rfl
theorem tk:laidL.map (fun x=>Tryz.prog.kindOfLater x.1)=([.data,.data,.data,.data,.sentinel,.sentinel]:List LaidKind).map some:=by kernel_rfl
end Go.Proofs.YtgbbgkcjpbdepaaGreatDoor
