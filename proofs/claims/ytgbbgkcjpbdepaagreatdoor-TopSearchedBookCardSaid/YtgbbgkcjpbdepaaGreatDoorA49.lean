/- Joined texts: what the statement needs, walks by program (wip/tools). -/
import Derived.Test.YtgbbgkcjpbdepaaGreatDoorA48
import Derived.LaidOnce
import Derived.KernelRfl
set_option linter.unusedVariables false
set_option linter.unusedSimpArgs false
set_option linter.unusedSectionVars false
set_option linter.unnecessarySimpa false
set_option maxRecDepth 100000
namespace Go.Proofs.YtgbbgkcjpbdepaaGreatDoor
open Go
theorem leaves (os:Os) (tape:Tape):doorLeaves Tryz.prog 400 8 65 laidL os tape=some (laidL.filter fun x=>x.2.handleName?.isNone,(funcsListed laidL).map (·.2.funcsOut)):=by kernel_rfl
end Go.Proofs.YtgbbgkcjpbdepaaGreatDoor
