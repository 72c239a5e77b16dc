/- Joined texts: what the statement needs, walks by program (wip/tools). -/
import Derived.Test.YtgbbgkcjpbdepaaGreatDoorA2
import Derived.Test.YtgbbgkcjpbdepaaGreatDoorProg
import Derived.KernelRfl
set_option linter.unusedVariables false
set_option linter.unusedSimpArgs false
set_option linter.unusedSectionVars false
set_option linter.unnecessarySimpa false
set_option maxRecDepth 100000
namespace Go.Ex
theorem k15:callO Go.Proofs.Tryz.prog 10000 (orL bookA) 60 (.fn (.func 15) 0 0 0 0) 0 0 mN qT=(some []:Option (List Out)):=by kernel_rfl
end Go.Ex
