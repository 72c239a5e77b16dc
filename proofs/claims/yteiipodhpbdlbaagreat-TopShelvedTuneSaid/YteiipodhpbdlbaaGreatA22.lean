/- Joined texts: what the statement needs, walks by program (wip/tools). -/
import Derived.Test.YteiipodhpbdlbaaGreatA6
import Derived.Test.YteiipodhpbdlbaaGreatProg
import Derived.KernelRfl
set_option linter.unusedVariables false
set_option linter.unusedSimpArgs false
set_option linter.unusedSectionVars false
set_option linter.unnecessarySimpa false
namespace Go.Ex
theorem x14:callM Go.Proofs.Tryz.prog 10000 60 (.fn (.func 14) 0 0 0 0) 0 0 m0 isTM=(some []:Option (List Out)):=by kernel_rfl
end Go.Ex
