/- Joined texts: what the statement needs, walks by program (wip/tools). -/
import Derived.Test.YteiipodhpbdlbaaGreatA19
import Derived.Test.YteiipodhpbdlbaaGreatA20
import Derived.Test.YteiipodhpbdlbaaGreatA21
import Derived.Test.YteiipodhpbdlbaaGreatA22
set_option linter.unusedVariables false
set_option linter.unusedSimpArgs false
set_option linter.unusedSectionVars false
set_option linter.unnecessarySimpa false
namespace Go.Ex
theorem works1 (w:World):Go.Fip.Fn Go.Proofs.Tryz.prog 22 #[] w (fun v _=>v=.bool true):=run_fnM (fn:=fnAt 22) (cd:=cdAt 22) named mixed (by kernel_rfl) (by kernel_rfl) x22 w
theorem works3 (w:World):Go.Fip.Fn Go.Proofs.Tryz.prog 24 #[] w (fun v _=>v=.bool true):=run_fnM (fn:=fnAt 24) (cd:=cdAt 24) named mixed (by kernel_rfl) (by kernel_rfl) x24 w
theorem works4 (w:World):Go.Fip.Fn Go.Proofs.Tryz.prog 14 #[] w (fun v _=>v=.bool true):=run_fnM (fn:=fnAt 14) (cd:=cdAt 14) named mixed (by kernel_rfl) (by kernel_rfl) x14 w
end Go.Ex
