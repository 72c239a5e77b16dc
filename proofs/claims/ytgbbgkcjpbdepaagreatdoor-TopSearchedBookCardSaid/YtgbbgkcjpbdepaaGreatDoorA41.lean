/- Joined texts: what the statement needs, walks by program (wip/tools). -/
import Derived.Test.YtgbbgkcjpbdepaaGreatDoorA6
import Derived.Test.YtgbbgkcjpbdepaaGreatDoorA2
import Derived.Test.YtgbbgkcjpbdepaaGreatDoorProg
import Derived.KernelRfl
set_option linter.unusedVariables false
set_option linter.unusedSimpArgs false
set_option linter.unusedSectionVars false
set_option linter.unnecessarySimpa false
set_option maxRecDepth 100000
namespace Go.Ex
noncomputable def hV3:List (Nat×AO):=[(0,.row 2 6 (cL [cI 3,cI 4,cI 5,cI 2,cI 4,cI 6])),(6,.row 652 6 (cL [cI 3,cI 4,cI 5,cI 2,cI 4,cI 6])),(7,.row 2 2 (cL [cI 3,cI 4])),(9,.row 652 2 (cL [cI 3,cI 4])),(10,.row 2 4 (cL [cI 1,cI 1,cI 1,cI 1])),(14,.row 652 4 (cL [cI 1,cI 1,cI 1,cI 1])),(15,.row 2 6 (cL [cI 0,cI 6,cI 3,cI 10,cI 8,cI 0])),(21,.row 653 6 (cL [cI 0,cI 6,cI 3,cI 10,cI 8,cI 0])),(466,.row 653 6 (cL [cI 0,cI 6,cI 3,cI 10,cI 8,cI 0]))]
noncomputable def sV3:List (Nat×AV):=[(63,.tu 2 (cL [cI 12,cI 0])),(91,.tu 2 (cL [cI 7,cI 0])),(118,.tu 3 (cL [cI 2,cI 0,cI 0]))]
theorem p3a:preS Go.Proofs.Tryz.prog 10000 ((Go.Proofs.Tryz.prog.funcs[511]?).getD default).ntmps (callM Go.Proofs.Tryz.prog 10000 60) 11 (((Go.Proofs.Tryz.prog.funcs[511]?).getD default).body.getD .skip) st0 (chk ((Go.Proofs.Tryz.prog.funcs[511]?).getD default).ntmps 0 (cE [(0,2),(1,cS 6 0 3 0),(2,cS 9 0 1 0),(3,cS 14 0 2 0),(4,cS 21 0 3 0),(5,cI 12),(6,cI 0),(7,cI 7),(8,cI 0),(9,cI 2),(10,cI 0),(11,cI 0),(12,cI 10),(13,cI 0),(14,cI 12),(15,cI 0),(16,cI 0),(17,cI 16),(18,cI 5),(19,cI 0),(20,cS 466 0 3 4),(21,cI 0),(36,cS 0 0 6 7),(37,cS 6 0 3 0),(38,cS 7 0 2 3),(39,cS 9 0 1 0),(40,cS 10 0 4 5),(41,cS 14 0 2 0),(42,cS 15 0 6 7),(43,cS 21 0 3 0),(44,1014),(45,cS 6 0 3 0),(46,1014),(47,cI 12),(48,cI 0),(49,1462),(50,cS 9 0 1 0),(51,1462),(52,cI 7),(53,cI 0),(54,1894),(55,cS 9 0 1 0),(56,1894),(57,cI 2)]) [] 474 1239 0 hV3 sV3)=some []:=by kernel_rfl
end Go.Ex
