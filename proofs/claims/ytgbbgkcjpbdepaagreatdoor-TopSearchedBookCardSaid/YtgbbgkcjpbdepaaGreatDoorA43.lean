/- Joined texts: what the statement needs, walks by program (wip/tools). -/
import Derived.Test.YtgbbgkcjpbdepaaGreatDoorA6
import Derived.Test.YtgbbgkcjpbdepaaGreatDoorA2
import Derived.Test.YtgbbgkcjpbdepaaGreatDoorProg
import Derived.KernelRfl
set_option linter.unusedVariables false
set_option linter.unusedSimpArgs false
set_option linter.unusedSectionVars false
set_option linter.unnecessarySimpa false
set_option maxRecDepth 100000
namespace Go.Ex
noncomputable def hV9:List (Nat×AO):=[(0,.row 2 4 (cL [cI 4,cI 2,cI 6,cI 3])),(1,.row 3 4 (cL [cI 1,cI 2,cI 0,cI 1])),(13,.row 3 4 (cL [cI 1,cI 3,cI 0,cI 1])),(45,.row 3 3 (cL [cI 2,cI 0,cI 1])),(76,.row 3 3 (cL [cI 0,cI 1,cI 2])),(427,.row 3 4 (cL [cI 1,cI 2,cI 0,cI 1])),(695,.row 3 2 (cL [cI 0,cI 1])),(820,.row 2 4 (cL [cI 4,cI 8,cI 20,cI 26])),(827,.row 2 3 (cL [cI 2,cI 10,cI 16])),(833,.row 2 2 (cL [cI 6,cI 12])),(838,.row 2 1 (cL [cI 3])),(841,.row 70 4 (cL [cS 820 0 4 5,cS 827 0 3 4,cS 833 0 2 3,cS 838 0 1 2]))]
noncomputable def sV9:List (Nat×AV):=[(47,.tu 2 (cL [cS 45 0 3 0,cI 0])),(59,.x (.slice none 0 0)),(60,.tu 2 (cL [950,cI 2])),(72,.tu 2 (cL [cI 26,cI 0])),(83,.tu 2 (cL [cI 0,cI 15]))]
theorem p9a:preS Go.Proofs.Tryz.prog 10000 ((Go.Proofs.Tryz.prog.funcs[110]?).getD default).ntmps (callM Go.Proofs.Tryz.prog 10000 60) 13 (((Go.Proofs.Tryz.prog.funcs[110]?).getD default).body.getD .skip) st0 (chk ((Go.Proofs.Tryz.prog.funcs[110]?).getD default).ntmps 0 (cE [(0,2),(1,cS 0 0 4 5),(2,cS 1 0 4 5),(3,cI 0),(4,cI 24),(5,cS 45 0 3 0),(6,cI 0),(7,950),(8,cI 2),(9,cI 26),(10,cI 0),(11,cI 0),(12,cI 15),(13,cI 26),(14,cI 0),(15,cS 427 0 4 0),(16,cI 0),(17,cI 1),(18,cI 0),(19,cS 695 0 2 0),(20,cI 0),(21,cS 841 0 4 0),(22,cI 0),(23,cI 20),(24,cI 0),(35,cS 0 0 4 5),(36,cS 1 0 4 5),(37,cS 1 0 4 5),(38,cS 1 0 4 5),(39,cI 0),(40,cS 13 0 4 5),(41,cS 13 0 4 5),(42,cI 24),(43,758),(44,cS 1 0 4 5),(45,758),(46,cS 45 0 3 0),(47,cI 0),(48,966),(49,cS 1 0 4 5),(50,966),(51,950),(52,cI 2),(53,1158),(54,cS 0 0 4 5),(55,cS 1 0 4 5),(56,1158),(57,cI 26),(58,cI 0),(59,1334),(60,cS 0 0 4 5),(61,cS 76 0 3 4),(62,cS 76 0 3 4),(63,1334),(64,cI 0),(70,cI 0)]) [] 985 1266 0 hV9 sV9)=some []:=by kernel_rfl
end Go.Ex
