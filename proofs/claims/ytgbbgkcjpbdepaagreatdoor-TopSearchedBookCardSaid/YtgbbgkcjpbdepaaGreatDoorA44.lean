/- Joined texts: what the statement needs, walks by program (wip/tools). -/
import Derived.Test.YtgbbgkcjpbdepaaGreatDoorA43
import Derived.KernelRfl
set_option linter.unusedVariables false
set_option linter.unusedSimpArgs false
set_option linter.unusedSectionVars false
set_option linter.unnecessarySimpa false
set_option maxRecDepth 100000
namespace Go.Ex
theorem p9b:codeS Go.Proofs.Tryz.prog 10000 ((Go.Proofs.Tryz.prog.funcs[110]?).getD default).ntmps (restN 13 (((Go.Proofs.Tryz.prog.funcs[110]?).getD default).body.getD .skip)) (callM Go.Proofs.Tryz.prog 10000 60) (litT (cE [(0,2),(1,cS 0 0 4 5),(2,cS 1 0 4 5),(3,cI 0),(4,cI 24),(5,cS 45 0 3 0),(6,cI 0),(7,950),(8,cI 2),(9,cI 26),(10,cI 0),(11,cI 0),(12,cI 15),(13,cI 26),(14,cI 0),(15,cS 427 0 4 0),(16,cI 0),(17,cI 1),(18,cI 0),(19,cS 695 0 2 0),(20,cI 0),(21,cS 841 0 4 0),(22,cI 0),(23,cI 20),(24,cI 0),(35,cS 0 0 4 5),(36,cS 1 0 4 5),(37,cS 1 0 4 5),(38,cS 1 0 4 5),(39,cI 0),(40,cS 13 0 4 5),(41,cS 13 0 4 5),(42,cI 24),(43,758),(44,cS 1 0 4 5),(45,758),(46,cS 45 0 3 0),(47,cI 0),(48,966),(49,cS 1 0 4 5),(50,966),(51,950),(52,cI 2),(53,1158),(54,cS 0 0 4 5),(55,cS 1 0 4 5),(56,1158),(57,cI 26),(58,cI 0),(59,1334),(60,cS 0 0 4 5),(61,cS 76 0 3 4),(62,cS 76 0 3 4),(63,1334),(64,cI 0),(70,cI 0)]) [] 985 1266 0 hV9 sV9) (leave Go.Proofs.Tryz.prog ((Go.Proofs.Tryz.prog.funcs[110]?).getD default) 0 [] fun c _=>Bool.rec bad (some []) (Nat.beq c 18))=some []:=by kernel_rfl
end Go.Ex
