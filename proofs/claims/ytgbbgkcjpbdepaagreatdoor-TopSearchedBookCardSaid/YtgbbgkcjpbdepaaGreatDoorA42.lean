/- Joined texts: what the statement needs, walks by program (wip/tools). -/
import Derived.Test.YtgbbgkcjpbdepaaGreatDoorA41
import Derived.KernelRfl
set_option linter.unusedVariables false
set_option linter.unusedSimpArgs false
set_option linter.unusedSectionVars false
set_option linter.unnecessarySimpa false
set_option maxRecDepth 100000
namespace Go.Ex
theorem p3b:codeS Go.Proofs.Tryz.prog 10000 ((Go.Proofs.Tryz.prog.funcs[511]?).getD default).ntmps (restN 11 (((Go.Proofs.Tryz.prog.funcs[511]?).getD default).body.getD .skip)) (callM Go.Proofs.Tryz.prog 10000 60) (litT (cE [(0,2),(1,cS 6 0 3 0),(2,cS 9 0 1 0),(3,cS 14 0 2 0),(4,cS 21 0 3 0),(5,cI 12),(6,cI 0),(7,cI 7),(8,cI 0),(9,cI 2),(10,cI 0),(11,cI 0),(12,cI 10),(13,cI 0),(14,cI 12),(15,cI 0),(16,cI 0),(17,cI 16),(18,cI 5),(19,cI 0),(20,cS 466 0 3 4),(21,cI 0),(36,cS 0 0 6 7),(37,cS 6 0 3 0),(38,cS 7 0 2 3),(39,cS 9 0 1 0),(40,cS 10 0 4 5),(41,cS 14 0 2 0),(42,cS 15 0 6 7),(43,cS 21 0 3 0),(44,1014),(45,cS 6 0 3 0),(46,1014),(47,cI 12),(48,cI 0),(49,1462),(50,cS 9 0 1 0),(51,1462),(52,cI 7),(53,cI 0),(54,1894),(55,cS 9 0 1 0),(56,1894),(57,cI 2)]) [] 474 1239 0 hV3 sV3) (leave Go.Proofs.Tryz.prog ((Go.Proofs.Tryz.prog.funcs[511]?).getD default) 0 [] fun c _=>Bool.rec bad (some []) (Nat.beq c 18))=some []:=by kernel_rfl
end Go.Ex
