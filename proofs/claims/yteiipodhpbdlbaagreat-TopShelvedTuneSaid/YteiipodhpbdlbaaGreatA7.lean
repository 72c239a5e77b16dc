/- Joined texts: what the statement needs, walks by program (wip/tools). -/
import Derived.Test.YteiipodhpbdlbaaGreatA6
import Derived.KernelRfl
set_option linter.unusedVariables false
set_option linter.unusedSimpArgs false
set_option linter.unusedSectionVars false
set_option linter.unnecessarySimpa false
set_option maxRecDepth 100000
namespace Go.Ex
noncomputable def hWa:List (Nat×AO):=[(1,.row 3 12 (cL [cI 1,cI 2,cI 3,cI 4,cI 1,cI 2,cI 5,cI 1,cI 2,cI 3,cI 4,cI 5])),(4,.row 3 12 (cL [cI 1,cI 2,cI 3,cI 4,cI 1,cI 2,cI 5,cI 1,cI 2,cI 3,cI 4,cI 5])),(6,.row 35 2 (cL [cI 3,cS 1 0 12 13])),(7,.row 35 2 (cL [cI 4,cS 4 0 12 13])),(110,.row 3 9 (cL [cI 0,cI 1,cI 2,cI 3,cI 4,cI 5,cI 6,cI 9,cI 10])),(219,.row 3 10 (cL [cI 0,cI 1,cI 2,cI 3,cI 4,cI 5,cI 6,cI 9,cI 10,cI 11])),(313,.row 3 12 (cL [cI 0,cI 0,cI 0,cI 3,cI 0,cI 0,cI 4,cI 0,cI 0,cI 1,cI 2,cI 0])),(447,.row 3 10 (cL [cI 0,cI 1,cI 2,cI 3,cI 6,cI 7,cI 8,cI 9,cI 10,cI 11]))]
noncomputable def sWa:List (Nat×AV):=[(5,.ag 2 (cL [cI 3,cS 1 0 12 13])),(11,.ag 2 (cL [cI 4,cS 4 0 12 13])),(14,.ag 2 (cL [cI 3,cS 1 0 12 13])),(107,.tu 2 (cL [cS 110 0 9 10,cI 0])),(108,.ag 2 (cL [cI 3,cS 1 0 12 13])),(205,.tu 2 (cL [cS 219 0 10 11,cI 0])),(206,.ag 2 (cL [cI 3,cS 1 0 12 13])),(350,.tu 2 (cL [cS 313 0 12 0,cI 0])),(351,.ag 2 (cL [cI 3,cS 1 0 12 13])),(425,.x (.slice none 0 0)),(426,.tu 2 (cL [6806,cI 2]))]
theorem wa:Go.Proofs.Tryz.prog.funcs[23]? = some (fnAt 23):=by kernel_rfl
theorem wb:(fnAt 23).body=some (cdAt 23):=by kernel_rfl
theorem wo0:okC (fnAt 23).ntmps (cdAt 23)=true:=by kernel_rfl
theorem wo1:okC (fnAt 23).ntmps (restN 8 (cdAt 23))=true:=by kernel_rfl
theorem wo2:okC (fnAt 23).ntmps (restN 6 (restN 8 (cdAt 23)))=true:=by kernel_rfl
theorem wo3:okC (fnAt 23).ntmps (restN 1 (restN 6 (restN 8 (cdAt 23))))=true:=by kernel_rfl
theorem wo4:okC (fnAt 23).ntmps (restN 1 (restN 1 (restN 6 (restN 8 (cdAt 23)))))=true:=by kernel_rfl
theorem wp0:preS Go.Proofs.Tryz.prog 10000 (fnAt 23).ntmps (callM Go.Proofs.Tryz.prog 10000 60) 8 (cdAt 23) st0 (chk (fnAt 23).ntmps 0 (cE [(0,2),(1,99),(2,115),(3,cS 110 0 9 10),(4,cI 0),(5,cS 219 0 10 11),(6,cI 0),(7,cS 313 0 12 0),(8,cI 0),(9,6806),(10,cI 2),(11,cS 447 0 10 11),(12,cI 0),(13,cI 7),(14,cI 0),(35,86),(36,182),(37,1718),(38,230),(39,1718),(40,cS 110 0 9 10),(41,cI 0),(42,3286),(43,1734),(44,3286),(45,cS 219 0 10 11),(46,cI 0),(47,5606),(48,3302),(49,5606),(50,cS 313 0 12 0),(51,cI 0),(52,6822),(53,5622),(54,6822),(55,6806),(56,cI 2)]) [] 544 668 0 hWa sWa)=some []:=by kernel_rfl
end Go.Ex
