/- Joined texts: what the statement needs, walks by program (wip/tools). -/
import Derived.Test.YtgbbgkcjpbdepaaGreatDoorA6
import Derived.KernelRfl
set_option linter.unusedVariables false
set_option linter.unusedSimpArgs false
set_option linter.unusedSectionVars false
set_option linter.unnecessarySimpa false
set_option maxRecDepth 100000
namespace Go.Ex
noncomputable def hWa:List (Nat×AO):=[(1,.row 3 12 (cL [cI 1,cI 2,cI 3,cI 4,cI 1,cI 2,cI 5,cI 1,cI 2,cI 3,cI 4,cI 5])),(4,.row 3 12 (cL [cI 1,cI 2,cI 3,cI 4,cI 1,cI 2,cI 5,cI 1,cI 2,cI 3,cI 4,cI 5])),(6,.row 566 2 (cL [cI 3,cS 1 0 12 13])),(7,.row 566 2 (cL [cI 4,cS 4 0 12 13])),(101,.row 3 9 (cL [cI 0,cI 1,cI 2,cI 3,cI 4,cI 5,cI 6,cI 9,cI 10])),(201,.row 3 10 (cL [cI 0,cI 1,cI 2,cI 3,cI 4,cI 5,cI 6,cI 9,cI 10,cI 11])),(286,.row 3 12 (cL [cI 0,cI 0,cI 0,cI 3,cI 0,cI 0,cI 4,cI 0,cI 0,cI 1,cI 2,cI 0])),(402,.row 3 10 (cL [cI 0,cI 1,cI 2,cI 3,cI 6,cI 7,cI 8,cI 9,cI 10,cI 11]))]
noncomputable def sWa:List (Nat×AV):=[(5,.ag 2 (cL [cI 3,cS 1 0 12 13])),(11,.ag 2 (cL [cI 4,cS 4 0 12 13])),(14,.ag 2 (cL [cI 3,cS 1 0 12 13])),(62,.tu 2 (cL [cS 101 0 9 10,cI 0])),(63,.ag 2 (cL [cI 3,cS 1 0 12 13])),(115,.tu 2 (cL [cS 201 0 10 11,cI 0])),(116,.ag 2 (cL [cI 3,cS 1 0 12 13])),(215,.tu 2 (cL [cS 286 0 12 0,cI 0])),(216,.ag 2 (cL [cI 3,cS 1 0 12 13])),(245,.x (.slice none 0 0)),(246,.tu 2 (cL [3926,cI 2]))]
theorem wa:Go.Proofs.Tryz.prog.funcs[510]? = some (fnAt 510):=by kernel_rfl
theorem wb:(fnAt 510).body=some (cdAt 510):=by kernel_rfl
theorem wo0:okC (fnAt 510).ntmps (cdAt 510)=true:=by kernel_rfl
theorem wo1:okC (fnAt 510).ntmps (restN 8 (cdAt 510))=true:=by kernel_rfl
theorem wo2:okC (fnAt 510).ntmps (restN 6 (restN 8 (cdAt 510)))=true:=by kernel_rfl
theorem wo3:okC (fnAt 510).ntmps (restN 1 (restN 6 (restN 8 (cdAt 510))))=true:=by kernel_rfl
theorem wo4:okC (fnAt 510).ntmps (restN 1 (restN 1 (restN 6 (restN 8 (cdAt 510)))))=true:=by kernel_rfl
theorem wp0:preS Go.Proofs.Tryz.prog 10000 (fnAt 510).ntmps (callM Go.Proofs.Tryz.prog 10000 60) 8 (cdAt 510) st0 (chk (fnAt 510).ntmps 0 (cE [(0,2),(1,99),(2,115),(3,cS 101 0 9 10),(4,cI 0),(5,cS 201 0 10 11),(6,cI 0),(7,cS 286 0 12 0),(8,cI 0),(9,3926),(10,cI 2),(11,cS 402 0 10 11),(12,cI 0),(13,cI 7),(14,cI 0),(35,86),(36,182),(37,998),(38,230),(39,998),(40,cS 101 0 9 10),(41,cI 0),(42,1846),(43,1014),(44,1846),(45,cS 201 0 10 11),(46,cI 0),(47,3446),(48,1862),(49,3446),(50,cS 286 0 12 0),(51,cI 0),(52,3942),(53,3462),(54,3942),(55,3926),(56,cI 2)]) [] 490 398 0 hWa sWa)=some []:=by kernel_rfl
end Go.Ex
