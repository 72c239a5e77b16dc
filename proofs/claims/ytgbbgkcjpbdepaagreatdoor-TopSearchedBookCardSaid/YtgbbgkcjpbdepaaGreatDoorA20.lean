/- Joined texts: what the statement needs, walks by program (wip/tools). -/
import Derived.Test.YtgbbgkcjpbdepaaGreatDoorA19
import Derived.KernelRfl
set_option linter.unusedVariables false
set_option linter.unusedSimpArgs false
set_option linter.unusedSectionVars false
set_option linter.unnecessarySimpa false
set_option maxRecDepth 100000
namespace Go.Ex
noncomputable def hWb:List (Nat×AO):=[(1,.row 3 12 (cL [cI 1,cI 2,cI 3,cI 4,cI 1,cI 2,cI 5,cI 1,cI 2,cI 3,cI 4,cI 5])),(4,.row 3 12 (cL [cI 1,cI 2,cI 3,cI 4,cI 1,cI 2,cI 5,cI 1,cI 2,cI 3,cI 4,cI 5])),(6,.row 566 2 (cL [cI 3,cS 1 0 12 13])),(7,.row 566 2 (cL [cI 4,cS 4 0 12 13])),(101,.row 3 9 (cL [cI 0,cI 1,cI 2,cI 3,cI 4,cI 5,cI 6,cI 9,cI 10])),(201,.row 3 10 (cL [cI 0,cI 1,cI 2,cI 3,cI 4,cI 5,cI 6,cI 9,cI 10,cI 11])),(286,.row 3 12 (cL [cI 0,cI 0,cI 0,cI 3,cI 0,cI 0,cI 4,cI 0,cI 0,cI 1,cI 2,cI 0])),(402,.row 3 10 (cL [cI 0,cI 1,cI 2,cI 3,cI 6,cI 7,cI 8,cI 9,cI 10,cI 11]))]
noncomputable def sWb:List (Nat×AV):=[(5,.ag 2 (cL [cI 3,cS 1 0 12 13])),(11,.ag 2 (cL [cI 4,cS 4 0 12 13])),(14,.ag 2 (cL [cI 3,cS 1 0 12 13])),(62,.tu 2 (cL [cS 101 0 9 10,cI 0])),(63,.ag 2 (cL [cI 3,cS 1 0 12 13])),(115,.tu 2 (cL [cS 201 0 10 11,cI 0])),(116,.ag 2 (cL [cI 3,cS 1 0 12 13])),(215,.tu 2 (cL [cS 286 0 12 0,cI 0])),(216,.ag 2 (cL [cI 3,cS 1 0 12 13])),(245,.x (.slice none 0 0)),(246,.tu 2 (cL [3926,cI 2]))]
theorem wp1:preS Go.Proofs.Tryz.prog 10000 (fnAt 510).ntmps (callM Go.Proofs.Tryz.prog 10000 60) 6 (restN 8 (cdAt 510)) (litT (cE [(0,2),(1,99),(2,115),(3,cS 101 0 9 10),(4,cI 0),(5,cS 201 0 10 11),(6,cI 0),(7,cS 286 0 12 0),(8,cI 0),(9,3926),(10,cI 2),(11,cS 402 0 10 11),(12,cI 0),(13,cI 7),(14,cI 0),(35,86),(36,182),(37,998),(38,230),(39,998),(40,cS 101 0 9 10),(41,cI 0),(42,1846),(43,1014),(44,1846),(45,cS 201 0 10 11),(46,cI 0),(47,3446),(48,1862),(49,3446),(50,cS 286 0 12 0),(51,cI 0),(52,3942),(53,3462),(54,3942),(55,3926),(56,cI 2)]) [] 490 398 0 hWa sWa) (chk (fnAt 510).ntmps 0 (cE [(0,2),(1,99),(2,115),(3,cS 101 0 9 10),(4,cI 0),(5,cS 201 0 10 11),(6,cI 0),(7,cS 286 0 12 0),(8,cI 0),(9,3926),(10,cI 2),(11,cS 402 0 10 11),(12,cI 0),(13,cI 7),(14,cI 0),(15,cI 6),(16,cI 0),(17,cI 7),(18,cI 0),(19,cI 0),(20,cI 18),(21,cI 0),(22,cI 16),(23,cI 7),(24,cI 0),(25,cI 0),(26,cI 3),(35,86),(36,182),(37,998),(38,230),(39,998),(40,cS 101 0 9 10),(41,cI 0),(42,1846),(43,1014),(44,1846),(45,cS 201 0 10 11),(46,cI 0),(47,3446),(48,1862),(49,3446),(50,cS 286 0 12 0),(51,cI 0),(52,3942),(53,3462),(54,3942),(55,3926),(56,cI 2)]) [] 756 1234 0 hWb sWb)=some []:=by kernel_rfl
end Go.Ex
