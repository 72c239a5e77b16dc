/- Joined texts: what the statement needs, walks by program (wip/tools). -/
import Derived.Test.YtgbbgkcjpbdepaaGreatDoorA21
import Derived.KernelRfl
set_option linter.unusedVariables false
set_option linter.unusedSimpArgs false
set_option linter.unusedSectionVars false
set_option linter.unnecessarySimpa false
set_option maxRecDepth 100000
namespace Go.Ex
theorem pTr0:repS Go.Proofs.Tryz.prog 10000 (fnAt 656).ntmps (callM Go.Proofs.Tryz.prog 10000 60) (lpC (tlC (hdC (restN 3 (cdAt 656))))) (chk (fnAt 656).ntmps (zT).sn (cE [(0,12259),(2,20134),(3,cI 12),(4,cS 769 0 14 15),(5,cS 770 0 14 15),(6,47395),(7,46147),(8,46163),(12,12259),(13,12259),(14,12259),(15,268447715),(16,cS 1 0 12 13),(17,cI 12),(18,cI 12),(19,cI 14),(20,cS 769 0 14 15),(21,cI 12),(22,cI 14),(23,cS 770 0 14 15),(24,cI 7),(25,cI 12),(26,cI 13),(27,18),(28,cI 7),(29,cI 8),(30,cS 769 0 14 15),(31,cI 7),(32,1879060499),(33,cI 7),(34,cI 7),(35,2),(36,cI 6),(37,cS 769 0 14 15),(38,cI 6),(39,1610625043),(40,cI 4),(41,12259),(42,206022),(67,cI 7),(68,cI 12),(69,18),(70,cI 4),(71,12259),(72,12259),(73,12259),(74,12259),(75,cI 3),(76,cI 2),(77,cI 6),(78,cI 6),(79,cS 769 0 14 15),(80,cI 7),(81,1879060499),(82,cI 4),(83,2),(84,cS 769 0 14 15),(85,cI 7),(86,cS 770 0 14 15),(87,cI 7),(88,cI 4),(89,cI 0),(90,1879060499),(91,1879060515),(92,cI 7),(93,cI 7)]) [2887,2809,2731,2653,2575,2497,2419,2340,2262,2184,2106,2028,1950,1871,1793,1715,1637,1559,1480,1402,1324,1246,1167,1089,1011,932,854,775] 2963 13327 0 hT2 sT2) 7 (litT (cE [(0,12259),(2,20134),(3,cI 12),(4,cS 769 0 14 15),(5,cS 770 0 14 15),(6,12339),(12,12259),(13,12259),(14,12259),(15,268447715),(16,cS 1 0 12 13),(17,cI 12),(18,cI 12),(19,cI 14),(20,cS 769 0 14 15),(21,cI 12),(22,cI 14),(23,cS 770 0 14 15)]) [] 772 1259 0 hT1b sT1b)=some []:=by kernel_rfl
end Go.Ex
