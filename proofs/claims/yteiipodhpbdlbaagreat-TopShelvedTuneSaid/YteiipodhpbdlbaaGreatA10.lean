/- Joined texts: what the statement needs, walks by program (wip/tools). -/
import Derived.Test.YteiipodhpbdlbaaGreatA9
import Derived.KernelRfl
set_option linter.unusedVariables false
set_option linter.unusedSimpArgs false
set_option linter.unusedSectionVars false
set_option linter.unnecessarySimpa false
set_option maxRecDepth 100000
namespace Go.Ex
theorem pTr0:repS Go.Proofs.Tryz.prog 10000 (fnAt 147).ntmps (callM Go.Proofs.Tryz.prog 10000 60) (lpC (tlC (hdC (restN 3 (cdAt 147))))) (chk (fnAt 147).ntmps (zT).sn (cE [(0,13987),(2,29494),(3,cI 12),(4,cS 886 0 14 15),(5,cS 887 0 14 15),(6,49267),(7,48019),(8,48035),(12,13987),(13,13987),(14,13987),(15,268449443),(16,cS 1 0 12 13),(17,cI 12),(18,cI 12),(19,cI 14),(20,cS 886 0 14 15),(21,cI 12),(22,cI 14),(23,cS 887 0 14 15),(24,cI 7),(25,cI 12),(26,cI 13),(27,18),(28,cI 7),(29,cI 8),(30,cS 886 0 14 15),(31,cI 7),(32,1879062371),(33,cI 7),(34,cI 7),(35,2),(36,cI 6),(37,cS 886 0 14 15),(38,cI 6),(39,1610626915),(40,cI 4),(41,13987),(42,215382),(67,cI 7),(68,cI 12),(69,18),(70,cI 4),(71,13987),(72,13987),(73,13987),(74,13987),(75,cI 3),(76,cI 2),(77,cI 6),(78,cI 6),(79,cS 886 0 14 15),(80,cI 7),(81,1879062371),(82,cI 4),(83,2),(84,cS 886 0 14 15),(85,cI 7),(86,cS 887 0 14 15),(87,cI 7),(88,cI 4),(89,cI 0),(90,1879062371),(91,1879062387),(92,cI 7),(93,cI 7)]) [3004,2926,2848,2770,2692,2614,2536,2457,2379,2301,2223,2145,2067,1988,1910,1832,1754,1676,1597,1519,1441,1363,1284,1206,1128,1049,971,892] 3080 13912 0 hT2 sT2) 7 (litT (cE [(0,13987),(2,29494),(3,cI 12),(4,cS 886 0 14 15),(5,cS 887 0 14 15),(6,14211),(12,13987),(13,13987),(14,13987),(15,268449443),(16,cS 1 0 12 13),(17,cI 12),(18,cI 12),(19,cI 14),(20,cS 886 0 14 15),(21,cI 12),(22,cI 14),(23,cS 887 0 14 15)]) [] 889 1844 0 hT1b sT1b)=some []:=by kernel_rfl
end Go.Ex
