/- Joined texts: what the statement needs, walks by program (wip/tools). -/
import Derived.Test.YteiipodhpbdlbaaGreatA13
import Derived.KernelRfl
set_option linter.unusedVariables false
set_option linter.unusedSimpArgs false
set_option linter.unusedSectionVars false
set_option linter.unnecessarySimpa false
set_option maxRecDepth 100000
namespace Go.Ex
theorem pKr0:repS Go.Proofs.Tryz.prog 10000 (fnAt 148).ntmps (callM Go.Proofs.Tryz.prog 10000 60) (lpC (tlC (hdC (restN 4 (cdAt 148))))) (chk (fnAt 148).ntmps (zK).sn (cE [(0,128195),(1,cI 4),(4,cI 0),(5,128435),(6,130069),(7,130517),(8,cI 6),(9,129125),(10,129141),(11,129203),(12,cI 4),(17,661638),(18,128453),(19,128195),(20,128195),(21,536999107),(22,661654),(23,128453),(24,128195),(25,128195),(26,128195),(27,268563651),(28,cS 1 0 12 13),(29,cI 12),(30,cI 7),(31,18),(32,cI 6),(33,cI 6),(34,cI 4),(35,2),(36,129125),(37,129141),(38,128901),(39,129155),(40,664182),(41,2),(42,664150),(43,664134),(44,cI 4),(45,128195),(46,128195),(47,128195),(48,268563651),(49,cS 1 0 12 13),(50,cI 4),(51,1073741843),(52,cI 1),(53,268564659),(56,129125),(58,cI 4),(59,129141),(61,cI 4),(62,128195),(63,129125),(64,cI 4),(65,129221),(66,128195),(67,129141),(68,cI 4),(69,129381),(70,128195),(71,129557),(72,cI 6),(73,130069),(74,128195),(75,129797),(76,cI 6),(77,130517),(78,cI 7)]) [] 8185 42060 8027 hKr6 sKr6) 7 (litT (cE [(0,128195),(1,cI 4),(4,cI 0),(5,128435),(6,128453),(7,661670),(17,661638),(18,128453),(19,128195),(20,128195),(21,536999107),(22,661654),(23,128453),(24,128195),(25,128195),(26,128195),(27,268563651),(28,cS 1 0 12 13),(29,cI 12),(30,cI 0)]) [] 8029 41355 8027 hK1b sK1b)=some []:=by kernel_rfl
end Go.Ex
