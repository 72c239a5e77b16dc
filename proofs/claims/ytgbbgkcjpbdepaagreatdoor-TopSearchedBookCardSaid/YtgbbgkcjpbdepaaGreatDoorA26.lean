/- Joined texts: what the statement needs, walks by program (wip/tools). -/
import Derived.Test.YtgbbgkcjpbdepaaGreatDoorA25
import Derived.KernelRfl
set_option linter.unusedVariables false
set_option linter.unusedSimpArgs false
set_option linter.unusedSectionVars false
set_option linter.unnecessarySimpa false
set_option maxRecDepth 100000
namespace Go.Ex
theorem pKr0:repS Go.Proofs.Tryz.prog 10000 (fnAt 657).ntmps (callM Go.Proofs.Tryz.prog 10000 60) (lpC (tlC (hdC (restN 4 (cdAt 657))))) (chk (fnAt 657).ntmps (zK).sn (cE [(0,126323),(1,cI 4),(4,cI 0),(5,126419),(6,128053),(7,128501),(8,cI 6),(9,127109),(10,127125),(11,127187),(12,cI 4),(17,651558),(18,126437),(19,126323),(20,126323),(21,536997235),(22,651574),(23,126437),(24,126323),(25,126323),(26,126323),(27,268561779),(28,cS 1 0 12 13),(29,cI 12),(30,cI 7),(31,18),(32,cI 6),(33,cI 6),(34,cI 4),(35,2),(36,127109),(37,127125),(38,126885),(39,127139),(40,654102),(41,2),(42,654070),(43,654054),(44,cI 4),(45,126323),(46,126323),(47,126323),(48,268561779),(49,cS 1 0 12 13),(50,cI 4),(51,1073741843),(52,cI 1),(53,268562643),(56,127109),(58,cI 4),(59,127125),(61,cI 4),(62,126323),(63,127109),(64,cI 4),(65,127205),(66,126323),(67,127125),(68,cI 4),(69,127365),(70,126323),(71,127541),(72,cI 6),(73,128053),(74,126323),(75,127781),(76,cI 6),(77,128501),(78,cI 7)]) [] 8059 41430 7901 hKr6 sKr6) 7 (litT (cE [(0,126323),(1,cI 4),(4,cI 0),(5,126419),(6,126437),(7,651590),(17,651558),(18,126437),(19,126323),(20,126323),(21,536997235),(22,651574),(23,126437),(24,126323),(25,126323),(26,126323),(27,268561779),(28,cS 1 0 12 13),(29,cI 12),(30,cI 0)]) [] 7903 40725 7901 hK1b sK1b)=some []:=by kernel_rfl
end Go.Ex
