/- Joined texts: what the statement needs, walks by program (wip/tools). -/
import Derived.Test.YteiipodhpbdlbaaGreatA1
import Derived.Test.YteiipodhpbdlbaaGreatA23
set_option linter.unusedVariables false
set_option linter.unusedSimpArgs false
set_option linter.unusedSectionVars false
set_option linter.unnecessarySimpa false
namespace Go.Fip
open Go.Proofs Go.RowKit
theorem c13 {w:World}  :
  Fn Tryz.prog 13 [].toArray w (fun u _=>u=.bool true):=by
 refine fz Tryz.func13 Z kz Z Z (fun hH=>(zr (oA hH Z (zs (zS Z Z Z hH ((Go.Ex.works1 _)) (fun w1 hH2=>(oM hH2 Z (zB Z Z Z (zS Z Z Z hH2 ((Go.Ex.works2 _)) (fun w3 hH4=>(oY hH4 (z7 Z Z Z) (oM hH4 Z (zB Z Z Z (zS Z Z Z hH4 ((Go.Ex.works3 _)) (fun w5 hH6=>(oY hH6 (z7 Z Z Z) (oA hH6 Z (zt (ret (fin hH6 (fun w' hf=>(yI Z (rt Z))) (fun w' hf=>Z)))))))))))))))))))))
theorem c5 {w:World}  :
  Fn Tryz.prog 5 [].toArray w (fun u _=>u=.bool true):=by
 refine fz Tryz.func5 Z kz Z Z (fun hH=>(zr (oA hH Z (zs (zS Z Z Z hH (c13) (fun w1 hH2=>(oM hH2 Z (zB Z Z Z (zS Z Z Z hH2 ((Go.Ex.works4 _)) (fun w3 hH4=>(oY hH4 (z7 Z Z Z) (oA hH4 Z (zt (ret (fin hH4 (fun w' hf=>(yI Z (rt Z))) (fun w' hf=>Z))))))))))))))))
end Go.Fip
