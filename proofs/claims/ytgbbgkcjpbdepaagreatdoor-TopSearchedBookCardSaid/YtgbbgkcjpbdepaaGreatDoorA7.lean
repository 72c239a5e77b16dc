/- Joined texts: what the statement needs, walks by program (wip/tools). -/
import Derived.Test.YtgbbgkcjpbdepaaGreatDoorA2
import Derived.Test.YtgbbgkcjpbdepaaGreatDoorProg
import Derived.KernelRfl
set_option linter.unusedVariables false
set_option linter.unusedSimpArgs false
set_option linter.unusedSectionVars false
set_option linter.unnecessarySimpa false
set_option maxRecDepth 100000
namespace Go.Ex
def plL:List (List Nat):=[[],[0],[1,1],[2,2,1],[2,2,2,2],[3,3,3,3,1],[3,3,3,3,2,2],[3,3,3,3,3,3,2],[3,3,3,3,3,3,3,3],[4,4,4,4,4,4,4,4,1],[4,4,4,4,4,4,4,4,2,2],[4,4,4,4,4,4,4,4,3,3,2],[4,4,4,4,4,4,4,4,3,3,3,3]]
def pl (n i:Nat):Nat:=(plL.getD n []).getD i 0
noncomputable abbrev pathO (n i:Nat) (y:Nat→Value) (h:Law n y):R:=callO Go.Proofs.Tryz.prog 10000 (orL bookA) 60 (.fn (.func 9) 0 0 0 0) ([i].length+1) (cL (code 1 6::[i].map cI)) (symM n y h) (qSlc (pl n i) 0)
theorem kP1 (y:Nat→Value) (h:Law 1 y):allB (fun i=>isNil (pathO 1 i y h)) 1=true:=by kernel_rfl
theorem kP2 (y:Nat→Value) (h:Law 2 y):allB (fun i=>isNil (pathO 2 i y h)) 2=true:=by kernel_rfl
theorem kP3 (y:Nat→Value) (h:Law 3 y):allB (fun i=>isNil (pathO 3 i y h)) 3=true:=by kernel_rfl
theorem kP4 (y:Nat→Value) (h:Law 4 y):allB (fun i=>isNil (pathO 4 i y h)) 4=true:=by kernel_rfl
theorem kP5 (y:Nat→Value) (h:Law 5 y):allB (fun i=>isNil (pathO 5 i y h)) 5=true:=by kernel_rfl
theorem kP6 (y:Nat→Value) (h:Law 6 y):allB (fun i=>isNil (pathO 6 i y h)) 6=true:=by kernel_rfl
theorem kP7 (y:Nat→Value) (h:Law 7 y):allB (fun i=>isNil (pathO 7 i y h)) 7=true:=by kernel_rfl
theorem kP8 (y:Nat→Value) (h:Law 8 y):allB (fun i=>isNil (pathO 8 i y h)) 8=true:=by kernel_rfl
theorem kP9 (y:Nat→Value) (h:Law 9 y):allB (fun i=>isNil (pathO 9 i y h)) 9=true:=by kernel_rfl
theorem kP10 (y:Nat→Value) (h:Law 10 y):allB (fun i=>isNil (pathO 10 i y h)) 10=true:=by kernel_rfl
theorem kP11 (y:Nat→Value) (h:Law 11 y):allB (fun i=>isNil (pathO 11 i y h)) 11=true:=by kernel_rfl
theorem kP12 (y:Nat→Value) (h:Law 12 y):allB (fun i=>isNil (pathO 12 i y h)) 12=true:=by kernel_rfl
end Go.Ex
