/- Joined texts: what the statement needs, walks by program (wip/tools). -/
import Derived.Test.YtgbbgkcjpbdepaaGreatDoorA2
import Derived.Test.YtgbbgkcjpbdepaaGreatDoorProg
import Derived.KernelRfl
set_option linter.unusedVariables false
set_option linter.unusedSimpArgs false
set_option linter.unusedSectionVars false
set_option linter.unnecessarySimpa false
set_option maxRecDepth 100000
namespace Go.Ex
theorem kQ8_1 (y:Nat→Value) (h:Law 8 y):callO Go.Proofs.Tryz.prog 10000 (orL bookA) 60 (.fn (.func 11) 0 0 0 0) ([1].length+1) (cL (code 1 6::[1].map cI)) (symM 8 y h) qT=(some []:Option (List Out)):=by kernel_rfl
theorem kQ8_2 (y:Nat→Value) (h:Law 8 y):callO Go.Proofs.Tryz.prog 10000 (orL bookA) 60 (.fn (.func 11) 0 0 0 0) ([2].length+1) (cL (code 1 6::[2].map cI)) (symM 8 y h) qT=(some []:Option (List Out)):=by kernel_rfl
theorem kQ8_3 (y:Nat→Value) (h:Law 8 y):callO Go.Proofs.Tryz.prog 10000 (orL bookA) 60 (.fn (.func 11) 0 0 0 0) ([3].length+1) (cL (code 1 6::[3].map cI)) (symM 8 y h) qT=(some []:Option (List Out)):=by kernel_rfl
theorem kQ8_4 (y:Nat→Value) (h:Law 8 y):callO Go.Proofs.Tryz.prog 10000 (orL bookA) 60 (.fn (.func 11) 0 0 0 0) ([4].length+1) (cL (code 1 6::[4].map cI)) (symM 8 y h) qT=(some []:Option (List Out)):=by kernel_rfl
theorem kQ8_5 (y:Nat→Value) (h:Law 8 y):callO Go.Proofs.Tryz.prog 10000 (orL bookA) 60 (.fn (.func 11) 0 0 0 0) ([5].length+1) (cL (code 1 6::[5].map cI)) (symM 8 y h) qT=(some []:Option (List Out)):=by kernel_rfl
theorem kQ8_6 (y:Nat→Value) (h:Law 8 y):callO Go.Proofs.Tryz.prog 10000 (orL bookA) 60 (.fn (.func 11) 0 0 0 0) ([6].length+1) (cL (code 1 6::[6].map cI)) (symM 8 y h) qT=(some []:Option (List Out)):=by kernel_rfl
theorem kQ8_7 (y:Nat→Value) (h:Law 8 y):callO Go.Proofs.Tryz.prog 10000 (orL bookA) 60 (.fn (.func 11) 0 0 0 0) ([7].length+1) (cL (code 1 6::[7].map cI)) (symM 8 y h) qT=(some []:Option (List Out)):=by kernel_rfl
theorem kQ8_8 (y:Nat→Value) (h:Law 8 y):callO Go.Proofs.Tryz.prog 10000 (orL bookA) 60 (.fn (.func 11) 0 0 0 0) ([8].length+1) (cL (code 1 6::[8].map cI)) (symM 8 y h) qT=(some []:Option (List Out)):=by kernel_rfl
end Go.Ex
