/- Joined texts: what the statement needs, walks by program (wip/tools). -/
import Derived.Test.YtgbbgkcjpbdepaaGreatDoorA2
import Derived.Test.YtgbbgkcjpbdepaaGreatDoorProg
import Derived.KernelRfl
set_option linter.unusedVariables false
set_option linter.unusedSimpArgs false
set_option linter.unusedSectionVars false
set_option linter.unnecessarySimpa false
set_option maxRecDepth 100000
namespace Go.Ex
theorem kQ1_1 (y:Nat→Value) (h:Law 1 y):callO Go.Proofs.Tryz.prog 10000 (orL bookA) 60 (.fn (.func 11) 0 0 0 0) ([1].length+1) (cL (code 1 6::[1].map cI)) (symM 1 y h) qT=(some []:Option (List Out)):=by kernel_rfl
end Go.Ex
set_option maxRecDepth 100000
namespace Go.Ex
theorem kQ2_1 (y:Nat→Value) (h:Law 2 y):callO Go.Proofs.Tryz.prog 10000 (orL bookA) 60 (.fn (.func 11) 0 0 0 0) ([1].length+1) (cL (code 1 6::[1].map cI)) (symM 2 y h) qT=(some []:Option (List Out)):=by kernel_rfl
theorem kQ2_2 (y:Nat→Value) (h:Law 2 y):callO Go.Proofs.Tryz.prog 10000 (orL bookA) 60 (.fn (.func 11) 0 0 0 0) ([2].length+1) (cL (code 1 6::[2].map cI)) (symM 2 y h) qT=(some []:Option (List Out)):=by kernel_rfl
end Go.Ex
set_option maxRecDepth 100000
namespace Go.Ex
theorem kQ3_1 (y:Nat→Value) (h:Law 3 y):callO Go.Proofs.Tryz.prog 10000 (orL bookA) 60 (.fn (.func 11) 0 0 0 0) ([1].length+1) (cL (code 1 6::[1].map cI)) (symM 3 y h) qT=(some []:Option (List Out)):=by kernel_rfl
theorem kQ3_2 (y:Nat→Value) (h:Law 3 y):callO Go.Proofs.Tryz.prog 10000 (orL bookA) 60 (.fn (.func 11) 0 0 0 0) ([2].length+1) (cL (code 1 6::[2].map cI)) (symM 3 y h) qT=(some []:Option (List Out)):=by kernel_rfl
theorem kQ3_3 (y:Nat→Value) (h:Law 3 y):callO Go.Proofs.Tryz.prog 10000 (orL bookA) 60 (.fn (.func 11) 0 0 0 0) ([3].length+1) (cL (code 1 6::[3].map cI)) (symM 3 y h) qT=(some []:Option (List Out)):=by kernel_rfl
end Go.Ex
set_option maxRecDepth 100000
namespace Go.Ex
theorem kQ4_1 (y:Nat→Value) (h:Law 4 y):callO Go.Proofs.Tryz.prog 10000 (orL bookA) 60 (.fn (.func 11) 0 0 0 0) ([1].length+1) (cL (code 1 6::[1].map cI)) (symM 4 y h) qT=(some []:Option (List Out)):=by kernel_rfl
theorem kQ4_2 (y:Nat→Value) (h:Law 4 y):callO Go.Proofs.Tryz.prog 10000 (orL bookA) 60 (.fn (.func 11) 0 0 0 0) ([2].length+1) (cL (code 1 6::[2].map cI)) (symM 4 y h) qT=(some []:Option (List Out)):=by kernel_rfl
theorem kQ4_3 (y:Nat→Value) (h:Law 4 y):callO Go.Proofs.Tryz.prog 10000 (orL bookA) 60 (.fn (.func 11) 0 0 0 0) ([3].length+1) (cL (code 1 6::[3].map cI)) (symM 4 y h) qT=(some []:Option (List Out)):=by kernel_rfl
theorem kQ4_4 (y:Nat→Value) (h:Law 4 y):callO Go.Proofs.Tryz.prog 10000 (orL bookA) 60 (.fn (.func 11) 0 0 0 0) ([4].length+1) (cL (code 1 6::[4].map cI)) (symM 4 y h) qT=(some []:Option (List Out)):=by kernel_rfl
end Go.Ex
set_option maxRecDepth 100000
namespace Go.Ex
theorem kQ5_1 (y:Nat→Value) (h:Law 5 y):callO Go.Proofs.Tryz.prog 10000 (orL bookA) 60 (.fn (.func 11) 0 0 0 0) ([1].length+1) (cL (code 1 6::[1].map cI)) (symM 5 y h) qT=(some []:Option (List Out)):=by kernel_rfl
theorem kQ5_2 (y:Nat→Value) (h:Law 5 y):callO Go.Proofs.Tryz.prog 10000 (orL bookA) 60 (.fn (.func 11) 0 0 0 0) ([2].length+1) (cL (code 1 6::[2].map cI)) (symM 5 y h) qT=(some []:Option (List Out)):=by kernel_rfl
theorem kQ5_3 (y:Nat→Value) (h:Law 5 y):callO Go.Proofs.Tryz.prog 10000 (orL bookA) 60 (.fn (.func 11) 0 0 0 0) ([3].length+1) (cL (code 1 6::[3].map cI)) (symM 5 y h) qT=(some []:Option (List Out)):=by kernel_rfl
theorem kQ5_4 (y:Nat→Value) (h:Law 5 y):callO Go.Proofs.Tryz.prog 10000 (orL bookA) 60 (.fn (.func 11) 0 0 0 0) ([4].length+1) (cL (code 1 6::[4].map cI)) (symM 5 y h) qT=(some []:Option (List Out)):=by kernel_rfl
theorem kQ5_5 (y:Nat→Value) (h:Law 5 y):callO Go.Proofs.Tryz.prog 10000 (orL bookA) 60 (.fn (.func 11) 0 0 0 0) ([5].length+1) (cL (code 1 6::[5].map cI)) (symM 5 y h) qT=(some []:Option (List Out)):=by kernel_rfl
end Go.Ex
set_option maxRecDepth 100000
namespace Go.Ex
theorem kQ6_1 (y:Nat→Value) (h:Law 6 y):callO Go.Proofs.Tryz.prog 10000 (orL bookA) 60 (.fn (.func 11) 0 0 0 0) ([1].length+1) (cL (code 1 6::[1].map cI)) (symM 6 y h) qT=(some []:Option (List Out)):=by kernel_rfl
theorem kQ6_2 (y:Nat→Value) (h:Law 6 y):callO Go.Proofs.Tryz.prog 10000 (orL bookA) 60 (.fn (.func 11) 0 0 0 0) ([2].length+1) (cL (code 1 6::[2].map cI)) (symM 6 y h) qT=(some []:Option (List Out)):=by kernel_rfl
theorem kQ6_3 (y:Nat→Value) (h:Law 6 y):callO Go.Proofs.Tryz.prog 10000 (orL bookA) 60 (.fn (.func 11) 0 0 0 0) ([3].length+1) (cL (code 1 6::[3].map cI)) (symM 6 y h) qT=(some []:Option (List Out)):=by kernel_rfl
theorem kQ6_4 (y:Nat→Value) (h:Law 6 y):callO Go.Proofs.Tryz.prog 10000 (orL bookA) 60 (.fn (.func 11) 0 0 0 0) ([4].length+1) (cL (code 1 6::[4].map cI)) (symM 6 y h) qT=(some []:Option (List Out)):=by kernel_rfl
theorem kQ6_5 (y:Nat→Value) (h:Law 6 y):callO Go.Proofs.Tryz.prog 10000 (orL bookA) 60 (.fn (.func 11) 0 0 0 0) ([5].length+1) (cL (code 1 6::[5].map cI)) (symM 6 y h) qT=(some []:Option (List Out)):=by kernel_rfl
theorem kQ6_6 (y:Nat→Value) (h:Law 6 y):callO Go.Proofs.Tryz.prog 10000 (orL bookA) 60 (.fn (.func 11) 0 0 0 0) ([6].length+1) (cL (code 1 6::[6].map cI)) (symM 6 y h) qT=(some []:Option (List Out)):=by kernel_rfl
end Go.Ex
