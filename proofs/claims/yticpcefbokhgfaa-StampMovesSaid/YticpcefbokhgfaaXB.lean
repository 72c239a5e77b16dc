/- The argument of exchanges, as it is read. -/
import Derived.Test.YticpcefbokhgfaaXA
import Derived.Test.YticpcefbokhgfaaRL
set_option linter.unusedVariables false
set_option linter.unusedSimpArgs false
set_option linter.unusedSectionVars false
namespace Go.Proofs.Yticpcefbokhgfaa
open Go.ChangeShapes Go.WideShapes Go.ChangeAt Go.RowKit Go.Fip
section
variable {H : Type} {enc : TypeId × Value → H} {W : World} {b : Nat} {v : Value} {d : DataW H} {ps : List MemPlace}
set_option maxRecDepth 100000 in
theorem argP (hok : Value.okWide Try.prog W .any b 29 v) (h : DataW.Trod enc Try.prog W 0 (fun _ => true) true 29 v d ps) : ∃ xs : List (Int × Int), Rd encP 2 v xs W :=
  arg_arrs Try.underlying29 Try.underlying70 (by kernel_rfl) (by kernel_rfl) Try.underlying3 hok h
end
end Go.Proofs.Yticpcefbokhgfaa
