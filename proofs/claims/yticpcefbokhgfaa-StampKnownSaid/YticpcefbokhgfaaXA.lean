/- The arguments of this seat's laws, as they are read. -/
import Derived.Test.YticpcefbokhgfaaRows
import Derived.Test.YticpcefbokhgfaaMB
import Derived.Test.YticpcefbokhgfaaMD
set_option linter.unusedVariables false
set_option linter.unusedSimpArgs false
set_option linter.unusedSectionVars false
set_option linter.unnecessarySimpa false
namespace Go.Proofs.Yticpcefbokhgfaa
open Go.ChangeShapes Go.WideShapes Go.ChangeAt Go.RowKit Go.Fip
theorem own : ownKnob Try.prog.godebug = none := by kernel_rfl
theorem laid : laidOutB Try.prog = true := by kernel_rfl
section
variable {H : Type} {enc : TypeId × Value → H} {W : World} {b : Nat} {v : Value} {d : DataW H} {ps : List MemPlace}
set_option maxRecDepth 100000 in
theorem argL (hok : Value.okWide Try.prog W .any b 22 v) (h : DataW.Trod enc Try.prog W 0 (fun _ => true) true 22 v d ps) : ∃ xs : List Int, Rd encI 1 v xs W := by
  obtain ⟨xs, hx, _⟩ := arg_ints Try.underlying22 Try.underlying3 (by kernel_rfl) hok h
  exact ⟨xs, hx⟩
set_option maxRecDepth 100000 in
theorem argB (hok : Value.okWide Try.prog W .any b 53 v) (h : DataW.Trod enc Try.prog W 0 (fun _ => true) true 53 v d ps) : ∃ xs : List Int, Rd encB 1 v xs W ∧ ∀ n ∈ xs, 0 ≤ n ∧ n ≤ 255 := by
  obtain ⟨xs, hx, hw⟩ := arg_ints Try.underlying53 Try.underlying5 (by kernel_rfl) hok h
  exact ⟨xs, hx, fun n hn => bounds_u8 (hw n hn)⟩
end
end Go.Proofs.Yticpcefbokhgfaa
