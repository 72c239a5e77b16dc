/- The arguments of this seat's laws, as they are read. -/
import Derived.Test.YtlekkopaeiblfaaRows
import Derived.Test.YtlekkopaeiblfaaRk
import Derived.Test.YtlekkopaeiblfaaTy
set_option linter.unusedVariables false
set_option linter.unusedSimpArgs false
set_option linter.unusedSectionVars false
set_option linter.unnecessarySimpa false
namespace Go.Proofs.Ytlekkopaeiblfaa
open Go.ChangeShapes Go.WideShapes Go.ChangeAt Go.RowKit Go.Fip
theorem own : ownKnob Try.prog.godebug = none := by kernel_rfl
theorem laid : laidOutB Try.prog = true := by kernel_rfl
section
variable {H : Type} {enc : TypeId × Value → H} {W : World} {b : Nat} {v : Value} {d : DataW H} {ps : List MemPlace}
set_option maxRecDepth 100000 in
theorem argJ (hok : Value.okWide Try.prog W .any b 22 v) (h : DataW.Trod enc Try.prog W 0 (fun _ => true) true 22 v d ps) : ∃ xs : List (Int × Int), Rd encP 2 v xs W := by
  obtain ⟨xs, hx, _⟩ := arg_pairs Try.underlying22 Try.underlying71 (by kernel_rfl) rfl rfl (by kernel_rfl) (by kernel_rfl) (by kernel_rfl) (by kernel_rfl) hok h
  exact ⟨xs, hx⟩
set_option maxRecDepth 100000 in
theorem argT (hok : Value.okWide Try.prog W .any b 23 v) (h : DataW.Trod enc Try.prog W 0 (fun _ => true) true 23 v d ps) : ∃ xs : List (Int × Int), Rd encP 2 v xs W := by
  obtain ⟨xs, hx, _⟩ := arg_pairs Try.underlying23 Try.underlying73 (by kernel_rfl) rfl rfl (by kernel_rfl) (by kernel_rfl) (by kernel_rfl) (by kernel_rfl) hok h
  exact ⟨xs, hx⟩
set_option maxRecDepth 100000 in
theorem argN (hok : Value.okWide Try.prog W .any b 39 v) (h : DataW.Trod enc Try.prog W 0 (fun _ => true) true 39 v d ps) : ∃ xs : List Int, Rd encI 1 v xs W := by
  obtain ⟨xs, hx, _⟩ := arg_ints Try.underlying39 Try.underlying3 (by kernel_rfl) hok h
  exact ⟨xs, hx⟩
set_option maxRecDepth 100000 in
theorem argB (hok : Value.okWide Try.prog W .any b 54 v) (h : DataW.Trod enc Try.prog W 0 (fun _ => true) true 54 v d ps) : ∃ xs : List Int, Rd encB 1 v xs W ∧ ∀ n ∈ xs, 0 ≤ n ∧ n ≤ 255 := by
  obtain ⟨xs, hx, hw⟩ := arg_ints Try.underlying54 Try.underlying5 (by kernel_rfl) hok h
  exact ⟨xs, hx, fun n hn => bounds_u8 (hw n hn)⟩
set_option maxRecDepth 100000 in
theorem argO (hok : Value.okWide Try.prog W .any b 41 v) (h : DataW.Trod enc Try.prog W 0 (fun _ => true) true 41 v d ps) : ∃ (x y z : Value) (X Y Z : List Int), v = .agg #[x, y, z] ∧ Rd encI 1 x X W ∧ Rd encI 1 y Y W ∧ Rd encI 1 z Z W := by
  obtain ⟨x, y, z, X, Y, Z, rfl, hX, hY, hZ, _⟩ := arg_three Try.underlying41 rfl rfl rfl Try.underlying39 Try.underlying39 Try.underlying39 Try.underlying3 (by kernel_rfl) (by kernel_rfl) (by kernel_rfl) (by kernel_rfl) (by kernel_rfl) (by kernel_rfl) hok h
  exact ⟨x, y, z, X, Y, Z, rfl, hX, hY, hZ⟩
end
end Go.Proofs.Ytlekkopaeiblfaa
