/- Products within bounds. -/
import Derived.Test.YtlekkopaeiblfaaSx
set_option linter.unusedVariables false
set_option linter.unusedSimpArgs false
set_option linter.unusedSectionVars false
set_option linter.unnecessarySimpa false
namespace Go.Fip.S
theorem mul_le {k x c : Int} (h1 : 1 ≤ k) (h2 : k ≤ 5) (h3 : 0 ≤ x) (h4 : x ≤ c) : 0 ≤ k * x ∧ k * x ≤ 5 * c := by
  have a := Int.mul_nonneg (show 0 ≤ k by omega) h3
  have b := Int.mul_le_mul_of_nonneg_right h2 h3
  omega
theorem mul_bd {k x : Int} (h1 : 1 ≤ k) (h2 : k ≤ 5) (h3 : 1 ≤ x) (h4 : x ≤ 500) : 0 ≤ k * x ∧ k * x ≤ 2500 := by have := mul_le h1 h2 (show 0 ≤ x by omega) h4; omega
theorem mul_bd5 {k x : Int} (h1 : 1 ≤ k) (h2 : k ≤ 5) (h3 : 1 ≤ x) (h4 : x ≤ 4000) : 0 ≤ k * x ∧ k * x ≤ 20000 := by have := mul_le h1 h2 (show 0 ≤ x by omega) h4; omega
theorem mul_bd6 {k x : Int} (h1 : 1 ≤ k) (h2 : k ≤ 5) (h3 : 0 ≤ x) (h4 : x ≤ 100000) : 0 ≤ k * x ∧ k * x ≤ 500000 := by have := mul_le h1 h2 h3 h4; omega
end Go.Fip.S
