/- Orders. -/
import Derived.Test.YtlekkopaeiblfaaSb
set_option linter.unusedVariables false
set_option linter.unusedSimpArgs false
set_option linter.unusedSectionVars false
set_option linter.unnecessarySimpa false
namespace Go.Fip.S
def place (l : List Int) (x : Int) : Int := idx (fun y => decide (y = x)) l
theorem place_lt (l : List Int) (x : Int) : -1 ≤ place l x ∧ place l x < (l.length : Int) := idx_lt
def okFor (B T F : List Int) (i : Int) : Prop := 0 ≤ place B i ∧ 0 ≤ place T i ∧ 0 ≤ nth F i ∧ nth F i ≤ 1
instance (B T F : List Int) (i : Int) : Decidable (okFor B T F i) := by unfold okFor; infer_instance
def AllO (n : Nat) (B T F : List Int) : Prop := ∀ i, i < n → okFor B T F (i : Int)
instance (n : Nat) (B T F : List Int) : Decidable (AllO n B T F) := by unfold AllO; infer_instance
/-- A valid order of n jobs. -/
def Ord (n : Nat) (B T F : List Int) : Prop := B.length = n ∧ T.length = n ∧ F.length = n ∧ AllO n B T F
instance (n : Nat) (B T F : List Int) : Decidable (Ord n B T F) := by unfold Ord; infer_instance
def checkOrder (l : List Pr) (B T F : List Int) : Int :=
  if checkJobs l ≠ 0 then checkJobs l else if B.length ≠ l.length ∨ T.length ≠ l.length ∨ F.length ≠ l.length then 15 else if AllO l.length B T F then 0 else 2
section
variable {l : List Pr} {B T F : List Int}
theorem co1 (h : ¬ checkJobs l = 0) : checkOrder l B T F = checkJobs l := by unfold checkOrder; rw [if_pos h]
theorem co2 (h : checkJobs l = 0) (h2 : B.length ≠ l.length ∨ T.length ≠ l.length ∨ F.length ≠ l.length) : checkOrder l B T F = 15 := by unfold checkOrder; rw [if_neg (by omega), if_pos h2]
theorem co3 (h : checkJobs l = 0) (h2 : ¬ (B.length ≠ l.length ∨ T.length ≠ l.length ∨ F.length ≠ l.length)) (h3 : AllO l.length B T F) : checkOrder l B T F = 0 := by unfold checkOrder; rw [if_neg (by omega), if_neg h2, if_pos h3]
theorem co4 (h : checkJobs l = 0) (h2 : ¬ (B.length ≠ l.length ∨ T.length ≠ l.length ∨ F.length ≠ l.length)) (h3 : ¬ AllO l.length B T F) : checkOrder l B T F = 2 := by unfold checkOrder; rw [if_neg (by omega), if_neg h2, if_neg h3]
theorem checkOrder_iff : checkOrder l B T F = 0 ↔ Jobs l ∧ Ord l.length B T F := by
  constructor
  · intro h
    by_cases h1 : checkJobs l = 0
    · by_cases h2 : B.length ≠ l.length ∨ T.length ≠ l.length ∨ F.length ≠ l.length
      · rw [co2 h1 h2] at h; cases h
      · by_cases h3 : AllO l.length B T F
        · exact ⟨checkJobs_iff.1 h1, by omega, by omega, by omega, h3⟩
        · rw [co4 h1 h2 h3] at h; cases h
    · rw [co1 h1] at h; exact absurd h h1
  · rintro ⟨hj, h1, h2, h3, h4⟩
    exact co3 (checkJobs_iff.2 hj) (by omega) h4
end
def row (B T : List Int) (b : Int) : List Int := if b = 1 then T else B
/-- The work w waits for the work v. -/
def Waits (B T F : List Int) (w v : Int) : Prop :=
  if w % 2 ≠ v % 2 then w / 2 = v / 2 ∧ nth F (w / 2) = v % 2 else place (row B T (w % 2)) (w / 2) = place (row B T (w % 2)) (v / 2) + 1
instance (B T F : List Int) (w v : Int) : Decidable (Waits B T F w v) := by unfold Waits; infer_instance
end Go.Fip.S
namespace Go.Fip.S
theorem waits_ne {B T F : List Int} {w v : Int} (h : ¬ w % 2 = v % 2) : Waits B T F w v ↔ w / 2 = v / 2 ∧ nth F (w / 2) = v % 2 := by unfold Waits; rw [if_pos h]
theorem waits_t {B T F : List Int} {w v : Int} (h : w % 2 = v % 2) (h1 : w % 2 = 1) : Waits B T F w v ↔ place T (w / 2) = place T (v / 2) + 1 := by
  unfold Waits row; rw [if_neg (fun hh => hh h), if_pos h1]
theorem waits_b {B T F : List Int} {w v : Int} (h : w % 2 = v % 2) (h1 : ¬ w % 2 = 1) : Waits B T F w v ↔ place B (w / 2) = place B (v / 2) + 1 := by
  unfold Waits row; rw [if_neg (fun hh => hh h), if_neg h1]
end Go.Fip.S
