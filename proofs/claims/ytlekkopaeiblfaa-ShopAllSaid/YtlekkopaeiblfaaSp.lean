/- What the definitions of the layer say, as plain functions. No program in sight but for the readers' words. -/
import Derived.Test.YtlekkopaeiblfaaFip
set_option linter.unusedVariables false
set_option linter.unusedSimpArgs false
set_option linter.unusedSectionVars false
set_option linter.unnecessarySimpa false
namespace Go.Fip
namespace S

abbrev Pr := Int × Int

theorem all_snoc {p : Nat → Prop} {k : Nat} (h : ∀ i, i < k → p i) (hk : p k) : ∀ i, i < k + 1 → p i := fun i hi => by
  rcases Nat.lt_succ_iff_lt_or_eq.1 hi with h1 | rfl
  · exact h i h1
  · exact hk
theorem all_zero {p : Nat → Prop} : ∀ i, i < 0 → p i := fun i hi => absurd hi (Nat.not_lt_zero i)

/-- The component of work w (2 j, 2 j + 1). -/
def at2 (l : List Pr) (w : Int) : Int := if w % 2 = 0 then (nth l (w / 2)).1 else (nth l (w / 2)).2

def okJob (p : Pr) : Prop := 1 ≤ p.1 ∧ p.1 ≤ 500 ∧ 1 ≤ p.2 ∧ p.2 ≤ 500
instance (p : Pr) : Decidable (okJob p) := by unfold okJob; infer_instance
def okTime (p : Pr) : Prop := 0 ≤ p.1 ∧ p.1 ≤ 100000 ∧ 0 ≤ p.2 ∧ p.2 ≤ 100000
instance (p : Pr) : Decidable (okTime p) := by unfold okTime; infer_instance
def AllJ (l : List Pr) : Prop := ∀ i, i < l.length → okJob (nth l (i : Int))
instance (l : List Pr) : Decidable (AllJ l) := by unfold AllJ; infer_instance
def AllT (l : List Pr) : Prop := ∀ i, i < l.length → okTime (nth l (i : Int))
instance (l : List Pr) : Decidable (AllT l) := by unfold AllT; infer_instance
def Jobs (l : List Pr) : Prop := 1 ≤ l.length ∧ l.length ≤ 8 ∧ AllJ l
instance (l : List Pr) : Decidable (Jobs l) := by unfold Jobs; infer_instance

def checkJobs (l : List Pr) : Int := if l.length < 1 ∨ 8 < l.length then 6 else if AllJ l then 0 else 3
theorem checkJobs_iff {l : List Pr} : checkJobs l = 0 ↔ Jobs l := by
  unfold checkJobs Jobs
  split
  · rename_i h; constructor
    · intro h2; omega
    · rintro ⟨a, b, _⟩; omega
  · rename_i h
    split
    · rename_i h2; exact ⟨fun _ => ⟨by omega, by omega, h2⟩, fun _ => rfl⟩
    · rename_i h2; exact ⟨fun h3 => by omega, fun h3 => absurd h3.2.2 h2⟩
theorem Jobs.at2 {l : List Pr} (h : Jobs l) {w : Int} (h0 : 0 ≤ w) (h1 : w < 2 * (l.length : Int)) : 1 ≤ at2 l w ∧ at2 l w ≤ 500 := by
  have h2 := h.2.2 (w / 2).toNat (by omega)
  have e : (((w / 2).toNat : Nat) : Int) = w / 2 := by omega
  rw [e] at h2
  unfold S.at2 okJob at *
  split <;> omega
theorem AllT.at2 {l : List Pr} (h : AllT l) {w : Int} (h0 : 0 ≤ w) (h1 : w < 2 * (l.length : Int)) : 0 ≤ at2 l w ∧ at2 l w ≤ 100000 := by
  have h2 := h (w / 2).toNat (by omega)
  have e : (((w / 2).toNat : Nat) : Int) = w / 2 := by omega
  rw [e] at h2
  unfold S.at2 okTime at *
  split <;> omega

/-- The works v and w are at one bench, or of one job, and overlap. -/
def clash (l p : List Pr) (v w : Int) : Prop := (v % 2 = w % 2 ∨ v / 2 = w / 2) ∧ at2 p v < at2 p w + at2 l w ∧ at2 p w < at2 p v + at2 l v
instance (l p : List Pr) (v w : Int) : Decidable (clash l p v w) := by unfold clash; infer_instance
def Right (l p : List Pr) : Prop := ∀ v, v < 2 * l.length → ∀ w, w < v → ¬ clash l p (v : Int) (w : Int)
instance (l p : List Pr) : Decidable (Right l p) := by unfold Right; infer_instance

/-- When the last one of the first k works ends. -/
def endTo (l p : List Pr) : Nat → Int
  | 0 => 0
  | k + 1 => max (endTo l p k) (at2 p (k : Int) + at2 l (k : Int))
def endOf (l p : List Pr) : Int := endTo l p (2 * l.length)
theorem endTo_bd {l p : List Pr} (hl : Jobs l) (hp : AllT p) (he : p.length = l.length) : ∀ k, k ≤ 2 * l.length → 0 ≤ endTo l p k ∧ endTo l p k ≤ 100500
  | 0, _ => by simp [endTo]
  | k + 1, hk => by
    have h1 := endTo_bd hl hp he k (by omega)
    have h2 := hl.at2 (w := (k : Int)) (by omega) (by omega)
    have h3 := hp.at2 (w := (k : Int)) (by omega) (by omega)
    simp only [endTo]
    omega
/-- The minutes of the first k jobs at a bench. -/
def sumTo (l : List Pr) (b : Int) : Nat → Int
  | 0 => 0
  | k + 1 => sumTo l b k + at2 l (2 * (k : Int) + b)
def sumOf (l : List Pr) (b : Int) : Int := sumTo l b l.length
theorem sumTo_bd {l : List Pr} (hl : Jobs l) {b : Int} (h0 : 0 ≤ b) (h1 : b ≤ 1) : ∀ k, k ≤ l.length → (k : Int) ≤ sumTo l b k ∧ sumTo l b k ≤ 500 * k
  | 0, _ => by simp [sumTo]
  | k + 1, hk => by
    have h3 := sumTo_bd hl h0 h1 k (by omega)
    have h2 := hl.at2 (w := 2 * (k : Int) + b) (by omega) (by omega)
    simp only [sumTo]
    omega
theorem sumOf_bd {l : List Pr} (hl : Jobs l) {b : Int} (h0 : 0 ≤ b) (h1 : b ≤ 1) : 1 ≤ sumOf l b ∧ sumOf l b ≤ 4000 := by
  have h3 := sumTo_bd hl h0 h1 l.length (Nat.le_refl _)
  have h4 := hl.1
  have h5 := hl.2.1
  unfold sumOf
  omega
/-- When the last one of the first k works at a bench ends. -/
def lastTo (l p : List Pr) (b : Int) : Nat → Int
  | 0 => 0
  | k + 1 => max (lastTo l p b k) (at2 p (2 * (k : Int) + b) + at2 l (2 * (k : Int) + b))
theorem lastTo_bd {l p : List Pr} (hl : Jobs l) (hp : AllT p) (he : p.length = l.length) {b : Int} (h0 : 0 ≤ b) (h1 : b ≤ 1) : ∀ k, k ≤ l.length → 0 ≤ lastTo l p b k ∧ lastTo l p b k ≤ 100500
  | 0, _ => by simp [lastTo]
  | k + 1, hk => by
    have h3 := lastTo_bd hl hp he h0 h1 k (by omega)
    have h2 := hl.at2 (w := 2 * (k : Int) + b) (by omega) (by omega)
    have h4 := hp.at2 (w := 2 * (k : Int) + b) (by omega) (by omega)
    simp only [lastTo]
    omega
def lastOf (l p : List Pr) (b : Int) : Int := lastTo l p b l.length

/-- The end of a right plan, and the error. -/
def checkPlan (l p : List Pr) : Int × Int :=
  if checkJobs l ≠ 0 then (0, checkJobs l) else if p.length ≠ l.length then (0, 15) else if ¬ AllT p then (0, 3) else if ¬ Right l p then (0, 16) else (endOf l p, 0)
def idle (l p : List Pr) (b : Int) : Int × Int :=
  if (checkPlan l p).2 ≠ 0 then (0, (checkPlan l p).2) else if b < 0 ∨ 1 < b then (0, 2) else (lastOf l p b - sumOf l b, 0)
theorem checkPlan_iff {l p : List Pr} : (checkPlan l p).2 = 0 ↔ Jobs l ∧ p.length = l.length ∧ AllT p ∧ Right l p := by
  unfold checkPlan
  split
  · rename_i h; exact ⟨fun h2 => absurd h2 h, fun h2 => absurd (checkJobs_iff.2 h2.1) h⟩
  · rename_i h
    have h0 : Jobs l := checkJobs_iff.1 (by omega)
    split
    · rename_i h2; exact ⟨fun h3 => by simp at h3, fun h3 => absurd h3.2.1 h2⟩
    · rename_i h2
      split
      · rename_i h3; exact ⟨fun h4 => by simp at h4, fun h4 => absurd h4.2.2.1 h3⟩
      · rename_i h3
        split
        · rename_i h4; exact ⟨fun h5 => by simp at h5, fun h5 => absurd h5.2.2.2 h4⟩
        · rename_i h4; exact ⟨fun _ => ⟨h0, by omega, Classical.not_not.1 h3, Classical.not_not.1 h4⟩, fun _ => rfl⟩

def boundOf (l : List Pr) (kind job : Int) : Int := if kind = 2 then (nth l job).1 + (nth l job).2 else sumOf l kind
def bound (l : List Pr) (kind job : Int) : Int × Int :=
  if checkJobs l ≠ 0 then (0, checkJobs l) else if kind < 0 ∨ 2 < kind ∨ job < 0 ∨ (l.length : Int) ≤ job then (0, 2) else (boundOf l kind job, 0)
def shortTo (l : List Pr) : Nat → Int
  | 0 => max (sumOf l 0) (sumOf l 1)
  | k + 1 => max (shortTo l k) ((nth l (k : Int)).1 + (nth l (k : Int)).2)
def shortestOf (l : List Pr) : Int := shortTo l l.length
def shortest (l : List Pr) : Int × Int := if checkJobs l ≠ 0 then (0, checkJobs l) else (shortestOf l, 0)
theorem Jobs.nth {l : List Pr} (h : Jobs l) {i : Int} (h0 : 0 ≤ i) (h1 : i < (l.length : Int)) : okJob (nth l i) := by
  have h2 := h.2.2 i.toNat (by omega)
  have e : ((i.toNat : Nat) : Int) = i := by omega
  rw [e] at h2
  exact h2
theorem shortTo_bd {l : List Pr} (hl : Jobs l) : ∀ k, k ≤ l.length → 1 ≤ shortTo l k ∧ shortTo l k ≤ 4000
  | 0, _ => by
    have h1 := sumOf_bd hl (b := 0) (by omega) (by omega)
    have h2 := sumOf_bd hl (b := 1) (by omega) (by omega)
    simp only [shortTo]
    omega
  | k + 1, hk => by
    have h1 := shortTo_bd hl k (by omega)
    have h2 := hl.nth (i := (k : Int)) (by omega) (by omega)
    unfold okJob at h2
    simp only [shortTo]
    omega
/-- The first job whose bound is the shortest day, from k on. -/
def tightFrom (l : List Pr) : Nat → Nat → Int
  | 0, k => k
  | f + 1, k => if (nth l (k : Int)).1 + (nth l (k : Int)).2 < shortestOf l then tightFrom l f (k + 1) else k
def tight (l : List Pr) : Int × Int × Int :=
  if checkJobs l ≠ 0 then (0, 0, checkJobs l) else if sumOf l 0 = shortestOf l then (0, 0, 0) else if sumOf l 1 = shortestOf l then (1, 0, 0) else (2, tightFrom l l.length 0, 0)
end S
end Go.Fip
namespace Go.Fip.S
/-- The work v begins in the time of w, or as w. -/
def bad (l p : List Pr) (w v : Int) : Prop := v ≠ w ∧ (v / 2 = w / 2 ∨ v % 2 = w % 2) ∧ at2 p w ≤ at2 p v ∧ at2 p v < at2 p w + at2 l w
theorem right_of_not_bad {l ps : List Pr} (hl : Jobs l) (h : ∀ i, i < 2 * l.length → ∀ j, j < 2 * l.length → ¬ bad l ps (i : Int) (j : Int)) : Right l ps := by
  intro v hv w hw hc
  have h1 := h v hv w (by omega)
  have h2 := h w (by omega) v hv
  unfold bad at h1 h2
  unfold clash at hc
  omega
theorem not_right_of_bad {l ps : List Pr} (hl : Jobs l) {w v : Nat} (hw : w < 2 * l.length) (hv : v < 2 * l.length) (h : bad l ps (w : Int) (v : Int)) : ¬ Right l ps := by
  intro hr
  have h1 := hr v hv w
  have h2 := hr w hw v
  have m1 := hl.at2 (w := (v : Int)) (by omega) (by omega)
  have m2 := hl.at2 (w := (w : Int)) (by omega) (by omega)
  unfold bad at h
  unfold clash at h1 h2
  rcases Nat.lt_or_gt_of_ne (show v ≠ w by omega) with hlt | hlt
  · exact h2 hlt (by omega)
  · exact h1 hlt (by omega)
section
variable {l p : List Pr}
theorem cp1 (h : ¬ checkJobs l = 0) : checkPlan l p = (0, checkJobs l) := by unfold checkPlan; rw [if_pos h]
theorem cp2 (h : checkJobs l = 0) (h2 : ¬ (p.length : Int) = l.length) : checkPlan l p = (0, 15) := by unfold checkPlan; rw [if_neg (by omega), if_pos (by omega)]
theorem cp3 (h : checkJobs l = 0) (h2 : (p.length : Int) = l.length) (h3 : ¬ AllT p) : checkPlan l p = (0, 3) := by unfold checkPlan; rw [if_neg (by omega), if_neg (by omega), if_pos h3]
theorem cp4 (h : checkJobs l = 0) (h2 : (p.length : Int) = l.length) (h3 : AllT p) (h4 : ¬ Right l p) : checkPlan l p = (0, 16) := by
  unfold checkPlan; rw [if_neg (by omega), if_neg (by omega), if_neg (by simpa using h3), if_pos h4]
theorem cp5 (h : checkJobs l = 0) (h2 : (p.length : Int) = l.length) (h3 : AllT p) (h4 : Right l p) : checkPlan l p = (endOf l p, 0) := by
  unfold checkPlan; rw [if_neg (by omega), if_neg (by omega), if_neg (by simpa using h3), if_neg (by simpa using h4)]
end
end Go.Fip.S
