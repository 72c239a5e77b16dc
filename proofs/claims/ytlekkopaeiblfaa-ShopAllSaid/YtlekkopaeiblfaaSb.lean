/- Bounds: the first that is reached. -/
import Derived.Test.YtlekkopaeiblfaaSp
set_option linter.unusedVariables false
set_option linter.unusedSimpArgs false
set_option linter.unusedSectionVars false
set_option linter.unnecessarySimpa false
namespace Go.Fip.S
theorem sum0 {l : List Pr} {k : Nat} : sumTo l 0 (k + 1) = sumTo l 0 k + (nth l (k : Int)).1 := by
  show _ + at2 l _ = _
  have e : (2 * (k : Int) + 0) / 2 = k := by omega
  have e2 : (2 * (k : Int) + 0) % 2 = 0 := by omega
  unfold at2
  rw [if_pos e2, e]
theorem sum1 {l : List Pr} {k : Nat} : sumTo l 1 (k + 1) = sumTo l 1 k + (nth l (k : Int)).2 := by
  show _ + at2 l _ = _
  have e : (2 * (k : Int) + 1) / 2 = k := by omega
  have e2 : ¬ (2 * (k : Int) + 1) % 2 = 0 := by omega
  unfold at2
  rw [if_neg e2, e]
abbrev Nm := Int × Int × Int
def boundsTo (l : List Pr) : Nat → List Nm
  | 0 => [(0, 0, boundOf l 0 0), (1, 0, boundOf l 1 0)]
  | k + 1 => boundsTo l k ++ [(2, (k : Int), boundOf l 2 (k : Int))]
theorem boundsTo_length (l : List Pr) : ∀ k, (boundsTo l k).length = k + 2
  | 0 => rfl
  | k + 1 => by simp [boundsTo, boundsTo_length l k]
theorem boundsTo_0 (l : List Pr) : ∀ k, nth (boundsTo l k) ((0 : Nat) : Int) = (0, 0, sumOf l 0)
  | 0 => rfl
  | k + 1 => by
    show nth (_ ++ _) _ = _
    rw [nth_append_l (by omega) (by rw [boundsTo_length]; omega), boundsTo_0 l k]
theorem boundsTo_1 (l : List Pr) : ∀ k, nth (boundsTo l k) ((1 : Nat) : Int) = (1, 0, sumOf l 1)
  | 0 => rfl
  | k + 1 => by
    show nth (_ ++ _) _ = _
    rw [nth_append_l (by omega) (by rw [boundsTo_length]; omega), boundsTo_1 l k]
def alone (l : List Pr) (i : Nat) : Int := (nth l (i : Int)).1 + (nth l (i : Int)).2
theorem boundsTo_2 (l : List Pr) : ∀ k i, i < k → nth (boundsTo l k) ((i + 2 : Nat) : Int) = (2, (i : Int), alone l i)
  | k + 1, i, h => by
    show nth (_ ++ _) _ = _
    rcases Nat.lt_or_eq_of_le (Nat.le_of_lt_succ h) with h1 | rfl
    · rw [nth_append_l (by omega) (by rw [boundsTo_length]; omega), boundsTo_2 l k i h1]
    · rw [nth_snoc (by rw [boundsTo_length])]; rfl
theorem shortTo_ge (l : List Pr) : ∀ k, sumOf l 0 ≤ shortTo l k ∧ sumOf l 1 ≤ shortTo l k ∧ ∀ i, i < k → alone l i ≤ shortTo l k
  | 0 => by simp only [shortTo]; exact ⟨by omega, by omega, fun i hi => absurd hi (Nat.not_lt_zero _)⟩
  | k + 1 => by
    obtain ⟨h1, h2, h3⟩ := shortTo_ge l k
    simp only [shortTo]
    refine ⟨by omega, by omega, fun i hi => ?_⟩
    rcases Nat.lt_or_eq_of_le (Nat.le_of_lt_succ hi) with h4 | rfl
    · have := h3 i h4; omega
    · unfold alone; omega
theorem shortTo_is (l : List Pr) : ∀ k, shortTo l k = sumOf l 0 ∨ shortTo l k = sumOf l 1 ∨ ∃ i, i < k ∧ shortTo l k = alone l i
  | 0 => by simp only [shortTo]; omega
  | k + 1 => by
    have h := shortTo_is l k
    simp only [shortTo]
    by_cases h4 : shortTo l k ≤ (nth l (k : Int)).1 + (nth l (k : Int)).2
    · right; right; exact ⟨k, by omega, by unfold alone; omega⟩
    · have e : max (shortTo l k) ((nth l (k : Int)).1 + (nth l (k : Int)).2) = shortTo l k := by omega
      rw [e]
      rcases h with h | h | ⟨i, hi, h⟩
      · exact .inl h
      · exact .inr (.inl h)
      · exact .inr (.inr ⟨i, by omega, h⟩)
theorem tightFrom_eq {l : List Pr} {i : Nat} (hi : alone l i = shortestOf l) : ∀ f k, k ≤ i → i ≤ k + f → (∀ j, k ≤ j → j < i → alone l j < shortestOf l) → tightFrom l f k = (i : Int)
  | 0, k, h1, h2, _ => by simp only [tightFrom]; omega
  | f + 1, k, h1, h2, h => by
    simp only [tightFrom]
    by_cases hk : k = i
    · subst hk
      unfold alone at hi
      rw [if_neg (by omega)]
    · have := h k (Nat.le_refl _) (by omega)
      unfold alone at this
      rw [if_pos this]
      exact tightFrom_eq hi f (k + 1) (by omega) (by omega) (fun j h3 h4 => h j (by omega) h4)
def better (x y : Nm) : Bool := decide (y.2.2 < x.2.2)
/-- The best bound, as the program finds it. -/
def tightest (l : List Pr) : Nm := bestTo better (boundsTo l l.length) (l.length + 1)
theorem tightest_spec {l : List Pr} : tight l = (if checkJobs l ≠ 0 then (0, 0, checkJobs l) else ((tightest l).1, (tightest l).2.1, 0)) ∧
    (Jobs l → (tightest l).2.2 = shortestOf l ∧ boundOf l (tightest l).1 (tightest l).2.1 = shortestOf l ∧ 0 ≤ (tightest l).1 ∧ (tightest l).1 ≤ 2 ∧ 0 ≤ (tightest l).2.1 ∧ (tightest l).2.1 < (l.length : Int)) := by
  have hb := bestTo_spec (p := better) (l := boundsTo l l.length) (fun x => x.2.2) (fun x y => by simp [better]) (l.length + 1)
  obtain ⟨i, hi, he, hmax, hfirst⟩ := hb
  have hge := shortTo_ge l l.length
  have his := shortTo_is l l.length
  have hval : (tightest l).2.2 = shortestOf l := by
    unfold tightest
    rw [he]
    apply Int.le_antisymm
    · rcases (show i = 0 ∨ i = 1 ∨ ∃ k, i = k + 2 from by rcases i with _ | _ | k <;> simp) with rfl | rfl | ⟨k, rfl⟩
      · rw [boundsTo_0]; exact hge.1
      · rw [boundsTo_1]; exact hge.2.1
      · rw [boundsTo_2 l _ k (by omega)]; exact hge.2.2 k (by omega)
    · show shortTo l l.length ≤ _
      rcases his with h | h | ⟨k, hk, h⟩
      · rw [h]; have := hmax 0 (by omega); rw [boundsTo_0] at this; exact this
      · rw [h]; have := hmax 1 (by omega); rw [boundsTo_1] at this; exact this
      · rw [h]; have := hmax (k + 2) (by omega); rw [boundsTo_2 l _ k hk] at this; exact this
  have hval2 := hval
  unfold tightest at hval2
  rw [he] at hval2
  simp only [hval2] at hfirst
  have ht : tightest l = nth (boundsTo l l.length) (i : Int) := he
  constructor
  · unfold tight
    split
    · rfl
    · rw [ht]
      rcases (show i = 0 ∨ i = 1 ∨ ∃ k, i = k + 2 from by rcases i with _ | _ | k <;> simp) with rfl | rfl | ⟨k, rfl⟩
      · rw [boundsTo_0] at hval2 ⊢
        rw [if_pos hval2]
      · have h0 := hfirst 0 (by omega)
        rw [boundsTo_0] at h0
        rw [boundsTo_1] at hval2 ⊢
        rw [if_neg (by simp only at h0; omega), if_pos hval2]
      · have h0 := hfirst 0 (by omega)
        have h1 := hfirst 1 (by omega)
        rw [boundsTo_0] at h0
        rw [boundsTo_1] at h1
        rw [boundsTo_2 l _ k (by omega)] at hval2 ⊢
        simp only at h0 h1
        rw [if_neg (by omega), if_neg (by omega), tightFrom_eq hval2 l.length 0 (by omega) (by omega) (fun j _ hj => ?_)]
        have := hfirst (j + 2) (by omega)
        rw [boundsTo_2 l _ j (by omega)] at this
        exact this
  · intro hj
    have h1 := hj.1
    refine ⟨hval, ?_⟩
    rw [ht]
    rcases (show i = 0 ∨ i = 1 ∨ ∃ k, i = k + 2 from by rcases i with _ | _ | k <;> simp) with rfl | rfl | ⟨k, rfl⟩
    · rw [boundsTo_0] at hval2 ⊢
      refine ⟨hval2, ?_⟩
      simp only; omega
    · rw [boundsTo_1] at hval2 ⊢
      refine ⟨hval2, ?_⟩
      simp only; omega
    · rw [boundsTo_2 l _ k (by omega)] at hval2 ⊢
      refine ⟨hval2, ?_⟩
      simp only; omega
end Go.Fip.S
namespace Go.Fip.S
section
variable {l p : List Pr} {b i : Int}
theorem bd1 (h : ¬ checkJobs l = 0) : bound l b i = (0, checkJobs l) := by unfold bound; rw [if_pos h]
theorem bd2 (h : checkJobs l = 0) (h2 : b < 0 ∨ 2 < b ∨ i < 0 ∨ (l.length : Int) ≤ i) : bound l b i = (0, 2) := by unfold bound; rw [if_neg (by omega), if_pos h2]
theorem bd3 (h : checkJobs l = 0) (h2 : ¬ (b < 0 ∨ 2 < b ∨ i < 0 ∨ (l.length : Int) ≤ i)) : bound l b i = (boundOf l b i, 0) := by unfold bound; rw [if_neg (by omega), if_neg h2]
theorem sh1 (h : ¬ checkJobs l = 0) : shortest l = (0, checkJobs l) := by unfold shortest; rw [if_pos h]
theorem sh2 (h : checkJobs l = 0) : shortest l = (shortestOf l, 0) := by unfold shortest; rw [if_neg (by omega)]
theorem id1 (h : ¬ (checkPlan l p).2 = 0) : idle l p b = (0, (checkPlan l p).2) := by unfold idle; rw [if_pos h]
theorem id2 (h : (checkPlan l p).2 = 0) (h2 : b < 0 ∨ 1 < b) : idle l p b = (0, 2) := by unfold idle; rw [if_neg (by omega), if_pos h2]
theorem id3 (h : (checkPlan l p).2 = 0) (h2 : ¬ (b < 0 ∨ 1 < b)) : idle l p b = (lastOf l p b - sumOf l b, 0) := by unfold idle; rw [if_neg (by omega), if_neg h2]
theorem tight_err2 (h : ¬ checkJobs l = 0) : (tight l).2.2 = checkJobs l := by unfold tight; rw [if_pos h]
theorem tight_err : (¬ (tight l).2.2 = 0) ↔ ¬ checkJobs l = 0 := by
  constructor
  · intro h h2
    rw [tightest_spec.1, if_neg (by omega)] at h
    exact h rfl
  · intro h; rw [tight_err2 h]; exact h
theorem tight_ok2 (hj : Jobs l) : boundOf l (tight l).1 (tight l).2.1 = shortestOf l ∧ 0 ≤ (tight l).1 ∧ (tight l).1 ≤ 2 ∧ 0 ≤ (tight l).2.1 ∧ (tight l).2.1 < (l.length : Int) := by
  have h := (tightest_spec (l := l)).2 hj
  rw [tightest_spec.1, if_neg (by have := checkJobs_iff.2 hj; omega)]
  exact h.2
theorem more_alone (hj : Jobs l) (h0 : ¬ sumOf l 0 = shortestOf l) (h1 : ¬ sumOf l 1 = shortestOf l) {k : Nat} (hk : k ≤ l.length) (h : ∀ j, j < k → alone l j < shortestOf l) : k < l.length := by
  rcases shortTo_is l l.length with h2 | h2 | ⟨i, hi, h2⟩
  · exact absurd h2.symm h0
  · exact absurd h2.symm h1
  · rcases Nat.lt_or_ge i k with h3 | h3
    · have := h i h3
      unfold shortestOf at this
      omega
    · omega
theorem tight_at {k : Nat} (hc : checkJobs l = 0) (h : ∀ i, i < k → ¬ sumOf l (i : Int) = shortestOf l) (hk : k < 2) (he : sumOf l (k : Int) = shortestOf l) : tight l = ((k : Int), 0, 0) := by
  unfold tight
  rw [if_neg (by omega)]
  rcases (by omega : k = 0 ∨ k = 1) with rfl | rfl
  · rw [if_pos (show sumOf l 0 = _ from he)]; rfl
  · have := h 0 (by omega)
    rw [if_neg (show ¬ sumOf l 0 = _ from this), if_pos (show sumOf l 1 = _ from he)]; rfl
theorem tight_at2 {i : Nat} (hc : checkJobs l = 0) (h0 : ¬ sumOf l 0 = shortestOf l) (h1 : ¬ sumOf l 1 = shortestOf l) (hi : i < l.length) (h : ∀ j, j < i → alone l j < shortestOf l) (he : ¬ boundOf l 2 (i : Int) < shortestOf l) : tight l = (2, (i : Int), 0) := by
  unfold tight
  rw [if_neg (by omega), if_neg h0, if_neg h1]
  have hge := (shortTo_ge l l.length).2.2 i hi
  have e : alone l i = shortestOf l := Int.le_antisymm hge (Int.not_lt.1 he)
  rw [tightFrom_eq e l.length 0 (by omega) (by omega) (fun j _ hj => h j hj)]
end
end Go.Fip.S
