/- How the shortest day goes with more jobs, more minutes, and scaled. -/
import Derived.Test.YtlekkopaeiblfaaSu
set_option linter.unusedVariables false
set_option linter.unusedSimpArgs false
set_option linter.unusedSectionVars false
set_option linter.unnecessarySimpa false
namespace Go.Fip.S
theorem shortest_le_iff {l : List Pr} {c : Int} : shortestOf l ≤ c ↔ sumOf l 0 ≤ c ∧ sumOf l 1 ≤ c ∧ ∀ i, i < l.length → alone l i ≤ c := by
  have hge := shortTo_ge l l.length
  have e : shortTo l l.length = shortestOf l := rfl
  rw [e] at hge
  constructor
  · intro h
    exact ⟨by omega, by omega, fun i hi => by have := hge.2.2 i hi; omega⟩
  · rintro ⟨h1, h2, h3⟩
    rcases shortTo_is l l.length with h | h | ⟨i, hi, h⟩
    · rw [e] at h; omega
    · rw [e] at h; omega
    · rw [e] at h; have := h3 i hi; omega
theorem shortest_ge {l : List Pr} : sumOf l 0 ≤ shortestOf l ∧ sumOf l 1 ≤ shortestOf l ∧ ∀ i, i < l.length → alone l i ≤ shortestOf l := shortest_le_iff.1 (Int.le_refl _)
theorem sumTo_append {l r : List Pr} {b : Int} (hb : b = 0 ∨ b = 1) : ∀ k, k ≤ l.length → sumTo (l ++ r) b k = sumTo l b k
  | 0, _ => rfl
  | k + 1, h => by
    rw [sumTo, sumTo, sumTo_append hb k (by omega)]
    congr 1
    unfold at2
    rw [show (2 * (k : Int) + b) / 2 = (k : Int) by omega, nth_append_l (by omega) (by omega)]
theorem nth_last {l : List Pr} {m : Pr} : nth (l ++ [m]) (l.length : Int) = m := nth_snoc rfl
theorem sumOf_snoc {l : List Pr} {m : Pr} : sumOf (l ++ [m]) 0 = sumOf l 0 + m.1 ∧ sumOf (l ++ [m]) 1 = sumOf l 1 + m.2 := by
  unfold sumOf
  rw [List.length_append, List.length_singleton]
  constructor
  · rw [sum0, sumTo_append (.inl rfl) _ (Nat.le_refl _), nth_last]
  · rw [sum1, sumTo_append (.inr rfl) _ (Nat.le_refl _), nth_last]
theorem alone_snoc {l : List Pr} {m : Pr} {i : Nat} (h : i < l.length) : alone (l ++ [m]) i = alone l i := by
  unfold alone
  rw [nth_append_l (by omega) (by omega)]
/-- With one more job. -/
theorem shortest_snoc {l : List Pr} {m : Pr} (h1 : 1 ≤ m.1) (h2 : 1 ≤ m.2) (hj : Jobs l) : shortestOf l ≤ shortestOf (l ++ [m]) ∧ shortestOf (l ++ [m]) ≤ shortestOf l + m.1 + m.2 := by
  have g := shortest_ge (l := l)
  have g2 := shortest_ge (l := l ++ [m])
  have s := sumOf_snoc (l := l) (m := m)
  have hp := shortTo_bd hj l.length (Nat.le_refl _)
  have e : shortTo l l.length = shortestOf l := rfl
  rw [e] at hp
  constructor
  · rw [shortest_le_iff]
    refine ⟨by omega, by omega, fun i hi => ?_⟩
    have := g2.2.2 i (by simp; omega)
    rw [alone_snoc hi] at this
    exact this
  · rw [shortest_le_iff]
    refine ⟨by omega, by omega, fun i hi => ?_⟩
    rw [List.length_append, List.length_singleton] at hi
    by_cases hl : i < l.length
    · rw [alone_snoc hl]; have := g.2.2 i hl; omega
    · have e2 : i = l.length := by omega
      subst e2
      unfold alone
      rw [nth_last]
      omega
theorem jobs_snoc {l : List Pr} {m : Pr} (hj : Jobs l) (hl : l.length < 8) (hm : okJob m) : Jobs (l ++ [m]) := by
  refine ⟨by simp, by simp; omega, fun i hi => ?_⟩
  rw [List.length_append, List.length_singleton] at hi
  by_cases h : i < l.length
  · rw [nth_append_l (by omega) (by omega)]; exact hj.2.2 i h
  · rw [show i = l.length by omega, nth_last]; exact hm
section
variable {l : List Pr} {i : Nat} {z : Pr}
theorem sum0_set (h : i < l.length) : ∀ k, sumTo (l.set i z) 0 k = sumTo l 0 k + (if i < k then z.1 - (nth l (i : Int)).1 else 0)
  | 0 => by simp [sumTo]
  | k + 1 => by
    rw [sum0, sum0, sum0_set h k]
    by_cases e : i = k
    · subst e; rw [nth_set_same h, if_neg (by omega), if_pos (by omega)]; omega
    · rw [nth_set_ne e]
      by_cases e2 : i < k
      · rw [if_pos e2, if_pos (by omega)]; omega
      · rw [if_neg e2, if_neg (by omega)]; omega
theorem sum1_set (h : i < l.length) : ∀ k, sumTo (l.set i z) 1 k = sumTo l 1 k + (if i < k then z.2 - (nth l (i : Int)).2 else 0)
  | 0 => by simp [sumTo]
  | k + 1 => by
    rw [sum1, sum1, sum1_set h k]
    by_cases e : i = k
    · subst e; rw [nth_set_same h, if_neg (by omega), if_pos (by omega)]; omega
    · rw [nth_set_ne e]
      by_cases e2 : i < k
      · rw [if_pos e2, if_pos (by omega)]; omega
      · rw [if_neg e2, if_neg (by omega)]; omega
/-- With more minutes of a job. -/
theorem shortest_set (h : i < l.length) (h1 : (nth l (i : Int)).1 ≤ z.1) (h2 : (nth l (i : Int)).2 ≤ z.2) : shortestOf l ≤ shortestOf (l.set i z) ∧ shortestOf (l.set i z) ≤ shortestOf l + (z.1 - (nth l (i : Int)).1) + (z.2 - (nth l (i : Int)).2) := by
  have g := shortest_ge (l := l)
  have g2 := shortest_ge (l := l.set i z)
  have s0 := sum0_set (z := z) h l.length
  have s1 := sum1_set (z := z) h l.length
  rw [if_pos h] at s0 s1
  have e0 : sumOf (l.set i z) 0 = sumTo (l.set i z) 0 l.length := by unfold sumOf; rw [List.length_set]
  have e1 : sumOf (l.set i z) 1 = sumTo (l.set i z) 1 l.length := by unfold sumOf; rw [List.length_set]
  have f0 : sumOf l 0 = sumTo l 0 l.length := rfl
  have f1 : sumOf l 1 = sumTo l 1 l.length := rfl
  have al : ∀ j, j < l.length → alone (l.set i z) j = if j = i then z.1 + z.2 else alone l j := fun j hj => by
    unfold alone
    by_cases e : j = i
    · subst e; rw [nth_set_same h, if_pos rfl]
    · rw [nth_set_ne (fun h => e h.symm), if_neg e]
  have ai : alone l i = (nth l (i : Int)).1 + (nth l (i : Int)).2 := rfl
  constructor
  · rw [shortest_le_iff]
    refine ⟨by omega, by omega, fun j hj => ?_⟩
    have := g2.2.2 j (by rw [List.length_set]; exact hj)
    rw [al j hj] at this
    split at this
    · rename_i e; subst e; omega
    · exact this
  · rw [shortest_le_iff]
    refine ⟨by omega, by omega, fun j hj => ?_⟩
    rw [List.length_set] at hj
    rw [al j hj]
    have h3 := g.2.2 j hj
    split
    · rename_i e; subst e; omega
    · omega
theorem jobs_set (hj : Jobs l) (h : i < l.length) (hz : okJob z) : Jobs (l.set i z) := by
  refine ⟨by rw [List.length_set]; exact hj.1, by rw [List.length_set]; exact hj.2.1, fun j hl => ?_⟩
  rw [List.length_set] at hl
  by_cases e : i = j
  · subst e; rw [nth_set_same h]; exact hz
  · rw [nth_set_ne e]; exact hj.2.2 j hl
end
end Go.Fip.S
