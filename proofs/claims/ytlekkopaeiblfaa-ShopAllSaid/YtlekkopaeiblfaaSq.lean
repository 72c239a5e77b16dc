/- The order of the plan. -/
import Derived.Test.YtlekkopaeiblfaaSe
set_option linter.unusedVariables false
set_option linter.unusedSimpArgs false
set_option linter.unusedSectionVars false
set_option linter.unnecessarySimpa false
namespace Go.Fip
theorem bestTo_in {α : Type} [Inhabited α] {p : α → α → Bool} {l : List α} {q : α → Prop} (h : ∀ i, i < l.length → q (nth l (i : Int))) : ∀ k, k < l.length → q (bestTo p l k)
  | 0, hk => h 0 hk
  | k + 1, hk => by
    rw [bestTo]
    split
    · exact h (k + 1) hk
    · exact bestTo_in h k (by omega)
namespace S
def longer1 (l : List Pr) (x y : Int) : Bool := decide ((nth l y).1 < (nth l x).1)
def longer2 (l : List Pr) (x y : Int) : Bool := decide ((nth l y).2 < (nth l x).2)
def firstsTo (one b : Int) : Nat → List Int
  | 0 => []
  | k + 1 => firstsTo one b k ++ [if (k : Int) = one then b else 1 - b]
theorem firstsTo_length (one b : Int) : ∀ k, (firstsTo one b k).length = k
  | 0 => rfl
  | k + 1 => by simp [firstsTo, firstsTo_length one b k]
theorem firsts_t {one b : Int} {k : Nat} (h : (k : Int) = one) : firstsTo one b k ++ [b] = firstsTo one b (k + 1) := by rw [firstsTo, if_pos h]
theorem firsts_f {one b : Int} {k : Nat} (h : ¬ (k : Int) = one) : firstsTo one b k ++ [1 - b] = firstsTo one b (k + 1) := by rw [firstsTo, if_neg h]
end S
end Go.Fip
namespace Go.Fip.S
def shortsTo (l : List Pr) : Nat → List Int
  | 0 => []
  | k + 1 => if (nth l (k : Int)).1 ≤ (nth l (k : Int)).2 then shortsTo l k ++ [(k : Int)] else shortsTo l k
def longsTo (l : List Pr) : Nat → List Int
  | 0 => []
  | k + 1 => if (nth l (k : Int)).1 ≤ (nth l (k : Int)).2 then longsTo l k else longsTo l k ++ [(k : Int)]
section
variable {l : List Pr}
theorem sh_t {k : Nat} (h : (nth l (k : Int)).1 ≤ (nth l (k : Int)).2) : shortsTo l (k + 1) = shortsTo l k ++ [(k : Int)] ∧ longsTo l (k + 1) = longsTo l k := by rw [shortsTo, longsTo, if_pos h, if_pos h]; exact ⟨rfl, rfl⟩
theorem sh_f {k : Nat} (h : ¬ (nth l (k : Int)).1 ≤ (nth l (k : Int)).2) : shortsTo l (k + 1) = shortsTo l k ∧ longsTo l (k + 1) = longsTo l k ++ [(k : Int)] := by rw [shortsTo, longsTo, if_neg h, if_neg h]; exact ⟨rfl, rfl⟩
theorem parts_length : ∀ k, (shortsTo l k).length + (longsTo l k).length = k
  | 0 => rfl
  | k + 1 => by
    have := parts_length k
    by_cases h : (nth l (k : Int)).1 ≤ (nth l (k : Int)).2
    · rw [(sh_t h).1, (sh_t h).2]; simp; omega
    · rw [(sh_f h).1, (sh_f h).2]; simp; omega
theorem shorts_mem : ∀ {k : Nat} {x : Int}, x ∈ shortsTo l k ↔ (0 ≤ x ∧ x < (k : Int)) ∧ (nth l x).1 ≤ (nth l x).2
  | 0, x => by simp [shortsTo]; omega
  | k + 1, x => by
    by_cases h : (nth l (k : Int)).1 ≤ (nth l (k : Int)).2
    · rw [(sh_t h).1, List.mem_append, shorts_mem, List.mem_singleton]
      constructor
      · rintro (⟨h1, h2⟩ | rfl)
        · exact ⟨by omega, h2⟩
        · exact ⟨by omega, h⟩
      · rintro ⟨h1, h2⟩
        by_cases e : x = (k : Int)
        · exact .inr e
        · exact .inl ⟨by omega, h2⟩
    · rw [(sh_f h).1, shorts_mem]
      constructor
      · rintro ⟨h1, h2⟩; exact ⟨by omega, h2⟩
      · rintro ⟨h1, h2⟩
        by_cases e : x = (k : Int)
        · subst e; exact absurd h2 h
        · exact ⟨by omega, h2⟩
theorem longs_mem : ∀ {k : Nat} {x : Int}, x ∈ longsTo l k ↔ (0 ≤ x ∧ x < (k : Int)) ∧ ¬ (nth l x).1 ≤ (nth l x).2
  | 0, x => by simp [longsTo]; omega
  | k + 1, x => by
    by_cases h : (nth l (k : Int)).1 ≤ (nth l (k : Int)).2
    · rw [(sh_t h).2, longs_mem]
      constructor
      · rintro ⟨h1, h2⟩; exact ⟨by omega, h2⟩
      · rintro ⟨h1, h2⟩
        by_cases e : x = (k : Int)
        · subst e; exact absurd h h2
        · exact ⟨by omega, h2⟩
    · rw [(sh_f h).2, List.mem_append, longs_mem, List.mem_singleton]
      constructor
      · rintro (⟨h1, h2⟩ | rfl)
        · exact ⟨by omega, h2⟩
        · exact ⟨by omega, h⟩
      · rintro ⟨h1, h2⟩
        by_cases e : x = (k : Int)
        · exact .inr e
        · exact .inl ⟨by omega, h2⟩
theorem shorts_in {k : Nat} (i : Nat) (hi : i < (shortsTo l k).length) : 0 ≤ nth (shortsTo l k) (i : Int) ∧ nth (shortsTo l k) (i : Int) < (k : Int) := by
  rw [nth_nat hi]; exact (shorts_mem.1 (List.getElem_mem hi)).1
theorem longs_in {k : Nat} (i : Nat) (hi : i < (longsTo l k).length) : 0 ≤ nth (longsTo l k) (i : Int) ∧ nth (longsTo l k) (i : Int) < (k : Int) := by
  rw [nth_nat hi]; exact (longs_mem.1 (List.getElem_mem hi)).1
variable (l)
def shortR (k : Nat) : Int := bestTo (longer1 l) (shortsTo l k) ((shortsTo l k).length - 1)
def longR (k : Nat) : Int := bestTo (longer2 l) (longsTo l k) ((longsTo l k).length - 1)
def useShort (k : Nat) : Prop := (longsTo l k).length = 0 ∨ (0 < (shortsTo l k).length ∧ (nth l (longR l k)).2 ≤ (nth l (shortR l k)).1)
instance (k : Nat) : Decidable (useShort l k) := by unfold useShort; infer_instance
def rowS (k : Nat) : List Int := ((shortsTo l k).filter fun y => !decide (y = shortR l k)) ++ longsTo l k
def rowL (k : Nat) : List Int := ((longsTo l k).filter fun y => !decide (y = longR l k)) ++ shortsTo l k
/-- The order of the shortest day. -/
def planOrd : List Int × List Int × List Int :=
  if useShort l l.length then (rowS l l.length ++ [shortR l l.length], [shortR l l.length] ++ rowS l l.length, firstsTo (shortR l l.length) 1 l.length)
  else ([longR l l.length] ++ rowL l l.length, rowL l l.length ++ [longR l l.length], firstsTo (longR l l.length) 0 l.length)
variable {l}
theorem planOrd_t {k : Nat} (hk : k = l.length) (h : useShort l k) : planOrd l = (rowS l k ++ [shortR l k], [shortR l k] ++ rowS l k, firstsTo (shortR l k) 1 l.length) := by
  subst hk; unfold planOrd; rw [if_pos h]
theorem planOrd_f {k : Nat} (hk : k = l.length) (h : ¬ useShort l k) : planOrd l = ([longR l k] ++ rowL l k, rowL l k ++ [longR l k], firstsTo (longR l k) 0 l.length) := by
  subst hk; unfold planOrd; rw [if_neg h]
end
end Go.Fip.S
namespace Go.Fip.S
theorem shortR_in {l : List Pr} {k : Nat} (h : 0 < (shortsTo l k).length) : (0 ≤ shortR l k ∧ shortR l k < (k : Int)) :=
  bestTo_in (l := shortsTo l k) (q := fun x : Int => 0 ≤ x ∧ x < (k : Int)) (fun i hi => shorts_in i hi) _ (by omega)
theorem longR_in {l : List Pr} {k : Nat} (h : 0 < (longsTo l k).length) : (0 ≤ longR l k ∧ longR l k < (k : Int)) :=
  bestTo_in (l := longsTo l k) (q := fun x : Int => 0 ≤ x ∧ x < (k : Int)) (fun i hi => longs_in i hi) _ (by omega)
end Go.Fip.S
namespace Go.Fip.S
section
variable {l : List Pr}
theorem planOrd_len : (planOrd l).1.length ≤ 3 * l.length + 1 ∧ (planOrd l).2.1.length ≤ 3 * l.length + 1 ∧ (planOrd l).2.2.length ≤ 3 * l.length + 1 := by
  have hp := parts_length (l := l) l.length
  have h1 := List.length_filter_le (fun y : Int => !decide (y = shortR l l.length)) (shortsTo l l.length)
  have h2 := List.length_filter_le (fun y : Int => !decide (y = longR l l.length)) (longsTo l l.length)
  unfold planOrd rowS rowL
  split <;> simp only [List.length_append, List.length_cons, List.length_nil, firstsTo_length] <;> omega
variable (l)
noncomputable def plan : List Pr × Int := if checkJobs l ≠ 0 then ([], checkJobs l) else play l (planOrd l).1 (planOrd l).2.1 (planOrd l).2.2
variable {l}
theorem plan1 (h : ¬ checkJobs l = 0) : plan l = ([], checkJobs l) := by unfold plan; rw [if_pos h]
theorem plan2 (h : checkJobs l = 0) : plan l = play l (planOrd l).1 (planOrd l).2.1 (planOrd l).2.2 := by unfold plan; rw [if_neg (by omega)]
end
end Go.Fip.S
namespace Go.Fip.S
theorem of_pair {a b : Pr} (h : [a.1, a.2] = [b.1, b.2]) : a = b := by
  simp only [List.cons.injEq, and_true] at h
  exact Prod.ext h.1 h.2
theorem to_pair {a b : Pr} (h : a = b) : [a.1, a.2] = [b.1, b.2] := by rw [h]
theorem same_ext {a b : List Pr} (hl : a.length = b.length) (h : ∀ i, i < a.length → nth a (i : Int) = nth b (i : Int)) : a = b := by
  refine List.ext_getElem hl fun i h1 h2 => ?_
  have := h i h1
  rwa [nth_nat h1, nth_nat h2] at this
end Go.Fip.S
