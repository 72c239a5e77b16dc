/- Orders by numbers. -/
import Derived.Test.YtlekkopaeiblfaaSv
set_option linter.unusedVariables false
set_option linter.unusedSimpArgs false
set_option linter.unusedSectionVars false
set_option linter.unnecessarySimpa false
namespace Go.Fip.S
/-- A number put into a list at an index. -/
def ins (l : List Int) (a x : Int) : List Int := l.take a.toNat ++ [x] ++ l.drop a.toNat
theorem ins_length {l : List Int} {a x : Int} (h : a ≤ (l.length : Int)) : (ins l a x).length = l.length + 1 := by
  unfold ins
  simp only [List.length_append, List.length_take, List.length_drop, List.length_singleton]
  omega
theorem mem_ins {l : List Int} {a x y : Int} : y ∈ ins l a x ↔ y ∈ l ∨ y = x := by
  unfold ins
  rw [List.mem_append, List.mem_append, List.mem_singleton]
  constructor
  · rintro ((h | h) | h)
    · exact .inl (List.mem_of_mem_take h)
    · exact .inr h
    · exact .inl (List.mem_of_mem_drop h)
  · rintro (h | h)
    · rw [← List.take_append_drop a.toNat l, List.mem_append] at h
      rcases h with h | h
      · exact .inl (.inl h)
      · exact .inr h
    · exact .inl (.inr h)
section
variable (by_ : List Int)
/-- The number from which the k-th place comes, of kind c. -/
def pick (c : Int) (k : Nat) : Int := nth by_ ((3 * (k : Int) + c) % (by_.length : Int))
def ordB : Nat → List Int
  | 0 => []
  | k + 1 => ins (ordB k) (if 0 < by_.length then pick by_ 0 k % ((k : Int) + 1) else (k : Int)) (k : Int)
def ordU : Nat → List Int
  | 0 => []
  | k + 1 => ins (ordU k) (if 0 < by_.length then pick by_ 1 k % ((k : Int) + 1) else (k : Int)) (k : Int)
def ordF : Nat → List Int
  | 0 => []
  | k + 1 => ordF k ++ [if 0 < by_.length then pick by_ 2 k % 2 else 0]
variable {by_}
theorem pick_bd (h : 0 < by_.length) (hb : ∀ n ∈ by_, 0 ≤ n ∧ n ≤ 255) (c : Int) (k : Nat) : 0 ≤ (3 * (k : Int) + c) % (by_.length : Int) ∧ (3 * (k : Int) + c) % (by_.length : Int) < (by_.length : Int) ∧ 0 ≤ pick by_ c k ∧ pick by_ c k ≤ 255 := by
  have h0 := Int.emod_nonneg (3 * (k : Int) + c) (show (by_.length : Int) ≠ 0 by omega)
  have h1 := Int.emod_lt_of_pos (3 * (k : Int) + c) (show 0 < (by_.length : Int) by omega)
  refine ⟨h0, h1, ?_⟩
  unfold pick
  have e : ((((3 * (k : Int) + c) % (by_.length : Int)).toNat : Nat) : Int) = (3 * (k : Int) + c) % (by_.length : Int) := by omega
  rw [← e]
  exact hb _ (nth_mem (by omega))
theorem emod_bd {x : Int} {k : Nat} : 0 ≤ x % ((k : Int) + 1) ∧ x % ((k : Int) + 1) ≤ (k : Int) := by
  have h0 := Int.emod_nonneg x (show (k : Int) + 1 ≠ 0 by omega)
  have h1 := Int.emod_lt_of_pos x (show 0 < (k : Int) + 1 by omega)
  omega
theorem ordB_ok : ∀ k, (ordB by_ k).length = k ∧ ∀ i, i < k → ((i : Nat) : Int) ∈ ordB by_ k
  | 0 => ⟨rfl, fun i hi => absurd hi (Nat.not_lt_zero _)⟩
  | k + 1 => by
    obtain ⟨h1, h2⟩ := ordB_ok k
    refine ⟨?_, fun i hi => ?_⟩
    · rw [ordB, ins_length, h1]
      have := emod_bd (x := pick by_ 0 k) (k := k)
      rw [h1]; split <;> omega
    · rw [ordB, mem_ins]
      rcases Nat.lt_or_eq_of_le (Nat.le_of_lt_succ hi) with h | rfl
      · exact .inl (h2 i h)
      · exact .inr rfl
theorem ordU_ok : ∀ k, (ordU by_ k).length = k ∧ ∀ i, i < k → ((i : Nat) : Int) ∈ ordU by_ k
  | 0 => ⟨rfl, fun i hi => absurd hi (Nat.not_lt_zero _)⟩
  | k + 1 => by
    obtain ⟨h1, h2⟩ := ordU_ok k
    refine ⟨?_, fun i hi => ?_⟩
    · rw [ordU, ins_length, h1]
      have := emod_bd (x := pick by_ 1 k) (k := k)
      rw [h1]; split <;> omega
    · rw [ordU, mem_ins]
      rcases Nat.lt_or_eq_of_le (Nat.le_of_lt_succ hi) with h | rfl
      · exact .inl (h2 i h)
      · exact .inr rfl
theorem ordF_len : ∀ k, (ordF by_ k).length = k
  | 0 => rfl
  | k + 1 => by rw [ordF, List.length_append, ordF_len k]; rfl
theorem ordF_ok : ∀ k i, i < k → 0 ≤ nth (ordF by_ k) ((i : Nat) : Int) ∧ nth (ordF by_ k) (i : Int) ≤ 1
  | k + 1, i, h => by
    rw [ordF]
    rcases Nat.lt_or_eq_of_le (Nat.le_of_lt_succ h) with h1 | rfl
    · rw [nth_append_l (by omega) (by rw [ordF_len]; omega)]; exact ordF_ok k i h1
    · rw [nth_snoc (by rw [ordF_len])]; split <;> omega
theorem ordered_ok (n : Nat) : Ord n (ordB by_ n) (ordU by_ n) (ordF by_ n) :=
  ord_of_mem (ordB_ok n).1 (ordU_ok n).1 (ordF_len n) (ordB_ok n).2 (ordU_ok n).2 (fun i hi => ordF_ok n i hi)
theorem ordB_t {k : Nat} {a : Int} (h : 0 < by_.length) (ha : a = pick by_ 0 k % ((k : Int) + 1)) : ins (ordB by_ k) a (k : Int) = ordB by_ (k + 1) := by rw [ordB, if_pos h, ha]
theorem ordB_f {k : Nat} (h : ¬ 0 < by_.length) : ins (ordB by_ k) (k : Int) (k : Int) = ordB by_ (k + 1) := by rw [ordB, if_neg h]
theorem ordU_t {k : Nat} {a : Int} (h : 0 < by_.length) (ha : a = pick by_ 1 k % ((k : Int) + 1)) : ins (ordU by_ k) a (k : Int) = ordU by_ (k + 1) := by rw [ordU, if_pos h, ha]
theorem ordU_f {k : Nat} (h : ¬ 0 < by_.length) : ins (ordU by_ k) (k : Int) (k : Int) = ordU by_ (k + 1) := by rw [ordU, if_neg h]
theorem ordF_t {k : Nat} {a : Int} (h : 0 < by_.length) (ha : a = pick by_ 2 k % 2) : ordF by_ k ++ [a] = ordF by_ (k + 1) := by rw [ordF, if_pos h, ha]
theorem ordF_f {k : Nat} (h : ¬ 0 < by_.length) : ordF by_ k ++ [0] = ordF by_ (k + 1) := by rw [ordF, if_neg h]
end
end Go.Fip.S
