/- All orders of up to three jobs. -/
import Derived.Test.YtlekkopaeiblfaaSx
set_option linter.unusedVariables false
set_option linter.unusedSimpArgs false
set_option linter.unusedSectionVars false
set_option linter.unnecessarySimpa false
namespace Go.Fip.S
def goodRow (n : Nat) (B : List Int) : Prop := B.length = n ∧ ∀ i, i < n → ((i : Nat) : Int) ∈ B
/-- All rows of n jobs, and no others. -/
def RowsOf (n : Nat) (R : List (List Int)) : Prop := n ≤ 3 ∧ R.length ≤ 6 ∧ (∀ i, i < R.length → goodRow n (nth R (i : Int))) ∧ ∀ B, goodRow n B → ∃ i, i < R.length ∧ nth R ((i : Nat) : Int) = B
instance (n : Nat) (B : List Int) : Decidable (goodRow n B) := by unfold goodRow; infer_instance
theorem rows1 : RowsOf 1 [[0]] := by
  refine ⟨by omega, by decide, by decide, fun B h => ?_⟩
  obtain ⟨hl, hm⟩ := h
  match B, hl with
  | [a], _ =>
    have h0 := hm 0 (by omega)
    simp at h0
    subst h0
    exact ⟨0, by decide, rfl⟩
theorem rows2 : RowsOf 2 [[0, 1], [1, 0]] := by
  refine ⟨by omega, by decide, by decide, fun B h => ?_⟩
  obtain ⟨hl, hm⟩ := h
  match B, hl with
  | [a, b], _ =>
    have h0 := hm 0 (by omega)
    have h1 := hm 1 (by omega)
    simp at h0 h1
    rcases h0 with h0 | h0 <;> rcases h1 with h1 | h1 <;> first
      | (exfalso; omega)
      | (subst h0; subst h1; first | exact ⟨0, by decide, rfl⟩ | exact ⟨1, by decide, rfl⟩)
theorem rows3 : RowsOf 3 [[0, 1, 2], [0, 2, 1], [1, 0, 2], [1, 2, 0], [2, 0, 1], [2, 1, 0]] := by
  refine ⟨by omega, by decide, by decide, fun B h => ?_⟩
  obtain ⟨hl, hm⟩ := h
  match B, hl with
  | [a, b, c], _ =>
    have h0 := hm 0 (by omega)
    have h1 := hm 1 (by omega)
    have h2 := hm 2 (by omega)
    simp at h0 h1 h2
    rcases h0 with h0 | h0 | h0 <;> rcases h1 with h1 | h1 | h1 <;> rcases h2 with h2 | h2 | h2 <;> first
      | (exfalso; omega)
      | (subst h0; subst h1; subst h2; first | exact ⟨0, by decide, rfl⟩ | exact ⟨1, by decide, rfl⟩ | exact ⟨2, by decide, rfl⟩ | exact ⟨3, by decide, rfl⟩ | exact ⟨4, by decide, rfl⟩ | exact ⟨5, by decide, rfl⟩)
/-- Two to the power of a number of jobs. -/
def pw (n : Nat) : Nat := if n = 0 then 1 else if n = 1 then 2 else if n = 2 then 4 else 8
theorem pw_le (n : Nat) : 1 ≤ pw n ∧ pw n ≤ 8 := by unfold pw; split <;> (try split) <;> (try split) <;> omega
theorem pw_shl {n : Nat} (h : n ≤ 3) : IntKind.i64.wrap (1 * 2 ^ ((n : Nat) : Int).toNat) = (pw n : Int) := by
  rcases (by omega : n = 0 ∨ n = 1 ∨ n = 2 ∨ n = 3) with rfl | rfl | rfl | rfl <;> decide
def bitsTo (b : Int) : Nat → List Int
  | 0 => []
  | k + 1 => bitsTo b k ++ [b / 2 ^ ((k : Nat) : Int).toNat % 2]
theorem bitsTo_length (b : Int) : ∀ k, (bitsTo b k).length = k
  | 0 => rfl
  | k + 1 => by rw [bitsTo, List.length_append, bitsTo_length b k]; rfl
theorem bitsTo_nth (b : Int) : ∀ k i : Nat, i < k → 0 ≤ nth (bitsTo b k) (i : Int) ∧ nth (bitsTo b k) (i : Int) ≤ 1
  | k + 1, i, h => by
    rw [bitsTo]
    rcases Nat.lt_or_eq_of_le (Nat.le_of_lt_succ h) with h1 | rfl
    · rw [nth_append_l (by omega) (by rw [bitsTo_length]; omega)]; exact bitsTo_nth b k i h1
    · rw [nth_snoc (by rw [bitsTo_length])]; omega
theorem bits_all {n : Nat} (hn : n ≤ 3) {F : List Int} (hl : F.length = n) (h : ∀ i, i < n → 0 ≤ nth F ((i : Nat) : Int) ∧ nth F (i : Int) ≤ 1) : ∃ b, b < pw n ∧ bitsTo ((b : Nat) : Int) n = F := by
  rcases (by omega : n = 0 ∨ n = 1 ∨ n = 2 ∨ n = 3) with rfl | rfl | rfl | rfl
  · match F, hl with
    | [], _ => exact ⟨0, by decide, rfl⟩
  · match F, hl with
    | [a], _ =>
      have h0 : 0 ≤ a ∧ a ≤ 1 := h 0 (by omega)
      rcases (by omega : a = 0 ∨ a = 1) with rfl | rfl
      · exact ⟨0, by decide, by decide⟩
      · exact ⟨1, by decide, by decide⟩
  · match F, hl with
    | [a, b], _ =>
      have h0 : 0 ≤ a ∧ a ≤ 1 := h 0 (by omega)
      have h1 : 0 ≤ b ∧ b ≤ 1 := h 1 (by omega)
      rcases (by omega : a = 0 ∨ a = 1) with rfl | rfl <;> rcases (by omega : b = 0 ∨ b = 1) with rfl | rfl <;> first
        | exact ⟨0, by decide, by decide⟩ | exact ⟨1, by decide, by decide⟩ | exact ⟨2, by decide, by decide⟩ | exact ⟨3, by decide, by decide⟩
  · match F, hl with
    | [a, b, c], _ =>
      have h0 : 0 ≤ a ∧ a ≤ 1 := h 0 (by omega)
      have h1 : 0 ≤ b ∧ b ≤ 1 := h 1 (by omega)
      have h2 : 0 ≤ c ∧ c ≤ 1 := h 2 (by omega)
      rcases (by omega : a = 0 ∨ a = 1) with rfl | rfl <;> rcases (by omega : b = 0 ∨ b = 1) with rfl | rfl <;> rcases (by omega : c = 0 ∨ c = 1) with rfl | rfl <;> first
        | exact ⟨0, by decide, by decide⟩ | exact ⟨1, by decide, by decide⟩ | exact ⟨2, by decide, by decide⟩ | exact ⟨3, by decide, by decide⟩
        | exact ⟨4, by decide, by decide⟩ | exact ⟨5, by decide, by decide⟩ | exact ⟨6, by decide, by decide⟩ | exact ⟨7, by decide, by decide⟩
section
variable {l p : List Pr} {R : List (List Int)}
theorem rows_ord (hR : RowsOf l.length R) {i k : Nat} (hi : i < R.length) (hk : k < R.length) (b : Int) : Ord l.length (nth R (i : Int)) (nth R (k : Int)) (bitsTo b l.length) :=
  ord_of_mem (hR.2.2.1 i hi).1 (hR.2.2.1 k hk).1 (bitsTo_length _ _) (hR.2.2.1 i hi).2 (hR.2.2.1 k hk).2 (fun j hj => bitsTo_nth b _ j hj)
/-- The order of the shortest day is among them; played, it ends with the shortest day. -/
theorem target (hj : Jobs l) (hR : RowsOf l.length R) : ∃ ti tk tb : Nat, ti < R.length ∧ tk < R.length ∧ tb < pw l.length ∧
    ∃ p, SolP l (nth R (ti : Int)) (nth R (tk : Int)) (bitsTo (tb : Int) l.length) p ∧ endOf l p = shortestOf l := by
  obtain ⟨hO, _⟩ := planOrd_ok hj
  obtain ⟨p, hpl, hps, hpc⟩ := plan_ok hj
  have mB : goodRow l.length (planOrd l).1 := ⟨hO.1, fun i hi => place_iff.1 (hO.2.2.2 i hi).1⟩
  have mU : goodRow l.length (planOrd l).2.1 := ⟨hO.2.1, fun i hi => place_iff.1 (hO.2.2.2 i hi).2.1⟩
  obtain ⟨ti, h1, e1⟩ := hR.2.2.2 _ mB
  obtain ⟨tk, h2, e2⟩ := hR.2.2.2 _ mU
  obtain ⟨tb, h3, e3⟩ := bits_all hR.1 hO.2.2.1 (fun i hi => (hO.2.2.2 i hi).2.2)
  refine ⟨ti, tk, tb, h1, h2, h3, p, by rw [e1, e2, e3]; exact hps, ?_⟩
  rw [hps.check hj hO] at hpc
  exact congrArg Prod.fst hpc
theorem jobs_take (hj : Jobs l) {n : Nat} (h1 : 1 ≤ n) (hn : n ≤ l.length) : Jobs (l.take n) := by
  have hl : (l.take n).length = n := by rw [List.length_take]; omega
  refine ⟨by omega, by have := hj.2.1; omega, fun i hi => ?_⟩
  have := hj.2.2 i (by omega)
  rw [nth_nat (by omega)] at this
  rw [nth_nat hi, List.getElem_take]
  exact this
theorem sol_same (hj : Jobs l) {B U F : List Int} {q : List Pr} (h1 : SolP l B U F p) (h2 : SolP l B U F q) : p = q := by
  have a := playOf_some hj h1
  rw [playOf_some hj h2] at a
  exact (Option.some.inj a).symm
end
end Go.Fip.S
