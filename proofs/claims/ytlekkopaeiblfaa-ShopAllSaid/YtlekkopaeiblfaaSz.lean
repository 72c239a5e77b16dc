/- Days: which works a work waits for, and how the program plays an order. -/
import Derived.Test.YtlekkopaeiblfaaSy
set_option linter.unusedVariables false
set_option linter.unusedSimpArgs false
set_option linter.unusedSectionVars false
set_option linter.unnecessarySimpa false
namespace Go.Fip.S
theorem place_hit {l : List Int} {x : Int} (h : 0 ≤ place l x) : nth l (place l x) = x ∧ place l x < (l.length : Int) := by
  rcases idx_cases (fun y => decide (y = x)) l with ⟨h1, _⟩ | ⟨k, hk, h1, hp, _⟩
  · unfold place at h; omega
  · have e : place l x = (k : Int) := h1
    rw [e]; exact ⟨by simpa using hp, by omega⟩
theorem place_mem {l : List Int} {x : Int} (h : 0 ≤ place l x) : x ∈ l := by
  obtain ⟨h1, h2⟩ := place_hit h
  have e : ((place l x).toNat : Int) = place l x := by omega
  rw [← e, nth_nat (by omega)] at h1
  rw [← h1]; exact List.getElem_mem _
theorem pigeon : ∀ (n : Nat) (l : List Int), l.length = n → (∀ i, i < n → (i : Int) ∈ l) → (∀ x ∈ l, 0 ≤ x ∧ x < (n : Int)) ∧ l.Nodup
  | 0, l, hl, _ => by
    have : l = [] := List.eq_nil_of_length_eq_zero hl
    subst this
    exact ⟨fun x hx => (by cases hx), List.nodup_nil⟩
  | n + 1, l, hl, h => by
    have hm := h n (by omega)
    obtain ⟨h1, h2⟩ := pigeon n (l.erase (n : Int)) (by rw [List.length_erase_of_mem hm, hl]; rfl) (fun i hi => (List.mem_erase_of_ne (by omega)).2 (h i (by omega)))
    refine ⟨fun x hx => ?_, ?_⟩
    · by_cases e : x = (n : Int)
      · omega
      · have := h1 x ((List.mem_erase_of_ne e).2 hx); omega
    · refine ((List.perm_cons_erase hm).nodup_iff).2 (List.nodup_cons.2 ⟨fun hx => ?_, h2⟩)
      have := h1 _ hx; omega
/-- A row of a valid order. -/
theorem row_ok {n : Nat} {l : List Int} (hl : l.length = n) (h : ∀ i, i < n → 0 ≤ place l (i : Int)) :
    (∀ i, 0 ≤ i → i < (n : Int) → 0 ≤ nth l i ∧ nth l i < (n : Int)) ∧ ∀ i, 0 ≤ i → i < (n : Int) → place l (nth l i) = i := by
  obtain ⟨h1, h2⟩ := pigeon n l hl (fun i hi => place_mem (h i hi))
  have hin : ∀ i, 0 ≤ i → i < (n : Int) → 0 ≤ nth l i ∧ nth l i < (n : Int) := fun i h0 hi => by
    have e : (i.toNat : Int) = i := by omega
    rw [← e, nth_nat (by omega)]
    exact h1 _ (List.getElem_mem _)
  refine ⟨hin, fun i h0 hi => ?_⟩
  have hb := hin i h0 hi
  have hp : 0 ≤ place l (nth l i) := by
    have := h (nth l i).toNat (by omega)
    rwa [show (((nth l i).toNat : Nat) : Int) = nth l i by omega] at this
  obtain ⟨h3, h4⟩ := place_hit hp
  have e : (i.toNat : Int) = i := by omega
  have e2 : ((place l (nth l i)).toNat : Int) = place l (nth l i) := by omega
  have h5 : l[(place l (nth l i)).toNat]'(by omega) = l[i.toNat]'(by omega) := by
    rw [← nth_nat (by omega), ← nth_nat (by omega), e, e2]; exact h3
  have hp2 := List.pairwise_iff_getElem.1 h2
  rcases Nat.lt_trichotomy (place l (nth l i)).toNat i.toNat with hlt | heq | hlt
  · exact absurd h5 (hp2 _ _ (by omega) (by omega) hlt)
  · omega
  · exact absurd h5.symm (hp2 _ _ (by omega) (by omega) hlt)
theorem Ord.row {n : Nat} {B T F : List Int} (h : Ord n B T F) (b : Int) : (row B T b).length = n ∧ (∀ i, 0 ≤ i → i < (n : Int) → 0 ≤ nth (row B T b) i ∧ nth (row B T b) i < (n : Int)) ∧
    (∀ i, 0 ≤ i → i < (n : Int) → place (row B T b) (nth (row B T b) i) = i) ∧ ∀ i, 0 ≤ i → i < (n : Int) → 0 ≤ place (row B T b) i ∧ place (row B T b) i < (n : Int) := by
  obtain ⟨h1, h2, h3, h4⟩ := h
  have hB := row_ok h1 (fun i hi => (h4 i hi).1)
  have hT := row_ok h2 (fun i hi => (h4 i hi).2.1)
  have pB : ∀ i, 0 ≤ i → i < (n : Int) → 0 ≤ place B i ∧ place B i < (n : Int) := fun i h0 hi => by
    have := (h4 i.toNat (by omega)).1
    rw [show (((i.toNat : Nat)) : Int) = i by omega] at this
    have := place_lt B i; omega
  have pT : ∀ i, 0 ≤ i → i < (n : Int) → 0 ≤ place T i ∧ place T i < (n : Int) := fun i h0 hi => by
    have := (h4 i.toNat (by omega)).2.1
    rw [show (((i.toNat : Nat)) : Int) = i by omega] at this
    have := place_lt T i; omega
  unfold S.row
  split
  · exact ⟨h2, hT.1, hT.2, pT⟩
  · exact ⟨h1, hB.1, hB.2, pB⟩
theorem Ord.first {n : Nat} {B T F : List Int} (h : Ord n B T F) {i : Int} (h0 : 0 ≤ i) (h1 : i < (n : Int)) : 0 ≤ nth F i ∧ nth F i ≤ 1 := by
  have := (h.2.2.2 i.toNat (by omega)).2.2
  rwa [show (((i.toNat : Nat)) : Int) = i by omega] at this
/-- The works for which a work waits, by its row. -/
def preL (L F : List Int) (x : Int) : List Int :=
  (if 0 < place L (x / 2) then [2 * nth L (place L (x / 2) - 1) + x % 2] else []) ++ (if ¬ nth F (x / 2) = x % 2 then [if x % 2 = 0 then x + 1 else x - 1] else [])
def pre (B T F : List Int) (x : Int) : List Int := preL (row B T (x % 2)) F x
theorem mem_pre {n : Nat} {B T F : List Int} (h : Ord n B T F) {w v : Int} (h0 : 0 ≤ w) (h1 : w < 2 * (n : Int)) : v ∈ pre B T F w ↔ 0 ≤ v ∧ v < 2 * (n : Int) ∧ Waits B T F w v := by
  obtain ⟨r1, r2, r3, r4⟩ := h.row (w % 2)
  have f1 := h.first (i := w / 2) (by omega) (by omega)
  have pw := r4 (w / 2) (by omega) (by omega)
  have hW : ∀ v, Waits B T F w v ↔ if w % 2 ≠ v % 2 then w / 2 = v / 2 ∧ nth F (w / 2) = v % 2 else place (row B T (w % 2)) (w / 2) = place (row B T (w % 2)) (v / 2) + 1 := fun v => Iff.rfl
  rw [hW]
  unfold pre preL
  generalize row B T (w % 2) = L at *
  rw [List.mem_append]
  constructor
  · rintro (hm | hm)
    · split at hm
      · rename_i hk
        simp only [List.mem_singleton] at hm
        have a := r2 (place L (w / 2) - 1) (by omega) (by omega)
        have b := r3 (place L (w / 2) - 1) (by omega) (by omega)
        have e : v / 2 = nth L (place L (w / 2) - 1) := by omega
        refine ⟨by omega, by omega, ?_⟩
        rw [if_neg (by omega), e, b]; omega
      · cases hm
    · split at hm
      · rename_i hk
        simp only [List.mem_singleton] at hm
        refine ⟨by split at hm <;> omega, by split at hm <;> omega, ?_⟩
        rw [if_pos (by split at hm <;> omega)]
        split at hm <;> omega
      · cases hm
  · rintro ⟨hv0, hv1, hw⟩
    split at hw
    · right
      rw [if_pos (by omega), List.mem_singleton]
      split <;> omega
    · left
      have pv := r4 (v / 2) (by omega) (by omega)
      have hv := (place_hit pv.1).1
      rw [if_pos (by omega), List.mem_singleton]
      have e : place L (w / 2) - 1 = place L (v / 2) := by omega
      rw [e, hv]; omega
theorem pre_length (B T F : List Int) (x : Int) : (pre B T F x).length ≤ 2 := by
  unfold pre preL
  split <;> split <;> simp
/-- When a work can begin, and whether all for which it waits have ended. -/
def readyL (E : List (Int × Int)) : List Int → Int → Int × Bool
  | [], a => (a, true)
  | v :: vs, a => match find v E with
    | none => (0, false)
    | some e => readyL E vs (max a e)
def ready (E : List (Int × Int)) (B T F : List Int) (x : Int) : Int × Bool := readyL E (pre B T F x) 0
end Go.Fip.S
namespace Go.Fip.S
theorem readyL_some {E : List (Int × Int)} {l : List Int} {i : Nat} {a : Int} (h : i < l.length) (hs : ¬ (!(find (nth l (i : Int)) E).isSome) = true) : readyL E (l.drop i) a = readyL E (l.drop (i + 1)) (max a ((find (nth l (i : Int)) E).getD 0)) := by
  rw [drop_nth h, readyL]
  cases hf : find (nth l (i : Int)) E with
  | none => rw [hf] at hs; simp at hs
  | some e => rfl
theorem readyL_none {E : List (Int × Int)} {l : List Int} {i : Nat} {a : Int} (h : i < l.length) (hs : (!(find (nth l (i : Int)) E).isSome) = true) : readyL E (l.drop i) a = (0, false) := by
  rw [drop_nth h, readyL]
  cases hf : find (nth l (i : Int)) E with
  | none => rfl
  | some e => rw [hf] at hs; simp at hs
theorem find_getD {E : List (Int × Int)} {k : Int} (hE : ∀ k e, find k E = some e → 0 ≤ e ∧ e ≤ 1000000) : 0 ≤ (find k E).getD 0 ∧ (find k E).getD 0 ≤ 1000000 := by
  cases h : find k E with
  | none => simp
  | some e => exact hE k e h
end Go.Fip.S
namespace Go.Fip.S
theorem place_iff {l : List Int} {x : Int} : 0 ≤ place l x ↔ x ∈ l := by
  constructor
  · exact place_mem
  · intro h
    obtain ⟨i, hi, rfl⟩ := List.getElem_of_mem h
    exact idx_nonneg.2 ⟨i, hi, by rw [nth_nat hi]; simp⟩
theorem pre_waits {n : Nat} {B T F : List Int} (h : Ord n B T F) {w v : Int} (h0 : 0 ≤ w) (h1 : w < 2 * (n : Int)) (v0 : 0 ≤ v) (v1 : v < 2 * (n : Int)) : 0 ≤ place (pre B T F w) v ↔ Waits B T F w v := by
  rw [place_iff, mem_pre h h0 h1]
  exact ⟨fun h => h.2.2, fun h => ⟨v0, v1, h⟩⟩
end Go.Fip.S
