/- Joined texts: Sp, Qa, Qb, Qc, Qd, Qe, Qf, Qg, Qh, Qi, Qj, Qk, Ql, Qm, Qn, Qp, Qq, Qr. -/
import Derived.Test.YtkhokmfjnjfojaaMA
set_option linter.unusedVariables false
set_option linter.unusedSimpArgs false
set_option linter.unusedSectionVars false
set_option linter.unnecessarySimpa false
namespace Go.Fip
namespace S

theorem all_snoc {p : Nat → Prop} {k : Nat} (h : ∀ i, i < k → p i) (hk : p k) : ∀ i, i < k + 1 → p i := fun i hi => by
  rcases Nat.lt_succ_iff_lt_or_eq.1 hi with h1 | rfl
  · exact h i h1
  · exact hk
theorem all_zero {p : Nat → Prop} : ∀ i, i < 0 → p i := fun i hi => absurd hi (Nat.not_lt_zero i)
theorem nodup_len : ∀ (N : Nat) (l : List Int), l.Nodup → (∀ x ∈ l, 0 ≤ x ∧ x < (N : Int)) → l.length ≤ N
  | 0, l, _, h => by
    cases l with
    | nil => simp
    | cons x l => have := h x (by simp); omega
  | N + 1, l, hn, h => by
    by_cases hm : (N : Int) ∈ l
    · have h1 := nodup_len N (l.erase (N : Int)) (hn.erase _) (fun x hx => by
        have h2 := h x (List.mem_of_mem_erase hx)
        have h3 : x ≠ (N : Int) := ((List.Nodup.mem_erase_iff hn).1 hx).1
        omega)
      rw [List.length_erase_of_mem hm] at h1
      omega
    · have h1 := nodup_len N l hn (fun x hx => by
        have h2 := h x hx
        have h3 : x ≠ (N : Int) := fun e => hm (e ▸ hx)
        omega)
      omega

/-- All numbers are from a least one on, and less than the length. -/
def In (least : Int) (l : List Int) : Prop := ∀ i, i < l.length → least ≤ nth l (i : Int) ∧ nth l (i : Int) < (l.length : Int)
instance (a : Int) (l : List Int) : Decidable (In a l) := by unfold In; infer_instance
/-- Numbers that are not less than 0 are different. -/
def Diff (l : List Int) : Prop := ∀ i, i < l.length → ∀ k, k < i → ¬ (nth l (k : Int) = nth l (i : Int) ∧ 0 ≤ nth l (i : Int))
instance (l : List Int) : Decidable (Diff l) := by unfold Diff; infer_instance
def Ok (least : Int) (l : List Int) : Prop := 1 ≤ l.length ∧ l.length ≤ 10 ∧ In least l ∧ Diff l
instance (a : Int) (l : List Int) : Decidable (Ok a l) := by unfold Ok; infer_instance
def check (l : List Int) (least : Int) : Int := if l.length < 1 ∨ 10 < l.length then 6 else if ¬ In least l then 3 else if ¬ Diff l then 11 else 0
theorem check_iff {l : List Int} {a : Int} : check l a = 0 ↔ Ok a l := by
  unfold check Ok
  split
  · rename_i h; exact ⟨fun h2 => by omega, fun h2 => by omega⟩
  · rename_i h
    split
    · rename_i h2; exact ⟨fun h3 => by omega, fun h3 => absurd h3.2.2.1 h2⟩
    · rename_i h2
      split
      · rename_i h3; exact ⟨fun h4 => by omega, fun h4 => absurd h4.2.2.2 h3⟩
      · rename_i h3; exact ⟨fun _ => ⟨by omega, by omega, Classical.not_not.1 h2, Classical.not_not.1 h3⟩, fun _ => rfl⟩
theorem ck1 {l : List Int} {a : Int} (h : l.length < 1 ∨ 10 < l.length) : check l a = 6 := if_pos h
theorem ck2 {l : List Int} {a : Int} (h : ¬ (l.length < 1 ∨ 10 < l.length)) (h2 : ¬ In a l) : check l a = 3 := by unfold check; rw [if_neg h, if_pos h2]
theorem ck3 {l : List Int} {a : Int} (h : ¬ (l.length < 1 ∨ 10 < l.length)) (h2 : In a l) (h3 : ¬ Diff l) : check l a = 11 := by unfold check; rw [if_neg h, if_neg (fun k => k h2), if_pos h3]
theorem ck4 {l : List Int} {a : Int} (h : ¬ (l.length < 1 ∨ 10 < l.length)) (h2 : In a l) (h3 : Diff l) : check l a = 0 := by unfold check; rw [if_neg h, if_neg (fun k => k h2), if_neg (fun k => k h3)]

/-- Valid joints: so many flutes, each number once. -/
abbrev J (l : List Int) : Prop := Ok 0 l
theorem J.nth {l : List Int} (h : J l) {x : Int} (h0 : 0 ≤ x) (h1 : x < (l.length : Int)) : 0 ≤ Fip.nth l x ∧ Fip.nth l x < (l.length : Int) := by
  have h2 := h.2.2.1 x.toNat (by omega)
  rwa [show ((x.toNat : Nat) : Int) = x by omega] at h2
theorem J.inj {l : List Int} (h : J l) {x y : Int} (h0 : 0 ≤ x) (h1 : x < (l.length : Int)) (k0 : 0 ≤ y) (k1 : y < (l.length : Int)) (e : Fip.nth l x = Fip.nth l y) : x = y := by
  have hx := h.nth h0 h1
  have hy := h.nth k0 k1
  have d := h.2.2.2
  rcases Int.lt_trichotomy x y with h2 | h2 | h2
  · have := d y.toNat (by omega) x.toNat (by omega)
    rw [show ((x.toNat : Nat) : Int) = x by omega, show ((y.toNat : Nat) : Int) = y by omega] at this
    exact absurd ⟨e, hy.1⟩ this
  · exact h2
  · have := d x.toNat (by omega) y.toNat (by omega)
    rw [show ((x.toNat : Nat) : Int) = x by omega, show ((y.toNat : Nat) : Int) = y by omega] at this
    exact absurd ⟨e.symm, hx.1⟩ this

/-- From a flute on, so often to where its joint belongs. -/
def it (l : List Int) : Nat → Int → Int
  | 0, a => a
  | k + 1, a => nth l (it l k a)
theorem it_add (l : List Int) (a : Nat) (x : Int) : ∀ b, it l (b + a) x = it l b (it l a x)
  | 0 => by simp [it]
  | b + 1 => by rw [show b + 1 + a = (b + a) + 1 by omega, it, it, it_add l a x b]
theorem it_one (l : List Int) (x : Int) : it l 1 x = nth l x := rfl
theorem it_succ' (l : List Int) (k : Nat) (x : Int) : it l (k + 1) x = it l k (nth l x) := by rw [it_add l 1 x k, it_one]
section
variable {l : List Int} (h : J l) {a b : Int} (h0 : 0 ≤ a) (h1 : a < (l.length : Int))
include h h0 h1
theorem J.it : ∀ k, 0 ≤ S.it l k a ∧ S.it l k a < (l.length : Int)
  | 0 => ⟨h0, h1⟩
  | k + 1 => h.nth (J.it k).1 (J.it k).2
theorem J.it_inj (k0 : 0 ≤ b) (k1 : b < (l.length : Int)) : ∀ k, S.it l k a = S.it l k b → a = b
  | 0, e => e
  | k + 1, e => J.it_inj k0 k1 k (h.inj (h.it h0 h1 k).1 (h.it h0 h1 k).2 (h.it k0 k1 k).1 (h.it k0 k1 k).2 e)
theorem J.back {i j : Nat} (hij : i < j) (e : S.it l i a = S.it l j a) : S.it l (j - i) a = a := by
  rw [show j = i + (j - i) by omega, it_add] at e
  have h2 := h.it h0 h1 (j - i)
  exact (h.it_inj h0 h1 h2.1 h2.2 i e).symm
theorem J.per_ex : ∃ p, p < l.length ∧ S.it l (p + 1) a = a := by
  have hnn : ¬ ((List.range (l.length + 1)).map fun k => S.it l k a).Nodup := fun hn => by
    have := nodup_len l.length _ hn (fun x hx => by
      obtain ⟨k, _, rfl⟩ := List.mem_map.1 hx
      exact h.it h0 h1 k)
    simp at this
    omega
  rw [List.nodup_iff_pairwise_ne, List.pairwise_iff_getElem] at hnn
  simp only [Classical.not_forall] at hnn
  obtain ⟨i, j, hi, hj, hij, e⟩ := hnn
  simp only [List.length_map, List.length_range] at hi hj
  simp only [List.getElem_map, List.getElem_range, ne_eq, Classical.not_not] at e
  refine ⟨j - i - 1, by omega, ?_⟩
  rw [show j - i - 1 + 1 = j - i by omega]
  exact h.back h0 h1 hij e
end
/-- How many flutes are on a circle. -/
def per (l : List Int) (a : Int) : Nat := (List.range l.length).findIdx (fun p => decide (it l (p + 1) a = a)) + 1
section
variable {l : List Int} (h : J l) {a b : Int} (h0 : 0 ≤ a) (h1 : a < (l.length : Int))
include h h0 h1
theorem J.per_at : S.it l (per l a) a = a ∧ per l a ≤ l.length := by
  obtain ⟨p, hp, he⟩ := h.per_ex h0 h1
  have hlt : (List.range l.length).findIdx (fun p => decide (S.it l (p + 1) a = a)) < (List.range l.length).length := List.findIdx_lt_length_of_exists ⟨p, List.mem_range.2 hp, decide_eq_true he⟩
  have h2 := List.findIdx_getElem (w := hlt)
  simp only [List.getElem_range, decide_eq_true_eq] at h2
  rw [List.length_range] at hlt
  exact ⟨h2, hlt⟩
omit h h0 h1 in
theorem per_pos : 1 ≤ per l a := Nat.le_add_left _ _
omit h h0 h1 in
theorem per_min {k : Nat} (k1 : 1 ≤ k) (hk : k < per l a) : S.it l k a ≠ a := fun e => by
  unfold per at hk
  have hlt : k - 1 < (List.range l.length).findIdx (fun p => decide (S.it l (p + 1) a = a)) := by omega
  have h2 := List.not_of_lt_findIdx hlt
  simp only [List.getElem_range, decide_eq_false_iff_not] at h2
  rw [show k - 1 + 1 = k by omega] at h2
  exact absurd (by simpa using h2) (fun h3 => by simp [e] at h3)
theorem J.per_mul : ∀ m, S.it l (per l a * m) a = a
  | 0 => rfl
  | m + 1 => by rw [show per l a * (m + 1) = per l a * m + per l a from Nat.mul_succ _ _, it_add, (h.per_at h0 h1).1, J.per_mul m]
theorem J.it_mod (k : Nat) : S.it l (k % per l a) a = S.it l k a := by
  have e : k = k % per l a + per l a * (k / per l a) := (Nat.mod_add_div _ _).symm
  calc S.it l (k % per l a) a = S.it l (k % per l a) (S.it l (per l a * (k / per l a)) a) := by rw [h.per_mul h0 h1]
    _ = S.it l (k % per l a + per l a * (k / per l a)) a := (it_add _ _ _ _).symm
    _ = S.it l k a := by rw [← e]
theorem J.it_eq {i j : Nat} (hi : i < per l a) (hj : j < per l a) (e : S.it l i a = S.it l j a) : i = j := by
  rcases Nat.lt_trichotomy i j with h2 | h2 | h2
  · exact absurd (h.back h0 h1 h2 e) (per_min (by omega) (by omega))
  · exact h2
  · exact absurd (h.back h0 h1 h2 e.symm) (per_min (by omega) (by omega))
theorem J.it_self {k : Nat} : S.it l k a = a ↔ k % per l a = 0 := by
  have hp := per_pos (l := l) (a := a)
  rw [← h.it_mod h0 h1 k]
  refine ⟨fun e => h.it_eq h0 h1 (Nat.mod_lt _ hp) hp e, fun e => by rw [e]; rfl⟩
end
/-- The circle on which a flute is, from it on. -/
def circ (l : List Int) (a : Int) : List Int := (List.range (per l a)).map fun k => it l k a
theorem circ_length {l : List Int} {a : Int} : (circ l a).length = per l a := by simp [circ]
theorem nth_circ {l : List Int} {a : Int} {k : Nat} (hk : k < per l a) : nth (circ l a) (k : Int) = it l k a := by
  rw [nth_nat (by rw [circ_length]; exact hk)]
  simp [circ]
/-- A flute leads to another one. -/
def Rch (l : List Int) (i j : Int) : Prop := ∃ k, it l k i = j
theorem Rch.refl {l : List Int} (i : Int) : Rch l i i := ⟨0, rfl⟩
theorem Rch.trans {l : List Int} {i j k : Int} (h1 : Rch l i j) (h2 : Rch l j k) : Rch l i k := by
  obtain ⟨a, rfl⟩ := h1
  obtain ⟨b, rfl⟩ := h2
  exact ⟨b + a, it_add _ _ _ _⟩
theorem Rch.step {l : List Int} {i j : Int} (h : Rch l i j) : Rch l i (nth l j) := h.trans ⟨1, rfl⟩
section
variable {l : List Int} (h : J l) {a b : Int} (h0 : 0 ≤ a) (h1 : a < (l.length : Int))
include h h0 h1
theorem J.symm (r : Rch l a b) : Rch l b a := by
  obtain ⟨k, rfl⟩ := r
  refine ⟨per l a * (k + 1) - k, ?_⟩
  have hp := per_pos (l := l) (a := a)
  have : k ≤ per l a * (k + 1) := Nat.le_trans (Nat.le_succ k) (Nat.le_mul_of_pos_left _ hp)
  rw [← it_add, show per l a * (k + 1) - k + k = per l a * (k + 1) by omega, h.per_mul h0 h1]
theorem J.rin (r : Rch l a b) : 0 ≤ b ∧ b < (l.length : Int) := by
  obtain ⟨k, rfl⟩ := r
  exact h.it h0 h1 k
theorem J.mem_circ : b ∈ circ l a ↔ Rch l a b := by
  unfold circ
  rw [List.mem_map]
  constructor
  · rintro ⟨k, _, rfl⟩; exact ⟨k, rfl⟩
  · rintro ⟨k, rfl⟩; exact ⟨k % per l a, List.mem_range.2 (Nat.mod_lt _ per_pos), h.it_mod h0 h1 k⟩
theorem J.circ_nodup : (circ l a).Nodup := by
  unfold circ
  rw [List.nodup_iff_pairwise_ne, List.pairwise_map]
  refine List.Pairwise.imp_of_mem ?_ (List.nodup_range (n := per l a))
  intro i j hi hj hne e
  exact hne (h.it_eq h0 h1 (List.mem_range.1 hi) (List.mem_range.1 hj) e)
theorem J.per_rch (r : Rch l a b) : per l b = per l a := by
  have hb := h.rin h0 h1 r
  have key : ∀ k, S.it l k a = a ↔ S.it l k b = b := fun k => by
    obtain ⟨m, rfl⟩ := r
    rw [← it_add, Nat.add_comm, it_add]
    constructor
    · intro e; rw [e]
    · intro e; exact h.it_inj (h.it h0 h1 k).1 (h.it h0 h1 k).2 h0 h1 m e
  have ha := h.per_at h0 h1
  have hb2 := h.per_at hb.1 hb.2
  refine Nat.le_antisymm (Nat.le_of_not_lt fun hlt => per_min per_pos hlt ((key _).1 ha.1)) (Nat.le_of_not_lt fun hlt => per_min per_pos hlt ((key _).2 hb2.1))
end
/-- It is the least one of its circle. -/
def isMin (l : List Int) (i : Int) : Bool := decide (∀ k, k < per l i → i ≤ it l k i)
theorem J.isMin {l : List Int} (h : J l) {i : Int} (h0 : 0 ≤ i) (h1 : i < (l.length : Int)) : S.isMin l i = true ↔ ∀ j, Rch l i j → i ≤ j := by
  unfold S.isMin
  rw [decide_eq_true_eq]
  constructor
  · rintro h2 j ⟨k, rfl⟩
    have := h2 (k % per l i) (Nat.mod_lt _ per_pos)
    rwa [h.it_mod h0 h1] at this
  · intro h2 k _
    exact h2 _ ⟨k, rfl⟩
def mins (l : List Int) : List Nat := (List.range l.length).filter fun i : Nat => isMin l (i : Int)
def circles (l : List Int) : List (List Int) := (mins l).map fun i : Nat => circ l (i : Int)
/-- How many circles there are. -/
def cyc (l : List Int) : Nat := (mins l).length
/-- The least of a list. -/
def minTo (c : List Int) : Nat → Int
  | 0 => nth c 0
  | k + 1 => min (minTo c k) (nth c ((k : Int) + 1))
def leastTo (c : List Int) : Nat → Int
  | 0 => nth c 0
  | k + 1 => min (leastTo c k) (nth c (k : Int))
theorem minTo_lt {c : List Int} {i : Int} : ∀ k, minTo c k < i ↔ ∃ j, j ≤ k ∧ nth c (j : Int) < i
  | 0 => ⟨fun h => ⟨0, Nat.le_refl _, h⟩, fun ⟨j, hj, h⟩ => by
      have : j = 0 := by omega
      subst this
      exact h⟩
  | k + 1 => by
    have ih := minTo_lt (c := c) (i := i) k
    simp only [minTo]
    constructor
    · intro h
      by_cases h2 : minTo c k < i
      · obtain ⟨j, hj, h3⟩ := ih.1 h2; exact ⟨j, by omega, h3⟩
      · exact ⟨k + 1, Nat.le_refl _, by push_cast; omega⟩
    · rintro ⟨j, hj, h⟩
      by_cases h2 : j ≤ k
      · have := ih.2 ⟨j, h2, h⟩; omega
      · have : j = k + 1 := by omega
        subst this
        push_cast at h
        omega
theorem leastTo_lt {c : List Int} {i : Int} : ∀ k, leastTo c k < i ↔ (nth c 0 < i ∨ ∃ j, j < k ∧ nth c (j : Int) < i)
  | 0 => ⟨fun h => .inl h, fun h => by
      rcases h with h | ⟨j, hj, _⟩
      · exact h
      · exact absurd hj (Nat.not_lt_zero _)⟩
  | k + 1 => by
    have ih := leastTo_lt (c := c) (i := i) k
    simp only [leastTo]
    constructor
    · intro h
      by_cases h2 : leastTo c k < i
      · rcases ih.1 h2 with h3 | ⟨j, hj, h3⟩
        · exact .inl h3
        · exact .inr ⟨j, by omega, h3⟩
      · exact .inr ⟨k, Nat.lt_succ_self _, by omega⟩
    · intro h
      by_cases h2 : leastTo c k < i
      · omega
      · rcases h with h | ⟨j, hj, h⟩
        · exact absurd (ih.2 (.inl h)) h2
        · by_cases h3 : j < k
          · exact absurd (ih.2 (.inr ⟨j, h3, h⟩)) h2
          · have : j = k := by omega
            subst this
            omega
theorem J.min_circ {l : List Int} {i : Int} : minTo (circ l i) ((circ l i).length - 1) < i ↔ ¬ S.isMin l i = true := by
  rw [minTo_lt, circ_length]
  unfold S.isMin
  have hp := per_pos (l := l) (a := i)
  rw [decide_eq_true_eq, Classical.not_forall]
  constructor
  · rintro ⟨j, hj, h⟩
    refine ⟨j, fun h2 => ?_⟩
    rw [nth_circ (by omega)] at h
    have := h2 (by omega)
    omega
  · rintro ⟨j, hj⟩
    rw [Classical.not_imp] at hj
    exact ⟨j, by omega, by rw [nth_circ hj.1]; omega⟩
theorem J.least_circ {l : List Int} {i : Int} : leastTo (circ l i) (circ l i).length = i ↔ S.isMin l i = true := by
  have hp := per_pos (l := l) (a := i)
  have h0 : Fip.nth (circ l i) 0 = i := by
    have := nth_circ (l := l) (a := i) (k := 0) hp
    simpa [S.it] using this
  have hge : ¬ i < leastTo (circ l i) (circ l i).length := fun h => by
    have := (leastTo_lt (c := circ l i) (i := i + 1) (circ l i).length).2 (.inl (by omega))
    omega
  have hlt := leastTo_lt (c := circ l i) (i := i) (circ l i).length
  rw [circ_length] at *
  unfold S.isMin
  rw [decide_eq_true_eq]
  constructor
  · intro e k hk
    refine Int.le_of_not_gt fun h => ?_
    have := hlt.2 (.inr ⟨k, hk, by rw [nth_circ hk]; exact h⟩)
    omega
  · intro h
    have : ¬ leastTo (circ l i) (per l i) < i := fun h2 => by
      rcases hlt.1 h2 with h3 | ⟨j, hj, h3⟩
      · omega
      · rw [nth_circ hj] at h3
        have := h j hj
        omega
    omega
theorem ext_nth {l m : List Int} (hl : l.length = m.length) (h : ∀ i, i < l.length → nth l (i : Int) = nth m (i : Int)) : l = m :=
  List.ext_getElem hl fun i h1 h2 => by rw [← nth_nat h1, ← nth_nat h2]; exact h i h1
/-- The first k flutes of a circle. -/
def circTo (l : List Int) (a : Int) (k : Nat) : List Int := (List.range k).map fun k => it l k a
theorem circTo_succ {l : List Int} {a : Int} {k : Nat} : circTo l a (k + 1) = circTo l a k ++ [it l k a] := by simp [circTo, List.range_succ]
theorem circTo_length {l : List Int} {a : Int} {k : Nat} : (circTo l a k).length = k := by simp [circTo]
theorem per_more {l : List Int} {a : Int} {k : Nat} (hne : ¬ it l (k + 1) a = a) (h : J l) (h0 : 0 ≤ a) (h1 : a < (l.length : Int)) (hk : k < per l a) : k + 1 < per l a :=
  Nat.lt_of_le_of_ne hk fun e => hne (by rw [e]; exact (h.per_at h0 h1).1)
theorem per_done {l : List Int} {a : Int} {k : Nat} (he : it l (k + 1) a = a) (hk : k < per l a) : per l a = k + 1 :=
  Nat.le_antisymm (Nat.le_of_not_lt fun h => per_min (by omega) h he) hk
/-- One habit behind another one. -/
def behindTo (l m : List Int) (k : Nat) : List Int := (List.range k).map fun i : Nat => nth m (nth l (i : Int))
def behind (l m : List Int) : List Int := behindTo l m l.length
theorem behindTo_succ {l m : List Int} {k : Nat} : behindTo l m (k + 1) = behindTo l m k ++ [nth m (nth l (k : Int))] := by simp [behindTo, List.range_succ]
theorem behindTo_length {l m : List Int} {k : Nat} : (behindTo l m k).length = k := by simp [behindTo]
/-- Where a number is; -1: nowhere. -/
def place (l : List Int) (x : Int) : Int := idx (fun y => decide (y = x)) l
theorem place_iff {l : List Int} {x : Int} : 0 ≤ place l x ↔ ∃ i, i < l.length ∧ nth l (i : Int) = x := by
  have := has_iff (p := fun y : Int => decide (y = x)) (l := l)
  unfold has at this
  rw [decide_eq_true_eq] at this
  unfold place
  rw [this]
  simp
theorem nth_take {l : List Int} {i k : Nat} (hk : k < i) (hi : i ≤ l.length) : nth (l.take i) (k : Int) = nth l (k : Int) := by
  rw [nth_nat (by rw [List.length_take]; omega), nth_nat (by omega), List.getElem_take]
theorem not_diff {l : List Int} {k : Nat} (hk : k < l.length) (h0 : 0 ≤ nth l (k : Int)) (h : 0 ≤ place (l.take (k : Int).toNat) (nth l (k : Int))) : ¬ Diff l := by
  rw [Int.toNat_natCast] at h
  obtain ⟨i, hi, e⟩ := place_iff.1 h
  rw [List.length_take] at hi
  rw [nth_take (by omega) (by omega)] at e
  exact fun hd => hd k hk i (by omega) ⟨e, h0⟩
theorem diff_of {l : List Int} (h : ∀ i, i < l.length → ¬ (0 ≤ nth l (i : Int) ∧ 0 ≤ place (l.take (i : Int).toNat) (nth l (i : Int)))) : Diff l := fun i hi k hk ⟨e, h0⟩ =>
  h i hi ⟨h0, by rw [Int.toNat_natCast]; exact place_iff.2 ⟨k, by rw [List.length_take]; omega, by rw [nth_take hk (by omega)]; exact e⟩⟩
end S
end Go.Fip

set_option linter.unusedVariables false
set_option linter.unusedSimpArgs false
set_option linter.unusedSectionVars false
namespace Go.Fip.Q
open Go.Fip
inductive T where
  | nil
  | node (l r : T)
namespace T
def size : T → Nat
  | nil => 0
  | node l r => size l + size r + 1
/-- The depths, from a depth on. -/
def dep : Int → T → List Int
  | _, nil => []
  | d, node l r => dep (d + 1) l ++ d :: dep (d + 1) r
theorem dep_length : ∀ (t : T) (d : Int), (dep d t).length = size t
  | nil, _ => rfl
  | node l r, d => by simp only [dep, size, List.length_append, List.length_cons, dep_length l, dep_length r]; omega
theorem dep_ge : ∀ (t : T) (d : Int), ∀ x ∈ dep d t, d ≤ x
  | nil, _, x, h => by cases h
  | node l r, d, x, h => by
    simp only [dep, List.mem_append, List.mem_cons] at h
    rcases h with h | h | h
    · have := dep_ge l (d + 1) x h; omega
    · omega
    · have := dep_ge r (d + 1) x h; omega
theorem dep_add (c : Int) : ∀ (t : T) (d : Int), (dep d t).map (· + c) = dep (d + c) t
  | nil, _ => rfl
  | node l r, d => by
    simp only [dep, List.map_append, List.map_cons, dep_add c l, dep_add c r]
    rw [show d + 1 + c = d + c + 1 by omega]
theorem split_at {d : Int} {a b a' b' : List Int} (ha : ∀ x ∈ a, d < x) (ha' : ∀ x ∈ a', d < x) (h : a ++ d :: b = a' ++ d :: b') : a = a' ∧ b = b' := by
  induction a generalizing a' with
  | nil =>
    cases a' with
    | nil => exact ⟨rfl, (List.cons.inj h).2⟩
    | cons y a' =>
      have := ha' y (List.mem_cons_self ..)
      have := (List.cons.inj h).1
      omega
  | cons x a ih =>
    cases a' with
    | nil =>
      have := ha x (List.mem_cons_self ..)
      have := (List.cons.inj h).1
      omega
    | cons y a' =>
      obtain ⟨h1, h2⟩ := List.cons.inj h
      obtain ⟨h3, h4⟩ := ih (fun z hz => ha z (List.mem_cons_of_mem _ hz)) (fun z hz => ha' z (List.mem_cons_of_mem _ hz)) h2
      exact ⟨by rw [h1, h3], h4⟩
theorem dep_inj : ∀ (t s : T) (d : Int), dep d t = dep d s → t = s
  | nil, nil, _, _ => rfl
  | nil, node l r, d, h => by simp [dep] at h
  | node l r, nil, d, h => by simp [dep] at h
  | node l r, node l' r', d, h => by
    have hg : ∀ (t : T), ∀ x ∈ dep (d + 1) t, d < x := fun t x hx => by have := dep_ge t (d + 1) x hx; omega
    obtain ⟨h1, h2⟩ := split_at (hg l) (hg l') h
    rw [dep_inj l l' _ h1, dep_inj r r' _ h2]
end T
/-- Where a number stands first. -/
def at_ (l : List Int) (d : Int) : Nat := l.findIdx fun x => decide (x = d)
theorem at_mid {d : Int} : ∀ {a b : List Int}, (∀ x ∈ a, d < x) → at_ (a ++ d :: b) d = a.length
  | [], b, _ => by simp [at_, List.findIdx_cons]
  | x :: a, b, h => by
    have h1 := h x (List.mem_cons_self ..)
    have ih := at_mid (b := b) (fun y hy => h y (List.mem_cons_of_mem _ hy))
    unfold at_ at ih ⊢
    rw [List.cons_append, List.findIdx_cons, ih, decide_eq_false (by omega)]
    rfl
def trF : Nat → List Int → Int → Bool
  | 0, l, _ => l.isEmpty
  | f + 1, l, d => l.isEmpty || (decide (l.count d = 1) && trF f (l.take (at_ l d)) (d + 1) && trF f (l.drop (at_ l d + 1)) (d + 1))
/-- Whether a list of depths is a tree, or empty. -/
def trB (l : List Int) (d : Int) : Bool := trF l.length l d
theorem count_gt {d : Int} {l : List Int} (h : ∀ x ∈ l, d < x) : l.count d = 0 := List.count_eq_zero.2 fun hm => by have := h d hm; omega
theorem trF_iff : ∀ (f : Nat) (l : List Int) (d : Int), l.length ≤ f → (trF f l d = true ↔ ∃ t, T.dep d t = l)
  | 0, l, d, hf => by
    have : l = [] := List.eq_nil_of_length_eq_zero (by omega)
    subst this
    exact ⟨fun _ => ⟨.nil, rfl⟩, fun _ => rfl⟩
  | f + 1, l, d, hf => by
    unfold trF
    rw [Bool.or_eq_true, Bool.and_eq_true, Bool.and_eq_true, decide_eq_true_eq]
    constructor
    · rintro (h | ⟨⟨h1, h2⟩, h3⟩)
      · exact ⟨.nil, by rw [List.isEmpty_iff.1 h]; rfl⟩
      · have hm : d ∈ l := List.count_pos_iff.1 (by omega)
        have hlt : at_ l d < l.length := List.findIdx_lt_length_of_exists ⟨d, hm, by simp⟩
        have hat : l[at_ l d] = d := by
          have h9 := List.findIdx_getElem (w := hlt) (p := fun x => decide (x = d))
          rw [decide_eq_true_eq] at h9
          exact h9
        obtain ⟨a, ha⟩ := (trF_iff f _ _ (by rw [List.length_take]; omega)).1 h2
        obtain ⟨b, hb⟩ := (trF_iff f _ _ (by rw [List.length_drop]; omega)).1 h3
        refine ⟨.node a b, ?_⟩
        show T.dep (d + 1) a ++ d :: T.dep (d + 1) b = l
        rw [ha, hb]
        conv => rhs; rw [← List.take_append_drop (at_ l d) l, List.drop_eq_getElem_cons hlt, hat]
    · rintro ⟨t, rfl⟩
      cases t with
      | nil => exact .inl rfl
      | node a b =>
        have hg : ∀ (t : T), ∀ x ∈ T.dep (d + 1) t, d < x := fun t x hx => by have := T.dep_ge t (d + 1) x hx; omega
        have hat : at_ (T.dep d (.node a b)) d = (T.dep (d + 1) a).length := at_mid (hg a)
        have hl : (T.dep d (.node a b)).length = (T.dep (d + 1) a).length + ((T.dep (d + 1) b).length + 1) := by simp [T.dep]
        refine .inr ⟨⟨?_, ?_⟩, ?_⟩
        · show (T.dep (d + 1) a ++ d :: T.dep (d + 1) b).count d = 1
          rw [List.count_append, List.count_cons_self, count_gt (hg a), count_gt (hg b)]
        · rw [hat, show (T.dep d (.node a b)) = T.dep (d + 1) a ++ d :: T.dep (d + 1) b from rfl, List.take_left]
          exact (trF_iff f _ _ (by omega)).2 ⟨a, rfl⟩
        · rw [hat, show (T.dep d (.node a b)) = T.dep (d + 1) a ++ d :: T.dep (d + 1) b from rfl, List.drop_append, List.drop_eq_nil_of_le (by omega)]
          simp only [Nat.add_sub_cancel_left, List.nil_append, List.drop_succ_cons, List.drop_zero]
          exact (trF_iff f _ _ (by omega)).2 ⟨b, rfl⟩
theorem trB_iff {l : List Int} {d : Int} : trB l d = true ↔ ∃ t, T.dep d t = l := trF_iff _ l d (Nat.le_refl _)
/-- The errors of a tree. -/
def ckT (l : List Int) : Int := if l.length < 1 ∨ 12 < l.length then 6 else if ¬ trB l 0 = true then 24 else 0
end Go.Fip.Q

set_option linter.unusedVariables false
set_option linter.unusedSimpArgs false
set_option linter.unusedSectionVars false
namespace Go.Fip.Q
open Go.Fip
/-- The first of several that is less than all before it. -/
def minL (l : List Int) : Int := l.tail.foldl (fun out x => if x < out then x else out) (l.headD 0)
theorem foldl_min : ∀ (l : List Int) (a : Int), l.foldl (fun out x => if x < out then x else out) a ≤ a ∧ (∀ x ∈ l, l.foldl (fun out x => if x < out then x else out) a ≤ x) ∧ (l.foldl (fun out x => if x < out then x else out) a = a ∨ l.foldl (fun out x => if x < out then x else out) a ∈ l)
  | [], a => by
    refine ⟨Int.le_refl _, ?_, Or.inl rfl⟩
    intro x h
    cases h
  | y :: l, a => by
    have ih := foldl_min l (if y < a then y else a)
    simp only [List.foldl_cons]
    have hm : (if y < a then y else a) ≤ a ∧ (if y < a then y else a) ≤ y := by split <;> omega
    refine ⟨Int.le_trans ih.1 hm.1, fun x hx => ?_, ?_⟩
    · rcases List.mem_cons.1 hx with h | h
      · subst h; exact Int.le_trans ih.1 hm.2
      · exact ih.2.1 x h
    · rcases ih.2.2 with h | h
      · rw [h]; split
        · exact .inr (List.mem_cons_self ..)
        · exact .inl rfl
      · exact .inr (List.mem_cons_of_mem _ h)
theorem minL_le {l : List Int} {x : Int} (h : x ∈ l) : minL l ≤ x := by
  cases l with
  | nil => cases h
  | cons a l =>
    have := foldl_min l a
    rcases List.mem_cons.1 h with h | h
    · subst h; exact this.1
    · exact this.2.1 x h
theorem minL_mem {l : List Int} (h : l ≠ []) : minL l ∈ l := by
  cases l with
  | nil => exact absurd rfl h
  | cons a l =>
    rcases (foldl_min l a).2.2 with h | h
    · unfold minL; rw [List.tail_cons, List.headD_cons, h]; exact List.mem_cons_self ..
    · exact List.mem_cons_of_mem _ h
/-- The weights of those before a taper. -/
def P (w : List Int) (k : Nat) : Int := (w.take k).sum
def opt (w : List Int) : Nat → Nat → Nat → Int
  | 0, _, _ => 0
  | f + 1, i, k => if k ≤ i then 0 else minL ((List.range (k - i)).map fun j => (P w k - P w i) + (opt w f i (i + j) + opt w f (i + j + 1) k))
theorem opt_fuel (w : List Int) : ∀ (f g i k : Nat), k - i ≤ f → k - i ≤ g → opt w f i k = opt w g i k
  | 0, 0, _, _, _, _ => rfl
  | 0, g + 1, i, k, h, _ => by unfold opt; rw [if_pos (by omega)]
  | f + 1, 0, i, k, _, h => by unfold opt; rw [if_pos (by omega)]
  | f + 1, g + 1, i, k, hf, hg => by
    unfold opt
    by_cases h : k ≤ i
    · rw [if_pos h, if_pos h]
    · rw [if_neg h, if_neg h]
      congr 1
      refine List.map_congr_left fun j hj => ?_
      rw [List.mem_range] at hj
      rw [opt_fuel w f g i (i + j) (by omega) (by omega), opt_fuel w f g (i + j + 1) k (by omega) (by omega)]
/-- The cost of a best tree of a span. -/
def C (w : List Int) (i k : Nat) : Int := opt w (k - i) i k
theorem C_nil {w : List Int} {i k : Nat} (h : k ≤ i) : C w i k = 0 := by
  unfold C
  rw [show k - i = 0 by omega]; rfl
/-- What all roots of a span cost. -/
def cands (w : List Int) (i k : Nat) : List Int := (List.range (k - i)).map fun j => (P w k - P w i) + (C w i (i + j) + C w (i + j + 1) k)
theorem C_rec {w : List Int} {i k : Nat} (h : i < k) : C w i k = minL (cands w i k) := by
  unfold C
  rw [show k - i = (k - i - 1) + 1 by omega]
  unfold opt cands
  rw [if_neg (by omega)]
  congr 1
  refine List.map_congr_left fun j hj => ?_
  rw [List.mem_range] at hj
  rw [opt_fuel w _ (i + j - i) i (i + j) (by omega) (by omega), opt_fuel w _ (k - (i + j + 1)) (i + j + 1) k (by omega) (by omega)]
  rfl
/-- The cost with a root. -/
def K (w : List Int) (i k r : Nat) : Int := (P w k - P w i) + (C w i r + C w (r + 1) k)
theorem C_le {w : List Int} {i k r : Nat} (h : i ≤ r) (h1 : r < k) : C w i k ≤ K w i k r := by
  rw [C_rec (by omega)]
  refine minL_le (List.mem_map.2 ⟨r - i, List.mem_range.2 (by omega), ?_⟩)
  rw [show i + (r - i) = r by omega]; rfl
theorem C_ex {w : List Int} {i k : Nat} (h : i < k) : ∃ r, i ≤ r ∧ r < k ∧ C w i k = K w i k r := by
  have hm := minL_mem (l := cands w i k) (by
    intro h0
    have := congrArg List.length h0
    simp [cands] at this
    omega)
  obtain ⟨j, hj, he⟩ := List.mem_map.1 hm
  rw [List.mem_range] at hj
  exact ⟨i + j, by omega, by omega, by rw [C_rec h, ← he]; rfl⟩
/-- Weights that are not below 0. -/
def Nn (w : List Int) : Prop := ∀ x ∈ w, 0 ≤ x
theorem P_succ {w : List Int} {k : Nat} (h : k < w.length) : P w (k + 1) = P w k + nth w (k : Int) := by
  unfold P
  rw [List.take_succ_eq_append_getElem h, List.sum_append, nth_nat h]
  simp
theorem P_all {w : List Int} {k : Nat} (h : w.length ≤ k) : P w k = P w w.length := by
  unfold P
  rw [List.take_of_length_le h, List.take_of_length_le (Nat.le_refl _)]
theorem P_mono {w : List Int} (hw : Nn w) {i k : Nat} (h : i ≤ k) : P w i ≤ P w k := by
  induction k with
  | zero => rw [show i = 0 by omega]; exact Int.le_refl _
  | succ k ih =>
    rcases Nat.lt_or_ge i (k + 1) with h1 | h1
    · have h2 := ih (by omega)
      by_cases h3 : k < w.length
      · rw [P_succ h3]
        have := hw (nth w (k : Int)) (by rw [nth_nat h3]; exact List.getElem_mem _)
        omega
      · rw [P_all (k := k + 1) (by omega), ← P_all (k := k) (by omega)]; exact h2
    · rw [show i = k + 1 by omega]; exact Int.le_refl _
/-- Yao: spans that cross. -/
theorem cross {w : List Int} (hw : Nn w) : ∀ (n a b c d : Nat), d - a ≤ n → a ≤ b → b ≤ c → c ≤ d → C w a c + C w b d ≤ C w a d + C w b c := by
  intro n
  induction n with
  | zero => intro a b c d h h1 h2 h3; rw [show b = a by omega, show c = a by omega, show d = a by omega]; omega
  | succ n ih =>
    intro a b c d h h1 h2 h3
    rcases Nat.lt_or_ge a b with hab | hab
    · rcases Nat.lt_or_ge c d with hcd | hcd
      · have p1 := P_mono hw h1
        have p2 := P_mono hw h2
        have p3 := P_mono hw h3
        obtain ⟨z, z0, z1, hz⟩ := C_ex (w := w) (i := a) (k := d) (by omega)
        rcases Nat.lt_or_ge b c with hbc | hbc
        · obtain ⟨y, y0, y1, hy⟩ := C_ex (w := w) (i := b) (k := c) (by omega)
          rcases Nat.lt_or_ge y z with hyz | hyz
          · have e1 := C_le (w := w) (i := a) (k := c) (r := y) (by omega) (by omega)
            have e2 := C_le (w := w) (i := b) (k := d) (r := z) (by omega) (by omega)
            have e3 := ih a b y z (by omega) (by omega) (by omega) (by omega)
            unfold K at *
            omega
          · have e1 := C_le (w := w) (i := a) (k := c) (r := z) (by omega) (by omega)
            have e2 := C_le (w := w) (i := b) (k := d) (r := y) (by omega) (by omega)
            have e3 := ih (z + 1) (y + 1) c d (by omega) (by omega) (by omega) (by omega)
            unfold K at *
            omega
        · have hbe : b = c := by omega
          subst hbe
          rcases Nat.lt_or_ge z b with hzb | hzb
          · have e1 := C_le (w := w) (i := a) (k := b) (r := z) (by omega) (by omega)
            have e3 := ih (z + 1) b b d (by omega) (by omega) (by omega) (by omega)
            have e4 := C_nil (w := w) (Nat.le_refl b)
            unfold K at *
            omega
          · have e1 := C_le (w := w) (i := b) (k := d) (r := z) (by omega) (by omega)
            have e3 := ih a b b z (by omega) (by omega) (by omega) (by omega)
            have e4 := C_nil (w := w) (Nat.le_refl b)
            unfold K at *
            omega
      · rw [show c = d by omega]; omega
    · rw [show a = b by omega]; omega
/-- Knuth: a later root that is no worse stays so in a longer span. -/
theorem later {w : List Int} (hw : Nn w) {i k r s : Nat} (h : r < s) (h1 : s < k) : K w i (k + 1) s - K w i (k + 1) r ≤ K w i k s - K w i k r := by
  have := cross hw _ (r + 1) (s + 1) k (k + 1) (Nat.le_refl _) (by omega) (by omega) (by omega)
  unfold K; omega
theorem sooner {w : List Int} (hw : Nn w) {i k r s : Nat} (h : r < s) (h0 : i + 1 ≤ r) : K w i k r - K w i k s ≤ K w (i + 1) k r - K w (i + 1) k s := by
  have := cross hw _ i (i + 1) r s (Nat.le_refl _) (by omega) (by omega) (by omega)
  unfold K; omega
/-- The cost of a tree over a span. -/
def cst (w : List Int) : Nat → T → Int
  | _, .nil => 0
  | i, .node l r => (P w (i + T.size (.node l r)) - P w i) + (cst w i l + cst w (i + l.size + 1) r)
theorem C_least (w : List Int) : ∀ (t : T) (i : Nat), C w i (i + t.size) ≤ cst w i t
  | .nil, i => by rw [show i + T.size .nil = i from rfl, C_nil (Nat.le_refl i)]; exact Int.le_refl _
  | .node l r, i => by
    have h1 := C_least w l i
    have h2 := C_least w r (i + l.size + 1)
    have h3 := C_le (w := w) (i := i) (k := i + T.size (.node l r)) (r := i + l.size) (by omega) (by simp only [T.size]; omega)
    unfold K at h3
    rw [show i + T.size (.node l r) = i + l.size + 1 + r.size by simp only [T.size]; omega] at *
    unfold cst
    rw [show i + T.size (.node l r) = i + l.size + 1 + r.size by simp only [T.size]; omega]
    omega
theorem C_tree (w : List Int) : ∀ (n i k : Nat), k - i ≤ n → i ≤ k → ∃ t : T, t.size = k - i ∧ cst w i t = C w i k := by
  intro n
  induction n with
  | zero => intro i k h h1; exact ⟨.nil, by simp only [T.size]; omega, by rw [C_nil (by omega)]; rfl⟩
  | succ n ih =>
    intro i k h h1
    rcases Nat.lt_or_ge i k with h2 | h2
    · obtain ⟨r, r0, r1, hr⟩ := C_ex (w := w) h2
      obtain ⟨a, a1, a2⟩ := ih i r (by omega) r0
      obtain ⟨b, b1, b2⟩ := ih (r + 1) k (by omega) (by omega)
      refine ⟨.node a b, by simp only [T.size]; omega, ?_⟩
      unfold cst
      rw [hr, a2, show i + a.size + 1 = r + 1 by omega, b2, show i + T.size (.node a b) = k by simp only [T.size]; omega]
      rfl
    · exact ⟨.nil, by simp only [T.size]; omega, by rw [C_nil (by omega)]; rfl⟩
/-- Right bounds. -/
theorem bounds_le {w : List Int} {g : Nat → Nat → Int} {m : Nat} (h0 : ∀ i, g i i = 0) (h : ∀ i k r, i ≤ r → r < k → k ≤ m → g i k ≤ (P w k - P w i) + (g i r + g (r + 1) k)) : ∀ (n i k : Nat), k - i ≤ n → i ≤ k → k ≤ m → g i k ≤ C w i k := by
  intro n
  induction n with
  | zero => intro i k h1 h2 h3; rw [show k = i by omega, h0, C_nil (Nat.le_refl _)]; exact Int.le_refl _
  | succ n ih =>
    intro i k h1 h2 h3
    rcases Nat.lt_or_ge i k with h4 | h4
    · obtain ⟨r, r0, r1, hr⟩ := C_ex (w := w) h4
      have e1 := h i k r r0 r1 h3
      have e2 := ih i r (by omega) (by omega) (by omega)
      have e3 := ih (r + 1) k (by omega) (by omega) (by omega)
      rw [hr]; unfold K; omega
    · rw [show k = i by omega, h0, C_nil (Nat.le_refl _)]; exact Int.le_refl _
/-- The errors of weights. -/
def ckW (w : List Int) : Int := if w.length < 1 ∨ 12 < w.length then 6 else if ¬ ∀ x ∈ w, 0 ≤ x ∧ x ≤ 1000 then 3 else 0
theorem kw1 {w : List Int} (h : w.length < 1 ∨ 12 < w.length) : ckW w = 6 := if_pos h
theorem kw2 {w : List Int} (h : ¬ (w.length < 1 ∨ 12 < w.length)) (h2 : ¬ ∀ x ∈ w, 0 ≤ x ∧ x ≤ 1000) : ckW w = 3 := by unfold ckW; rw [if_neg h, if_pos h2]
theorem kw3 {w : List Int} (h : ¬ (w.length < 1 ∨ 12 < w.length)) (h2 : ∀ x ∈ w, 0 ≤ x ∧ x ≤ 1000) : ckW w = 0 := by unfold ckW; rw [if_neg h, if_neg (fun k => k h2)]
theorem all_of {w : List Int} (h : ∀ i, i < w.length → 0 ≤ nth w (i : Int) ∧ nth w (i : Int) ≤ 1000) : ∀ x ∈ w, 0 ≤ x ∧ x ≤ 1000 := fun x hx => by
  obtain ⟨i, hi, rfl⟩ := List.getElem_of_mem hx
  rw [← nth_nat hi]; exact h i hi
theorem of_all {w : List Int} (h : ∀ x ∈ w, 0 ≤ x ∧ x ≤ 1000) {i : Nat} (hi : i < w.length) : 0 ≤ nth w (i : Int) ∧ nth w (i : Int) ≤ 1000 := by
  rw [nth_nat hi]; exact h _ (List.getElem_mem hi)
end Go.Fip.Q

set_option linter.unusedVariables false
set_option linter.unusedSimpArgs false
set_option linter.unusedSectionVars false
namespace Go.Fip.Q
open Go.Fip
/-- The tree with a root, and trees beside it. -/
def hung (l r : List Int) : List Int := l.map (· + 1) ++ 0 :: r.map (· + 1)
theorem hung_dep (a b : T) : hung (T.dep 0 a) (T.dep 0 b) = T.dep 0 (.node a b) := by
  unfold hung
  rw [T.dep_add, T.dep_add]; rfl
theorem hung_length {l r : List Int} : (hung l r).length = l.length + r.length + 1 := by simp [hung]; omega
/-- One behind the other one, in the order of lists. -/
def cmpL : List Int → List Int → Int
  | [], [] => 0
  | [], _ :: _ => -1
  | _ :: _, [] => 1
  | x :: a, y :: b => if x < y then -1 else if y < x then 1 else cmpL a b
theorem cmpL_self : ∀ a : List Int, cmpL a a = 0
  | [] => rfl
  | x :: a => by unfold cmpL; rw [if_neg (by omega), if_neg (by omega)]; exact cmpL_self a
theorem cmpL_eq : ∀ {a b : List Int}, cmpL a b = 0 → a = b
  | [], [], _ => rfl
  | [], _ :: _, h => by simp [cmpL] at h
  | _ :: _, [], h => by simp [cmpL] at h
  | x :: a, y :: b, h => by
    unfold cmpL at h
    split at h
    · omega
    · split at h
      · omega
      · rw [cmpL_eq h, show x = y by omega]
theorem cmpL_neg : ∀ (a b : List Int), cmpL b a = - cmpL a b
  | [], [] => rfl
  | [], _ :: _ => rfl
  | _ :: _, [] => rfl
  | x :: a, y :: b => by
    unfold cmpL
    rcases Int.lt_trichotomy x y with h | h | h
    · rw [if_neg (by omega), if_pos h, if_pos h]; rfl
    · rw [if_neg (by omega), if_neg (by omega), if_neg (by omega), if_neg (by omega)]; exact cmpL_neg a b
    · rw [if_pos h, if_neg (by omega), if_pos h]
theorem cmpL_bd : ∀ (a b : List Int), -1 ≤ cmpL a b ∧ cmpL a b ≤ 1
  | [], [] => by decide
  | [], _ :: _ => by simp [cmpL]
  | _ :: _, [] => by simp [cmpL]
  | x :: a, y :: b => by
    have := cmpL_bd a b
    unfold cmpL
    split
    · omega
    · split <;> omega
theorem cmpL_trans : ∀ {a b c : List Int}, cmpL a b < 0 → cmpL b c < 0 → cmpL a c < 0
  | [], [], c, h, _ => by simp [cmpL] at h
  | [], _ :: _, [], _, h => by simp [cmpL] at h
  | [], _ :: _, _ :: _, _, _ => by simp [cmpL]
  | _ :: _, [], _, h, _ => by simp [cmpL] at h
  | _ :: _, _ :: _, [], _, h => by simp [cmpL] at h
  | x :: a, y :: b, z :: c, h1, h2 => by
    unfold cmpL at *
    split at h1
    · split at h2
      · rw [if_pos (by omega)]; omega
      · split at h2
        · omega
        · rw [if_pos (by omega)]; omega
    · split at h1
      · omega
      · split at h2
        · rw [if_pos (by omega)]; omega
        · split at h2
          · omega
          · rw [if_neg (by omega), if_neg (by omega)]
            exact cmpL_trans h1 h2
/-- The first of several that comes before all before it. -/
def minT (l : List (List Int)) : List Int := l.tail.foldl (fun out x => if cmpL x out < 0 then x else out) (l.headD [])
theorem foldl_minT : ∀ (l : List (List Int)) (a : List Int), (∀ x ∈ a :: l, ¬ cmpL x (l.foldl (fun out x => if cmpL x out < 0 then x else out) a) < 0) ∧ l.foldl (fun out x => if cmpL x out < 0 then x else out) a ∈ a :: l
  | [], a => by
    refine ⟨fun x h => ?_, List.mem_cons_self ..⟩
    rw [List.mem_singleton] at h
    subst h
    show ¬ cmpL x x < 0
    rw [cmpL_self]; decide
  | y :: l, a => by
    have ih := foldl_minT l (if cmpL y a < 0 then y else a)
    simp only [List.foldl_cons]
    refine ⟨fun x hx => ?_, ?_⟩
    · have hm := ih.1 _ (List.mem_cons_self ..)
      have key : ∀ z, cmpL z (if cmpL y a < 0 then y else a) = 0 ∨ cmpL (if cmpL y a < 0 then y else a) z < 0 → ¬ cmpL z (l.foldl (fun out x => if cmpL x out < 0 then x else out) (if cmpL y a < 0 then y else a)) < 0 := fun z hz h => by
        rcases hz with hz | hz
        · rw [cmpL_eq hz] at h; exact hm h
        · exact hm (cmpL_trans hz h)
      rcases List.mem_cons.1 hx with h | h
      · subst h
        apply key
        split
        · rename_i h9; exact .inr h9
        · exact .inl (cmpL_self _)
      · rcases List.mem_cons.1 h with h | h
        · subst h
          apply key
          split
          · exact .inl (cmpL_self _)
          · rename_i h9
            have := cmpL_neg a x
            rcases Int.lt_trichotomy (cmpL a x) 0 with h8 | h8 | h8
            · exact .inr h8
            · exact .inl (by omega)
            · omega
        · exact ih.1 x (List.mem_cons_of_mem _ h)
    · rcases List.mem_cons.1 ih.2 with h | h
      · rw [h]; split
        · exact List.mem_cons_of_mem _ (List.mem_cons_self ..)
        · exact List.mem_cons_self ..
      · exact List.mem_cons_of_mem _ (List.mem_cons_of_mem _ h)
theorem minT_mem {l : List (List Int)} (h : l ≠ []) : minT l ∈ l := by
  cases l with
  | nil => exact absurd rfl h
  | cons a l => exact (foldl_minT l a).2
theorem minT_le {l : List (List Int)} {x : List Int} (h : x ∈ l) : ¬ cmpL x (minT l) < 0 := by
  cases l with
  | nil => cases h
  | cons a l => exact (foldl_minT l a).1 x h
theorem minT_uni {l : List (List Int)} {x : List Int} (h : x ∈ l) (hx : ∀ y ∈ l, ¬ cmpL y x < 0) : minT l = x := by
  have h1 := minT_le h
  have h2 := hx _ (minT_mem (by intro h9; rw [h9] at h; cases h))
  have := cmpL_neg x (minT l)
  exact cmpL_eq (by omega)
/-- The roots of a span, less its beginning. -/
def roots (w : List Int) (i k : Nat) : List Nat := (List.range (k - i)).filter fun j => decide (K w i k (i + j) = C w i k)
theorem mem_roots {w : List Int} {i k j : Nat} : j ∈ roots w i k ↔ j < k - i ∧ K w i k (i + j) = C w i k := by
  unfold roots; rw [List.mem_filter, List.mem_range, decide_eq_true_eq]
theorem roots_ne {w : List Int} {i k : Nat} (h : i < k) : roots w i k ≠ [] := by
  obtain ⟨r, r0, r1, hr⟩ := C_ex (w := w) h
  have : r - i ∈ roots w i k := mem_roots.2 ⟨by omega, by rw [show i + (r - i) = r by omega, hr]⟩
  intro h9; rw [h9] at this; cases this
/-- The first best tree of a span, and how many best ones there are. -/
def firstF (w : List Int) : Nat → Nat → Nat → List Int
  | 0, _, _ => []
  | f + 1, i, k => if k ≤ i then [] else minT ((roots w i k).map fun j => hung (firstF w f i (i + j)) (firstF w f (i + j + 1) k))
def manyF (w : List Int) : Nat → Nat → Nat → Nat
  | 0, _, _ => 1
  | f + 1, i, k => if k ≤ i then 1 else ((roots w i k).map fun j => manyF w f i (i + j) * manyF w f (i + j + 1) k).sum
theorem firstF_fuel (w : List Int) : ∀ (f g i k : Nat), k - i ≤ f → k - i ≤ g → firstF w f i k = firstF w g i k
  | 0, 0, _, _, _, _ => rfl
  | 0, g + 1, i, k, h, _ => by unfold firstF; rw [if_pos (by omega)]
  | f + 1, 0, i, k, _, h => by unfold firstF; rw [if_pos (by omega)]
  | f + 1, g + 1, i, k, hf, hg => by
    unfold firstF
    by_cases h : k ≤ i
    · rw [if_pos h, if_pos h]
    · rw [if_neg h, if_neg h]
      congr 1
      refine List.map_congr_left fun j hj => ?_
      have hj := (mem_roots.1 hj).1
      rw [firstF_fuel w f g i (i + j) (by omega) (by omega), firstF_fuel w f g (i + j + 1) k (by omega) (by omega)]
theorem manyF_fuel (w : List Int) : ∀ (f g i k : Nat), k - i ≤ f → k - i ≤ g → manyF w f i k = manyF w g i k
  | 0, 0, _, _, _, _ => rfl
  | 0, g + 1, i, k, h, _ => by unfold manyF; rw [if_pos (by omega)]
  | f + 1, 0, i, k, _, h => by unfold manyF; rw [if_pos (by omega)]
  | f + 1, g + 1, i, k, hf, hg => by
    unfold manyF
    by_cases h : k ≤ i
    · rw [if_pos h, if_pos h]
    · rw [if_neg h, if_neg h]
      congr 1
      refine List.map_congr_left fun j hj => ?_
      have hj := (mem_roots.1 hj).1
      rw [manyF_fuel w f g i (i + j) (by omega) (by omega), manyF_fuel w f g (i + j + 1) k (by omega) (by omega)]
def F (w : List Int) (i k : Nat) : List Int := firstF w (k - i) i k
def M (w : List Int) (i k : Nat) : Nat := manyF w (k - i) i k
theorem F_nil {w : List Int} {i k : Nat} (h : k ≤ i) : F w i k = [] := by unfold F; rw [show k - i = 0 by omega]; rfl
theorem M_nil {w : List Int} {i k : Nat} (h : k ≤ i) : M w i k = 1 := by unfold M; rw [show k - i = 0 by omega]; rfl
theorem F_rec {w : List Int} {i k : Nat} (h : i < k) : F w i k = minT ((roots w i k).map fun j => hung (F w i (i + j)) (F w (i + j + 1) k)) := by
  unfold F
  conv => lhs; rw [show k - i = (k - i - 1) + 1 by omega]
  conv => lhs; unfold firstF
  rw [if_neg (by omega)]
  congr 1
  refine List.map_congr_left fun j hj => ?_
  have hj := (mem_roots.1 hj).1
  rw [firstF_fuel w _ (i + j - i) i (i + j) (by omega) (by omega), firstF_fuel w _ (k - (i + j + 1)) (i + j + 1) k (by omega) (by omega)]
theorem M_rec {w : List Int} {i k : Nat} (h : i < k) : M w i k = ((roots w i k).map fun j => M w i (i + j) * M w (i + j + 1) k).sum := by
  unfold M
  conv => lhs; rw [show k - i = (k - i - 1) + 1 by omega]
  conv => lhs; unfold manyF
  rw [if_neg (by omega)]
  congr 1
  refine List.map_congr_left fun j hj => ?_
  have hj := (mem_roots.1 hj).1
  rw [manyF_fuel w _ (i + j - i) i (i + j) (by omega) (by omega), manyF_fuel w _ (k - (i + j + 1)) (i + j + 1) k (by omega) (by omega)]
/-- The first best tree is one, and costs what a best one costs. -/
theorem F_tree (w : List Int) : ∀ (n i k : Nat), k - i ≤ n → i ≤ k → ∃ t : T, T.dep 0 t = F w i k ∧ t.size = k - i ∧ cst w i t = C w i k := by
  intro n
  induction n with
  | zero => intro i k h h1; exact ⟨.nil, by rw [F_nil (by omega)]; rfl, by simp only [T.size]; omega, by rw [C_nil (by omega)]; rfl⟩
  | succ n ih =>
    intro i k h h1
    rcases Nat.lt_or_ge i k with h2 | h2
    · have hm := minT_mem (l := (roots w i k).map fun j => hung (F w i (i + j)) (F w (i + j + 1) k)) (by
        intro h9
        exact roots_ne (w := w) h2 (List.map_eq_nil_iff.1 h9))
      obtain ⟨j, hj, he⟩ := List.mem_map.1 hm
      obtain ⟨hj1, hj2⟩ := mem_roots.1 hj
      obtain ⟨a, a0, a1, a2⟩ := ih i (i + j) (by omega) (by omega)
      obtain ⟨b, b0, b1, b2⟩ := ih (i + j + 1) k (by omega) (by omega)
      refine ⟨.node a b, ?_, by simp only [T.size]; omega, ?_⟩
      · rw [F_rec h2, ← he, ← a0, ← b0, hung_dep]
      · unfold cst
        rw [a2, show i + a.size + 1 = i + j + 1 by omega, b2, show i + T.size (.node a b) = k by simp only [T.size]; omega, ← hj2]
        rfl
    · exact ⟨.nil, by rw [F_nil (by omega)]; rfl, by simp only [T.size]; omega, by rw [C_nil (by omega)]; rfl⟩
theorem F_length {w : List Int} {i k : Nat} : (F w i k).length = k - i := by
  rcases Nat.lt_or_ge i k with h | h
  · obtain ⟨t, h1, h2, -⟩ := F_tree w (k - i) i k (Nat.le_refl _) (by omega)
    rw [← h1, T.dep_length, h2]
  · rw [F_nil h, show k - i = 0 by omega]; rfl
/-- How many trees there are. -/
def cnt : Nat → Nat
  | 0 => 1
  | n + 1 => cnt n * 2 * (2 * n + 1) / (n + 2)
theorem cnt_rec : ∀ n, n < 12 → ((List.range (n + 1)).map fun r => cnt r * cnt (n - r)).sum = cnt (n + 1) := by decide +kernel
end Go.Fip.Q

set_option linter.unusedVariables false
set_option linter.unusedSimpArgs false
set_option linter.unusedSectionVars false
namespace Go.Fip.Q
open Go.Fip
/-- A root of a span. -/
def Rt (w : List Int) (i k r : Nat) : Prop := i ≤ r ∧ r < k ∧ K w i k r = C w i k
theorem Rt_mem {w : List Int} {i k j : Nat} : j ∈ roots w i k ↔ Rt w i k (i + j) := by
  rw [mem_roots]; unfold Rt
  exact ⟨fun h => ⟨by omega, by omega, h.2⟩, fun h => ⟨by omega, h.2.2⟩⟩
theorem Rt_ex {w : List Int} {i k : Nat} (h : i < k) : ∃ r, Rt w i k r := by
  obtain ⟨r, a, b, c⟩ := C_ex (w := w) h
  exact ⟨r, a, b, c.symm⟩
section
variable {w : List Int} (hw : Nn w) {i k : Nat}
include hw
theorem root_A (h : i < k) {r : Nat} (hr : Rt w i (k + 1) r) : ∃ s, Rt w i k s ∧ s ≤ r := by
  obtain ⟨s, hs⟩ := Rt_ex (w := w) h
  rcases Nat.lt_or_ge r s with h1 | h1
  · have e1 := later hw (i := i) h1 hs.2.1
    have e2 := C_le (w := w) (i := i) (k := k + 1) (r := s) hs.1 (by have := hs.2.1; omega)
    have e3 := C_le (w := w) (i := i) (k := k) (r := r) hr.1 (by have := hs.2.1; omega)
    exact ⟨r, ⟨hr.1, by have := hs.2.1; omega, by have := hs.2.2; have := hr.2.2; omega⟩, Nat.le_refl _⟩
  · exact ⟨s, hs, h1⟩
theorem root_B {s : Nat} (hs : Rt w i k s) : ∃ r, Rt w i (k + 1) r ∧ s ≤ r := by
  have hh : i < k := Nat.lt_of_le_of_lt hs.1 hs.2.1
  obtain ⟨r, hr⟩ := Rt_ex (w := w) (i := i) (k := k + 1) (by omega)
  rcases Nat.lt_or_ge r s with h1 | h1
  · have e1 := later hw (i := i) h1 hs.2.1
    have e2 := C_le (w := w) (i := i) (k := k + 1) (r := s) hs.1 (by have := hs.2.1; omega)
    have e3 := C_le (w := w) (i := i) (k := k) (r := r) hr.1 (by have := hs.2.1; omega)
    exact ⟨s, ⟨hs.1, by have := hs.2.1; omega, by have := hs.2.2; have := hr.2.2; omega⟩, Nat.le_refl _⟩
  · exact ⟨r, hr, h1⟩
theorem root_A' (h : i + 1 < k) {r : Nat} (hr : Rt w i k r) : ∃ s, Rt w (i + 1) k s ∧ r ≤ s := by
  obtain ⟨s, hs⟩ := Rt_ex (w := w) h
  rcases Nat.lt_or_ge s r with h1 | h1
  · have e1 := sooner hw (i := i) (k := k) h1 hs.1
    have e2 := C_le (w := w) (i := i) (k := k) (r := s) (by have := hs.1; omega) hs.2.1
    have e3 := C_le (w := w) (i := i + 1) (k := k) (r := r) (by have := hs.1; omega) hr.2.1
    exact ⟨r, ⟨by have := hs.1; omega, hr.2.1, by have := hs.2.2; have := hr.2.2; omega⟩, Nat.le_refl _⟩
  · exact ⟨s, hs, h1⟩
theorem root_B' {s : Nat} (hs : Rt w (i + 1) k s) : ∃ r, Rt w i k r ∧ r ≤ s := by
  have hh : i + 1 < k := Nat.lt_of_le_of_lt hs.1 hs.2.1
  obtain ⟨r, hr⟩ := Rt_ex (w := w) (i := i) (k := k) (by omega)
  rcases Nat.lt_or_ge s r with h1 | h1
  · have e1 := sooner hw (i := i) (k := k) h1 hs.1
    have e2 := C_le (w := w) (i := i) (k := k) (r := s) (by have := hs.1; omega) hs.2.1
    have e3 := C_le (w := w) (i := i + 1) (k := k) (r := r) (by have := hs.1; omega) hr.2.1
    exact ⟨s, ⟨by have := hs.1; omega, hs.2.1, by have := hs.2.2; have := hr.2.2; omega⟩, Nat.le_refl _⟩
  · exact ⟨r, hr, h1⟩
end
/-- A row that is turned round. -/
theorem P_rev {w : List Int} {k : Nat} (h : k ≤ w.length) : P w.reverse k + P w (w.length - k) = P w w.length := by
  unfold P
  rw [List.take_reverse, List.sum_reverse, List.take_length]
  conv => rhs; rw [← List.take_append_drop (w.length - k) w, List.sum_append]
  omega
theorem C_rev_le {w : List Int} : ∀ (n i k : Nat), k - i ≤ n → i ≤ k → k ≤ w.length → C w.reverse i k ≤ C w (w.length - k) (w.length - i) := by
  intro n
  induction n with
  | zero => intro i k h1 h2 h3; rw [C_nil (by omega), C_nil (by omega)]; exact Int.le_refl _
  | succ n ih =>
    intro i k h1 h2 h3
    rcases Nat.lt_or_ge i k with h4 | h4
    · obtain ⟨r, r0, r1, hr⟩ := C_ex (w := w) (i := w.length - k) (k := w.length - i) (by omega)
      have e1 := C_le (w := w.reverse) (i := i) (k := k) (r := w.length - 1 - r) (by omega) (by omega)
      have e2 := ih i (w.length - 1 - r) (by omega) (by omega) (by omega)
      have e3 := ih (w.length - 1 - r + 1) k (by omega) (by omega) (by omega)
      have p1 := P_rev (w := w) (k := k) h3
      have p2 := P_rev (w := w) (k := i) (by omega)
      rw [show w.length - (w.length - 1 - r) = r + 1 by omega] at e2
      rw [show w.length - (w.length - 1 - r + 1) = r by omega] at e3
      rw [hr]
      unfold K at *
      omega
    · rw [C_nil (by omega), C_nil (by omega)]; exact Int.le_refl _
theorem C_rev {w : List Int} {i k : Nat} (h : i ≤ k) (hk : k ≤ w.length) : C w.reverse i k = C w (w.length - k) (w.length - i) := by
  have h1 := C_rev_le (w := w) _ i k (Nat.le_refl _) h hk
  have h2 := C_rev_le (w := w.reverse) _ (w.length - k) (w.length - i) (Nat.le_refl _) (by omega) (by rw [List.length_reverse]; omega)
  rw [List.reverse_reverse, List.length_reverse, show w.length - (w.length - i) = i by omega, show w.length - (w.length - k) = k by omega] at h2
  omega
theorem K_rev {w : List Int} {i k r : Nat} (h : i ≤ r) (h1 : r < k) (hk : k ≤ w.length) : K w.reverse i k r = K w (w.length - k) (w.length - i) (w.length - 1 - r) := by
  have p1 := P_rev (w := w) (k := k) hk
  have p2 := P_rev (w := w) (k := i) (by omega)
  have e1 := C_rev (w := w) (i := i) (k := r) h (by omega)
  have e2 := C_rev (w := w) (i := r + 1) (k := k) (by omega) hk
  unfold K
  rw [e1, e2, show w.length - (r + 1) = w.length - 1 - r by omega, show w.length - r = w.length - 1 - r + 1 by omega]
  omega
theorem filter_rev {n : Nat} {p q : Nat → Bool} (h : ∀ j, j < n → p j = q (n - 1 - j)) : (List.range n).filter p = (((List.range n).filter q).map fun j => n - 1 - j).reverse := by
  induction n generalizing p q with
  | zero => rfl
  | succ n ih =>
    have h1 := ih (p := fun j => p (j + 1)) (q := q) (fun j hj => by rw [h (j + 1) (by omega)]; congr 1; omega)
    rw [List.range_succ_eq_map, List.filter_cons, List.filter_map, show (p ∘ Nat.succ) = fun j => p (j + 1) from rfl, h1, h 0 (by omega), show n + 1 - 1 - 0 = n by omega]
    conv => rhs; rw [← List.range_succ_eq_map, List.range_succ, List.filter_append, List.map_append, List.reverse_append]
    have e : ∀ L : List Nat, (∀ x ∈ L, x < n) → (List.map Nat.succ (L.map fun j => n - 1 - j).reverse) = (L.map fun j => n + 1 - 1 - j).reverse := fun L hL => by
      rw [List.map_reverse, List.map_map]
      congr 1
      refine List.map_congr_left fun x hx => ?_
      have := hL x hx
      show n - 1 - x + 1 = n + 1 - 1 - x
      omega
    rw [e _ (fun x hx => List.mem_range.1 (List.mem_filter.1 hx).1)]
    by_cases hq : q n = true
    · simp [hq]
    · simp [hq]
theorem roots_rev {w : List Int} {i k : Nat} (h : i ≤ k) (hk : k ≤ w.length) : roots w.reverse i k = ((roots w (w.length - k) (w.length - i)).map fun j => k - i - 1 - j).reverse := by
  unfold roots
  rw [show w.length - i - (w.length - k) = k - i by omega]
  refine filter_rev fun j hj => ?_
  rw [K_rev (by omega) (by omega) hk, C_rev h hk, show w.length - 1 - (i + j) = w.length - k + (k - i - 1 - j) by omega]
theorem M_rev {w : List Int} : ∀ (n i k : Nat), k - i ≤ n → i ≤ k → k ≤ w.length → M w.reverse i k = M w (w.length - k) (w.length - i) := by
  intro n
  induction n with
  | zero => intro i k h1 h2 h3; rw [M_nil (by omega), M_nil (by omega)]
  | succ n ih =>
    intro i k h1 h2 h3
    rcases Nat.lt_or_ge i k with h4 | h4
    · rw [M_rec h4, M_rec (i := w.length - k) (by omega), roots_rev h2 h3, List.map_reverse, List.sum_reverse, List.map_map]
      congr 1
      refine List.map_congr_left fun j hj => ?_
      have hj := (mem_roots.1 hj).1
      show M w.reverse i (i + (k - i - 1 - j)) * M w.reverse (i + (k - i - 1 - j) + 1) k = _
      rw [ih i (i + (k - i - 1 - j)) (by omega) (by omega) (by omega), ih (i + (k - i - 1 - j) + 1) k (by omega) (by omega) h3, Nat.mul_comm]
      rw [show w.length - (i + (k - i - 1 - j) + 1) = w.length - k + j by omega, show w.length - (i + (k - i - 1 - j)) = w.length - k + j + 1 by omega]
    · rw [M_nil (by omega), M_nil (by omega)]
end Go.Fip.Q

set_option linter.unusedVariables false
set_option linter.unusedSimpArgs false
set_option linter.unusedSectionVars false
namespace Go.Fip.Q
open Go.Fip
/-- What depends on sums alone. -/
theorem C_shift {w v : List Int} {s : Nat} : ∀ (n i k : Nat), k - i ≤ n → (∀ a b, i ≤ a → a ≤ b → b ≤ k → P w b - P w a = P v (b + s) - P v (a + s)) → C w i k = C v (i + s) (k + s) := by
  intro n
  induction n with
  | zero => intro i k h _; rw [C_nil (by omega), C_nil (by omega)]
  | succ n ih =>
    intro i k h hP
    rcases Nat.lt_or_ge i k with h1 | h1
    · rw [C_rec h1, C_rec (i := i + s) (by omega)]
      unfold cands
      rw [show k + s - (i + s) = k - i by omega]
      congr 1
      refine List.map_congr_left fun j hj => ?_
      rw [List.mem_range] at hj
      rw [hP i k (Nat.le_refl _) (by omega) (Nat.le_refl _), ih i (i + j) (by omega) (fun a b h1 h2 h3 => hP a b h1 h2 (by omega)), ih (i + j + 1) k (by omega) (fun a b h1 h2 h3 => hP a b (by omega) h2 h3)]
      rw [show i + j + s = i + s + j by omega, show i + j + 1 + s = i + s + j + 1 by omega]
    · rw [C_nil (by omega), C_nil (by omega)]
theorem C_one {w : List Int} {i : Nat} : C w i (i + 1) = P w (i + 1) - P w i := by
  obtain ⟨r, r0, r1, hr⟩ := C_ex (w := w) (i := i) (k := i + 1) (by omega)
  rw [hr, show r = i by omega]
  unfold K
  rw [C_nil (Nat.le_refl i), C_nil (Nat.le_refl (i + 1))]
  omega
/-- Greater weights. -/
theorem C_mono {w v : List Int} (h : ∀ a b, a ≤ b → P w b - P w a ≤ P v b - P v a) : ∀ (n i k : Nat), k - i ≤ n → i ≤ k → C w i k ≤ C v i k := by
  intro n
  induction n with
  | zero => intro i k h1 h2; rw [C_nil (by omega), C_nil (by omega)]; exact Int.le_refl _
  | succ n ih =>
    intro i k h1 h2
    rcases Nat.lt_or_ge i k with h4 | h4
    · obtain ⟨r, r0, r1, hr⟩ := C_ex (w := v) h4
      have e1 := C_le (w := w) r0 r1
      have e2 := ih i r (by omega) (by omega)
      have e3 := ih (r + 1) k (by omega) (by omega)
      have e4 := h i k (by omega)
      rw [hr]; unfold K at *; omega
    · rw [C_nil (by omega), C_nil (by omega)]; exact Int.le_refl _
theorem P_le {w v : List Int} (he : v.length = w.length) (h : ∀ i, i < w.length → nth w (i : Int) ≤ nth v (i : Int)) : ∀ a b, a ≤ b → P w b - P w a ≤ P v b - P v a := by
  intro a b hab
  induction b with
  | zero => rw [show a = 0 by omega]; omega
  | succ b ih =>
    rcases Nat.lt_or_ge a (b + 1) with h1 | h1
    · have := ih (by omega)
      by_cases hb : b < w.length
      · have := h b hb
        rw [P_succ hb, P_succ (w := v) (by omega)]
        omega
      · rw [P_all (w := w) (k := b + 1) (by omega), P_all (w := v) (k := b + 1) (by omega), ← P_all (w := w) (k := b) (by omega), ← P_all (w := v) (k := b) (by omega)]
        exact this
    · rw [show a = b + 1 by omega]; omega
/-- Weights that are all some times as great. -/
theorem P_mul {w : List Int} {c : Int} (k : Nat) : P (w.map (c * ·)) k = c * P w k := by
  unfold P
  rw [← List.map_take]
  induction w.take k with
  | nil => simp
  | cons x l ih => rw [List.map_cons, List.sum_cons, List.sum_cons, ih, Int.mul_add]
theorem C_mul {w : List Int} {c : Int} (hc : 0 ≤ c) : ∀ (n i k : Nat), k - i ≤ n → i ≤ k → C (w.map (c * ·)) i k = c * C w i k := by
  intro n
  induction n with
  | zero => intro i k h1 h2; rw [C_nil (by omega), C_nil (by omega)]; simp
  | succ n ih =>
    intro i k h1 h2
    rcases Nat.lt_or_ge i k with h4 | h4
    · have hK : ∀ r, i ≤ r → r < k → K (w.map (c * ·)) i k r = c * K w i k r := fun r r0 r1 => by
        unfold K
        rw [P_mul, P_mul, ih i r (by omega) (by omega), ih (r + 1) k (by omega) (by omega), Int.mul_add, Int.mul_add, Int.mul_sub]
      obtain ⟨r, r0, r1, hr⟩ := C_ex (w := w) h4
      obtain ⟨s, s0, s1, hs⟩ := C_ex (w := w.map (c * ·)) h4
      have e1 := C_le (w := w.map (c * ·)) r0 r1
      have e2 := Int.mul_le_mul_of_nonneg_left (C_le (w := w) s0 s1) hc
      rw [hK r r0 r1, ← hr] at e1
      rw [← hK s s0 s1, ← hs] at e2
      omega
    · rw [C_nil (by omega), C_nil (by omega)]; simp
theorem K_mul {w : List Int} {c : Int} (hc : 0 ≤ c) {i k r : Nat} (h : i ≤ r) (h1 : r < k) : K (w.map (c * ·)) i k r = c * K w i k r := by
  unfold K
  rw [P_mul, P_mul, C_mul hc _ i r (Nat.le_refl _) (by omega), C_mul hc _ (r + 1) k (Nat.le_refl _) (by omega), Int.mul_add, Int.mul_add, Int.mul_sub]
theorem roots_mul {w : List Int} {c : Int} (hc : 0 < c) {i k : Nat} : roots (w.map (c * ·)) i k = roots w i k := by
  unfold roots
  refine List.filter_congr fun j hj => ?_
  rw [List.mem_range] at hj
  rw [K_mul (by omega) (by omega) (by omega), C_mul (by omega) _ i k (Nat.le_refl _) (by omega)]
  refine decide_eq_decide.2 ⟨fun h => Int.eq_of_mul_eq_mul_left (by omega) h, fun h => by rw [h]⟩
theorem M_mul {w : List Int} {c : Int} (hc : 0 < c) : ∀ (n i k : Nat), k - i ≤ n → M (w.map (c * ·)) i k = M w i k := by
  intro n
  induction n with
  | zero => intro i k h1; rw [M_nil (by omega), M_nil (by omega)]
  | succ n ih =>
    intro i k h1
    rcases Nat.lt_or_ge i k with h4 | h4
    · rw [M_rec h4, M_rec h4, roots_mul hc]
      congr 1
      refine List.map_congr_left fun j hj => ?_
      have hj := (mem_roots.1 hj).1
      rw [ih i (i + j) (by omega), ih (i + j + 1) k (by omega)]
    · rw [M_nil (by omega), M_nil (by omega)]
/-- One taper more, behind the others, or ahead of them. -/
theorem P_app {w : List Int} {x : Int} {k : Nat} (h : k ≤ w.length) : P (w ++ [x]) k = P w k := by
  unfold P; rw [List.take_append_of_le_length h]
theorem P_app_all {w : List Int} {x : Int} : P (w ++ [x]) (w.length + 1) = P w w.length + x := by
  unfold P
  rw [List.take_of_length_le (by simp), List.take_length, List.sum_append]; simp
theorem P_cons {w : List Int} {x : Int} (k : Nat) : P (x :: w) (k + 1) = x + P w k := by
  unfold P; rw [List.take_succ_cons, List.sum_cons]
theorem more_behind {w : List Int} {x : Int} (hw : Nn w) (hx : 0 ≤ x) : C w 0 w.length + x ≤ C (w ++ [x]) 0 (w.length + 1) ∧ C (w ++ [x]) 0 (w.length + 1) ≤ C w 0 w.length + x + P w w.length := by
  have hz : Nn (w ++ [x]) := fun y hy => by
    rcases List.mem_append.1 hy with h | h
    · exact hw y h
    · rw [List.mem_singleton] at h; omega
  have e0 : C w 0 w.length = C (w ++ [x]) 0 w.length := C_shift (s := 0) _ 0 w.length (Nat.le_refl _) fun a b _ h2 h3 => by rw [Nat.add_zero, Nat.add_zero, P_app h3, P_app (by omega)]
  have e1 := cross hz _ 0 w.length w.length (w.length + 1) (Nat.le_refl _) (by omega) (by omega) (by omega)
  rw [C_one, C_nil (Nat.le_refl w.length), P_app_all, P_app (Nat.le_refl _)] at e1
  have e2 := C_le (w := w ++ [x]) (i := 0) (k := w.length + 1) (r := w.length) (by omega) (by omega)
  unfold K at e2
  rw [P_app_all, P_app (Nat.zero_le _), C_nil (Nat.le_refl (w.length + 1))] at e2
  have e3 : P w 0 = 0 := rfl
  omega
theorem more_ahead {w : List Int} {x : Int} (hw : Nn w) (hx : 0 ≤ x) : C w 0 w.length + x ≤ C (x :: w) 0 (w.length + 1) ∧ C (x :: w) 0 (w.length + 1) ≤ C w 0 w.length + x + P w w.length := by
  have hz : Nn (x :: w) := fun y hy => by
    rcases List.mem_cons.1 hy with h | h
    · omega
    · exact hw y h
  have e0 : C w 0 w.length = C (x :: w) 1 (w.length + 1) := by
    have := C_shift (w := w) (v := x :: w) (s := 1) _ 0 w.length (Nat.le_refl _) fun a b _ h2 h3 => by rw [P_cons, P_cons]; omega
    simpa using this
  have e1 := cross hz _ 0 1 1 (w.length + 1) (Nat.le_refl _) (by omega) (by omega) (by omega)
  have e4 := C_one (w := x :: w) (i := 0)
  rw [C_nil (Nat.le_refl 1), ← e0] at e1
  rw [P_cons] at e4
  have e2 := C_le (w := x :: w) (i := 0) (k := w.length + 1) (r := 0) (by omega) (by omega)
  unfold K at e2
  rw [P_cons, C_nil (Nat.le_refl 0)] at e2
  have e3 : P (x :: w) 0 = 0 := rfl
  have e5 : P w 0 = 0 := rfl
  simp only [Nat.zero_add] at *
  omega
/-- No taper is looked for. -/
theorem P_zero (n : Nat) (k : Nat) : P (List.replicate n 0) k = 0 := by
  unfold P
  rw [List.take_replicate]
  generalize min k n = m
  induction m with
  | zero => rfl
  | succ m ih => rw [List.replicate_succ, List.sum_cons, ih]; rfl
theorem C_zero (n : Nat) : ∀ (m i k : Nat), k - i ≤ m → C (List.replicate n 0) i k = 0 := by
  intro m
  induction m with
  | zero => intro i k h; exact C_nil (by omega)
  | succ m ih =>
    intro i k h
    rcases Nat.lt_or_ge i k with h4 | h4
    · obtain ⟨r, r0, r1, hr⟩ := C_ex (w := List.replicate n 0) h4
      rw [hr]; unfold K
      rw [P_zero, P_zero, ih i r (by omega), ih (r + 1) k (by omega)]; rfl
    · exact C_nil h4
theorem roots_zero (n i k : Nat) : roots (List.replicate n 0) i k = List.range (k - i) := by
  unfold roots
  refine List.filter_eq_self.2 fun j hj => decide_eq_true ?_
  unfold K
  rw [P_zero, P_zero, C_zero n _ _ _ (Nat.le_refl _), C_zero n _ _ _ (Nat.le_refl _), C_zero n _ _ _ (Nat.le_refl _)]; rfl
theorem M_zero (n : Nat) : ∀ (m i k : Nat), k - i ≤ m → k - i ≤ 12 → M (List.replicate n 0) i k = cnt (k - i) := by
  intro m
  induction m with
  | zero => intro i k h _; rw [M_nil (by omega), show k - i = 0 by omega]; rfl
  | succ m ih =>
    intro i k h h12
    rcases Nat.lt_or_ge i k with h4 | h4
    · rw [M_rec h4, roots_zero, show k - i = (k - i - 1) + 1 by omega, ← cnt_rec (k - i - 1) (by omega)]
      congr 1
      refine List.map_congr_left fun j hj => ?_
      rw [List.mem_range] at hj
      rw [ih i (i + j) (by omega) (by omega), ih (i + j + 1) k (by omega) (by omega), show i + j - i = j by omega, show k - (i + j + 1) = k - i - 1 - j by omega]
    · rw [M_nil (by omega), show k - i = 0 by omega]; rfl
end Go.Fip.Q

set_option linter.unusedVariables false
set_option linter.unusedSimpArgs false
set_option linter.unusedSectionVars false
namespace Go.Fip.Q
open Go.Fip
/-- The first so many, one deeper. -/
def inc (l : List Int) (k : Nat) : List Int := (l.take k).map (· + 1)
theorem inc_zero {l : List Int} : ([] : List Int) = inc l 0 := by simp [inc]
theorem inc_succ {l : List Int} {k : Nat} (h : k < l.length) : inc l k ++ [nth l (k : Int) + 1] = inc l (k + 1) := by
  unfold inc
  rw [List.take_succ_eq_append_getElem h, List.map_append, nth_nat h]; rfl
theorem inc_all {l : List Int} {k : Nat} (h : k = l.length) : inc l k = l.map (· + 1) := by unfold inc; rw [h, List.take_length]
theorem inc_len {l : List Int} {k : Nat} : (inc l k).length ≤ l.length := by unfold inc; rw [List.length_map, List.length_take]; omega
theorem hung_inc {l m : List Int} {k j : Nat} (h : k = l.length) (h1 : j = m.length) : inc l k ++ [0] ++ inc m j = hung l m := by
  rw [inc_all h, inc_all h1]; unfold hung; simp
/-- One more to the first so many. -/
def bump (o : List Int) (q : Nat) : List Int := (o.take q).map (· + 1) ++ o.drop q
theorem bump_zero {o : List Int} : o = bump o 0 := by simp [bump]
theorem bump_length {o : List Int} {q : Nat} : (bump o q).length = o.length := by unfold bump; simp; omega
theorem nth_bump {o : List Int} {q : Nat} (h : q < o.length) : nth (bump o q) (q : Int) = nth o (q : Int) := by
  rw [nth_nat (by rw [bump_length]; exact h), nth_nat h]
  unfold bump
  rw [List.getElem_append_right (by simp; omega), List.getElem_drop]
  congr 1
  simp; omega
theorem bump_succ {o : List Int} {q : Nat} (h : q < o.length) : (bump o q).set ((q : Int)).toNat (nth (bump o q) (q : Int) + 1) = bump o (q + 1) := by
  rw [nth_bump h, nth_nat h]
  unfold bump
  rw [show ((q : Int)).toNat = q from rfl, List.set_append_right _ _ (by simp; omega), List.drop_eq_getElem_cons h, List.take_succ_eq_append_getElem h]
  rw [show q - (List.map (· + 1) (List.take q o)).length = 0 by simp; omega]
  rw [List.set_cons_zero, List.map_append, List.append_assoc]; rfl
theorem bump_all {l m : List Int} : bump (l ++ [-1] ++ m) (l ++ [-1] ++ m).length = hung l m := by
  unfold bump hung
  rw [List.take_length, List.drop_length, List.append_nil]; simp
/-- Numbers of trees are small. -/
def Sm (l : List Int) : Prop := ∀ x ∈ l, -1000 ≤ x ∧ x ≤ 1000
theorem Sm.at {l : List Int} (h : Sm l) {k : Nat} (hk : k < l.length) : -1000 ≤ nth l (k : Int) ∧ nth l (k : Int) ≤ 1000 := by
  rw [nth_nat hk]; exact h _ (List.getElem_mem hk)
theorem Sm.mid {l m : List Int} (hl : Sm l) (hm : Sm m) : Sm (l ++ [-1] ++ m) := fun x hx => by
  rcases List.mem_append.1 hx with h | h
  · rcases List.mem_append.1 h with h | h
    · exact hl x h
    · rw [List.mem_singleton] at h; omega
  · exact hm x h
def cmp3 (a b : Int) : Int := if a < b then -1 else if b < a then 1 else 0
theorem cmpL_drop {l m : List Int} {k : Nat} (hk : k < l.length) (hm : k < m.length) : cmpL (l.drop k) (m.drop k) = if nth l (k : Int) < nth m (k : Int) then -1 else if nth m (k : Int) < nth l (k : Int) then 1 else cmpL (l.drop (k + 1)) (m.drop (k + 1)) := by
  rw [List.drop_eq_getElem_cons hk, List.drop_eq_getElem_cons hm, nth_nat hk, nth_nat hm]; rfl
theorem cmpL_go {l m : List Int} {k : Nat} (hk : k < l.length) (hm : k < m.length) (h : cmpL l m = cmpL (l.drop k) (m.drop k)) (e : nth l (k : Int) = nth m (k : Int)) : cmpL l m = cmpL (l.drop (k + 1)) (m.drop (k + 1)) := by
  rw [h, cmpL_drop hk hm, if_neg (by omega), if_neg (by omega)]
theorem cmpL_ne {l m : List Int} {k : Nat} (hk : k < l.length) (hm : k < m.length) (h : cmpL l m = cmpL (l.drop k) (m.drop k)) (e : ¬ cmp3 (nth l (k : Int)) (nth m (k : Int)) = 0) : cmpL l m = cmp3 (nth l (k : Int)) (nth m (k : Int)) := by
  rw [h, cmpL_drop hk hm]
  unfold cmp3 at *
  split
  · rfl
  · split
    · rfl
    · rename_i h1 h2; rw [if_neg h1, if_neg h2] at e; exact absurd rfl e
theorem cmp3_eq {a b : Int} (h : cmp3 a b = 0) : a = b := by
  unfold cmp3 at h
  split at h
  · omega
  · split at h <;> omega
theorem cmpL_long {l m : List Int} {k : Nat} (hk : k < l.length) (hm : m.length ≤ k) (h : cmpL l m = cmpL (l.drop k) (m.drop k)) : cmpL l m = 1 := by
  rw [h, List.drop_eq_nil_of_le hm, List.drop_eq_getElem_cons hk]; rfl
theorem cmpL_short {l m : List Int} {k : Nat} (hk : l.length ≤ k) (hm : k < m.length) (h : cmpL l m = cmpL (l.drop k) (m.drop k)) : cmpL l m = -1 := by
  rw [h, List.drop_eq_nil_of_le hk, List.drop_eq_getElem_cons hm]; rfl
theorem cmpL_same {l m : List Int} {k : Nat} (hk : l.length ≤ k) (hm : m.length ≤ k) (h : cmpL l m = cmpL (l.drop k) (m.drop k)) : cmpL l m = 0 := by
  rw [h, List.drop_eq_nil_of_le hk, List.drop_eq_nil_of_le hm]; rfl
theorem cmpL_lt {l m : List Int} {k : Nat} (hk : k < l.length) (hm : k < m.length) (h : cmpL l m = cmpL (l.drop k) (m.drop k)) (e : ¬ nth l (k : Int) = nth m (k : Int)) : cmpL l m < 0 ↔ nth l (k : Int) < nth m (k : Int) := by
  rw [h, cmpL_drop hk hm]
  split
  · omega
  · rw [if_pos (by omega)]; omega
theorem trF_fuel {f g : Nat} {l : List Int} {d : Int} (h : l.length ≤ f) (h1 : l.length ≤ g) : trF f l d = trF g l d := by
  rw [Bool.eq_iff_iff, trF_iff f l d h, trF_iff g l d h1]
theorem trB_nil {d : Int} {l : List Int} (h : l.length = 0) : trB l d = true := by
  rw [List.eq_nil_of_length_eq_zero h]; rfl
theorem trB_rec {l : List Int} {d : Int} (h : 0 < l.length) : trB l d = (decide (l.count d = 1) && trB (l.take (at_ l d)) (d + 1) && trB (l.drop (at_ l d + 1)) (d + 1)) := by
  unfold trB
  conv => lhs; rw [show l.length = l.length - 1 + 1 by omega]; unfold trF
  rw [show l.isEmpty = false from by cases l with
    | nil => cases h
    | cons x l => rfl, Bool.false_or]
  by_cases hc : l.count d = 1
  · have hm : d ∈ l := List.count_pos_iff.1 (by omega)
    have hlt : at_ l d < l.length := List.findIdx_lt_length_of_exists ⟨d, hm, by simp⟩
    rw [trF_fuel (f := l.length - 1) (g := (l.take (at_ l d)).length) (by rw [List.length_take]; omega) (Nat.le_refl _), trF_fuel (f := l.length - 1) (g := (l.drop (at_ l d + 1)).length) (by rw [List.length_drop]; omega) (Nat.le_refl _)]
  · rw [decide_eq_false hc, Bool.false_and, Bool.false_and, Bool.false_and, Bool.false_and]
theorem count_at {l : List Int} {d : Int} (h : l.count d = 1) {a : Int} (a0 : 0 ≤ a) (a1 : a < (l.length : Int)) (e : nth l a = d) : at_ l d = a.toNat := by
  have hm : d ∈ l := List.count_pos_iff.1 (by omega)
  have hlt : at_ l d < l.length := List.findIdx_lt_length_of_exists ⟨d, hm, by simp⟩
  have hat : l[at_ l d] = d := by
    have h9 := List.findIdx_getElem (w := hlt) (p := fun x => decide (x = d))
    rw [decide_eq_true_eq] at h9
    exact h9
  have hle : at_ l d ≤ a.toNat := Nat.not_lt.1 fun h9 => by
    have := List.not_of_lt_findIdx (p := fun x => decide (x = d)) (xs := l) h9
    have h8 : nth l ((a.toNat : Nat) : Int) = d := by rw [Int.toNat_of_nonneg a0]; exact e
    rw [nth_nat (by omega)] at h8
    simp [h8] at this
  rcases Nat.lt_or_ge (at_ l d) a.toNat with h1 | h1
  · exfalso
    have h2 := List.take_append_drop (at_ l d + 1) l
    have h3 : (l.take (at_ l d + 1)).count d + (l.drop (at_ l d + 1)).count d = 1 := by rw [← List.count_append, h2]; exact h
    have h4 : 0 < (l.take (at_ l d + 1)).count d := List.count_pos_iff.2 (by rw [List.take_succ_eq_append_getElem hlt, hat]; simp)
    have h5 : 0 < (l.drop (at_ l d + 1)).count d := List.count_pos_iff.2 (by
      have h8 : nth l ((a.toNat : Nat) : Int) = d := by rw [Int.toNat_of_nonneg a0]; exact e
      rw [nth_nat (by omega)] at h8
      have h6 : l[a.toNat]'(by omega) ∈ l.drop (at_ l d + 1) := List.mem_drop_iff_getElem.2 ⟨a.toNat - (at_ l d + 1), by omega, by congr 1; omega⟩
      rw [h8] at h6
      exact h6)
    omega
  · omega
/-- How often a number stands among the first so many. -/
def cntTo (l : List Int) (d : Int) (k : Nat) : Nat := (l.take k).count d
theorem cntTo_t {l : List Int} {d : Int} {k : Nat} (h : k < l.length) (e : nth l (k : Int) = d) : cntTo l d (k + 1) = cntTo l d k + 1 := by
  unfold cntTo; rw [List.take_succ_eq_append_getElem h, List.count_append, ← nth_nat h, e]; simp
theorem cntTo_f {l : List Int} {d : Int} {k : Nat} (h : k < l.length) (e : ¬ nth l (k : Int) = d) : cntTo l d (k + 1) = cntTo l d k := by
  unfold cntTo; rw [List.take_succ_eq_append_getElem h, List.count_append, ← nth_nat h]
  have : [nth l (k : Int)].count d = 0 := List.count_eq_zero.2 (by simp; exact fun h => e h.symm)
  omega
theorem cntTo_le {l : List Int} {d : Int} {k : Nat} : cntTo l d k ≤ k := by
  unfold cntTo
  have := List.count_le_length (a := d) (l := l.take k)
  rw [List.length_take] at this; omega
theorem cntTo_all {l : List Int} {d : Int} {k : Nat} (h : k = l.length) : cntTo l d k = l.count d := by unfold cntTo; rw [h, List.take_length]
end Go.Fip.Q

set_option linter.unusedVariables false
set_option linter.unusedSimpArgs false
set_option linter.unusedSectionVars false
namespace Go.Fip.Q
open Go.Fip Go.Fip.S
theorem place_no {l : List Int} {x : Int} (h : place l x < 0) : l.count x = 0 := List.count_eq_zero.2 fun hm => by
  obtain ⟨i, hi, e⟩ := List.getElem_of_mem hm
  have : 0 ≤ place l x := place_iff.2 ⟨i, hi, by rw [nth_nat hi]; exact e⟩
  omega
theorem place_yes {l : List Int} {x : Int} (h : 0 ≤ place l x) : place l x < (l.length : Int) ∧ nth l (place l x) = x ∧ l.count x = 1 + (l.drop (place l x + 1).toNat).count x := by
  rcases idx_cases (fun y => decide (y = x)) l with ⟨h1, -⟩ | ⟨k, hk, h1, h2, h3⟩
  · unfold place at h; omega
  · have e : place l x = (k : Int) := h1
    rw [decide_eq_true_eq] at h2
    rw [e]
    refine ⟨by omega, h2, ?_⟩
    rw [show ((k : Int) + 1).toNat = k + 1 by omega]
    conv => lhs; rw [← List.take_append_drop (k + 1) l, List.count_append]
    congr 1
    rw [List.take_succ_eq_append_getElem hk, List.count_append, ← nth_nat hk, h2]
    have : (l.take k).count x = 0 := List.count_eq_zero.2 fun hm => by
      obtain ⟨i, hi, e9⟩ := List.getElem_of_mem hm
      rw [List.length_take] at hi
      rw [List.getElem_take] at e9
      have := h3 i (by omega)
      rw [nth_nat (by omega), e9] at this
      simp at this
    rw [this]; simp
theorem tr_no1 {l : List Int} (h : 0 < l.length) (h1 : place l 0 < 0) : trB l 0 = false := by
  rw [trB_rec h, place_no h1]; rfl
theorem tr_no2 {l : List Int} (h : 0 < l.length) (h1 : 0 ≤ place l 0) (h2 : 0 ≤ place (l.drop (place l 0 + 1).toNat) 0) : trB l 0 = false := by
  have a := (place_yes h1).2.2
  have b := (place_yes h2).2.2
  rw [trB_rec h, decide_eq_false (by omega)]; rfl
theorem tr_no3 {l : List Int} (h : 0 < l.length) (h1 : minTo l (l.length - 1) < 0) : trB l 0 = false := by
  obtain ⟨j, hj, hn⟩ := (minTo_lt _).1 h1
  rw [Bool.eq_false_iff]
  intro ht
  obtain ⟨t, e⟩ := trB_iff.1 ht
  have := T.dep_ge t 0 (nth l (j : Int)) (by rw [e, nth_nat (by omega)]; exact List.getElem_mem _)
  omega
theorem trB_map {l : List Int} {d : Int} : trB (l.map (· - 1)) d = trB l (d + 1) := by
  rw [Bool.eq_iff_iff, trB_iff, trB_iff]
  constructor
  · rintro ⟨t, e⟩
    refine ⟨t, ?_⟩
    rw [← T.dep_add 1, e, List.map_map]
    conv => rhs; rw [← List.map_id l]
    refine List.map_congr_left fun x _ => ?_
    show x - 1 + 1 = x
    omega
  · rintro ⟨t, e⟩
    refine ⟨t, ?_⟩
    rw [← e]
    have h9 := T.dep_add (-1) t (d + 1)
    rw [show d + 1 + -1 = d by omega] at h9
    rw [← h9]
    exact List.map_congr_left fun x _ => by show x + -1 = x - 1; omega
/-- The parts beside a place, as far as the walk has come. -/
def lf (l : List Int) (a k : Nat) : List Int := ((l.take k).take a).map (· - 1)
def rg (l : List Int) (a k : Nat) : List Int := ((l.take k).drop (a + 1)).map (· - 1)
theorem lf_zero {l : List Int} {a : Nat} : ([] : List Int) = lf l a 0 := by simp [lf]
theorem rg_zero {l : List Int} {a : Nat} : ([] : List Int) = rg l a 0 := by simp [rg]
theorem lf_on {l : List Int} {a k : Nat} (h : k < l.length) (h1 : k < a) : lf l a k ++ [nth l (k : Int) - 1] = lf l a (k + 1) := by
  unfold lf
  rw [List.take_of_length_le (by rw [List.length_take]; omega), List.take_of_length_le (i := a) (by rw [List.length_take]; omega), List.take_succ_eq_append_getElem h, List.map_append, nth_nat h]; rfl
theorem lf_off {l : List Int} {a k : Nat} (h1 : a ≤ k) : lf l a k = lf l a (k + 1) := by
  unfold lf
  rw [List.take_take, List.take_take, Nat.min_eq_left h1, Nat.min_eq_left (by omega)]
theorem rg_off {l : List Int} {a k : Nat} (h1 : k ≤ a) : rg l a k = rg l a (k + 1) := by
  unfold rg
  rw [List.drop_eq_nil_of_le (by rw [List.length_take]; omega), List.drop_eq_nil_of_le (by rw [List.length_take]; omega)]
theorem rg_on {l : List Int} {a k : Nat} (h : k < l.length) (h1 : a < k) : rg l a k ++ [nth l (k : Int) - 1] = rg l a (k + 1) := by
  unfold rg
  rw [List.take_succ_eq_append_getElem h, List.drop_append_of_le_length (by rw [List.length_take]; omega), List.map_append, nth_nat h]; rfl
theorem lf_len {l : List Int} {a k : Nat} (h : a < l.length) : (lf l a k).length ≤ a ∧ (rg l a k).length + a + 1 ≤ l.length := by
  unfold lf rg
  rw [List.length_map, List.length_map, List.length_take, List.length_drop, List.length_take]; omega
theorem tr_yes {l : List Int} (h : 0 < l.length) (h1 : 0 ≤ place l 0) (h2 : ¬ 0 ≤ place (l.drop (place l 0 + 1).toNat) 0) {k : Nat} (hk : k = l.length) : trB l 0 = (trB (lf l (place l 0).toNat k) 0 && trB (rg l (place l 0).toNat k) 0) := by
  obtain ⟨a, b, c⟩ := place_yes h1
  have d := place_no (l := l.drop (place l 0 + 1).toNat) (x := 0) (by omega)
  have hc : l.count 0 = 1 := by omega
  have hat := count_at hc h1 a b
  rw [trB_rec h, hc, hat]
  unfold lf rg
  rw [trB_map, trB_map, hk, List.take_length]
  rfl
theorem place_bd {l : List Int} {x : Int} : -1 ≤ place l x ∧ place l x < (l.length : Int) := idx_lt
theorem min_ge {l : List Int} (h : ¬ minTo l (l.length - 1) < 0) {k : Nat} (hk : k < l.length) : 0 ≤ nth l (k : Int) := by
  have := mt (minTo_lt (c := l) (i := 0) (l.length - 1)).2 h
  exact Int.not_lt.1 fun h9 => this ⟨k, by omega, h9⟩
theorem kt1 {w : List Int} (h : w.length < 1 ∨ 12 < w.length) : ckT w = 6 := if_pos h
theorem kt2 {w : List Int} (h : ¬ (w.length < 1 ∨ 12 < w.length)) (h2 : ¬ trB w 0 = true) : ckT w = 24 := by unfold ckT; rw [if_neg h, if_pos h2]
theorem kt3 {w : List Int} (h : ¬ (w.length < 1 ∨ 12 < w.length)) (h2 : trB w 0 = true) : ckT w = 0 := by unfold ckT; rw [if_neg h, if_neg (fun k => k h2)]
/-- Numbers that a word can hold. -/
def Up (l : List Int) : Prop := ∀ x ∈ l, x ≤ 9223372036854775807
instance {l : List Int} : Decidable (Up l) := by unfold Up; infer_instance
theorem Up.at {l : List Int} (h : Up l) {k : Nat} (hk : k < l.length) : nth l (k : Int) ≤ 9223372036854775807 := by
  rw [nth_nat hk]; exact h _ (List.getElem_mem hk)
theorem Up.lf {l : List Int} (h : Up l) {a k : Nat} : Up (Q.lf l a k) := fun x hx => by
  obtain ⟨y, hy, e⟩ := List.mem_map.1 hx
  have := h y (List.mem_of_mem_take (List.mem_of_mem_take hy))
  omega
theorem Up.rg {l : List Int} (h : Up l) {a k : Nat} : Up (Q.rg l a k) := fun x hx => by
  obtain ⟨y, hy, e⟩ := List.mem_map.1 hx
  have := h y (List.mem_of_mem_take (List.mem_of_mem_drop hy))
  omega
end Go.Fip.Q

set_option linter.unusedVariables false
set_option linter.unusedSimpArgs false
set_option linter.unusedSectionVars false
namespace Go.Fip.Q
open Go.Fip
namespace T
theorem dep_lt : ∀ (t : T) (d : Int), ∀ x ∈ dep d t, x < d + (size t : Int)
  | nil, _, x, h => by cases h
  | node l r, d, x, h => by
    simp only [dep, List.mem_append, List.mem_cons] at h
    simp only [size]
    rcases h with h | h | h
    · have := dep_lt l (d + 1) x h; omega
    · omega
    · have := dep_lt r (d + 1) x h; omega
end T
theorem ck_tree {l : List Int} (h : ckT l = 0) : (1 ≤ l.length ∧ l.length ≤ 12) ∧ ∃ t, T.dep 0 t = l := by
  by_cases h1 : l.length < 1 ∨ 12 < l.length
  · rw [kt1 h1] at h; omega
  · by_cases h2 : trB l 0 = true
    · exact ⟨by omega, trB_iff.1 h2⟩
    · rw [kt2 h1 h2] at h; omega
theorem ck_bd {l : List Int} (h : ckT l = 0) {k : Nat} (hk : k < l.length) : 0 ≤ nth l (k : Int) ∧ nth l (k : Int) ≤ 11 := by
  obtain ⟨h1, t, e⟩ := ck_tree h
  have hm : nth l (k : Int) ∈ T.dep 0 t := by rw [e, nth_nat hk]; exact List.getElem_mem _
  have a := T.dep_ge t 0 _ hm
  have b := T.dep_lt t 0 _ hm
  have c := T.dep_length t 0
  rw [e] at c
  omega
theorem ckW_w {w : List Int} (h : ckW w = 0) : (1 ≤ w.length ∧ w.length ≤ 12) ∧ ∀ x ∈ w, 0 ≤ x ∧ x ≤ 1000 := by
  by_cases h1 : w.length < 1 ∨ 12 < w.length
  · rw [kw1 h1] at h; omega
  · by_cases h2 : ∀ x ∈ w, 0 ≤ x ∧ x ≤ 1000
    · exact ⟨by omega, h2⟩
    · rw [kw2 h1 h2] at h; omega
/-- What the first so many cost. -/
def costTo (w t : List Int) : Nat → Int
  | 0 => 0
  | k + 1 => costTo w t k + nth w (k : Int) * (nth t (k : Int) + 1)
theorem mul_bd {a b : Int} (a0 : 0 ≤ a) (a1 : a ≤ 1000) (b0 : 0 ≤ b) (b1 : b ≤ 12) : 0 ≤ a * b ∧ a * b ≤ 12000 := by
  refine ⟨Int.mul_nonneg a0 b0, ?_⟩
  have h1 := Int.mul_le_mul_of_nonneg_right a1 b0
  omega
theorem costTo_bd {w t : List Int} (hw : ∀ x ∈ w, 0 ≤ x ∧ x ≤ 1000) (ht : ckT t = 0) (he : t.length = w.length) : ∀ k, k ≤ w.length → 0 ≤ costTo w t k ∧ costTo w t k ≤ 12000 * k
  | 0, _ => by unfold costTo; omega
  | k + 1, h => by
    have ih := costTo_bd hw ht he k (by omega)
    have a := of_all hw (i := k) (by omega)
    have b := ck_bd ht (k := k) (by omega)
    have c := mul_bd a.1 a.2 (b := nth t (k : Int) + 1) (by omega) (by omega)
    unfold costTo
    omega
def costR (w t : List Int) : Int × Int := if ckW w ≠ 0 then (0, ckW w) else if ckT t ≠ 0 then (0, ckT t) else if t.length ≠ w.length then (0, 15) else (costTo w t t.length, 0)
theorem co1 {w t : List Int} (h : ¬ ckW w = 0) : costR w t = (0, ckW w) := if_pos h
theorem co2 {w t : List Int} (h : ckW w = 0) (h1 : ¬ ckT t = 0) : costR w t = (0, ckT t) := by unfold costR; rw [if_neg (fun k => k h), if_pos h1]
theorem co3 {w t : List Int} (h : ckW w = 0) (h1 : ckT t = 0) (h2 : ¬ t.length = w.length) : costR w t = (0, 15) := by unfold costR; rw [if_neg (fun k => k h), if_neg (fun k => k h1), if_pos h2]
theorem co4 {w t : List Int} (h : ckW w = 0) (h1 : ckT t = 0) (h2 : t.length = w.length) : costR w t = (costTo w t t.length, 0) := by unfold costR; rw [if_neg (fun k => k h), if_neg (fun k => k h1), if_neg (fun k => k h2)]
/-- What a tree costs is what its depths cost. -/
theorem costTo_app {w a b : List Int} : ∀ k, k ≤ a.length → costTo w (a ++ b) k = costTo w a k
  | 0, _ => rfl
  | k + 1, h => by
    unfold costTo
    rw [costTo_app k (by omega), nth_nat (l := a ++ b) (by simp; omega), nth_nat (l := a) (by omega), List.getElem_append_left (by omega)]
theorem cnt_bd : ∀ k, k ≤ 12 → 1 ≤ cnt k ∧ cnt k ≤ 208012 := by decide +kernel
theorem cnt_step {k : Nat} : (cnt k : Int) * 2 * (2 * (k : Int) + 1) / ((k : Int) + 2) = (cnt (k + 1) : Int) := by
  show _ = ((cnt k * 2 * (2 * k + 1) / (k + 2) : Nat) : Int)
  push_cast
  rfl
def cnts (k : Nat) : List Int := (List.range k).map fun j => (cnt j : Int)
theorem cnts_length {k : Nat} : (cnts k).length = k := by simp [cnts]
theorem nth_cnts {k j : Nat} (h : j < k) : nth (cnts k) (j : Int) = (cnt j : Int) := by
  rw [nth_nat (by rw [cnts_length]; exact h)]
  simp [cnts]
theorem cnts_succ {k : Nat} : cnts k ++ [(cnt k : Int)] = cnts (k + 1) := by simp [cnts, List.range_succ]
def sumTo (k r : Nat) : Nat := ((List.range r).map fun j => cnt j * cnt (k - 1 - j)).sum
theorem sumTo_succ {k r : Nat} : sumTo k (r + 1) = sumTo k r + cnt r * cnt (k - 1 - r) := by simp [sumTo, List.range_succ]
theorem sumTo_all {k : Nat} (h : 1 ≤ k) (h1 : k ≤ 12) : sumTo k k = cnt k := by
  have := cnt_rec (k - 1) (by omega)
  rw [show k - 1 + 1 = k by omega] at this
  exact this
theorem sumTo_bd : ∀ k, k ≤ 12 → ∀ r, r ≤ k → sumTo k r ≤ 208012 := by decide +kernel
/-- The greatest depth among the first so many. -/
def maxTo (l : List Int) : Nat → Int
  | 0 => 0
  | k + 1 => max (maxTo l k) (nth l (k : Int))
theorem nth_part {l : List Int} {i k j : Nat} (h : i + j < k) (hk : k ≤ l.length) : nth ((l.take k).drop i) (j : Int) = nth l ((i + j : Nat) : Int) := by
  rw [nth_nat (by rw [List.length_drop, List.length_take]; omega), nth_nat (by omega), List.getElem_drop, List.getElem_take]
theorem part_length {l : List Int} {i k : Nat} (hk : k ≤ l.length) : ((l.take k).drop i).length = k - i := by rw [List.length_drop, List.length_take]; omega
theorem P_bd {w : List Int} (hw : ∀ x ∈ w, 0 ≤ x ∧ x ≤ 1000) {i : Nat} : ∀ j, i + j ≤ w.length → 0 ≤ P w (i + j) - P w i ∧ P w (i + j) - P w i ≤ 1000 * (j : Int)
  | 0, _ => by simp
  | j + 1, h => by
    have ih := P_bd hw (i := i) j (by omega)
    have a := of_all hw (i := i + j) (by omega)
    rw [show i + (j + 1) = i + j + 1 by omega, P_succ (by omega)]
    omega
end Go.Fip.Q

set_option linter.unusedVariables false
set_option linter.unusedSimpArgs false
set_option linter.unusedSectionVars false
namespace Go.Fip.Q
open Go.Fip
/-- The trials for a taper, in a tree that begins at a place. -/
def tri : T → Nat → Nat → List Int
  | .nil, _, _ => []
  | .node l r, o, x => ((o + l.size : Nat) : Int) :: (if o + l.size = x then [] else if o + l.size < x then tri r (o + l.size + 1) x else tri l o x)
theorem tri_node {l r : T} {o x : Nat} : tri (.node l r) o x = ((o + l.size : Nat) : Int) :: (if o + l.size = x then [] else if o + l.size < x then tri r (o + l.size + 1) x else tri l o x) := rfl
/-- How far the walk has come. -/
def TriI (t : T) (x : Nat) (L : List Int) (s : T) (i k D : Nat) (o : List Int) : Prop := (i ≤ x ∧ x < k ∧ k ≤ L.length) ∧ T.dep (D : Int) s = (L.take k).drop i ∧ o ++ tri s i x = tri t 0 x ∧ o.length = D ∧ D + s.size ≤ L.length
theorem TriI.start {t : T} {x : Nat} {L : List Int} (h : T.dep 0 t = L) (hx : x < L.length) : TriI t x L t 0 L.length 0 [] := by
  refine ⟨⟨by omega, hx, Nat.le_refl _⟩, ?_, rfl, rfl, ?_⟩
  · rw [List.take_length, List.drop_zero]; exact h
  · rw [← h, T.dep_length]; omega
section
variable {t : T} {x : Nat} {L : List Int} {s : T} {i k D : Nat} {o : List Int} (h : TriI t x L s i k D o)
include h
/-- The root of what is left. -/
theorem TriI.root : ∃ l r, s = .node l r ∧ i + l.size < k ∧ nth L ((i + l.size : Nat) : Int) = (D : Int) ∧ ∀ j : Nat, i ≤ j → j < i + l.size → nth L (j : Int) ≠ (D : Int) := by
  obtain ⟨⟨h1, h2, h3⟩, h4, h5, h6, h7⟩ := h
  have hlen := congrArg List.length h4
  rw [T.dep_length, List.length_drop, List.length_take, Nat.min_eq_left h3] at hlen
  cases s with
  | nil => simp only [T.size] at hlen; omega
  | node l r =>
    simp only [T.size] at hlen
    have hget : ∀ j : Nat, i ≤ j → (hj : j < k) → nth L (j : Int) = nth (T.dep (D : Int) (.node l r)) ((j - i : Nat) : Int) := fun j hi hj => by
      rw [h4, nth_nat (by omega), nth_nat (by rw [List.length_drop, List.length_take]; omega), List.getElem_drop, List.getElem_take]
      congr 1; omega
    refine ⟨l, r, rfl, by omega, ?_, fun j hi hj => ?_⟩
    · rw [hget _ (by omega) (by omega), nth_nat (by rw [T.dep_length]; simp only [T.size]; omega)]
      have e : i + l.size - i = (T.dep ((D : Int) + 1) l).length := by rw [T.dep_length]; omega
      simp only [T.dep, e, List.getElem_append_right (Nat.le_refl _), Nat.sub_self, List.getElem_cons_zero]
    · rw [hget _ hi (by omega), nth_nat (by rw [T.dep_length]; simp only [T.size]; omega)]
      have hlt : j - i < (T.dep ((D : Int) + 1) l).length := by rw [T.dep_length]; omega
      have e : (T.dep (D : Int) (.node l r))[j - i]'(by rw [T.dep_length]; simp only [T.size]; omega) = (T.dep ((D : Int) + 1) l)[j - i] := List.getElem_append_left hlt
      rw [e]
      have := T.dep_ge l ((D : Int) + 1) _ (List.getElem_mem hlt)
      omega
end
section
variable {t : T} {x : Nat} {L : List Int} {l r : T} {i k D : Nat} {o : List Int} (h : TriI t x L (.node l r) i k D o)
include h
theorem TriI.hit (e : i + l.size = x) : o ++ [((i + l.size : Nat) : Int)] = tri t 0 x := by
  have := h.2.2.1
  rw [tri_node] at this
  rw [if_pos e] at this
  exact this
theorem TriI.right (e : i + l.size < x) : TriI t x L r (i + l.size + 1) k (D + 1) (o ++ [((i + l.size : Nat) : Int)]) := by
  obtain ⟨⟨h1, h2, h3⟩, h4, h5, h6, h7⟩ := h
  simp only [T.size] at h7
  refine ⟨⟨by omega, h2, h3⟩, ?_, ?_, by simp [h6], by omega⟩
  · have := congrArg (List.drop (l.size + 1)) h4
    rw [List.drop_drop, show i + (l.size + 1) = i + l.size + 1 by omega] at this
    rw [← this]
    show T.dep ((D : Int) + 1) r = (T.dep ((D : Int) + 1) l ++ (D : Int) :: T.dep ((D : Int) + 1) r).drop (l.size + 1)
    rw [List.drop_append, T.dep_length, List.drop_eq_nil_of_le (by rw [T.dep_length]; omega), show l.size + 1 - l.size = 1 by omega]
    rfl
  · rw [tri_node] at h5
    rw [if_neg (by omega), if_pos e] at h5
    rw [← h5, List.append_assoc]; rfl
theorem TriI.left (e : x < i + l.size) : TriI t x L l i (i + l.size) (D + 1) (o ++ [((i + l.size : Nat) : Int)]) := by
  obtain ⟨⟨h1, h2, h3⟩, h4, h5, h6, h7⟩ := h
  have hlen := congrArg List.length h4
  rw [T.dep_length, List.length_drop, List.length_take, Nat.min_eq_left h3] at hlen
  simp only [T.size] at h7 hlen
  refine ⟨⟨h1, e, by omega⟩, ?_, ?_, by simp [h6], by omega⟩
  · have := congrArg (List.take l.size) h4
    rw [List.take_drop, List.take_take, Nat.min_eq_left (by omega)] at this
    rw [show T.dep ((D + 1 : Nat) : Int) l = T.dep ((D : Int) + 1) l from rfl]
    rw [← this]
    show T.dep ((D : Int) + 1) l = (T.dep ((D : Int) + 1) l ++ (D : Int) :: T.dep ((D : Int) + 1) r).take l.size
    rw [List.take_append_of_le_length (by rw [T.dep_length]; exact Nat.le_refl _), List.take_of_length_le (by rw [T.dep_length]; exact Nat.le_refl _)]
  · rw [tri_node] at h5
    rw [if_neg (by omega), if_neg (by omega)] at h5
    rw [← h5, List.append_assoc]; rfl
end
/-- The depths, and 0 behind them. -/
def padT (l : List Int) : List Int := l ++ (List.replicate 12 (0 : Int)).drop l.length
theorem padT_length {l : List Int} (h : l.length ≤ 12) : (padT l).length = 12 := by simp [padT]; omega
theorem nth_padT {l : List Int} {j : Nat} (h : j < l.length) : nth (padT l) (j : Int) = nth l (j : Int) := by
  rw [nth_nat (by unfold padT; rw [List.length_append]; omega), nth_nat h]
  exact List.getElem_append_left h
theorem dep_some : ∀ (s : T) (d : Int), s ≠ .nil → d ∈ T.dep d s
  | .nil, _, h => absurd rfl h
  | .node l r, d, _ => by simp [T.dep]
theorem pad_ne {t : T} {l : List Int} (h : T.dep 0 t = l) (h1 : 1 < l.length) : padT l ≠ List.replicate 12 0 := fun e => by
  have hz : ∀ x ∈ l, x = 0 := fun x hx => by
    have : x ∈ padT l := List.mem_append_left _ hx
    rw [e] at this
    exact (List.mem_replicate.1 this).2
  have hlen := T.dep_length t 0
  rw [h] at hlen
  cases t with
  | nil => simp only [T.size] at hlen; omega
  | node a b =>
    simp only [T.size] at hlen
    have hm : (1 : Int) ∈ l := by
      rw [← h]
      show (1 : Int) ∈ T.dep (0 + 1) a ++ 0 :: T.dep (0 + 1) b
      cases a with
      | nil => 
        refine List.mem_append_right _ (List.mem_cons_of_mem _ (dep_some b _ ?_))
        intro hb; rw [hb] at hlen; simp only [T.size] at hlen; omega
      | node c d => exact List.mem_append_left _ (dep_some _ _ (by simp))
    exact absurd (hz 1 hm) (by decide)
end Go.Fip.Q

set_option linter.unusedVariables false
set_option linter.unusedSimpArgs false
set_option linter.unusedSectionVars false
namespace Go.Fip.Q
open Go.Fip
def toT : Nat → List Int → Int → T
  | 0, _, _ => .nil
  | f + 1, l, d => if l.isEmpty then .nil else .node (toT f (l.take (at_ l d)) (d + 1)) (toT f (l.drop (at_ l d + 1)) (d + 1))
theorem toT_dep : ∀ (t : T) (f : Nat) (d : Int), t.size ≤ f → toT f (T.dep d t) d = t
  | .nil, 0, _, _ => rfl
  | .nil, f + 1, _, _ => rfl
  | .node l r, 0, _, h => by simp [T.size] at h
  | .node l r, f + 1, d, h => by
    simp only [T.size] at h
    have hg : ∀ x ∈ T.dep (d + 1) l, d < x := fun x hx => by have := T.dep_ge l (d + 1) x hx; omega
    have hat : at_ (T.dep d (.node l r)) d = (T.dep (d + 1) l).length := at_mid hg
    have e : T.dep d (.node l r) = T.dep (d + 1) l ++ d :: T.dep (d + 1) r := rfl
    unfold toT
    rw [hat, e, List.take_left, List.drop_append, List.drop_eq_nil_of_le (by omega), Nat.add_sub_cancel_left, List.nil_append, List.drop_succ_cons, List.drop_zero]
    rw [show (T.dep (d + 1) l ++ d :: T.dep (d + 1) r).isEmpty = false by simp]
    rw [toT_dep l f _ (by omega), toT_dep r f _ (by omega)]
    rfl
/-- The tree of a list. -/
def tr (l : List Int) : T := toT l.length l 0
theorem tr_dep {l : List Int} (h : ckT l = 0) : T.dep 0 (tr l) = l := by
  obtain ⟨-, t, e⟩ := ck_tree h
  have hl := T.dep_length t 0
  rw [e] at hl
  unfold tr
  rw [← e, T.dep_length, toT_dep t _ 0 (Nat.le_refl _)]
def trialsR (l : List Int) (a : Int) : List Int × Int := if ckT l ≠ 0 then ([], ckT l) else if a < 0 ∨ (l.length : Int) ≤ a then ([], 2) else (tri (tr l) 0 a.toNat, 0)
theorem rr1 {l : List Int} {a : Int} (h : ¬ ckT l = 0) : trialsR l a = ([], ckT l) := if_pos h
theorem rr2 {l : List Int} {a : Int} (h : ckT l = 0) (h2 : a < 0 ∨ (l.length : Int) ≤ a) : trialsR l a = ([], 2) := by unfold trialsR; rw [if_neg (fun k => k h), if_pos h2]
theorem rr3 {l : List Int} {a : Int} (h : ckT l = 0) (h2 : ¬ (a < 0 ∨ (l.length : Int) ≤ a)) : trialsR l a = (tri (tr l) 0 a.toNat, 0) := by unfold trialsR; rw [if_neg (fun k => k h), if_neg h2]
end Go.Fip.Q

set_option linter.unusedVariables false
set_option linter.unusedSimpArgs false
set_option linter.unusedSectionVars false
namespace Go.Fip.Q
open Go.Fip
def oddTo (b : List Int) : Nat → List Int
  | 0 => []
  | k + 1 => if k % 2 = 1 then oddTo b k ++ [nth b (k : Int)] else oddTo b k
def evenTo (b : List Int) : Nat → List Int
  | 0 => []
  | k + 1 => if k % 2 = 0 ∧ k ≠ 0 then evenTo b k ++ [nth b (k : Int)] else evenTo b k
theorem odd_t {b : List Int} {k : Nat} (h : k % 2 = 1) : oddTo b k ++ [nth b (k : Int)] = oddTo b (k + 1) := by rw [oddTo, if_pos h]
theorem odd_f {b : List Int} {k : Nat} (h : ¬ k % 2 = 1) : oddTo b k = oddTo b (k + 1) := by rw [oddTo, if_neg h]
theorem even_t {b : List Int} {k : Nat} (h : k % 2 = 0) (h1 : 1 ≤ k) : evenTo b k ++ [nth b (k : Int)] = evenTo b (k + 1) := by rw [evenTo, if_pos ⟨h, by omega⟩]
theorem even_f {b : List Int} {k : Nat} (h : ¬ k % 2 = 0) : evenTo b k = evenTo b (k + 1) := by rw [evenTo, if_neg (fun h9 => h h9.1)]
def By (b : List Int) : Prop := ∀ x ∈ b, 0 ≤ x ∧ x ≤ 255
theorem By.at {b : List Int} (h : By b) {k : Nat} (hk : k < b.length) : 0 ≤ nth b (k : Int) ∧ nth b (k : Int) ≤ 255 := by rw [nth_nat hk]; exact h _ (List.getElem_mem hk)
theorem By.odd {b : List Int} (h : By b) : ∀ k, k ≤ b.length → By (oddTo b k) ∧ (oddTo b k).length ≤ k
  | 0, _ => ⟨fun x hx => by simp [oddTo] at hx, by simp [oddTo]⟩
  | k + 1, hk => by
    have ih := By.odd h k (by omega)
    unfold oddTo
    split
    · refine ⟨fun x hx => ?_, by rw [List.length_append]; simp; omega⟩
      rcases List.mem_append.1 hx with h9 | h9
      · exact ih.1 x h9
      · rw [List.mem_singleton] at h9; rw [h9]; exact h.at (by omega)
    · exact ⟨ih.1, by omega⟩
theorem By.even {b : List Int} (h : By b) : ∀ k, k ≤ b.length → By (evenTo b k) ∧ (evenTo b k).length ≤ k
  | 0, _ => ⟨fun x hx => by simp [evenTo] at hx, by simp [evenTo]⟩
  | k + 1, hk => by
    have ih := By.even h k (by omega)
    unfold evenTo
    split
    · refine ⟨fun x hx => ?_, by rw [List.length_append]; simp; omega⟩
      rcases List.mem_append.1 hx with h9 | h9
      · exact ih.1 x h9
      · rw [List.mem_singleton] at h9; rw [h9]; exact h.at (by omega)
    · exact ⟨ih.1, by omega⟩
/-- Which taper is the root. -/
def pick (n : Nat) (b : List Int) : Nat := if 0 < b.length then (nth b 0 % (n : Int)).toNat else 0
theorem pick_lt {n : Nat} {b : List Int} (h : 0 < n) : pick n b < n := by
  unfold pick
  split
  · have a := Int.emod_nonneg (nth b 0) (show (n : Int) ≠ 0 by omega)
    have c := Int.emod_lt_of_pos (nth b 0) (show 0 < (n : Int) by omega)
    omega
  · exact h
def grF : Nat → Nat → List Int → T
  | 0, _, _ => .nil
  | f + 1, n, b => if n = 0 then .nil else .node (grF f (pick n b) (oddTo b (max 1 b.length))) (grF f (n - 1 - pick n b) (evenTo b (max 1 b.length)))
theorem grF_fuel : ∀ (f g n : Nat) (b : List Int), n ≤ f → n ≤ g → grF f n b = grF g n b
  | 0, 0, _, _, _, _ => rfl
  | 0, g + 1, n, b, h, _ => by unfold grF; rw [if_pos (by omega)]
  | f + 1, 0, n, b, _, h => by unfold grF; rw [if_pos (by omega)]
  | f + 1, g + 1, n, b, hf, hg => by
    unfold grF
    by_cases h : n = 0
    · rw [if_pos h, if_pos h]
    · have := pick_lt (n := n) (b := b) (by omega)
      rw [if_neg h, if_neg h, grF_fuel f g (pick n b) _ (by omega) (by omega), grF_fuel f g (n - 1 - pick n b) _ (by omega) (by omega)]
/-- The tree of so many tapers, by numbers. -/
def gr (n : Nat) (b : List Int) : T := grF n n b
theorem gr_zero {b : List Int} : gr 0 b = .nil := rfl
theorem gr_rec {n : Nat} {b : List Int} (h : 0 < n) : gr n b = .node (gr (pick n b) (oddTo b (max 1 b.length))) (gr (n - 1 - pick n b) (evenTo b (max 1 b.length))) := by
  have := pick_lt (n := n) (b := b) h
  unfold gr
  conv => lhs; rw [show n = n - 1 + 1 by omega]; unfold grF
  rw [show n - 1 + 1 = n by omega, if_neg (by omega), grF_fuel (n - 1) (pick n b) _ _ (by omega) (Nat.le_refl _), grF_fuel (n - 1) (n - 1 - pick n b) _ _ (by omega) (Nat.le_refl _)]
theorem gr_size : ∀ (m n : Nat) (b : List Int), n ≤ m → (gr n b).size = n := by
  intro m
  induction m with
  | zero => intro n b h; rw [show n = 0 by omega]; rfl
  | succ m ih =>
    intro n b h
    rcases Nat.eq_zero_or_pos n with h1 | h1
    · rw [h1]; rfl
    · have := pick_lt (n := n) (b := b) h1
      rw [gr_rec h1]
      simp only [T.size]
      rw [ih _ _ (by omega), ih _ _ (by omega)]
      omega
theorem dep_sm {t : T} (h : t.size ≤ 12) : Sm (T.dep 0 t) := fun x hx => by
  have a := T.dep_ge t 0 x hx
  have b := T.dep_lt t 0 x hx
  omega
end Go.Fip.Q

set_option linter.unusedVariables false
set_option linter.unusedSimpArgs false
set_option linter.unusedSectionVars false
namespace Go.Fip.Q
open Go.Fip
theorem C_bd {w : List Int} (hw : ∀ x ∈ w, 0 ≤ x ∧ x ≤ 1000) (hn : w.length ≤ 12) : ∀ (n i k : Nat), k - i ≤ n → i ≤ k → k ≤ w.length → 0 ≤ C w i k ∧ C w i k ≤ 12000 * ((k - i : Nat) : Int)
  | 0, i, k, h, h1, _ => by rw [C_nil (by omega)]; omega
  | n + 1, i, k, h, h1, h2 => by
    by_cases he : i = k
    · rw [C_nil (by omega)]; omega
    · have hP := P_bd hw (i := i) (k - i) (by omega)
      rw [show i + (k - i) = k by omega] at hP
      have c1 := C_le (w := w) (i := i) (k := k) (r := i) (Nat.le_refl _) (by omega)
      have c2 := C_bd hw hn n (i + 1) k (by omega) (by omega) h2
      have c3 := C_nil (w := w) (i := i) (k := i) (Nat.le_refl _)
      obtain ⟨r, hr, hr2, e⟩ := C_ex (w := w) (i := i) (k := k) (by omega)
      have d1 := C_bd hw hn n i r (by omega) hr (by omega)
      have d2 := C_bd hw hn n (r + 1) k (by omega) (by omega) h2
      unfold K at c1 e
      constructor <;> omega
theorem C_small {w : List Int} (hw : ∀ x ∈ w, 0 ≤ x ∧ x ≤ 1000) (hn : w.length ≤ 12) {i k : Nat} (hk : k ≤ w.length) : 0 ≤ C w i k ∧ C w i k ≤ 144000 := by
  by_cases h : i ≤ k
  · have := C_bd hw hn _ i k (Nat.le_refl _) h hk; omega
  · rw [C_nil (by omega)]; omega
def candTo (w : List Int) (i k j : Nat) : List Int := (List.range j).map fun j => (P w k - P w i) + (C w i (i + j) + C w (i + j + 1) k)
theorem candTo_zero {w : List Int} {i k : Nat} : ([] : List Int) = candTo w i k 0 := rfl
theorem candTo_succ {w : List Int} {i k j : Nat} : candTo w i k j ++ [P w k - P w i + (C w i (i + j) + C w (i + j + 1) k)] = candTo w i k (j + 1) := by simp [candTo, List.range_succ]
theorem candTo_len {w : List Int} {i k j : Nat} : (candTo w i k j).length = j := by simp [candTo]
theorem candTo_all {w : List Int} {i k j : Nat} (h : i < k) (hj : j = k - i) : minL (candTo w i k j) = C w i k := by subst hj; exact (C_rec h).symm
abbrev Mm := List ((Int × Int) × Int)
/-- The map holds the costs of all spans narrower than wide, and of those that are so wide of those before frm. -/
structure Part (l : List Int) (wide frm : Nat) (m : Mm) : Prop where
  has : ∀ i k : Nat, i ≤ k → k ≤ l.length → (k - i < wide ∨ k - i = wide ∧ i < frm) → find ((i : Int), (k : Int)) m = some (C l i k)
  only : ∀ p v, find p m = some v → ∃ i k : Nat, p = ((i : Int), (k : Int)) ∧ i ≤ k ∧ k ≤ l.length ∧ v = C l i k
theorem Part.start {l : List Int} : Part l 0 0 [] := ⟨fun i k h h1 h2 => by omega, fun p v h => by rw [find_nil] at h; cases h⟩
theorem Part.turn {l : List Int} {wide f : Nat} {m : Mm} (h : Part l wide f m) (hf : l.length - wide + 1 ≤ f) : Part l (wide + 1) 0 m :=
  ⟨fun i k h1 h2 h3 => h.has i k h1 h2 (by omega), h.only⟩
theorem Part.add {l : List Int} {wide i : Nat} {m : Mm} (h : Part l wide i m) (hi : i + wide ≤ l.length) {a b v : Int} (ha : a = (i : Int)) (hb : b = ((i + wide : Nat) : Int)) (hv : v = C l i (i + wide)) : Part l wide (i + 1) (upd (a, b) v m) := by
  subst ha; subst hb; subst hv
  refine ⟨fun a b h1 h2 h3 => ?_, fun p v hp => ?_⟩
  · rw [find_upd]
    split
    · rename_i e
      simp only [Prod.mk.injEq] at e
      have e1 : a = i := by omega
      have e2 : b = i + wide := by omega
      rw [e1, e2]
    · rename_i e
      refine h.has a b h1 h2 ?_
      rcases h3 with h3 | h3
      · exact .inl h3
      · refine .inr ⟨h3.1, ?_⟩
        by_cases e1 : a = i
        · exfalso; apply e; subst e1; rw [show b = a + wide by omega]
        · omega
  · rw [find_upd] at hp
    split at hp
    · rename_i e
      cases hp
      exact ⟨i, i + wide, e, by omega, hi, rfl⟩
    · exact h.only p v hp
theorem Part.get {l : List Int} {wide f : Nat} {m : Mm} (h : Part l wide f m) {i k : Nat} (h1 : i ≤ k) (h2 : k ≤ l.length) (h3 : k - i < wide) : (find ((i : Int), (k : Int)) m).getD 0 = C l i k := by
  rw [h.has i k h1 h2 (.inl h3)]; rfl
theorem Part.bd {l : List Int} {wide f : Nat} {m : Mm} (h : Part l wide f m) (hw : ∀ x ∈ l, 0 ≤ x ∧ x ≤ 1000) (hn : l.length ≤ 12) (p : Int × Int) : 0 ≤ (find p m).getD 0 ∧ (find p m).getD 0 ≤ 144000 := by
  cases hf : find p m with
  | none => simp
  | some v =>
    obtain ⟨i, k, -, h1, h2, e⟩ := h.only p v hf
    rw [e]; exact C_small hw hn h2
/-- The map holds the costs of all spans that are not empty, and nothing else. -/
structure Full (l : List Int) (m : Mm) : Prop where
  has : ∀ i k : Nat, i < k → k ≤ l.length → find ((i : Int), (k : Int)) m = some (C l i k)
  only : ∀ p v, find p m = some v → ∃ i k : Nat, p = ((i : Int), (k : Int)) ∧ i < k ∧ k ≤ l.length ∧ v = C l i k
theorem Full.get {l : List Int} {m : Mm} (h : Full l m) {i k : Nat} (h1 : i ≤ k) (h2 : k ≤ l.length) : (find ((i : Int), (k : Int)) m).getD 0 = C l i k := by
  by_cases e : i = k
  · cases hf : find ((i : Int), (k : Int)) m with
    | none => rw [C_nil (by omega)]; rfl
    | some v =>
      obtain ⟨a, b, e1, h3, _, _⟩ := h.only _ _ hf
      simp only [Prod.mk.injEq] at e1
      omega
  · rw [h.has i k (by omega) h2]; rfl
theorem Full.bd {l : List Int} {m : Mm} (h : Full l m) (hw : ∀ x ∈ l, 0 ≤ x ∧ x ≤ 1000) (hn : l.length ≤ 12) (p : Int × Int) : 0 ≤ (find p m).getD 0 ∧ (find p m).getD 0 ≤ 144000 := by
  cases hf : find p m with
  | none => simp
  | some v =>
    obtain ⟨i, k, -, h1, h2, e⟩ := h.only p v hf
    rw [e]; exact C_small hw hn h2
abbrev kvS (n : Int × Int) : Value := .agg #[.int .i64 n.1, .int .i64 n.2]
abbrev vvI (n : Int) : Value := .int .i64 n
theorem kvS_inj {p q : Int × Int} (h : kvS p = kvS q) : p = q := by
  simp only [kvS, Value.agg.injEq, Array.mk.injEq, List.cons.injEq, Value.int.injEq, true_and, and_true] at h
  exact Prod.ext h.1 h.2
/-- While the empty spans are taken out. -/
structure Outs (l : List Int) (es : Array MapEntry) (clock : Nat) (m : Mm) (seen : Array Nat) : Prop where
  ents : Ents kvS vvI es clock m
  has : ∀ i k : Nat, i < k → k ≤ l.length → find ((i : Int), (k : Int)) m = some (C l i k)
  only : ∀ p v, find p m = some v → ∃ i k : Nat, p = ((i : Int), (k : Int)) ∧ i ≤ k ∧ k ≤ l.length ∧ v = C l i k
  out : ∀ e ∈ es.toList, e.born ∈ seen.toList → ∀ p : Int × Int, e.key = kvS p → p.1 ≠ p.2
theorem Outs.start {l : List Int} {es : Array MapEntry} {clock : Nat} {m : Mm} (he : Ents kvS vvI es clock m) (h : Part l (l.length + 1) 0 m) : Outs l es clock m #[] :=
  ⟨he, fun i k h1 h2 => h.has i k (by omega) h2 (by omega), h.only, fun e _ h => by simp at h⟩
theorem Outs.entry {l : List Int} {es : Array MapEntry} {clock : Nat} {m : Mm} {seen : Array Nat} (h : Outs l es clock m seen) {e : MapEntry} (he : e ∈ es.toList) : ∃ i k : Nat, e.key = kvS ((i : Int), (k : Int)) ∧ (∃ x, e.val = vvI x) ∧ i ≤ k ∧ k ≤ l.length := by
  obtain ⟨p, v, h1, h2, h3⟩ := h.ents.entry he
  obtain ⟨i, k, rfl, h4, h5, _⟩ := h.only p v h3
  exact ⟨i, k, h1, ⟨v, h2⟩, h4, h5⟩
theorem Outs.keep {l : List Int} {es : Array MapEntry} {clock : Nat} {m : Mm} {seen : Array Nat} (h : Outs l es clock m seen) {e : MapEntry} (he : e ∈ es.toList) {a b : Int} (hk : e.key = kvS (a, b)) (hne : a ≠ b) : Outs l es clock m (seen.push e.born) :=
  ⟨h.ents, h.has, h.only, fun e' he' hs p hp => by
    rcases (by simpa using hs : e'.born ∈ seen.toList ∨ e'.born = e.born) with h1 | h1
    · exact h.out e' he' h1 p hp
    · have := h.ents.inj he' he h1
      subst this
      rw [hp] at hk
      rw [kvS_inj hk]; exact hne⟩
theorem Outs.del {l : List Int} {es es' : Array MapEntry} {clock : Nat} {m : Mm} {seen : Array Nat} (h : Outs l es clock m seen) {e : MapEntry} (he : e ∈ es.toList) {a b : Int} (hk : e.key = kvS (a, b)) (hab : a = b)
    (he' : Ents kvS vvI es' clock (del (a, b) m)) (hs : es'.toList.Sublist es.toList) : Outs l es' clock (del (a, b) m) (seen.push e.born) := by
  refine ⟨he', fun i k h1 h2 => ?_, fun p v hp => ?_, fun x hx hxs p hp => ?_⟩
  · rw [find_del_ne (fun e => by simp only [Prod.mk.injEq] at e; omega)]; exact h.has i k h1 h2
  · refine h.only p v ?_
    by_cases e : p = (a, b)
    · rw [e, find_del h.ents.nd] at hp; cases hp
    · rwa [find_del_ne e] at hp
  · rcases (by simpa using hxs : x.born ∈ seen.toList ∨ x.born = e.born) with h1 | h1
    · exact h.out x (hs.subset hx) h1 p hp
    · have := h.ents.inj (hs.subset hx) he h1
      subst this
      obtain ⟨q, v, h3, _, h4⟩ := he'.entry hx
      rw [hk] at h3
      have := kvS_inj h3
      rw [← this, find_del h.ents.nd] at h4
      cases h4
theorem Outs.full {l : List Int} {es : Array MapEntry} {clock : Nat} {m : Mm} {seen : Array Nat} (h : Outs l es clock m seen) (hall : ∀ e ∈ es.toList, e.born ∈ seen.toList) : Full l m :=
  ⟨h.has, fun p v hp => by
    obtain ⟨i, k, e, h1, h2, h3⟩ := h.only p v hp
    obtain ⟨en, hen, hk, _⟩ := h.ents.of_find hp
    have := h.out en hen (hall en hen) p hk
    rw [e] at this
    exact ⟨i, k, e, by have : ¬ (i : Int) = (k : Int) := this; omega, h2, h3⟩⟩
theorem unseen_sub {es es' : Array MapEntry} {seen : Array Nat} (hs : es'.toList.Sublist es.toList) : unseen es' seen ≤ unseen es seen := (hs.filter _).length_le
end Go.Fip.Q

set_option linter.unusedVariables false
set_option linter.unusedSimpArgs false
set_option linter.unusedSectionVars false
namespace Go.Fip.Q
open Go.Fip
def rtTo (w : List Int) (i k j : Nat) : List Nat := (List.range j).filter fun j => decide (K w i k (i + j) = C w i k)
variable {w : List Int} {i k j : Nat}
theorem rtTo_t (h : K w i k (i + j) = C w i k) : rtTo w i k (j + 1) = rtTo w i k j ++ [j] := by simp [rtTo, List.range_succ, h]
theorem rtTo_f (h : ¬ K w i k (i + j) = C w i k) : rtTo w i k (j + 1) = rtTo w i k j := by simp [rtTo, List.range_succ, h]
theorem rtTo_all (h : j = k - i) : rtTo w i k j = roots w i k := by subst h; rfl
theorem rtTo_part (h : K w i k (i + j) = C w i k) : ∀ n, j < n → ∃ r, rtTo w i k n = rtTo w i k j ++ j :: r
  | 0, hn => by omega
  | n + 1, hn => by
    by_cases e : j = n
    · subst e; exact ⟨[], rtTo_t h⟩
    · obtain ⟨r, hr⟩ := rtTo_part h n (by omega)
      by_cases hk : K w i k (i + n) = C w i k
      · exact ⟨r ++ [n], by rw [rtTo_t hk, hr]; simp⟩
      · exact ⟨r, by rw [rtTo_f hk, hr]⟩
def rootsI (w : List Int) (i k : Nat) : List Int := (roots w i k).map fun j => ((i + j : Nat) : Int)
theorem rootsI_at (hj : j < k - i) (h : K w i k (i + j) = C w i k) : ((rootsI w i k).map (Value.int .i64))[(rtTo w i k j).length]? = some (.int .i64 ((i + j : Nat) : Int)) := by
  obtain ⟨r, hr⟩ := rtTo_part h (k - i) hj
  rw [rtTo_all rfl] at hr
  unfold rootsI
  rw [hr]
  simp
theorem roots_length : (roots w i k).length ≤ k - i := by
  unfold roots
  have := List.length_filter_le (fun j => decide (K w i k (i + j) = C w i k)) (List.range (k - i))
  simpa using this
theorem rootsI_length : (rootsI w i k).length = (roots w i k).length := by simp [rootsI]
theorem rootsI_nth {q : Nat} (h : q < (roots w i k).length) : ∃ j, j ∈ roots w i k ∧ (roots w i k)[q]? = some j ∧ nth (rootsI w i k) (q : Int) = ((i + j : Nat) : Int) ∧ i + j < k := by
  have h2 : q < (rootsI w i k).length := by rw [rootsI_length]; exact h
  refine ⟨(roots w i k)[q], List.getElem_mem h, List.getElem?_eq_getElem h, ?_, ?_⟩
  · rw [nth_nat h2]; simp [rootsI]
  · have := (mem_roots.1 (List.getElem_mem h)).1; omega
def leastR (w : List Int) : Int × Int := if ckW w ≠ 0 then (0, ckW w) else (C w 0 w.length, 0)
theorem le1 (h : ¬ ckW w = 0) : leastR w = (0, ckW w) := if_pos h
theorem le2 (h : ckW w = 0) : leastR w = (C w 0 w.length, 0) := if_neg fun k => k h
def bestR (w : List Int) : List Int × Int := if ckW w ≠ 0 then ([], ckW w) else (F w 0 w.length, 0)
theorem be1 (h : ¬ ckW w = 0) : bestR w = ([], ckW w) := if_pos h
theorem be2 (h : ckW w = 0) : bestR w = (F w 0 w.length, 0) := if_neg fun k => k h
def manyR (w : List Int) : Int × Int := if ckW w ≠ 0 then (0, ckW w) else ((M w 0 w.length : Int), 0)
theorem ma1 (h : ¬ ckW w = 0) : manyR w = (0, ckW w) := if_pos h
theorem ma2 (h : ckW w = 0) : manyR w = ((M w 0 w.length : Int), 0) := if_neg fun k => k h
def rootsR (w : List Int) (a b : Int) : List Int × Int := if ckW w ≠ 0 then ([], ckW w) else if ¬ ((0 ≤ a ∧ a ≤ (w.length : Int) - 1) ∧ 0 ≤ b ∧ b ≤ (w.length : Int) - 1) ∨ b < a then ([], 2) else (rootsI w a.toNat (b.toNat + 1), 0)
variable {a b : Int}
theorem ro1 (h : ¬ ckW w = 0) : rootsR w a b = ([], ckW w) := if_pos h
theorem ro2 (h : ckW w = 0) (h2 : ¬ ((0 ≤ a ∧ a ≤ (w.length : Int) - 1) ∧ 0 ≤ b ∧ b ≤ (w.length : Int) - 1) ∨ b < a) : rootsR w a b = ([], 2) := by unfold rootsR; rw [if_neg (fun k => k h), if_pos h2]
theorem ro3 (h : ckW w = 0) (h2 : ¬ (¬ ((0 ≤ a ∧ a ≤ (w.length : Int) - 1) ∧ 0 ≤ b ∧ b ≤ (w.length : Int) - 1) ∨ b < a)) : rootsR w a b = (rootsI w a.toNat (b.toNat + 1), 0) := by unfold rootsR; rw [if_neg (fun k => k h), if_neg h2]
end Go.Fip.Q

set_option linter.unusedVariables false
set_option linter.unusedSimpArgs false
set_option linter.unusedSectionVars false
namespace Go.Fip.Q
open Go.Fip
theorem take_map_succ {α β : Type} {l : List α} {f : α → β} {q : Nat} {x : α} (h : l[q]? = some x) : (l.take (q + 1)).map f = (l.take q).map f ++ [f x] := by
  obtain ⟨hq, e⟩ := List.getElem?_eq_some_iff.1 h
  rw [List.take_succ_eq_append_getElem hq, List.map_append, e]; rfl
def mTo (w : List Int) (s e q : Nat) : Nat := (((roots w s e).take q).map fun j => M w s (s + j) * M w (s + j + 1) e).sum
theorem mTo_succ {w : List Int} {s e q j : Nat} (h : (roots w s e)[q]? = some j) : mTo w s e (q + 1) = mTo w s e q + M w s (s + j) * M w (s + j + 1) e := by
  unfold mTo
  rw [take_map_succ h, List.sum_append]; simp
theorem mTo_all {w : List Int} {s e q : Nat} (h : s < e) (hq : q = (roots w s e).length) : mTo w s e q = M w s e := by
  unfold mTo
  rw [hq, List.take_length, M_rec h]
theorem sum_filter_le (p : Nat → Bool) (f : Nat → Nat) : ∀ l : List Nat, ((l.filter p).map f).sum ≤ (l.map f).sum
  | [] => Nat.le_refl _
  | a :: l => by
    have ih := sum_filter_le p f l
    rw [List.filter_cons]
    split
    · simp only [List.map_cons, List.sum_cons]; omega
    · simp only [List.map_cons, List.sum_cons]; omega
theorem sum_le_of (f g : Nat → Nat) : ∀ l : List Nat, (∀ x ∈ l, f x ≤ g x) → (l.map f).sum ≤ (l.map g).sum
  | [], _ => Nat.le_refl _
  | a :: l, h => by
    have ih := sum_le_of f g l (fun x hx => h x (List.mem_cons_of_mem _ hx))
    have := h a (List.mem_cons_self)
    simp only [List.map_cons, List.sum_cons]; omega
theorem sum_take_le (f : Nat → Nat) (l : List Nat) (q : Nat) : ((l.take q).map f).sum ≤ (l.map f).sum := by
  have e : (l.map f).sum = ((l.take q).map f).sum + ((l.drop q).map f).sum := by rw [← List.sum_append, ← List.map_append, List.take_append_drop]
  omega
theorem M_cnt (w : List Int) : ∀ (n s e : Nat), e - s ≤ n → e - s ≤ 12 → M w s e ≤ cnt (e - s)
  | n, s, e, h, h2 => by
    by_cases hse : e ≤ s
    · rw [M_nil hse, show e - s = 0 by omega]; decide
    · match n, h with
      | 0, h => omega
      | n + 1, h =>
        rw [M_rec (by omega)]
        unfold roots
        refine Nat.le_trans (sum_filter_le _ _ _) ?_
        have hc := cnt_rec (e - s - 1) (by omega)
        rw [show e - s - 1 + 1 = e - s by omega] at hc
        rw [← hc]
        refine sum_le_of _ _ _ (fun j hj => ?_)
        have hj2 := List.mem_range.1 hj
        refine Nat.mul_le_mul ?_ ?_
        · have := M_cnt w n s (s + j) (by omega) (by omega)
          rwa [show s + j - s = j by omega] at this
        · have := M_cnt w n (s + j + 1) e (by omega) (by omega)
          rwa [show e - (s + j + 1) = e - s - 1 - j by omega] at this
theorem cnt_le : ∀ k, k ≤ 12 → cnt k ≤ 208012 := fun k h => (cnt_bd k h).2
theorem M_bd {w : List Int} {s e : Nat} (h : e - s ≤ 12) : M w s e ≤ 208012 := Nat.le_trans (M_cnt w _ s e (Nat.le_refl _) h) (cnt_le _ h)
theorem mTo_bd {w : List Int} {s e q : Nat} (h0 : s < e) (h : e - s ≤ 12) : mTo w s e q ≤ 208012 := by
  refine Nat.le_trans (sum_take_le _ _ _) ?_
  rw [← M_rec h0]; exact M_bd h
/-- What is known of spans holds. -/
def Kn (w : List Int) (m : Mm) : Prop := ∀ p v, find p m = some v → ∃ i k : Nat, p = ((i : Int), (k : Int)) ∧ v = (M w i k : Int)
theorem Kn.nil {w : List Int} : Kn w [] := fun p v h => by rw [find_nil] at h; cases h
theorem Kn.at {w : List Int} {m : Mm} (h : Kn w m) {i k : Nat} (hs : (find ((i : Int), (k : Int)) m).isSome = true) : (find ((i : Int), (k : Int)) m).getD 0 = (M w i k : Int) := by
  obtain ⟨v, hv⟩ := Option.isSome_iff_exists.1 hs
  obtain ⟨a, b, e, e2⟩ := h _ _ hv
  simp only [Prod.mk.injEq] at e
  have e3 : i = a := by omega
  have e4 : k = b := by omega
  subst e3; subst e4
  rw [hv]; exact e2
theorem Kn.upd {w : List Int} {m : Mm} (h : Kn w m) {i k : Nat} {v : Int} (hv : v = (M w i k : Int)) : Kn w (upd ((i : Int), (k : Int)) v m) := fun p x hp => by
  rw [find_upd] at hp
  split at hp
  · rename_i e
    cases hp
    exact ⟨i, k, e, hv⟩
  · exact h p x hp
def fTo (w : List Int) (s e q : Nat) : List (List Int) := ((roots w s e).take q).map fun j => hung (F w s (s + j)) (F w (s + j + 1) e)
theorem fTo_succ {w : List Int} {s e q j : Nat} (h : (roots w s e)[q]? = some j) : fTo w s e (q + 1) = fTo w s e q ++ [hung (F w s (s + j)) (F w (s + j + 1) e)] := take_map_succ h
theorem fTo_all {w : List Int} {s e q : Nat} (h : s < e) (hq : q = (roots w s e).length) : minT (fTo w s e q) = F w s e := by
  unfold fTo
  rw [hq, List.take_length, ← F_rec h]
theorem fTo_length {w : List Int} {s e q : Nat} : (fTo w s e q).length = min q (roots w s e).length := by simp [fTo]
theorem roots_pos {w : List Int} {s e : Nat} (h : s < e) : 1 ≤ (roots w s e).length := List.length_pos_iff.2 (roots_ne h)
theorem F_sm {w : List Int} {s e : Nat} (h : e - s ≤ 12) (hse : s ≤ e) : Sm (F w s e) := by
  obtain ⟨t, ht, hs, _⟩ := F_tree w _ s e (Nat.le_refl _) hse
  rw [← ht]
  intro x hx
  have h1 := T.dep_ge t 0 x hx
  have h2 := T.dep_lt t 0 x hx
  omega
theorem fTo_row {w : List Int} {s e q i : Nat} (h : i < (fTo w s e q).length) : (nth (fTo w s e q) (i : Int)).length ≤ e - s + 1 := by
  rw [nth_nat h]
  have hm := List.getElem_mem h
  obtain ⟨j, hj, e2⟩ := List.mem_map.1 hm
  have hj2 := (mem_roots.1 (List.mem_of_mem_take hj)).1
  rw [← e2, hung_length, F_length, F_length]
  omega
end Go.Fip.Q

set_option linter.unusedVariables false
set_option linter.unusedSimpArgs false
set_option linter.unusedSectionVars false
namespace Go.Fip.Q
open Go.Fip
/-- How many levels. -/
def lev : T → Nat
  | .nil => 0
  | .node l r => max (lev l) (lev r) + 1
theorem lev_size : ∀ t : T, t.size + 1 ≤ 2 ^ lev t
  | .nil => by decide
  | .node l r => by
    have h1 := lev_size l
    have h2 := lev_size r
    have h3 : 2 ^ lev l ≤ 2 ^ max (lev l) (lev r) := Nat.pow_le_pow_right (by decide) (Nat.le_max_left _ _)
    have h4 : 2 ^ lev r ≤ 2 ^ max (lev l) (lev r) := Nat.pow_le_pow_right (by decide) (Nat.le_max_right _ _)
    show l.size + r.size + 1 + 1 ≤ 2 ^ (max (lev l) (lev r) + 1)
    rw [Nat.pow_succ]; omega
def bh (h n : Nat) : Nat := min n (2 ^ h - 1)
def lowF : Nat → Nat → List Int
  | 0, _ => []
  | _ + 1, 0 => []
  | h + 1, n + 1 => minT ((List.range (bh h n - (n - (2 ^ h - 1)) + 1)).map fun j => hung (lowF h (n - (bh h n - j))) (lowF h (bh h n - j)))
def lowTo (h n q : Nat) : List (List Int) := (List.range q).map fun j => hung (lowF h (n - (bh h n - j))) (lowF h (bh h n - j))
theorem lowF_nil {h : Nat} : lowF h 0 = [] := by cases h <;> rfl
theorem lowTo_succ {h n q : Nat} : lowTo h n (q + 1) = lowTo h n q ++ [hung (lowF h (n - (bh h n - q))) (lowF h (bh h n - q))] := by simp [lowTo, List.range_succ]
theorem lowTo_length {h n q : Nat} : (lowTo h n q).length = q := by simp [lowTo]
theorem lowTo_all {h n q : Nat} (hq : q = bh h n - (n - (2 ^ h - 1)) + 1) : minT (lowTo h n q) = lowF (h + 1) (n + 1) := by subst hq; rfl
theorem two_pos (h : Nat) : 1 ≤ 2 ^ h := Nat.one_le_two_pow
theorem lowF_in {h n : Nat} (hn : n + 1 ≤ 2 ^ (h + 1) - 1) : ∃ a b, a + b = n ∧ a ≤ 2 ^ h - 1 ∧ b ≤ 2 ^ h - 1 ∧ lowF (h + 1) (n + 1) = hung (lowF h a) (lowF h b) := by
  have h2 := two_pos h
  rw [Nat.pow_succ] at hn
  have hm : minT (lowTo h n (bh h n - (n - (2 ^ h - 1)) + 1)) ∈ lowTo h n (bh h n - (n - (2 ^ h - 1)) + 1) := minT_mem (fun e => by have := congrArg List.length e; rw [lowTo_length] at this; simp at this)
  rw [lowTo_all rfl] at hm
  obtain ⟨j, hj, e⟩ := List.mem_map.1 hm
  have hj2 := List.mem_range.1 hj
  have hb : bh h n ≤ n ∧ bh h n ≤ 2 ^ h - 1 := ⟨Nat.min_le_left _ _, Nat.min_le_right _ _⟩
  have hb2 : bh h n = n ∨ bh h n = 2 ^ h - 1 := by unfold bh; omega
  exact ⟨n - (bh h n - j), bh h n - j, by omega, by omega, by omega, e.symm⟩
theorem lowF_le {h n a b : Nat} (hab : a + b = n) (ha : a ≤ 2 ^ h - 1) (hb : b ≤ 2 ^ h - 1) : ¬ cmpL (hung (lowF h a) (lowF h b)) (lowF (h + 1) (n + 1)) < 0 := by
  rw [← lowTo_all rfl]
  refine minT_le (List.mem_map.2 ⟨bh h n - b, List.mem_range.2 ?_, ?_⟩)
  · have : bh h n ≤ n ∧ bh h n ≤ 2 ^ h - 1 := ⟨Nat.min_le_left _ _, Nat.min_le_right _ _⟩
    have hb2 : bh h n = n ∨ bh h n = 2 ^ h - 1 := by unfold bh; omega
    omega
  · have hb2 : bh h n = n ∨ bh h n = 2 ^ h - 1 := by unfold bh; omega
    rw [show bh h n - (bh h n - b) = b by omega, show n - b = a by omega]
/-- The first one is a tree of so many tapers and levels. -/
theorem lowF_tree : ∀ (h n : Nat), n ≤ 2 ^ h - 1 → ∃ t : T, T.dep 0 t = lowF h n ∧ t.size = n ∧ lev t ≤ h
  | h, 0, _ => ⟨.nil, by rw [lowF_nil]; rfl, rfl, Nat.zero_le _⟩
  | 0, n + 1, hn => by simp at hn
  | h + 1, n + 1, hn => by
    obtain ⟨a, b, hab, ha, hb, e⟩ := lowF_in hn
    obtain ⟨s, hs, hs2, hs3⟩ := lowF_tree h a ha
    obtain ⟨t, ht, ht2, ht3⟩ := lowF_tree h b hb
    exact ⟨.node s t, by rw [e, ← hs, ← ht, hung_dep], by show s.size + t.size + 1 = n + 1; omega, by show max (lev s) (lev t) + 1 ≤ h + 1; omega⟩
theorem lowF_length {h n : Nat} (hn : n ≤ 2 ^ h - 1) : (lowF h n).length = n := by
  obtain ⟨t, ht, hs, _⟩ := lowF_tree h n hn
  rw [← ht, T.dep_length, hs]
theorem dep_sm2 (t : T) {n : Nat} (h2 : n ≤ 12) (hs : t.size = n) : Sm (T.dep 0 t) := fun x hx => by
  have h1 := T.dep_ge t 0 x hx
  have h3 := T.dep_lt t 0 x hx
  omega
theorem lowF_sm {h n : Nat} (hn : n ≤ 2 ^ h - 1) (h2 : n ≤ 12) : Sm (lowF h n) := by
  obtain ⟨t, ht, hs, _⟩ := lowF_tree h n hn
  rw [← ht]
  exact dep_sm2 t h2 hs
/-- Heads before tails, in the order of lists of one length. -/
theorem cmpL_map {c : Int} : ∀ (a b : List Int), cmpL (a.map (· + c)) (b.map (· + c)) = cmpL a b
  | [], [] => rfl
  | [], _ :: _ => rfl
  | _ :: _, [] => rfl
  | x :: a, y :: b => by
    show (if x + c < y + c then (-1 : Int) else if y + c < x + c then 1 else cmpL (a.map (· + c)) (b.map (· + c))) = (if x < y then -1 else if y < x then 1 else cmpL a b)
    rw [cmpL_map a b]
    rcases Int.lt_trichotomy x y with h | h | h
    · rw [if_pos (by omega), if_pos h]
    · rw [if_neg (by omega), if_neg (by omega), if_neg (by omega), if_neg (by omega)]
    · rw [if_neg (by omega), if_pos (by omega), if_neg (by omega), if_pos h]
theorem cmpL_app : ∀ (a b : List Int), a.length = b.length → ∀ c d, cmpL (a ++ c) (b ++ d) = if cmpL a b = 0 then cmpL c d else cmpL a b
  | [], [], _, c, d => rfl
  | [], _ :: _, h, _, _ => by simp at h
  | _ :: _, [], h, _, _ => by simp at h
  | x :: a, y :: b, h, c, d => by
    have ih := cmpL_app a b (by simpa using h) c d
    show (if x < y then (-1 : Int) else if y < x then 1 else cmpL (a ++ c) (b ++ d)) = if (if x < y then (-1 : Int) else if y < x then 1 else cmpL a b) = 0 then cmpL c d else (if x < y then (-1 : Int) else if y < x then 1 else cmpL a b)
    by_cases h1 : x < y
    · simp [h1]
    · by_cases h2 : y < x
      · simp [h1, h2]
      · simp [h1, h2, ih]
theorem hung_le {a b a' b' : List Int} (hl : a.length = a'.length) (ha : ¬ cmpL a' a < 0) (hb : ¬ cmpL b' b < 0) : ¬ cmpL (hung a' b') (hung a b) < 0 := by
  unfold hung
  rw [cmpL_app _ _ (by simpa using hl.symm)]
  rw [cmpL_map]
  have hb1 := cmpL_bd a' a
  split
  · show ¬ (if (0 : Int) < 0 then (-1 : Int) else if (0 : Int) < 0 then 1 else cmpL (b'.map (· + 1)) (b.map (· + 1))) < 0
    rw [if_neg (by omega), if_neg (by omega), cmpL_map]; exact hb
  · exact ha
theorem cmpL_le_trans {a b c : List Int} (h1 : ¬ cmpL b a < 0) (h2 : ¬ cmpL c b < 0) : ¬ cmpL c a < 0 := fun h => by
  by_cases e : cmpL a b = 0
  · rw [cmpL_eq e] at h; exact h2 h
  · have h3 : cmpL a b < 0 := by
      have := cmpL_neg a b
      omega
    exact h2 (cmpL_trans h h3)
/-- .. and no such tree is before it. -/
theorem lowF_least : ∀ (t : T) (h : Nat), lev t ≤ h → ¬ cmpL (T.dep 0 t) (lowF h t.size) < 0
  | .nil, h, _ => by rw [show T.size .nil = 0 from rfl, lowF_nil]; decide
  | .node l r, 0, hh => by simp [lev] at hh
  | .node l r, h + 1, hh => by
    have hh2 : max (lev l) (lev r) + 1 ≤ h + 1 := hh
    have i1 := lowF_least l h (by omega)
    have i2 := lowF_least r h (by omega)
    have s1 : l.size + 1 ≤ 2 ^ h := Nat.le_trans (lev_size l) (Nat.pow_le_pow_right (by decide) (by omega))
    have s2 : r.size + 1 ≤ 2 ^ h := Nat.le_trans (lev_size r) (Nat.pow_le_pow_right (by decide) (by omega))
    rw [show T.size (.node l r) = (l.size + r.size) + 1 from rfl, ← hung_dep]
    refine cmpL_le_trans (lowF_le rfl (by omega) (by omega)) (hung_le ?_ i1 i2)
    rw [lowF_length (by omega), T.dep_length]
/-- What is known of it while one left side after another is tried. -/
def ok2 (h n r : Nat) : Prop := r ≤ 2 ^ h - 1 ∧ n - r ≤ 2 ^ h - 1
instance {h n r : Nat} : Decidable (ok2 h n r) := by unfold ok2; infer_instance
def LowB (h n r : Nat) (o : List Int) : Prop := (o = [] ∧ ∀ a, a < r → ¬ ok2 h n a) ∨ ((∃ a, a < r ∧ ok2 h n a ∧ o = hung (lowF h a) (lowF h (n - a))) ∧ ∀ a, a < r → ok2 h n a → ¬ cmpL (hung (lowF h a) (lowF h (n - a))) o < 0)
variable {h n r : Nat} {o : List Int}
theorem LowB.start : LowB h n 0 [] := .inl ⟨rfl, fun a ha => absurd ha (Nat.not_lt_zero _)⟩
theorem LowB.skip (hb : LowB h n r o) (hk : ¬ ok2 h n r) : LowB h n (r + 1) o := by
  rcases hb with ⟨h1, h2⟩ | ⟨⟨a, ha, h1, h2⟩, h3⟩
  · exact .inl ⟨h1, fun a ha => by rcases Nat.lt_or_ge a r with h | h; exact h2 a h; rw [show a = r by omega]; exact hk⟩
  · exact .inr ⟨⟨a, by omega, h1, h2⟩, fun b hb hb2 => by rcases Nat.lt_or_ge b r with h | h; exact h3 b h hb2; rw [show b = r by omega] at hb2; exact absurd hb2 hk⟩
theorem LowB.keep (hb : LowB h n r o) (ho : o.length ≠ 0) (hc : ¬ cmpL (hung (lowF h r) (lowF h (n - r))) o < 0) : LowB h n (r + 1) o := by
  rcases hb with ⟨h1, h2⟩ | ⟨⟨a, ha, h1, h2⟩, h3⟩
  · rw [h1] at ho; exact absurd rfl ho
  · exact .inr ⟨⟨a, by omega, h1, h2⟩, fun b hb hb2 => by rcases Nat.lt_or_ge b r with h | h; exact h3 b h hb2; rw [show b = r by omega]; exact hc⟩
theorem LowB.take (hb : LowB h n r o) (hk : ok2 h n r) (hc : o.length = 0 ∨ cmpL (hung (lowF h r) (lowF h (n - r))) o < 0) : LowB h n (r + 1) (hung (lowF h r) (lowF h (n - r))) := by
  refine .inr ⟨⟨r, Nat.lt_succ_self _, hk, rfl⟩, fun b hb1 hb2 => ?_⟩
  rcases Nat.lt_or_ge b r with h1 | h1
  · rcases hb with ⟨h2, h3⟩ | ⟨⟨a, ha, h4, h5⟩, h3⟩
    · exact absurd hb2 (h3 b h1)
    · rcases hc with hc | hc
      · rw [h5] at hc; simp [hung_length] at hc
      · intro hlt
        exact h3 b h1 hb2 (cmpL_trans hlt hc)
  · rw [show b = r by omega, cmpL_self]; omega
theorem LowB.len (hb : LowB h n r o) (hr : r ≤ n + 1) : o.length = 0 ∨ o.length = n + 1 := by
  rcases hb with ⟨h1, _⟩ | ⟨⟨a, ha, h1, h2⟩, _⟩
  · left; rw [h1]; rfl
  · right; rw [h2, hung_length, lowF_length h1.1, lowF_length h1.2]; omega
theorem LowB.sm (hb : LowB h n r o) (hr : r ≤ n + 1) (hn : n ≤ 11) : Sm o := by
  rcases hb with ⟨h1, _⟩ | ⟨⟨a, ha, h1, h2⟩, _⟩
  · rw [h1]; intro x hx; cases hx
  · obtain ⟨s, hs, hs2, _⟩ := lowF_tree h a h1.1
    obtain ⟨t, ht, ht2, _⟩ := lowF_tree h (n - a) h1.2
    rw [h2, ← hs, ← ht, hung_dep]
    exact dep_sm2 _ (n := n + 1) (by omega) (by show s.size + t.size + 1 = _; omega)
theorem LowB.done (hb : LowB h n (n + 1) o) : (n + 1 ≤ 2 ^ (h + 1) - 1 ∧ o = lowF (h + 1) (n + 1)) ∨ (¬ n + 1 ≤ 2 ^ (h + 1) - 1 ∧ o = []) := by
  have h2 := two_pos h
  have hp : 2 ^ (h + 1) = 2 ^ h * 2 := Nat.pow_succ ..
  by_cases hn : n + 1 ≤ 2 ^ (h + 1) - 1
  · left
    refine ⟨hn, ?_⟩
    obtain ⟨a, b, hab, ha, hb1, e⟩ := lowF_in hn
    have hna : n - a = b := by omega
    rcases hb with ⟨h1, h3⟩ | ⟨⟨c, hc, h4, h5⟩, h3⟩
    · exact absurd ⟨ha, by omega⟩ (h3 a (by omega))
    · have k1 := h3 a (by omega) ⟨ha, by omega⟩
      rw [hna, ← e] at k1
      have k2 := lowF_le (h := h) (n := n) (a := c) (b := n - c) (by omega) h4.1 h4.2
      rw [← h5] at k2
      have := cmpL_neg o (lowF (h + 1) (n + 1))
      exact cmpL_eq (by omega)
  · right
    refine ⟨hn, ?_⟩
    rcases hb with ⟨h1, _⟩ | ⟨⟨a, ha, h1, _⟩, _⟩
    · exact h1
    · exfalso
      have := h1.1; have := h1.2
      omega
def lowO (h n : Nat) : List Int × Bool := if n ≤ 2 ^ h - 1 then (lowF h n, true) else ([], false)
theorem lo1 (hn : n ≤ 2 ^ h - 1) : lowO h n = (lowF h n, true) := if_pos hn
theorem lo2 (hn : ¬ n ≤ 2 ^ h - 1) : lowO h n = ([], false) := if_neg hn
/-- The number of levels that so many tapers need. -/
def lvl (n : Nat) : Nat := if n ≤ 1 then 1 else if n ≤ 3 then 2 else if n ≤ 7 then 3 else 4
def lowR (n : Int) : List Int × Int := if ¬ (1 ≤ n ∧ n ≤ 12) then ([], 6) else (lowF (lvl n.toNat) n.toNat, 0)
theorem lr1 {n : Int} (h : ¬ (1 ≤ n ∧ n ≤ 12)) : lowR n = ([], 6) := if_pos h
theorem lr2 {n : Int} (h : 1 ≤ n ∧ n ≤ 12) : lowR n = (lowF (lvl n.toNat) n.toNat, 0) := if_neg fun k => k h
theorem lvl_ok {n d : Nat} (h0 : 1 ≤ n) (hn : n ≤ 12) (hd : d ≤ 3) (h1 : ¬ 2 ^ (d + 1) ≤ n) (h2 : d = 0 ∨ 2 ^ d ≤ n) : lvl n = d + 1 := by
  match d, hd with
  | 0, _ => unfold lvl; rw [if_pos (by omega)]
  | 1, _ => unfold lvl; rw [if_neg (by omega), if_pos (by omega)]
  | 2, _ => unfold lvl; rw [if_neg (by omega), if_neg (by omega), if_pos (by omega)]
  | 3, _ => unfold lvl; rw [if_neg (by omega), if_neg (by omega), if_neg (by omega)]
theorem lvl_fit : ∀ n, n ≤ 12 → n ≤ 2 ^ lvl n - 1 := by decide
theorem lvl_le : ∀ n, n ≤ 12 → lvl n ≤ 4 := by decide
theorem shl_val {z : Int} {k : Nat} (hz : z = (k : Int)) (hk : k ≤ 12) : IntKind.i64.wrap (1 * 2 ^ z.toNat) = ((2 ^ k : Nat) : Int) := by
  subst hz
  have : ∀ k, k ≤ 12 → IntKind.i64.wrap (1 * 2 ^ ((k : Nat) : Int).toNat) = ((2 ^ k : Nat) : Int) := by decide +kernel
  exact this k hk
theorem shl_two {z : Int} {k : Nat} (hz : z = (k : Int)) (hk : k ≤ 12) : IntKind.i64.wrap (2 * 2 ^ z.toNat) = ((2 ^ (k + 1) : Nat) : Int) := by
  subst hz
  have : ∀ k, k ≤ 12 → IntKind.i64.wrap (2 * 2 ^ ((k : Nat) : Int).toNat) = ((2 ^ (k + 1) : Nat) : Int) := by decide +kernel
  exact this k hk
theorem two_bd : ∀ k, k ≤ 12 → 2 ^ k ≤ 4096 := by decide
end Go.Fip.Q
namespace Go.Fip.Q
open Go.Fip
theorem lowTo_row {h n q i : Nat} (hq : q ≤ bh h n + 1) (hc : 1 ≤ q → n - (bh h n - (q - 1)) ≤ 2 ^ h - 1) (hi : i < (lowTo h n q).length) : (nth (lowTo h n q) (i : Int)).length = n + 1 := by
  have hb : bh h n ≤ n ∧ bh h n ≤ 2 ^ h - 1 := ⟨Nat.min_le_left _ _, Nat.min_le_right _ _⟩
  have hi2 := hi
  rw [lowTo_length] at hi2
  have hc2 := hc (by omega)
  rw [nth_nat hi]
  simp only [lowTo, List.getElem_map, List.getElem_range]
  rw [hung_length, lowF_length (by omega), lowF_length (by omega)]
  omega
theorem lowO_yes {h n : Nat} (hb : (lowO h n).2 = true) : (lowO h n).1 = lowF h n ∧ n ≤ 2 ^ h - 1 := by
  unfold lowO at hb ⊢
  split
  · rename_i hn; exact ⟨rfl, hn⟩
  · rename_i hn; rw [if_neg hn] at hb; cases hb
theorem lowO_nil {h : Nat} : lowO h 0 = ([], true) := by rw [lo1 (Nat.zero_le _), lowF_nil]
theorem lowO_none {h n : Nat} (hh : h = 0) (hn : 1 ≤ n) : lowO h n = ([], false) := by subst hh; exact lo2 (by simp; omega)
theorem low_fin {h n : Nat} {o : List Int} {v : Value} {w : World} (hn : 1 ≤ n) (hh : 1 ≤ h) (hB : LowB (h - 1) (n - 1) n o) (ho : Own 3 1 encI v o w) :
    ∃ q, (Value.tuple #[v, .bool (decide (0 < (o.length : Int)))] : Value) = .tuple #[q, .bool (lowO h n).2] ∧ Own 3 1 encI q (lowO h n).1 w := by
  have hB2 : LowB (h - 1) (n - 1) (n - 1 + 1) o := by rw [show n - 1 + 1 = n by omega]; exact hB
  have hd := hB2.done
  rw [show n - 1 + 1 = n by omega, show h - 1 + 1 = h by omega] at hd
  rcases hd with ⟨h1, h2⟩ | ⟨h1, h2⟩
  · subst h2
    rw [lo1 h1, lowF_length h1, decide_eq_true (by omega)]
    exact ⟨_, rfl, ho⟩
  · subst h2
    rw [lo2 h1]
    exact ⟨_, rfl, ho⟩
end Go.Fip.Q

set_option linter.unusedVariables false
set_option linter.unusedSimpArgs false
set_option linter.unusedSectionVars false
namespace Go.Fip.Q
open Go.Fip
def ins (x : List Int) : List (List Int) → List (List Int)
  | [] => [x]
  | y :: l => if cmpL y x < 0 then y :: ins x l else x :: y :: l
def srt (l : List (List Int)) : List (List Int) := l.foldr ins []
theorem ins_perm (x : List Int) : ∀ l, (ins x l).Perm (x :: l)
  | [] => List.Perm.refl _
  | y :: l => by
    unfold ins
    split
    · exact ((ins_perm x l).cons y).trans (List.Perm.swap x y l)
    · exact List.Perm.refl _
theorem srt_perm : ∀ l, (srt l).Perm l
  | [] => List.Perm.refl _
  | x :: l => (ins_perm x (srt l)).trans ((srt_perm l).cons x)
def Srt (l : List (List Int)) : Prop := l.Pairwise fun a b => ¬ cmpL b a < 0
theorem ins_srt (x : List Int) : ∀ l, Srt l → Srt (ins x l)
  | [], _ => List.pairwise_singleton _ _
  | y :: l, h => by
    have h1 := List.pairwise_cons.1 h
    unfold ins
    split
    · rename_i hlt
      refine List.pairwise_cons.2 ⟨fun z hz => ?_, ins_srt x l h1.2⟩
      rcases List.mem_cons.1 ((ins_perm x l).mem_iff.1 hz) with e | hz
      · subst e; intro hh
        have := cmpL_neg y z
        omega
      · exact h1.1 z hz
    · rename_i hnl
      refine List.pairwise_cons.2 ⟨fun z hz => ?_, h⟩
      rcases List.mem_cons.1 hz with e | hz
      · subst e; exact hnl
      · exact cmpL_le_trans hnl (h1.1 z hz)
theorem srt_srt : ∀ l, Srt (srt l)
  | [] => List.Pairwise.nil
  | x :: l => ins_srt x _ (srt_srt l)
theorem srt_uni {l m : List (List Int)} (h : l.Perm m) (h1 : Srt l) (h2 : Srt m) : l = m :=
  List.Perm.eq_of_pairwise (le := fun a b => ¬ cmpL b a < 0) (fun a b _ _ k1 k2 => by
    have := cmpL_neg a b
    exact cmpL_eq (by omega)) h1 h2 h
def crs (A B : List (List Int)) : List (List Int) := A.flatMap fun a => B.map fun b => hung a b
theorem crs_take {A B : List (List Int)} {i : Nat} (h : i < A.length) : crs (A.take (i + 1)) B = crs (A.take i) B ++ B.map fun b => hung (nth A (i : Int)) b := by
  unfold crs
  rw [List.take_succ_eq_append_getElem h, List.flatMap_append, nth_nat h]; simp
theorem crs_length {A B : List (List Int)} : (crs A B).length = A.length * B.length := by
  unfold crs
  induction A with
  | nil => simp
  | cons a A ih => rw [List.flatMap_cons, List.length_append, ih, List.length_map, List.length_cons, Nat.add_mul]; omega
def treesF : Nat → Nat → List (List Int)
  | 0, _ => [[]]
  | _ + 1, 0 => [[]]
  | f + 1, n + 1 => srt ((List.range (n + 1)).flatMap fun r => crs (treesF f r) (treesF f (n - r)))
theorem treesF_fuel : ∀ (f g n : Nat), n ≤ f → n ≤ g → treesF f n = treesF g n
  | 0, 0, n, _, _ => rfl
  | 0, g + 1, n, h, _ => by rw [show n = 0 by omega]; rfl
  | f + 1, 0, n, _, h => by rw [show n = 0 by omega]; rfl
  | f + 1, g + 1, 0, _, _ => rfl
  | f + 1, g + 1, n + 1, h1, h2 => by
    show srt _ = srt _
    congr 1
    have : ∀ l : List Nat, (∀ r ∈ l, r ≤ n) → (l.flatMap fun r => crs (treesF f r) (treesF f (n - r))) = l.flatMap fun r => crs (treesF g r) (treesF g (n - r)) := fun l hl => by
      induction l with
      | nil => rfl
      | cons a l ih =>
        have := hl a (List.mem_cons_self)
        rw [List.flatMap_cons, List.flatMap_cons, ih (fun r hr => hl r (List.mem_cons_of_mem _ hr)), treesF_fuel f g a (by omega) (by omega), treesF_fuel f g (n - a) (by omega) (by omega)]
    exact this _ (fun r hr => by have := List.mem_range.1 hr; omega)
def treesL (n : Nat) : List (List Int) := treesF n n
/-- The trees whose left sides have fewer than r tapers, one after another. -/
def g1 (n r : Nat) : List (List Int) := (List.range r).flatMap fun q => crs (treesL q) (treesL (n - 1 - q))
theorem g1_succ {n r : Nat} : g1 n (r + 1) = g1 n r ++ crs (treesL r) (treesL (n - 1 - r)) := by simp [g1, List.range_succ]
theorem treesL_zero : treesL 0 = [[]] := rfl
theorem treesL_rec {n : Nat} (h : 0 < n) : treesL n = srt (g1 n n) := by
  obtain ⟨n, rfl⟩ : ∃ m, n = m + 1 := ⟨n - 1, by omega⟩
  show srt _ = srt _
  congr 1
  unfold g1
  have : ∀ l : List Nat, (∀ r ∈ l, r ≤ n) → (l.flatMap fun r => crs (treesF n r) (treesF n (n - r))) = l.flatMap fun q => crs (treesL q) (treesL (n + 1 - 1 - q)) := fun l hl => by
    induction l with
    | nil => rfl
    | cons a l ih =>
      have := hl a (List.mem_cons_self)
      rw [List.flatMap_cons, List.flatMap_cons, ih (fun r hr => hl r (List.mem_cons_of_mem _ hr))]
      unfold treesL
      rw [treesF_fuel n a a (by omega) (Nat.le_refl _), treesF_fuel n (n - a) (n - a) (by omega) (Nat.le_refl _)]
      rfl
  exact this _ (fun r hr => by have := List.mem_range.1 hr; omega)
theorem treesL_srt : ∀ n, Srt (treesL n)
  | 0 => List.pairwise_singleton _ _
  | n + 1 => by rw [treesL_rec (Nat.succ_pos _)]; exact srt_srt _
theorem treesL_uni {n : Nat} {l : List (List Int)} (h : 0 < n) (hp : l.Perm (g1 n n)) (hs : Srt l) : l = treesL n := by
  rw [treesL_rec h]
  exact srt_uni (hp.trans (srt_perm _).symm) hs (srt_srt _)
/-- They are the trees of so many tapers. -/
theorem mem_treesL : ∀ (m n : Nat), n ≤ m → ∀ x, x ∈ treesL n ↔ ∃ t : T, t.size = n ∧ T.dep 0 t = x
  | m, 0, _, x => by
    rw [treesL_zero, List.mem_singleton]
    constructor
    · rintro rfl; exact ⟨.nil, rfl, rfl⟩
    · rintro ⟨t, h1, h2⟩
      match t with
      | .nil => exact h2.symm
      | .node l r => simp [T.size] at h1
  | 0, n + 1, h, x => by omega
  | m + 1, n + 1, h, x => by
    rw [treesL_rec (Nat.succ_pos _), (srt_perm _).mem_iff]
    unfold g1 crs
    simp only [List.mem_flatMap, List.mem_map, List.mem_range]
    constructor
    · rintro ⟨r, hr, a, ha, b, hb, rfl⟩
      obtain ⟨s, hs, rfl⟩ := (mem_treesL m r (by omega) a).1 ha
      obtain ⟨t, ht, rfl⟩ := (mem_treesL m (n + 1 - 1 - r) (by omega) b).1 hb
      exact ⟨.node s t, by show s.size + t.size + 1 = _; omega, (hung_dep s t).symm⟩
    · rintro ⟨t, h1, rfl⟩
      match t with
      | .nil => simp [T.size] at h1
      | .node s t =>
        have h2 : s.size + t.size + 1 = n + 1 := h1
        exact ⟨s.size, by omega, _, (mem_treesL m s.size (by omega) _).2 ⟨s, rfl, rfl⟩, _, (mem_treesL m (n + 1 - 1 - s.size) (by omega) _).2 ⟨t, by omega, rfl⟩, hung_dep s t⟩
theorem tree_row {n i : Nat} (hi : i < (treesL n).length) : (nth (treesL n) (i : Int)).length = n := by
  rw [nth_nat hi]
  obtain ⟨t, h1, h2⟩ := (mem_treesL n n (Nat.le_refl _) _).1 (List.getElem_mem hi)
  rw [← h2, T.dep_length, h1]
theorem tree_sm {n i : Nat} (hn : n ≤ 12) (hi : i < (treesL n).length) : Sm (nth (treesL n) (i : Int)) := by
  rw [nth_nat hi]
  obtain ⟨t, h1, h2⟩ := (mem_treesL n n (Nat.le_refl _) _).1 (List.getElem_mem hi)
  rw [← h2]; exact dep_sm2 t hn h1
theorem g1_sum {n : Nat} : ∀ r, (∀ q, q < r → (treesL q).length = cnt q ∧ (treesL (n - 1 - q)).length = cnt (n - 1 - q)) → (g1 n r).length = ((List.range r).map fun q => cnt q * cnt (n - 1 - q)).sum
  | 0, _ => rfl
  | r + 1, h => by
    rw [g1_succ, List.length_append, g1_sum r (fun q hq => h q (by omega)), crs_length, (h r (by omega)).1, (h r (by omega)).2, List.range_succ, List.map_append, List.sum_append]; simp
theorem treesL_length : ∀ (m n : Nat), n ≤ m → n ≤ 12 → (treesL n).length = cnt n
  | m, 0, _, _ => rfl
  | 0, n + 1, h, _ => by omega
  | m + 1, n + 1, h, h2 => by
    rw [treesL_rec (Nat.succ_pos _), (srt_perm _).length_eq, g1_sum _ (fun q hq => ⟨treesL_length m q (by omega) (by omega), treesL_length m _ (by omega) (by omega)⟩)]
    exact cnt_rec n (by omega)
theorem treesL_len {n : Nat} (h : n ≤ 12) : (treesL n).length = cnt n := treesL_length n n (Nat.le_refl _) h
theorem g1_len {n : Nat} (h0 : 0 < n) (h : n ≤ 12) : (g1 n n).length = cnt n := by rw [← treesL_len h, treesL_rec h0, (srt_perm _).length_eq]
theorem g1_mono {n r s : Nat} (h : r ≤ s) : (g1 n r).length ≤ (g1 n s).length := by
  obtain ⟨k, rfl⟩ := Nat.le.dest h
  clear h
  induction k with
  | zero => exact Nat.le_refl _
  | succ k ih => rw [← Nat.add_assoc, g1_succ, List.length_append]; omega
theorem cnt8 : ∀ k, k ≤ 8 → 1 ≤ cnt k ∧ cnt k ≤ 1430 := by decide +kernel
theorem gen_len {n r i j : Nat} (hr : r < n) (hn : n ≤ 8) (hi : i < (treesL r).length) (hj : j ≤ (treesL (n - 1 - r)).length) : (g1 n r ++ crs ((treesL r).take i) (treesL (n - 1 - r)) ++ ((treesL (n - 1 - r)).take j).map fun b => hung (nth (treesL r) (i : Int)) b).length ≤ 1430 := by
  have h1 := g1_mono (n := n) (r := r + 1) (s := n) (by omega)
  rw [g1_succ, List.length_append, crs_length, g1_len (by omega) (by omega)] at h1
  have h2 := (cnt8 n hn).2
  rw [List.length_append, List.length_append, crs_length, List.length_map, List.length_take, List.length_take, Nat.min_eq_left (by omega), Nat.min_eq_left hj]
  have h3 : (i + 1) * (treesL (n - 1 - r)).length ≤ (treesL r).length * (treesL (n - 1 - r)).length := Nat.mul_le_mul_right _ (by omega)
  rw [Nat.add_mul, Nat.one_mul] at h3
  omega
end Go.Fip.Q
namespace Go.Fip.Q
open Go.Fip
theorem tk_succ {X B : List (List Int)} {f : List Int → List Int} {j : Nat} (h : j < B.length) : X ++ (B.take (j + 1)).map f = (X ++ (B.take j).map f) ++ [f (nth B (j : Int))] := by
  rw [List.take_succ_eq_append_getElem h, List.map_append, nth_nat h, List.append_assoc]; rfl
theorem crs_all {A B X : List (List Int)} {i j : Nat} (hi : i < A.length) (hj : j = B.length) : X ++ crs (A.take i) B ++ (B.take j).map (fun b => hung (nth A (i : Int)) b) = X ++ crs (A.take (i + 1)) B := by
  rw [hj, List.take_length, crs_take hi, List.append_assoc]
theorem g1_all {n r i : Nat} (hi : i = (treesL r).length) : g1 n r ++ crs ((treesL r).take i) (treesL (n - 1 - r)) = g1 n (r + 1) := by
  rw [hi, List.take_length, g1_succ]
end Go.Fip.Q
namespace Go.Fip.Q
open Go.Fip
theorem g1_row {n i : Nat} (h : 0 < n) (hi : i < (g1 n n).length) : (nth (g1 n n) (i : Int)).length = n := by
  have hm : nth (g1 n n) (i : Int) ∈ treesL n := by
    rw [treesL_rec h, (srt_perm _).mem_iff, nth_nat hi]; exact List.getElem_mem hi
  obtain ⟨t, h1, h2⟩ := (mem_treesL n n (Nat.le_refl _) _).1 hm
  rw [← h2, T.dep_length, h1]
end Go.Fip.Q

set_option linter.unusedVariables false
set_option linter.unusedSimpArgs false
set_option linter.unusedSectionVars false
namespace Go.Fip.Q
open Go.Fip
def posT (R : List (List Int)) (t : List Int) : Nat := R.countP fun x => decide (cmpL x t < 0)
theorem posT_cut {t : List Int} : ∀ {R : List (List Int)} {i : Nat}, i ≤ R.length → (∀ p : Nat, p < i → cmpL (nth R (p : Int)) t < 0) → (∀ p : Nat, i ≤ p → p < R.length → ¬ cmpL (nth R (p : Int)) t < 0) → posT R t = i
  | R, i, hi, h1, h2 => by
    unfold posT
    rw [← List.take_append_drop i R, List.countP_append]
    have e1 : (R.take i).countP (fun x => decide (cmpL x t < 0)) = i := by
      have hl : (R.take i).length = i := by rw [List.length_take]; omega
      rw [List.countP_eq_length.2 (fun x hx => ?_), hl]
      obtain ⟨p, hp, rfl⟩ := List.getElem_of_mem hx
      rw [hl] at hp
      have := h1 p hp
      rw [nth_nat (by omega)] at this
      simpa using this
    have e2 : (R.drop i).countP (fun x => decide (cmpL x t < 0)) = 0 := by
      rw [List.countP_eq_zero]
      intro x hx
      obtain ⟨p, hp, rfl⟩ := List.getElem_of_mem hx
      rw [List.length_drop] at hp
      have := h2 (i + p) (by omega) (by omega)
      rw [nth_nat (by omega)] at this
      simpa using this
    rw [e1, e2, Nat.add_zero]
/-- In a sorted list, what precedes a tree stands ahead of what does not. -/
theorem srt_before {R : List (List Int)} {t : List Int} (hs : Srt R) {p q : Nat} (hpq : p ≤ q) (hq : q < R.length) (h : cmpL (nth R (q : Int)) t < 0) : cmpL (nth R (p : Int)) t < 0 := by
  by_cases e : p = q
  · subst e; exact h
  · have h1 := (List.pairwise_iff_getElem.1 hs) p q (by omega) hq (by omega)
    rw [nth_nat hq] at h
    rw [nth_nat (by omega)]
    by_cases e2 : cmpL R[p] R[q] = 0
    · rw [cmpL_eq e2]; exact h
    · have h3 : cmpL R[p] R[q] < 0 := by
        have := cmpL_neg R[p] R[q]
        omega
      exact cmpL_trans h3 h
theorem posT_le {R : List (List Int)} {t : List Int} : posT R t ≤ R.length := List.countP_le_length
def numR (l : List Int) : Int × Int := if ckT l ≠ 0 then (0, ckT l) else if 8 < l.length then (0, 6) else ((posT (treesL l.length) l : Int), 0)
theorem nu1 {l : List Int} (h : ¬ ckT l = 0) : numR l = (0, ckT l) := if_pos h
theorem nu2 {l : List Int} (h : ckT l = 0) (h2 : 8 < l.length) : numR l = (0, 6) := by unfold numR; rw [if_neg (fun k => k h), if_pos h2]
theorem nu3 {l : List Int} (h : ckT l = 0) (h2 : ¬ 8 < l.length) : numR l = ((posT (treesL l.length) l : Int), 0) := by unfold numR; rw [if_neg (fun k => k h), if_neg h2]
def atR (n k : Int) : List Int × Int := if ¬ (1 ≤ n ∧ n ≤ 8) then ([], 6) else if ¬ (0 ≤ k ∧ k ≤ (cnt n.toNat : Int) - 1) then ([], 2) else (nth (treesL n.toNat) k, 0)
variable {n k : Int}
theorem at1 (h : ¬ (1 ≤ n ∧ n ≤ 8)) : atR n k = ([], 6) := if_pos h
theorem at2 (h : 1 ≤ n ∧ n ≤ 8) (h2 : ¬ (0 ≤ k ∧ k ≤ (cnt n.toNat : Int) - 1)) : atR n k = ([], 2) := by unfold atR; rw [if_neg (fun j => j h), if_pos h2]
theorem at3 (h : 1 ≤ n ∧ n ≤ 8) (h2 : 0 ≤ k ∧ k ≤ (cnt n.toNat : Int) - 1) : atR n k = (nth (treesL n.toNat) k, 0) := by unfold atR; rw [if_neg (fun j => j h), if_neg (fun j => j h2)]
theorem copy_all {a : List Int} {m : Nat} (h : a.length = m) : a ++ (List.replicate m (0 : Int)).drop a.length = a := by subst h; simp
end Go.Fip.Q
