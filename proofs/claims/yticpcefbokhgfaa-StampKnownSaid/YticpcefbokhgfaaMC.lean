/- Joined texts: Sp, Sc, Se, Sg, Sh, Si, Sa, Sn, Sw, Sk, Sr, Sx, Sd, Fs, Sy. -/
import Derived.Test.YticpcefbokhgfaaMA
set_option linter.unusedVariables false
set_option linter.unusedSimpArgs false
set_option linter.unusedSectionVars false
set_option linter.unnecessarySimpa false
namespace Go.Fip
namespace S

theorem all_snoc {p : Nat → Prop} {k : Nat} (h : ∀ i, i < k → p i) (hk : p k) : ∀ i, i < k + 1 → p i := fun i hi => by
  rcases Nat.lt_succ_iff_lt_or_eq.1 hi with h1 | rfl
  · exact h i h1
  · exact hk
theorem all_zero {p : Nat → Prop} : ∀ i, i < 0 → p i := fun i hi => absurd hi (Nat.not_lt_zero i)
theorem nodup_len : ∀ (N : Nat) (l : List Int), l.Nodup → (∀ x ∈ l, 0 ≤ x ∧ x < (N : Int)) → l.length ≤ N
  | 0, l, _, h => by
    cases l with
    | nil => simp
    | cons x l => have := h x (by simp); omega
  | N + 1, l, hn, h => by
    by_cases hm : (N : Int) ∈ l
    · have h1 := nodup_len N (l.erase (N : Int)) (hn.erase _) (fun x hx => by
        have h2 := h x (List.mem_of_mem_erase hx)
        have h3 : x ≠ (N : Int) := ((List.Nodup.mem_erase_iff hn).1 hx).1
        omega)
      rw [List.length_erase_of_mem hm] at h1
      omega
    · have h1 := nodup_len N l hn (fun x hx => by
        have h2 := h x hx
        have h3 : x ≠ (N : Int) := fun e => hm (e ▸ hx)
        omega)
      omega

/-- All numbers are from a least one on, and less than the length. -/
def In (least : Int) (l : List Int) : Prop := ∀ i, i < l.length → least ≤ nth l (i : Int) ∧ nth l (i : Int) < (l.length : Int)
instance (a : Int) (l : List Int) : Decidable (In a l) := by unfold In; infer_instance
/-- Numbers that are not less than 0 are different. -/
def Diff (l : List Int) : Prop := ∀ i, i < l.length → ∀ k, k < i → ¬ (nth l (k : Int) = nth l (i : Int) ∧ 0 ≤ nth l (i : Int))
instance (l : List Int) : Decidable (Diff l) := by unfold Diff; infer_instance
def Ok (least : Int) (l : List Int) : Prop := 1 ≤ l.length ∧ l.length ≤ 10 ∧ In least l ∧ Diff l
instance (a : Int) (l : List Int) : Decidable (Ok a l) := by unfold Ok; infer_instance
def check (l : List Int) (least : Int) : Int := if l.length < 1 ∨ 10 < l.length then 6 else if ¬ In least l then 3 else if ¬ Diff l then 11 else 0
theorem check_iff {l : List Int} {a : Int} : check l a = 0 ↔ Ok a l := by
  unfold check Ok
  split
  · rename_i h; exact ⟨fun h2 => by omega, fun h2 => by omega⟩
  · rename_i h
    split
    · rename_i h2; exact ⟨fun h3 => by omega, fun h3 => absurd h3.2.2.1 h2⟩
    · rename_i h2
      split
      · rename_i h3; exact ⟨fun h4 => by omega, fun h4 => absurd h4.2.2.2 h3⟩
      · rename_i h3; exact ⟨fun _ => ⟨by omega, by omega, Classical.not_not.1 h2, Classical.not_not.1 h3⟩, fun _ => rfl⟩
theorem ck1 {l : List Int} {a : Int} (h : l.length < 1 ∨ 10 < l.length) : check l a = 6 := if_pos h
theorem ck2 {l : List Int} {a : Int} (h : ¬ (l.length < 1 ∨ 10 < l.length)) (h2 : ¬ In a l) : check l a = 3 := by unfold check; rw [if_neg h, if_pos h2]
theorem ck3 {l : List Int} {a : Int} (h : ¬ (l.length < 1 ∨ 10 < l.length)) (h2 : In a l) (h3 : ¬ Diff l) : check l a = 11 := by unfold check; rw [if_neg h, if_neg (fun k => k h2), if_pos h3]
theorem ck4 {l : List Int} {a : Int} (h : ¬ (l.length < 1 ∨ 10 < l.length)) (h2 : In a l) (h3 : Diff l) : check l a = 0 := by unfold check; rw [if_neg h, if_neg (fun k => k h2), if_neg (fun k => k h3)]

/-- Valid joints: so many flutes, each number once. -/
abbrev J (l : List Int) : Prop := Ok 0 l
theorem J.nth {l : List Int} (h : J l) {x : Int} (h0 : 0 ≤ x) (h1 : x < (l.length : Int)) : 0 ≤ Fip.nth l x ∧ Fip.nth l x < (l.length : Int) := by
  have h2 := h.2.2.1 x.toNat (by omega)
  rwa [show ((x.toNat : Nat) : Int) = x by omega] at h2
theorem J.inj {l : List Int} (h : J l) {x y : Int} (h0 : 0 ≤ x) (h1 : x < (l.length : Int)) (k0 : 0 ≤ y) (k1 : y < (l.length : Int)) (e : Fip.nth l x = Fip.nth l y) : x = y := by
  have hx := h.nth h0 h1
  have hy := h.nth k0 k1
  have d := h.2.2.2
  rcases Int.lt_trichotomy x y with h2 | h2 | h2
  · have := d y.toNat (by omega) x.toNat (by omega)
    rw [show ((x.toNat : Nat) : Int) = x by omega, show ((y.toNat : Nat) : Int) = y by omega] at this
    exact absurd ⟨e, hy.1⟩ this
  · exact h2
  · have := d x.toNat (by omega) y.toNat (by omega)
    rw [show ((x.toNat : Nat) : Int) = x by omega, show ((y.toNat : Nat) : Int) = y by omega] at this
    exact absurd ⟨e.symm, hx.1⟩ this

/-- From a flute on, so often to where its joint belongs. -/
def it (l : List Int) : Nat → Int → Int
  | 0, a => a
  | k + 1, a => nth l (it l k a)
theorem it_add (l : List Int) (a : Nat) (x : Int) : ∀ b, it l (b + a) x = it l b (it l a x)
  | 0 => by simp [it]
  | b + 1 => by rw [show b + 1 + a = (b + a) + 1 by omega, it, it, it_add l a x b]
theorem it_one (l : List Int) (x : Int) : it l 1 x = nth l x := rfl
theorem it_succ' (l : List Int) (k : Nat) (x : Int) : it l (k + 1) x = it l k (nth l x) := by rw [it_add l 1 x k, it_one]
section
variable {l : List Int} (h : J l) {a b : Int} (h0 : 0 ≤ a) (h1 : a < (l.length : Int))
include h h0 h1
theorem J.it : ∀ k, 0 ≤ S.it l k a ∧ S.it l k a < (l.length : Int)
  | 0 => ⟨h0, h1⟩
  | k + 1 => h.nth (J.it k).1 (J.it k).2
theorem J.it_inj (k0 : 0 ≤ b) (k1 : b < (l.length : Int)) : ∀ k, S.it l k a = S.it l k b → a = b
  | 0, e => e
  | k + 1, e => J.it_inj k0 k1 k (h.inj (h.it h0 h1 k).1 (h.it h0 h1 k).2 (h.it k0 k1 k).1 (h.it k0 k1 k).2 e)
theorem J.back {i j : Nat} (hij : i < j) (e : S.it l i a = S.it l j a) : S.it l (j - i) a = a := by
  rw [show j = i + (j - i) by omega, it_add] at e
  have h2 := h.it h0 h1 (j - i)
  exact (h.it_inj h0 h1 h2.1 h2.2 i e).symm
theorem J.per_ex : ∃ p, p < l.length ∧ S.it l (p + 1) a = a := by
  have hnn : ¬ ((List.range (l.length + 1)).map fun k => S.it l k a).Nodup := fun hn => by
    have := nodup_len l.length _ hn (fun x hx => by
      obtain ⟨k, _, rfl⟩ := List.mem_map.1 hx
      exact h.it h0 h1 k)
    simp at this
    omega
  rw [List.nodup_iff_pairwise_ne, List.pairwise_iff_getElem] at hnn
  simp only [Classical.not_forall] at hnn
  obtain ⟨i, j, hi, hj, hij, e⟩ := hnn
  simp only [List.length_map, List.length_range] at hi hj
  simp only [List.getElem_map, List.getElem_range, ne_eq, Classical.not_not] at e
  refine ⟨j - i - 1, by omega, ?_⟩
  rw [show j - i - 1 + 1 = j - i by omega]
  exact h.back h0 h1 hij e
end
/-- How many flutes are on a circle. -/
def per (l : List Int) (a : Int) : Nat := (List.range l.length).findIdx (fun p => decide (it l (p + 1) a = a)) + 1
section
variable {l : List Int} (h : J l) {a b : Int} (h0 : 0 ≤ a) (h1 : a < (l.length : Int))
include h h0 h1
theorem J.per_at : S.it l (per l a) a = a ∧ per l a ≤ l.length := by
  obtain ⟨p, hp, he⟩ := h.per_ex h0 h1
  have hlt : (List.range l.length).findIdx (fun p => decide (S.it l (p + 1) a = a)) < (List.range l.length).length := List.findIdx_lt_length_of_exists ⟨p, List.mem_range.2 hp, decide_eq_true he⟩
  have h2 := List.findIdx_getElem (w := hlt)
  simp only [List.getElem_range, decide_eq_true_eq] at h2
  rw [List.length_range] at hlt
  exact ⟨h2, hlt⟩
omit h h0 h1 in
theorem per_pos : 1 ≤ per l a := Nat.le_add_left _ _
omit h h0 h1 in
theorem per_min {k : Nat} (k1 : 1 ≤ k) (hk : k < per l a) : S.it l k a ≠ a := fun e => by
  unfold per at hk
  have hlt : k - 1 < (List.range l.length).findIdx (fun p => decide (S.it l (p + 1) a = a)) := by omega
  have h2 := List.not_of_lt_findIdx hlt
  simp only [List.getElem_range, decide_eq_false_iff_not] at h2
  rw [show k - 1 + 1 = k by omega] at h2
  exact absurd (by simpa using h2) (fun h3 => by simp [e] at h3)
theorem J.per_mul : ∀ m, S.it l (per l a * m) a = a
  | 0 => rfl
  | m + 1 => by rw [show per l a * (m + 1) = per l a * m + per l a from Nat.mul_succ _ _, it_add, (h.per_at h0 h1).1, J.per_mul m]
theorem J.it_mod (k : Nat) : S.it l (k % per l a) a = S.it l k a := by
  have e : k = k % per l a + per l a * (k / per l a) := (Nat.mod_add_div _ _).symm
  calc S.it l (k % per l a) a = S.it l (k % per l a) (S.it l (per l a * (k / per l a)) a) := by rw [h.per_mul h0 h1]
    _ = S.it l (k % per l a + per l a * (k / per l a)) a := (it_add _ _ _ _).symm
    _ = S.it l k a := by rw [← e]
theorem J.it_eq {i j : Nat} (hi : i < per l a) (hj : j < per l a) (e : S.it l i a = S.it l j a) : i = j := by
  rcases Nat.lt_trichotomy i j with h2 | h2 | h2
  · exact absurd (h.back h0 h1 h2 e) (per_min (by omega) (by omega))
  · exact h2
  · exact absurd (h.back h0 h1 h2 e.symm) (per_min (by omega) (by omega))
theorem J.it_self {k : Nat} : S.it l k a = a ↔ k % per l a = 0 := by
  have hp := per_pos (l := l) (a := a)
  rw [← h.it_mod h0 h1 k]
  refine ⟨fun e => h.it_eq h0 h1 (Nat.mod_lt _ hp) hp e, fun e => by rw [e]; rfl⟩
end
/-- The circle on which a flute is, from it on. -/
def circ (l : List Int) (a : Int) : List Int := (List.range (per l a)).map fun k => it l k a
theorem circ_length {l : List Int} {a : Int} : (circ l a).length = per l a := by simp [circ]
theorem nth_circ {l : List Int} {a : Int} {k : Nat} (hk : k < per l a) : nth (circ l a) (k : Int) = it l k a := by
  rw [nth_nat (by rw [circ_length]; exact hk)]
  simp [circ]
/-- A flute leads to another one. -/
def Rch (l : List Int) (i j : Int) : Prop := ∃ k, it l k i = j
theorem Rch.refl {l : List Int} (i : Int) : Rch l i i := ⟨0, rfl⟩
theorem Rch.trans {l : List Int} {i j k : Int} (h1 : Rch l i j) (h2 : Rch l j k) : Rch l i k := by
  obtain ⟨a, rfl⟩ := h1
  obtain ⟨b, rfl⟩ := h2
  exact ⟨b + a, it_add _ _ _ _⟩
theorem Rch.step {l : List Int} {i j : Int} (h : Rch l i j) : Rch l i (nth l j) := h.trans ⟨1, rfl⟩
section
variable {l : List Int} (h : J l) {a b : Int} (h0 : 0 ≤ a) (h1 : a < (l.length : Int))
include h h0 h1
theorem J.symm (r : Rch l a b) : Rch l b a := by
  obtain ⟨k, rfl⟩ := r
  refine ⟨per l a * (k + 1) - k, ?_⟩
  have hp := per_pos (l := l) (a := a)
  have : k ≤ per l a * (k + 1) := Nat.le_trans (Nat.le_succ k) (Nat.le_mul_of_pos_left _ hp)
  rw [← it_add, show per l a * (k + 1) - k + k = per l a * (k + 1) by omega, h.per_mul h0 h1]
theorem J.rin (r : Rch l a b) : 0 ≤ b ∧ b < (l.length : Int) := by
  obtain ⟨k, rfl⟩ := r
  exact h.it h0 h1 k
theorem J.mem_circ : b ∈ circ l a ↔ Rch l a b := by
  unfold circ
  rw [List.mem_map]
  constructor
  · rintro ⟨k, _, rfl⟩; exact ⟨k, rfl⟩
  · rintro ⟨k, rfl⟩; exact ⟨k % per l a, List.mem_range.2 (Nat.mod_lt _ per_pos), h.it_mod h0 h1 k⟩
theorem J.circ_nodup : (circ l a).Nodup := by
  unfold circ
  rw [List.nodup_iff_pairwise_ne, List.pairwise_map]
  refine List.Pairwise.imp_of_mem ?_ (List.nodup_range (n := per l a))
  intro i j hi hj hne e
  exact hne (h.it_eq h0 h1 (List.mem_range.1 hi) (List.mem_range.1 hj) e)
theorem J.per_rch (r : Rch l a b) : per l b = per l a := by
  have hb := h.rin h0 h1 r
  have key : ∀ k, S.it l k a = a ↔ S.it l k b = b := fun k => by
    obtain ⟨m, rfl⟩ := r
    rw [← it_add, Nat.add_comm, it_add]
    constructor
    · intro e; rw [e]
    · intro e; exact h.it_inj (h.it h0 h1 k).1 (h.it h0 h1 k).2 h0 h1 m e
  have ha := h.per_at h0 h1
  have hb2 := h.per_at hb.1 hb.2
  refine Nat.le_antisymm (Nat.le_of_not_lt fun hlt => per_min per_pos hlt ((key _).1 ha.1)) (Nat.le_of_not_lt fun hlt => per_min per_pos hlt ((key _).2 hb2.1))
end
/-- It is the least one of its circle. -/
def isMin (l : List Int) (i : Int) : Bool := decide (∀ k, k < per l i → i ≤ it l k i)
theorem J.isMin {l : List Int} (h : J l) {i : Int} (h0 : 0 ≤ i) (h1 : i < (l.length : Int)) : S.isMin l i = true ↔ ∀ j, Rch l i j → i ≤ j := by
  unfold S.isMin
  rw [decide_eq_true_eq]
  constructor
  · rintro h2 j ⟨k, rfl⟩
    have := h2 (k % per l i) (Nat.mod_lt _ per_pos)
    rwa [h.it_mod h0 h1] at this
  · intro h2 k _
    exact h2 _ ⟨k, rfl⟩
def mins (l : List Int) : List Nat := (List.range l.length).filter fun i : Nat => isMin l (i : Int)
def circles (l : List Int) : List (List Int) := (mins l).map fun i : Nat => circ l (i : Int)
/-- How many circles there are. -/
def cyc (l : List Int) : Nat := (mins l).length
/-- The least of a list. -/
def minTo (c : List Int) : Nat → Int
  | 0 => nth c 0
  | k + 1 => min (minTo c k) (nth c ((k : Int) + 1))
def leastTo (c : List Int) : Nat → Int
  | 0 => nth c 0
  | k + 1 => min (leastTo c k) (nth c (k : Int))
theorem minTo_lt {c : List Int} {i : Int} : ∀ k, minTo c k < i ↔ ∃ j, j ≤ k ∧ nth c (j : Int) < i
  | 0 => ⟨fun h => ⟨0, Nat.le_refl _, h⟩, fun ⟨j, hj, h⟩ => by
      have : j = 0 := by omega
      subst this
      exact h⟩
  | k + 1 => by
    have ih := minTo_lt (c := c) (i := i) k
    simp only [minTo]
    constructor
    · intro h
      by_cases h2 : minTo c k < i
      · obtain ⟨j, hj, h3⟩ := ih.1 h2; exact ⟨j, by omega, h3⟩
      · exact ⟨k + 1, Nat.le_refl _, by push_cast; omega⟩
    · rintro ⟨j, hj, h⟩
      by_cases h2 : j ≤ k
      · have := ih.2 ⟨j, h2, h⟩; omega
      · have : j = k + 1 := by omega
        subst this
        push_cast at h
        omega
theorem leastTo_lt {c : List Int} {i : Int} : ∀ k, leastTo c k < i ↔ (nth c 0 < i ∨ ∃ j, j < k ∧ nth c (j : Int) < i)
  | 0 => ⟨fun h => .inl h, fun h => by
      rcases h with h | ⟨j, hj, _⟩
      · exact h
      · exact absurd hj (Nat.not_lt_zero _)⟩
  | k + 1 => by
    have ih := leastTo_lt (c := c) (i := i) k
    simp only [leastTo]
    constructor
    · intro h
      by_cases h2 : leastTo c k < i
      · rcases ih.1 h2 with h3 | ⟨j, hj, h3⟩
        · exact .inl h3
        · exact .inr ⟨j, by omega, h3⟩
      · exact .inr ⟨k, Nat.lt_succ_self _, by omega⟩
    · intro h
      by_cases h2 : leastTo c k < i
      · omega
      · rcases h with h | ⟨j, hj, h⟩
        · exact absurd (ih.2 (.inl h)) h2
        · by_cases h3 : j < k
          · exact absurd (ih.2 (.inr ⟨j, h3, h⟩)) h2
          · have : j = k := by omega
            subst this
            omega
theorem J.min_circ {l : List Int} {i : Int} : minTo (circ l i) ((circ l i).length - 1) < i ↔ ¬ S.isMin l i = true := by
  rw [minTo_lt, circ_length]
  unfold S.isMin
  have hp := per_pos (l := l) (a := i)
  rw [decide_eq_true_eq, Classical.not_forall]
  constructor
  · rintro ⟨j, hj, h⟩
    refine ⟨j, fun h2 => ?_⟩
    rw [nth_circ (by omega)] at h
    have := h2 (by omega)
    omega
  · rintro ⟨j, hj⟩
    rw [Classical.not_imp] at hj
    exact ⟨j, by omega, by rw [nth_circ hj.1]; omega⟩
theorem J.least_circ {l : List Int} {i : Int} : leastTo (circ l i) (circ l i).length = i ↔ S.isMin l i = true := by
  have hp := per_pos (l := l) (a := i)
  have h0 : Fip.nth (circ l i) 0 = i := by
    have := nth_circ (l := l) (a := i) (k := 0) hp
    simpa [S.it] using this
  have hge : ¬ i < leastTo (circ l i) (circ l i).length := fun h => by
    have := (leastTo_lt (c := circ l i) (i := i + 1) (circ l i).length).2 (.inl (by omega))
    omega
  have hlt := leastTo_lt (c := circ l i) (i := i) (circ l i).length
  rw [circ_length] at *
  unfold S.isMin
  rw [decide_eq_true_eq]
  constructor
  · intro e k hk
    refine Int.le_of_not_gt fun h => ?_
    have := hlt.2 (.inr ⟨k, hk, by rw [nth_circ hk]; exact h⟩)
    omega
  · intro h
    have : ¬ leastTo (circ l i) (per l i) < i := fun h2 => by
      rcases hlt.1 h2 with h3 | ⟨j, hj, h3⟩
      · omega
      · rw [nth_circ hj] at h3
        have := h j hj
        omega
    omega
theorem ext_nth {l m : List Int} (hl : l.length = m.length) (h : ∀ i, i < l.length → nth l (i : Int) = nth m (i : Int)) : l = m :=
  List.ext_getElem hl fun i h1 h2 => by rw [← nth_nat h1, ← nth_nat h2]; exact h i h1
/-- The first k flutes of a circle. -/
def circTo (l : List Int) (a : Int) (k : Nat) : List Int := (List.range k).map fun k => it l k a
theorem circTo_succ {l : List Int} {a : Int} {k : Nat} : circTo l a (k + 1) = circTo l a k ++ [it l k a] := by simp [circTo, List.range_succ]
theorem circTo_length {l : List Int} {a : Int} {k : Nat} : (circTo l a k).length = k := by simp [circTo]
theorem per_more {l : List Int} {a : Int} {k : Nat} (hne : ¬ it l (k + 1) a = a) (h : J l) (h0 : 0 ≤ a) (h1 : a < (l.length : Int)) (hk : k < per l a) : k + 1 < per l a :=
  Nat.lt_of_le_of_ne hk fun e => hne (by rw [e]; exact (h.per_at h0 h1).1)
theorem per_done {l : List Int} {a : Int} {k : Nat} (he : it l (k + 1) a = a) (hk : k < per l a) : per l a = k + 1 :=
  Nat.le_antisymm (Nat.le_of_not_lt fun h => per_min (by omega) h he) hk
/-- One habit behind another one. -/
def behindTo (l m : List Int) (k : Nat) : List Int := (List.range k).map fun i : Nat => nth m (nth l (i : Int))
def behind (l m : List Int) : List Int := behindTo l m l.length
theorem behindTo_succ {l m : List Int} {k : Nat} : behindTo l m (k + 1) = behindTo l m k ++ [nth m (nth l (k : Int))] := by simp [behindTo, List.range_succ]
theorem behindTo_length {l m : List Int} {k : Nat} : (behindTo l m k).length = k := by simp [behindTo]
/-- Where a number is; -1: nowhere. -/
def place (l : List Int) (x : Int) : Int := idx (fun y => decide (y = x)) l
theorem place_iff {l : List Int} {x : Int} : 0 ≤ place l x ↔ ∃ i, i < l.length ∧ nth l (i : Int) = x := by
  have := has_iff (p := fun y : Int => decide (y = x)) (l := l)
  unfold has at this
  rw [decide_eq_true_eq] at this
  unfold place
  rw [this]
  simp
theorem nth_take {l : List Int} {i k : Nat} (hk : k < i) (hi : i ≤ l.length) : nth (l.take i) (k : Int) = nth l (k : Int) := by
  rw [nth_nat (by rw [List.length_take]; omega), nth_nat (by omega), List.getElem_take]
theorem not_diff {l : List Int} {k : Nat} (hk : k < l.length) (h0 : 0 ≤ nth l (k : Int)) (h : 0 ≤ place (l.take (k : Int).toNat) (nth l (k : Int))) : ¬ Diff l := by
  rw [Int.toNat_natCast] at h
  obtain ⟨i, hi, e⟩ := place_iff.1 h
  rw [List.length_take] at hi
  rw [nth_take (by omega) (by omega)] at e
  exact fun hd => hd k hk i (by omega) ⟨e, h0⟩
theorem diff_of {l : List Int} (h : ∀ i, i < l.length → ¬ (0 ≤ nth l (i : Int) ∧ 0 ≤ place (l.take (i : Int).toNat) (nth l (i : Int)))) : Diff l := fun i hi k hk ⟨e, h0⟩ =>
  h i hi ⟨h0, by rw [Int.toNat_natCast]; exact place_iff.2 ⟨k, by rw [List.length_take]; omega, by rw [nth_take hk (by omega)]; exact e⟩⟩
end S
end Go.Fip

set_option linter.unusedVariables false
set_option linter.unusedSimpArgs false
set_option linter.unusedSectionVars false
set_option linter.unnecessarySimpa false
namespace Go.Fip
namespace S

theorem mem_mins {l : List Int} {i : Nat} : i ∈ mins l ↔ i < l.length ∧ isMin l (i : Int) = true := by
  unfold mins
  rw [List.mem_filter, List.mem_range]
theorem mins_nodup (l : List Int) : (mins l).Nodup := List.Nodup.sublist List.filter_sublist List.nodup_range
theorem J.has_min {l : List Int} (h : J l) : ∀ (n : Nat), n < l.length → ∃ i, i ∈ mins l ∧ Rch l (i : Int) (n : Int) := by
  intro n
  induction n using Nat.strongRecOn with
  | ind n ih =>
    intro hn
    by_cases hm : S.isMin l (n : Int) = true
    · exact ⟨n, mem_mins.2 ⟨hn, hm⟩, Rch.refl _⟩
    · rw [h.isMin (by omega) (by omega), Classical.not_forall] at hm
      obtain ⟨j, hj⟩ := hm
      rw [Classical.not_imp] at hj
      have hr := h.rin (by omega) (by omega) hj.1
      obtain ⟨i, hi, hri⟩ := ih j.toNat (by omega) (by omega)
      rw [show ((j.toNat : Nat) : Int) = j by omega] at hri
      exact ⟨i, hi, hri.trans (h.symm (by omega) (by omega) hj.1)⟩
theorem J.min_of {l : List Int} (h : J l) {a : Int} (h0 : 0 ≤ a) (h1 : a < (l.length : Int)) : ∃ i : Nat, i ∈ mins l ∧ Rch l (i : Int) a := by
  obtain ⟨i, hi, hr⟩ := h.has_min a.toNat (by omega)
  rw [show ((a.toNat : Nat) : Int) = a by omega] at hr
  exact ⟨i, hi, hr⟩
theorem J.min_uni {l : List Int} (h : J l) {i j : Nat} {x : Int} (hi : i ∈ mins l) (hj : j ∈ mins l) (ri : Rch l (i : Int) x) (rj : Rch l (j : Int) x) : i = j := by
  obtain ⟨hi1, hi2⟩ := mem_mins.1 hi
  obtain ⟨hj1, hj2⟩ := mem_mins.1 hj
  have a := (h.isMin (by omega) (by omega)).1 hi2 _ (ri.trans (h.symm (by omega) (by omega) rj))
  have b := (h.isMin (by omega) (by omega)).1 hj2 _ (rj.trans (h.symm (by omega) (by omega) ri))
  omega
/-- How many of the first k flutes are the least ones of their circles. -/
def minsTo (l : List Int) (k : Nat) : Nat := ((List.range k).filter fun i : Nat => isMin l (i : Int)).length
theorem minsTo_t {l : List Int} {k : Nat} (h : isMin l (k : Int) = true) : minsTo l (k + 1) = minsTo l k + 1 := by
  unfold minsTo; rw [List.range_succ, List.filter_append]; simp [h]
theorem minsTo_f {l : List Int} {k : Nat} (h : ¬ isMin l (k : Int) = true) : minsTo l (k + 1) = minsTo l k := by
  unfold minsTo; rw [List.range_succ, List.filter_append]; simp [h]
theorem mins_split {l : List Int} {k : Nat} (hk : k < l.length) (h : isMin l (k : Int) = true) : ∃ t, mins l = ((List.range k).filter fun i : Nat => isMin l (i : Int)) ++ k :: t := by
  have e : List.range l.length = List.range k ++ (List.range (l.length - k)).map (k + ·) := by
    rw [← List.range_add]; congr 1; omega
  obtain ⟨n, hn⟩ : ∃ n, l.length - k = n + 1 := ⟨l.length - k - 1, by omega⟩
  unfold mins
  rw [e, List.filter_append, hn, List.range_succ_eq_map, List.map_cons, List.filter_cons_of_pos (by simpa using h)]
  exact ⟨_, rfl⟩
theorem minsTo_lt {l : List Int} {k : Nat} (hk : k < l.length) (h : isMin l (k : Int) = true) : minsTo l k < cyc l := by
  obtain ⟨t, e⟩ := mins_split hk h
  unfold minsTo cyc
  rw [e]
  simp
theorem mins_at {l : List Int} {k : Nat} (hk : k < l.length) (h : isMin l (k : Int) = true) : (mins l).getD (minsTo l k) 0 = k := by
  obtain ⟨t, e⟩ := mins_split hk h
  unfold minsTo
  rw [e, List.getD_eq_getElem?_getD, List.getElem?_append_right (Nat.le_refl _), Nat.sub_self]
  rfl
/-- All flutes, by their numbers. -/
def right (n : Nat) : List Int := (List.range n).map fun k : Nat => (k : Int)
theorem mem_right {n : Nat} {x : Int} : x ∈ right n ↔ 0 ≤ x ∧ x < (n : Int) := by
  unfold right
  rw [List.mem_map]
  constructor
  · rintro ⟨k, hk, rfl⟩
    have := List.mem_range.1 hk
    omega
  · intro h
    exact ⟨x.toNat, List.mem_range.2 (by omega), by omega⟩
theorem right_nodup (n : Nat) : (right n).Nodup := by
  unfold right
  rw [List.nodup_iff_pairwise_ne, List.pairwise_map]
  exact (List.nodup_range (n := n)).imp fun h e => h (by omega)
theorem right_succ {n : Nat} : right (n + 1) = right n ++ [(n : Int)] := by simp [right, List.range_succ]
theorem right_length (n : Nat) : (right n).length = n := by simp [right]
/-- The first k flutes, and zeros behind them. -/
def rightTo (k n : Nat) : List Int := right k ++ List.replicate (n - k) 0
theorem rightTo_length {k n : Nat} (h : k ≤ n := by omega) : (rightTo k n).length = n := by simp [rightTo, right_length]; omega
theorem rightTo_zero {n : Nat} : List.replicate n 0 = rightTo 0 n := by simp [rightTo, right]
theorem rightTo_set {k n : Nat} (h : k < n) : (rightTo k n).set k (k : Int) = rightTo (k + 1) n := by
  unfold rightTo
  rw [List.set_append_right _ _ (by rw [right_length]; exact Nat.le_refl _), right_length, Nat.sub_self, right_succ, show n - k = (n - (k + 1)) + 1 by omega, List.replicate_succ]
  simp
theorem rightTo_done {n : Nat} : rightTo n n = right n := by simp [rightTo]
/-- Each flute lies on just one circle. -/
theorem J.flat {l : List Int} (h : J l) : (circles l).flatten.Perm (right l.length) := by
  refine (List.perm_ext_iff_of_nodup ?_ (right_nodup _)).2 fun x => ?_
  · rw [List.nodup_iff_pairwise_ne, List.pairwise_flatten]
    refine ⟨fun c hc => ?_, ?_⟩
    · obtain ⟨i, hi, rfl⟩ := List.mem_map.1 hc
      have := (mem_mins.1 hi).1
      exact h.circ_nodup (by omega) (by omega)
    · unfold circles
      rw [List.pairwise_map]
      refine List.Pairwise.imp_of_mem ?_ (mins_nodup l)
      intro i j hi hj hne x hx y hy e
      subst e
      have h1 := (mem_mins.1 hi).1
      have h2 := (mem_mins.1 hj).1
      exact hne (h.min_uni hi hj ((h.mem_circ (by omega) (by omega)).1 hx) ((h.mem_circ (by omega) (by omega)).1 hy))
  · rw [mem_right, List.mem_flatten]
    constructor
    · rintro ⟨c, hc, hx⟩
      obtain ⟨i, hi, rfl⟩ := List.mem_map.1 hc
      have := (mem_mins.1 hi).1
      exact h.rin (by omega) (by omega) ((h.mem_circ (by omega) (by omega)).1 hx)
    · intro hx
      obtain ⟨i, hi, hr⟩ := h.min_of hx.1 hx.2
      have := (mem_mins.1 hi).1
      exact ⟨_, List.mem_map.2 ⟨i, hi, rfl⟩, (h.mem_circ (by omega) (by omega)).2 hr⟩
/-- How many circles of a length there are. -/
def many (l : List Int) (p : Nat) : Nat := (mins l).countP fun i : Nat => decide (per l (i : Int) = p)
theorem sum_if {α : Type} (p : Nat) (q : α → Bool) : ∀ L : List α, (L.map fun i => if q i = true then p else 0).sum = p * L.countP q
  | [] => rfl
  | x :: L => by
    rw [List.map_cons, List.sum_cons, sum_if p q L, List.countP_cons]
    split <;> simp [Nat.mul_add, Nat.add_comm]
theorem J.many {l : List Int} (h : J l) (p : Nat) : (right l.length).countP (fun a => decide (per l a = p)) = p * S.many l p := by
  rw [← h.flat.countP_eq, List.countP_flatten, circles, List.map_map, S.many, ← sum_if]
  congr 1
  refine List.map_congr_left fun i hi => ?_
  have hi1 := (mem_mins.1 hi).1
  have hall : ∀ x ∈ circ l (i : Int), per l x = per l (i : Int) := fun x hx => h.per_rch (by omega) (by omega) ((h.mem_circ (by omega) (by omega)).1 hx)
  simp only [Function.comp, decide_eq_true_eq]
  split
  · rename_i hp
    rw [← hp, ← circ_length, List.countP_eq_length]
    intro x hx
    simp [circ_length, hall x hx]
  · rename_i hp
    rw [List.countP_eq_zero]
    intro x hx
    simp [hall x hx, hp]
theorem J.sum_per {l : List Int} (h : J l) : ((mins l).map fun i : Nat => per l (i : Int)).sum = l.length := by
  have := h.flat.length_eq
  rw [List.length_flatten, right_length, circles, List.map_map] at this
  rw [← this]
  congr 1
  refine List.map_congr_left fun i _ => ?_
  simp [circ_length]

/-- Joints behind an exchange. -/
def swp (l : List Int) (a b : Int) : List Int := (l.set a.toNat (nth l b)).set b.toNat (nth l a)
theorem swp_length {l : List Int} {a b : Int} : (swp l a b).length = l.length := by simp [swp]
theorem nth_set' {l : List Int} {i x : Int} {v : Int} (h0 : 0 ≤ i) (hi : i < (l.length : Int)) (k0 : 0 ≤ x) (k1 : x < (l.length : Int)) : nth (l.set i.toNat v) x = if x = i then v else nth l x := by
  unfold nth
  rw [List.getD_eq_getElem?_getD, List.getD_eq_getElem?_getD, List.getElem?_set]
  by_cases e : x = i
  · subst e; rw [if_pos rfl, if_pos (by omega), if_pos rfl]; rfl
  · rw [if_neg (by omega), if_neg e]
theorem nth_swp {l : List Int} {a b x : Int} (h0 : 0 ≤ a) (h1 : a < (l.length : Int)) (k0 : 0 ≤ b) (k1 : b < (l.length : Int)) (x0 : 0 ≤ x) (x1 : x < (l.length : Int)) : nth (swp l a b) x = if x = b then nth l a else if x = a then nth l b else nth l x := by
  unfold swp
  rw [nth_set' k0 (by simpa using k1) x0 (by simpa using x1), nth_set' h0 h1 x0 x1]
theorem swp_swp {l : List Int} {a b : Int} (h0 : 0 ≤ a) (h1 : a < (l.length : Int)) (k0 : 0 ≤ b) (k1 : b < (l.length : Int)) : swp (swp l a b) a b = l := by
  refine List.ext_getElem (by simp [swp_length]) fun i hi hi2 => ?_
  have e := nth_swp (l := swp l a b) (a := a) (b := b) (x := (i : Int)) h0 (by simpa [swp_length] using h1) k0 (by simpa [swp_length] using k1) (by omega) (by simp [swp_length]; omega)
  rw [nth_nat hi, nth_swp h0 h1 k0 k1 h0 h1, nth_swp h0 h1 k0 k1 k0 k1, nth_swp h0 h1 k0 k1 (by omega) (by omega), nth_nat hi2] at e
  rw [e]
  have g : ∀ {y : Int}, (i : Int) = y → Fip.nth l y = l[i] := fun {y} e => by rw [← e, nth_nat hi2]
  split
  · rename_i hb
    split
    · rename_i ha; exact g (by omega)
    · simp [g hb]
  · split
    · rename_i ha; simp [g ha]
    · rfl
section
variable {l : List Int} (h : J l) {a b : Int} (h0 : 0 ≤ a) (h1 : a < (l.length : Int)) (k0 : 0 ≤ b) (k1 : b < (l.length : Int))
include h h0 h1 k0 k1
theorem J.swp : J (S.swp l a b) := by
  have hv : ∀ x, 0 ≤ x → x < (l.length : Int) → 0 ≤ Fip.nth (S.swp l a b) x ∧ Fip.nth (S.swp l a b) x < (l.length : Int) := fun x x0 x1 => by
    rw [nth_swp h0 h1 k0 k1 x0 x1]
    have := h.nth h0 h1
    have := h.nth k0 k1
    have := h.nth x0 x1
    split <;> (try split) <;> assumption
  refine ⟨by rw [swp_length]; exact h.1, by rw [swp_length]; exact h.2.1, fun i hi => ?_, fun i hi k hk => ?_⟩
  · rw [swp_length] at hi ⊢
    exact hv i (by omega) (by omega)
  · rw [swp_length] at hi
    rintro ⟨e, _⟩
    rw [nth_swp h0 h1 k0 k1 (by omega) (by omega), nth_swp h0 h1 k0 k1 (by omega) (by omega)] at e
    have inj := fun (x y : Int) (a1 : 0 ≤ x) (a2 : x < (l.length : Int)) (a3 : 0 ≤ y) (a4 : y < (l.length : Int)) (q : Fip.nth l x = Fip.nth l y) => h.inj a1 a2 a3 a4 q
    split at e <;> split at e <;> (try split at e) <;> (try split at e) <;> (first | omega | (have := inj _ _ (by omega) (by omega) (by omega) (by omega) e; omega))
end
section
variable {l : List Int} (h : J l) {a b : Int} (h0 : 0 ≤ a) (h1 : a < (l.length : Int)) (k0 : 0 ≤ b) (k1 : b < (l.length : Int)) (hab : a ≠ b)
include h h0 h1 k0 k1
/-- From b's follower on, until b comes back. -/
theorem J.swp_walk (hn : ¬ Rch l a b) : ∀ k, k < per l b → S.it (S.swp l a b) (k + 1) a = S.it l (k + 1) b
  | 0, _ => by
    have e : a ≠ b := fun e => hn (e ▸ Rch.refl a)
    show Fip.nth (S.swp l a b) a = Fip.nth l b
    rw [nth_swp h0 h1 k0 k1 h0 h1, if_neg e, if_pos rfl]
  | k + 1, hk => by
    have ih := J.swp_walk hn k (by omega)
    show Fip.nth (S.swp l a b) (S.it (S.swp l a b) (k + 1) a) = Fip.nth l (S.it l (k + 1) b)
    have hi := h.it k0 k1 (k + 1)
    rw [ih, nth_swp h0 h1 k0 k1 hi.1 hi.2, if_neg (per_min (by omega) (by omega)), if_neg]
    intro e
    exact hn (h.symm k0 k1 ⟨k + 1, e⟩)
theorem J.swp_walk2 (hn : ¬ Rch l a b) : ∀ k, k < per l a → S.it (S.swp l a b) (k + 1) b = S.it l (k + 1) a
  | 0, _ => by
    show Fip.nth (S.swp l a b) b = Fip.nth l a
    rw [nth_swp h0 h1 k0 k1 k0 k1, if_pos rfl]
  | k + 1, hk => by
    have ih := J.swp_walk2 hn k (by omega)
    show Fip.nth (S.swp l a b) (S.it (S.swp l a b) (k + 1) b) = Fip.nth l (S.it l (k + 1) a)
    have hi := h.it h0 h1 (k + 1)
    rw [ih, nth_swp h0 h1 k0 k1 hi.1 hi.2, if_neg (fun e => hn ⟨k + 1, e⟩), if_neg (per_min (by omega) (by omega))]
omit k0 k1 in
/-- Each flute of a circle comes between 1 and its length. -/
theorem J.pos {y : Int} (r : Rch l a y) : ∃ k, k < per l a ∧ S.it l (k + 1) a = y := by
  obtain ⟨k, rfl⟩ := r
  have hp := per_pos (l := l) (a := a)
  have hm := h.it_mod h0 h1 k
  have hlt := Nat.mod_lt k hp
  rcases Nat.eq_zero_or_pos (k % per l a) with e | e
  · refine ⟨per l a - 1, by omega, ?_⟩
    rw [show per l a - 1 + 1 = per l a by omega, (h.per_at h0 h1).1, ← hm, e]
    rfl
  · exact ⟨k % per l a - 1, by omega, by rw [show k % per l a - 1 + 1 = k % per l a by omega, hm]⟩
/-- Two circles are made one. -/
theorem J.merge_from (hn : ¬ Rch l a b) {y : Int} : Rch (S.swp l a b) a y ↔ Rch l a y ∨ Rch l b y := by
  constructor
  · rintro ⟨k, rfl⟩
    induction k with
    | zero => exact .inl (Rch.refl _)
    | succ k ih =>
      have hi := (h.swp h0 h1 k0 k1).it h0 (by simpa [swp_length] using h1) k
      rw [swp_length] at hi
      show Rch l a (Fip.nth _ _) ∨ Rch l b (Fip.nth _ _)
      rw [nth_swp h0 h1 k0 k1 hi.1 hi.2]
      split
      · exact .inl ⟨1, rfl⟩
      · split
        · exact .inr ⟨1, rfl⟩
        · exact ih.imp Rch.step Rch.step
  · have hb : ∀ {z : Int}, Rch l b z → Rch (S.swp l a b) a z := fun {z} r => by
      obtain ⟨k, hk, rfl⟩ := h.pos k0 k1 r
      exact ⟨k + 1, h.swp_walk h0 h1 k0 k1 hn k hk⟩
    rintro (r | r)
    · obtain ⟨k, hk, rfl⟩ := h.pos h0 h1 r
      exact (hb (Rch.refl b)).trans ⟨k + 1, h.swp_walk2 h0 h1 k0 k1 hn k hk⟩
    · exact hb r
theorem J.merge_in (hn : ¬ Rch l a b) {x y : Int} (hx : Rch l a x ∨ Rch l b x) : Rch (S.swp l a b) x y ↔ Rch l a y ∨ Rch l b y := by
  have hJ := h.swp h0 h1 k0 k1
  have hx2 := (h.merge_from h0 h1 k0 k1 hn).2 hx
  rw [← h.merge_from h0 h1 k0 k1 hn]
  exact ⟨fun r => hx2.trans r, fun r => (hJ.symm h0 (by simpa [swp_length] using h1) hx2).trans r⟩
omit h0 h1 k0 k1 in
theorem J.swp_out (h0 : 0 ≤ a) (h1 : a < (l.length : Int)) (k0 : 0 ≤ b) (k1 : b < (l.length : Int)) {x y : Int} (x0 : 0 ≤ x) (x1 : x < (l.length : Int)) (hx : ¬ (Rch l a x ∨ Rch l b x)) : Rch (S.swp l a b) x y ↔ Rch l x y := by
  have e : ∀ k, S.it (S.swp l a b) k x = S.it l k x := fun k => by
    induction k with
    | zero => rfl
    | succ k ih =>
      have hi := h.it x0 x1 k
      show Fip.nth _ _ = Fip.nth _ _
      rw [ih, nth_swp h0 h1 k0 k1 hi.1 hi.2, if_neg, if_neg]
      · intro e; exact hx (.inl (h.symm x0 x1 ⟨k, e⟩))
      · intro e; exact hx (.inr (h.symm x0 x1 ⟨k, e⟩))
  unfold Rch
  simp only [e]
theorem J.merge (hn : ¬ Rch l a b) : cyc (S.swp l a b) + 1 = cyc l := by
  have hJ := h.swp h0 h1 k0 k1
  obtain ⟨p, hp, rp⟩ := h.min_of h0 h1
  obtain ⟨q, hq, rq⟩ := h.min_of k0 k1
  obtain ⟨hp1, hp2⟩ := mem_mins.1 hp
  obtain ⟨hq1, hq2⟩ := mem_mins.1 hq
  have rp' := h.symm (by omega) (by omega) rp
  have rq' := h.symm (by omega) (by omega) rq
  have hpq : p ≠ q := fun e => by subst e; exact hn (rp'.trans rq)
  have pm := (h.isMin (by omega) (by omega)).1 hp2
  have qm := (h.isMin (by omega) (by omega)).1 hq2
  have key : ∀ i : Nat, i < l.length → (S.isMin (S.swp l a b) (i : Int) = true ↔ S.isMin l (i : Int) = true ∧ i ≠ max p q) := fun i hi => by
    rw [hJ.isMin (by omega) (by rw [swp_length]; omega), h.isMin (by omega) (by omega)]
    by_cases hU : Rch l a (i : Int) ∨ Rch l b (i : Int)
    · constructor
      · intro hall
        have a1 := hall _ ((h.merge_in h0 h1 k0 k1 hn hU).2 (.inl rp'))
        have a2 := hall _ ((h.merge_in h0 h1 k0 k1 hn hU).2 (.inr rq'))
        refine ⟨fun j rj => hall j ((h.merge_in h0 h1 k0 k1 hn hU).2 (hU.imp (fun r => r.trans rj) (fun r => r.trans rj))), by omega⟩
      · rintro ⟨hall, hne⟩ j rj
        have hj := (h.merge_in h0 h1 k0 k1 hn hU).1 rj
        have hjm : (p : Int) ≤ j ∨ (q : Int) ≤ j := hj.imp (fun r => pm _ (rp.trans r)) (fun r => qm _ (rq.trans r))
        have hip : i = p ∨ i = q := hU.imp (fun r => h.min_uni (mem_mins.2 ⟨hi, (h.isMin (by omega) (by omega)).2 hall⟩) hp (Rch.refl _) (rp.trans r)) (fun r => h.min_uni (mem_mins.2 ⟨hi, (h.isMin (by omega) (by omega)).2 hall⟩) hq (Rch.refl _) (rq.trans r))
        omega
    · have hne : i ≠ max p q := fun e => by
        rcases (by omega : i = p ∨ i = q) with rfl | rfl
        · exact hU (.inl rp')
        · exact hU (.inr rq')
      simp only [h.swp_out h0 h1 k0 k1 (show (0 : Int) ≤ (i : Int) by omega) (by omega) hU]
      exact ⟨fun r => ⟨r, hne⟩, fun r => r.1⟩
  have e : mins (S.swp l a b) = (mins l).filter (fun i => i != max p q) := by
    unfold mins
    rw [swp_length, List.filter_filter]
    refine List.filter_congr fun i hi => ?_
    have := key i (List.mem_range.1 hi)
    rw [Bool.eq_iff_iff, this]
    simp [and_comm]
  have hm : max p q ∈ mins l := by
    rcases (by omega : max p q = p ∨ max p q = q) with e | e <;> rw [e] <;> assumption
  unfold cyc
  rw [e, ← (mins_nodup l).erase_eq_filter, List.length_erase_of_mem hm]
  have := List.length_pos_of_mem hm
  omega
/-- A circle is made two. -/
theorem J.split_not (hab : a ≠ b) (hr : Rch l a b) : ¬ Rch (S.swp l a b) a b := by
  obtain ⟨k, hk, hkb⟩ : ∃ k, k < per l a ∧ S.it l k a = b := by
    obtain ⟨k, rfl⟩ := hr
    exact ⟨k % per l a, Nat.mod_lt _ per_pos, h.it_mod h0 h1 k⟩
  have hk0 : 0 < k := Nat.pos_of_ne_zero fun e => hab (by subst e; exact hkb)
  have hat := (h.per_at h0 h1).1
  have inv : ∀ m, ∃ j, k < j ∧ j ≤ per l a ∧ S.it (S.swp l a b) m a = S.it l j a := fun m => by
    induction m with
    | zero => exact ⟨per l a, hk, Nat.le_refl _, hat.symm⟩
    | succ m ih =>
      obtain ⟨j, hj1, hj2, e⟩ := ih
      have hi := h.it h0 h1 j
      show ∃ j, _ ∧ _ ∧ Fip.nth _ _ = _
      rw [e, nth_swp h0 h1 k0 k1 hi.1 hi.2]
      rcases Nat.lt_or_eq_of_le hj2 with h2 | h2
      · rw [if_neg (fun e2 => absurd (h.it_eq h0 h1 h2 hk (e2.trans hkb.symm)) (by omega)), if_neg (per_min (by omega) h2)]
        exact ⟨j + 1, by omega, h2, rfl⟩
      · rw [h2, hat, if_neg hab, if_pos rfl, ← hkb]
        exact ⟨k + 1, by omega, by omega, rfl⟩
  rintro ⟨m, e⟩
  obtain ⟨j, hj1, hj2, e2⟩ := inv m
  rw [e, ← hkb] at e2
  rcases Nat.lt_or_eq_of_le hj2 with h2 | h2
  · exact absurd (h.it_eq h0 h1 hk h2 e2) (by omega)
  · rw [h2, hat] at e2
    exact absurd e2 (per_min (by omega) hk)
theorem J.split (hab : a ≠ b) (hr : Rch l a b) : cyc (S.swp l a b) = cyc l + 1 := by
  have := (h.swp h0 h1 k0 k1).merge h0 (by simpa [swp_length] using h1) k0 (by simpa [swp_length] using k1) (h.split_not h0 h1 k0 k1 hab hr)
  rw [swp_swp h0 h1 k0 k1] at this
  exact this.symm
theorem J.swp_cyc (hab : a ≠ b) : cyc (S.swp l a b) = cyc l + 1 ∨ cyc (S.swp l a b) + 1 = cyc l := by
  by_cases hr : Rch l a b
  · exact .inl (h.split h0 h1 k0 k1 hab hr)
  · exact .inr (h.merge h0 h1 k0 k1 hr)
end
theorem J.cyc_le {l : List Int} (h : J l) : cyc l ≤ l.length := by
  unfold cyc mins
  have := List.length_filter_le (fun i : Nat => S.isMin l (i : Int)) (List.range l.length)
  simpa using this
end S
end Go.Fip

set_option linter.unusedVariables false
set_option linter.unusedSimpArgs false
set_option linter.unusedSectionVars false
set_option linter.unnecessarySimpa false
namespace Go.Fip
namespace S
abbrev Pr := Int × Int

/-- The first flute in which a wrong joint is. -/
def wrongAt (l : List Int) : Option Nat := (List.range l.length).find? fun i : Nat => decide (nth l (i : Int) ≠ (i : Int))
theorem wrongAt_some {l : List Int} {i : Nat} : wrongAt l = some i ↔ i < l.length ∧ nth l (i : Int) ≠ (i : Int) ∧ ∀ j, j < i → nth l (j : Int) = (j : Int) := by
  unfold wrongAt
  rw [List.find?_range_eq_some]
  simp only [decide_eq_true_eq, List.mem_range, Bool.not_eq_true', decide_eq_false_iff_not, ne_eq, Classical.not_not]
  exact ⟨fun h => ⟨h.2.1, h.1, h.2.2⟩, fun h => ⟨h.2.1, h.1, h.2.2⟩⟩
theorem wrongAt_none {l : List Int} : wrongAt l = none ↔ ∀ i, i < l.length → nth l (i : Int) = (i : Int) := by
  unfold wrongAt
  rw [List.find?_range_eq_none]
  simp
theorem nth_right {n : Nat} {x : Int} (h0 : 0 ≤ x) (h1 : x < (n : Int)) : nth (right n) x = x := by
  have := nth_nat (l := right n) (i := x.toNat) (by rw [right_length]; omega)
  rw [show ((x.toNat : Nat) : Int) = x by omega] at this
  rw [this]
  simp [right]
  omega
theorem right_iff {l : List Int} : (∀ i, i < l.length → nth l (i : Int) = (i : Int)) ↔ l = right l.length := by
  constructor
  · intro h
    refine List.ext_getElem (by rw [right_length]) fun i hi hi2 => ?_
    rw [← nth_nat hi, ← nth_nat hi2, h i hi, nth_right (by omega) (by omega)]
  · intro h i hi
    rw [h, nth_right (by omega) (by omega)]
theorem right_J {n : Nat} (h0 : 1 ≤ n) (h1 : n ≤ 10) : J (right n) := by
  refine ⟨by rw [right_length]; exact h0, by rw [right_length]; exact h1, fun i hi => ?_, fun i hi k hk => ?_⟩
  · rw [right_length] at hi ⊢
    rw [nth_right (by omega) (by omega)]
    omega
  · rw [right_length] at hi
    rw [nth_right (by omega) (by omega), nth_right (by omega) (by omega)]
    omega
theorem cyc_all {l : List Int} (h : ∀ i, i < l.length → nth l (i : Int) = (i : Int)) : cyc l = l.length := by
  have e : ∀ (i : Nat), i < l.length → ∀ k, it l k (i : Int) = (i : Int) := fun i hi k => by
    induction k with
    | zero => rfl
    | succ k ih => show nth l _ = _; rw [ih]; exact h i hi
  unfold cyc mins
  rw [List.filter_eq_self.2 fun i hi => by
    unfold isMin
    exact decide_eq_true fun k _ => by rw [e i (List.mem_range.1 hi)]; exact Int.le_refl _]
  simp
theorem cyc_right {n : Nat} : cyc (right n) = n := by
  have := cyc_all (l := right n) fun i hi => nth_right (by omega) (by rw [right_length] at hi; omega)
  rwa [right_length] at this
section
variable {l : List Int} (h : J l) {i : Nat} (hi : i < l.length) (hw : Fip.nth l (i : Int) ≠ (i : Int))
include h hi hw
theorem J.fix : J (S.swp l (i : Int) (Fip.nth l (i : Int))) ∧ cyc (S.swp l (i : Int) (Fip.nth l (i : Int))) = cyc l + 1 := by
  have hv := h.nth (x := (i : Int)) (by omega) (by omega)
  exact ⟨h.swp (by omega) (by omega) hv.1 hv.2, h.split (by omega) (by omega) hv.1 hv.2 (fun e => hw e.symm) ⟨1, rfl⟩⟩
theorem J.cyc_lt : cyc l < l.length := by
  have h2 := h.fix hi hw
  have := h2.1.cyc_le
  rw [swp_length] at this
  omega
end
/-- The exchanges that put all right: for the first wrong flute, with where its joint belongs, again and again. -/
def exsF : Nat → List Int → List Pr
  | 0, _ => []
  | f + 1, l => match wrongAt l with
    | none => []
    | some i => ((i : Int), nth l (i : Int)) :: exsF f (swp l (i : Int) (nth l (i : Int)))
def exs (l : List Int) : List Pr := exsF (l.length - cyc l) l
theorem J.exs_step {l : List Int} (h : J l) {i : Nat} (hi : wrongAt l = some i) : exs l = ((i : Int), Fip.nth l (i : Int)) :: exs (S.swp l (i : Int) (Fip.nth l (i : Int))) := by
  obtain ⟨h1, h2, _⟩ := wrongAt_some.1 hi
  have hlt := h.cyc_lt h1 h2
  have hc := (h.fix h1 h2).2
  unfold exs
  rw [swp_length, hc, show l.length - cyc l = (l.length - (cyc l + 1)) + 1 by omega, exsF, hi]
theorem exs_done {l : List Int} (hi : wrongAt l = none) : exs l = [] := by
  unfold exs
  rw [cyc_all (wrongAt_none.1 hi), Nat.sub_self]
  rfl
/-- Joints behind exchanges. -/
def apl (l : List Int) (xs : List Pr) : List Int := xs.foldl (fun l x => swp l x.1 x.2) l
theorem apl_length {xs : List Pr} : ∀ {l : List Int}, (apl l xs).length = l.length := by
  induction xs with
  | nil => intro l; rfl
  | cons x xs ih => intro l; show (apl (swp l x.1 x.2) xs).length = _; rw [ih, swp_length]
theorem J.exs_ok {l : List Int} : ∀ (m : Nat), J l → l.length - cyc l = m → (exs l).length = l.length - cyc l ∧ apl l (exs l) = right l.length ∧ ∀ x ∈ exs l, (0 ≤ x.1 ∧ x.1 < (l.length : Int)) ∧ (0 ≤ x.2 ∧ x.2 < (l.length : Int)) ∧ x.1 ≠ x.2 := by
  intro m
  induction m generalizing l with
  | zero =>
    intro h hm
    have hn : wrongAt l = none := by
      cases hw : wrongAt l with
      | none => rfl
      | some i =>
        obtain ⟨h1, h2, _⟩ := wrongAt_some.1 hw
        have := h.cyc_lt h1 h2
        omega
    rw [exs_done hn]
    exact ⟨by simp [hm], right_iff.1 (wrongAt_none.1 hn), fun x hx => by cases hx⟩
  | succ m ih =>
    intro h hm
    cases hw : wrongAt l with
    | none => rw [cyc_all (wrongAt_none.1 hw)] at hm; omega
    | some i =>
      obtain ⟨h1, h2, _⟩ := wrongAt_some.1 hw
      obtain ⟨hJ, hc⟩ := h.fix h1 h2
      have hv := h.nth (x := (i : Int)) (by omega) (by omega)
      obtain ⟨a1, a2, a3⟩ := ih hJ (by rw [swp_length, hc]; omega)
      rw [swp_length] at a1 a2 a3
      rw [h.exs_step hw]
      refine ⟨by rw [List.length_cons, a1, hc]; omega, a2, fun x hx => ?_⟩
      rcases List.mem_cons.1 hx with rfl | hx
      · exact ⟨⟨by simp only; omega, by simp only; omega⟩, hv, fun e => h2 e.symm⟩
      · exact a3 x hx
/-- Exchanges of two different flutes of so many. -/
def AllX (n : Nat) (xs : List Pr) : Prop := ∀ x ∈ xs, (0 ≤ x.1 ∧ x.1 < (n : Int)) ∧ (0 ≤ x.2 ∧ x.2 < (n : Int)) ∧ x.1 ≠ x.2
theorem J.apl {xs : List Pr} : ∀ {l : List Int}, J l → AllX l.length xs → J (S.apl l xs) ∧ cyc (S.apl l xs) ≤ cyc l + xs.length ∧ (cyc (S.apl l xs) + xs.length) % 2 = cyc l % 2 := by
  induction xs with
  | nil => intro l h _; exact ⟨h, Nat.le_refl _, rfl⟩
  | cons x xs ih =>
    intro l h hx
    obtain ⟨⟨a0, a1⟩, ⟨b0, b1⟩, hne⟩ := hx x (by simp)
    obtain ⟨c1, c2, c3⟩ := ih (l := S.swp l x.1 x.2) (h.swp a0 a1 b0 b1) (fun y hy => by rw [swp_length]; exact hx y (by simp [hy]))
    have := h.swp_cyc a0 a1 b0 b1 hne
    refine ⟨c1, ?_, ?_⟩
    · show cyc (S.apl (S.swp l x.1 x.2) xs) ≤ _
      rw [List.length_cons]; omega
    · show (cyc (S.apl (S.swp l x.1 x.2) xs) + _) % 2 = _
      rw [List.length_cons]; omega
/-- The theorem of the stage: exchanges that put all right are as many as flutes less circles, or more by an even number. -/
theorem J.fewest {l : List Int} (h : J l) {xs : List Pr} (hx : AllX l.length xs) (hr : S.apl l xs = right l.length) : l.length - cyc l ≤ xs.length ∧ (xs.length - (l.length - cyc l)) % 2 = 0 := by
  obtain ⟨_, h1, h2⟩ := h.apl hx
  rw [hr, cyc_right] at h1 h2
  have := h.cyc_le
  omega

/-- How many pairs are wrong. -/
def inv : List Int → Nat
  | [] => 0
  | x :: xs => xs.countP (fun y => decide (y < x)) + inv xs
theorem swp_cons {x : Int} {l : List Int} {i : Nat} : swp (x :: l) ((i + 1 : Nat) : Int) ((i + 1 : Nat) + 1 : Int) = x :: swp l (i : Int) ((i : Int) + 1) := by
  unfold swp nth
  rw [show (((i + 1 : Nat) : Int)).toNat = i + 1 by omega, show (((i + 1 : Nat) + 1 : Int)).toNat = i + 2 by omega, show ((i : Int)).toNat = i by omega, show ((i : Int) + 1).toNat = i + 1 by omega]
  simp
theorem swp_perm {l : List Int} {i : Nat} (hi : i + 1 < l.length) : (swp l (i : Int) ((i : Int) + 1)).Perm l := by
  induction i generalizing l with
  | zero =>
    match l, hi with
    | x :: y :: s, _ => exact List.Perm.swap _ _ _
  | succ i ih =>
    match l, hi with
    | x :: s, hi => rw [swp_cons]; exact (ih (by simpa using hi)).cons _
/-- What a step does to wrong pairs. -/
theorem inv_step {l : List Int} {i : Nat} (hi : i + 1 < l.length) : inv (swp l (i : Int) ((i : Int) + 1)) + (if nth l ((i : Int) + 1) < nth l (i : Int) then 1 else 0) = inv l + (if nth l (i : Int) < nth l ((i : Int) + 1) then 1 else 0) := by
  induction i generalizing l with
  | zero =>
    match l, hi with
    | x :: y :: s, _ =>
      have e1 : swp (x :: y :: s) ((0 : Nat) : Int) (((0 : Nat) : Int) + 1) = y :: x :: s := rfl
      have e2 : nth (x :: y :: s) ((0 : Nat) : Int) = x := rfl
      have e3 : nth (x :: y :: s) (((0 : Nat) : Int) + 1) = y := rfl
      rw [e1, e2, e3]
      simp only [inv, List.countP_cons, decide_eq_true_eq]
      omega
  | succ i ih =>
    match l, hi with
    | x :: s, hi =>
      have hs : i + 1 < s.length := by simpa using hi
      have e2 : nth (x :: s) ((i + 1 : Nat) : Int) = nth s (i : Int) := by
        unfold nth; rw [show (((i + 1 : Nat) : Int)).toNat = i + 1 by omega, show ((i : Int)).toNat = i by omega]; simp
      have e3 : nth (x :: s) (((i + 1 : Nat) : Int) + 1) = nth s ((i : Int) + 1) := by
        unfold nth; rw [show (((i + 1 : Nat) : Int) + 1).toNat = i + 2 by omega, show ((i : Int) + 1).toNat = i + 1 by omega]; simp
      rw [e2, e3, show (((i + 1 : Nat) : Int) + 1) = ((i + 1 : Nat) + 1 : Int) from rfl, swp_cons]
      have := ih hs
      simp only [inv, (swp_perm hs).countP_eq]
      omega
/-- The first place at which joints come down. -/
def downAt (l : List Int) : Option Nat := (List.range (l.length - 1)).find? fun i : Nat => decide (nth l ((i : Int) + 1) < nth l (i : Int))
theorem downAt_some {l : List Int} {i : Nat} : downAt l = some i ↔ i + 1 < l.length ∧ nth l ((i : Int) + 1) < nth l (i : Int) ∧ ∀ j, j < i → ¬ nth l ((j : Int) + 1) < nth l (j : Int) := by
  unfold downAt
  rw [List.find?_range_eq_some]
  simp only [decide_eq_true_eq, List.mem_range, Bool.not_eq_true', decide_eq_false_iff_not]
  exact ⟨fun h => ⟨by omega, h.1, h.2.2⟩, fun h => ⟨h.2.1, by omega, h.2.2⟩⟩
theorem downAt_none {l : List Int} : downAt l = none ↔ ∀ i, i + 1 < l.length → ¬ nth l ((i : Int) + 1) < nth l (i : Int) := by
  unfold downAt
  rw [List.find?_range_eq_none]
  simp only [Bool.not_eq_true', decide_eq_false_iff_not]
  exact ⟨fun h i hi => h i (by omega), fun h i hi => h i (by omega)⟩
theorem J.sorted {l : List Int} (h : J l) (hd : downAt l = none) : l = right l.length := by
  rw [downAt_none] at hd
  have up : ∀ i, i + 1 < l.length → Fip.nth l (i : Int) < Fip.nth l ((i : Int) + 1) := fun i hi => by
    have h1 := hd i hi
    have : Fip.nth l (i : Int) ≠ Fip.nth l ((i : Int) + 1) := fun e => by
      have := h.inj (by omega) (by omega) (by omega) (by omega) e
      omega
    omega
  have lo : ∀ i : Nat, i < l.length → (i : Int) ≤ Fip.nth l (i : Int) := fun i => by
    induction i with
    | zero => intro hi; exact (h.nth (by omega) (by omega)).1
    | succ i ih => intro hi; have := ih (by omega); have := up i hi; push_cast; omega
  have hi : ∀ k i : Nat, i + k + 1 = l.length → Fip.nth l (i : Int) ≤ (i : Int) := fun k => by
    induction k with
    | zero => intro i hi; have := (h.nth (x := (i : Int)) (by omega) (by omega)).2; omega
    | succ k ih => intro i hi; have := ih (i + 1) (by omega); have := up i (by omega); push_cast at *; omega
  refine right_iff.1 fun i hi2 => ?_
  have := lo i hi2
  have := hi (l.length - 1 - i) i (by omega)
  omega
/-- The steps that put all right: each time the first place at which joints come down. -/
def stepsF : Nat → List Int → List Int
  | 0, _ => []
  | f + 1, l => match downAt l with
    | none => []
    | some i => (i : Int) :: stepsF f (swp l (i : Int) ((i : Int) + 1))
def steps (l : List Int) : List Int := stepsF (inv l) l
theorem steps_step {l : List Int} {i : Nat} (hi : downAt l = some i) : steps l = (i : Int) :: steps (swp l (i : Int) ((i : Int) + 1)) := by
  obtain ⟨h1, h2, _⟩ := downAt_some.1 hi
  have := inv_step h1
  rw [if_pos h2, if_neg (by omega)] at this
  unfold steps
  rw [show inv l = inv (swp l (i : Int) ((i : Int) + 1)) + 1 by omega, stepsF, hi]
theorem steps_done {l : List Int} (hi : downAt l = none) : steps l = [] := by
  unfold steps
  cases inv l with
  | zero => rfl
  | succ n => rw [stepsF, hi]
/-- Joints behind steps. -/
def stp (l : List Int) (ks : List Int) : List Int := ks.foldl (fun l k => swp l k (k + 1)) l
theorem stp_length {ks : List Int} : ∀ {l : List Int}, (stp l ks).length = l.length := by
  induction ks with
  | nil => intro l; rfl
  | cons x xs ih => intro l; show (stp (swp l x (x + 1)) xs).length = _; rw [ih, swp_length]
def AllK (n : Nat) (ks : List Int) : Prop := ∀ k ∈ ks, 0 ≤ k ∧ k + 1 < (n : Int)
theorem inv_right : ∀ {l : List Int}, (∀ i, i + 1 < l.length → nth l (i : Int) < nth l ((i : Int) + 1)) → inv l = 0 := by
  intro l
  induction l with
  | nil => intro _; rfl
  | cons x s ih =>
    intro h
    have sh : ∀ i : Nat, nth (x :: s) ((i + 1 : Nat) : Int) = nth s (i : Int) := fun i => by
      unfold nth; rw [show (((i + 1 : Nat) : Int)).toNat = i + 1 by omega, show ((i : Int)).toNat = i by omega]; simp
    have hs : ∀ i, i + 1 < s.length → nth s (i : Int) < nth s ((i : Int) + 1) := fun i hi => by
      have := h (i + 1) (by simpa using hi)
      have e := sh (i + 1)
      rw [sh, show (((i + 1 : Nat) : Int) + 1) = ((i + 1 + 1 : Nat) : Int) by omega, e] at this
      exact this
    have gt : ∀ i : Nat, i < s.length → x < nth s (i : Int) := fun i => by
      induction i with
      | zero =>
        intro hi
        have := h 0 (by simpa using hi)
        have e := sh 0
        rw [show (((0 : Nat) : Int) + 1) = ((0 + 1 : Nat) : Int) by omega, e] at this
        exact this
      | succ i ih2 => intro hi; have := ih2 (by omega); have := hs i hi; push_cast; omega
    have e0 : s.countP (fun y => decide (y < x)) = 0 := by
      rw [List.countP_eq_zero]
      intro y hy
      obtain ⟨i, hi, rfl⟩ := List.getElem_of_mem hy
      have := gt i hi
      rw [nth_nat hi] at this
      simp
      omega
    simp only [inv, e0, ih hs]
theorem inv_right' {n : Nat} : inv (right n) = 0 := inv_right fun i hi => by
  rw [right_length] at hi
  rw [nth_right (by omega) (by omega), nth_right (by omega) (by omega)]
  omega
theorem J.steps_ok {l : List Int} : ∀ (m : Nat), J l → inv l = m → (steps l).length = inv l ∧ stp l (steps l) = right l.length ∧ AllK l.length (steps l) := by
  intro m
  induction m generalizing l with
  | zero =>
    intro h hm
    have hn : downAt l = none := by
      cases hw : downAt l with
      | none => rfl
      | some i =>
        obtain ⟨h1, h2, _⟩ := downAt_some.1 hw
        have := inv_step h1
        rw [if_pos h2, if_neg (by omega)] at this
        omega
    rw [steps_done hn, hm]
    exact ⟨rfl, h.sorted hn, fun k hk => by cases hk⟩
  | succ m ih =>
    intro h hm
    cases hw : downAt l with
    | none =>
      rw [h.sorted hw, inv_right'] at hm
      omega
    | some i =>
      obtain ⟨h1, h2, _⟩ := downAt_some.1 hw
      have hs := inv_step h1
      rw [if_pos h2, if_neg (by omega)] at hs
      have hJ := h.swp (a := (i : Int)) (b := (i : Int) + 1) (by omega) (by omega) (by omega) (by omega)
      obtain ⟨a1, a2, a3⟩ := ih hJ (by omega)
      rw [swp_length] at a2 a3
      rw [steps_step hw]
      refine ⟨by rw [List.length_cons, a1]; omega, a2, fun x hx => ?_⟩
      rcases List.mem_cons.1 hx with rfl | hx
      · exact ⟨by omega, by omega⟩
      · exact a3 x hx
theorem J.stp {ks : List Int} : ∀ {l : List Int}, J l → AllK l.length ks → J (S.stp l ks) ∧ (cyc (S.stp l ks) ≤ cyc l + ks.length ∧ (cyc (S.stp l ks) + ks.length) % 2 = cyc l % 2) ∧ (inv l ≤ inv (S.stp l ks) + ks.length ∧ (inv (S.stp l ks) + ks.length) % 2 = inv l % 2) := by
  induction ks with
  | nil => intro l h _; exact ⟨h, ⟨Nat.le_refl _, rfl⟩, Nat.le_refl _, rfl⟩
  | cons x xs ih =>
    intro l h hx
    obtain ⟨a0, a1⟩ := hx x (by simp)
    obtain ⟨c1, ⟨c2, c3⟩, c4, c5⟩ := ih (l := S.swp l x (x + 1)) (h.swp a0 (by omega) (by omega) (by omega)) (fun y hy => by rw [swp_length]; exact hx y (by simp [hy]))
    have h1 := h.swp_cyc a0 (by omega) (b := x + 1) (by omega) (by omega) (by omega)
    have h2 := inv_step (l := l) (i := x.toNat) (by omega)
    rw [show ((x.toNat : Nat) : Int) = x by omega] at h2
    have h3 : Fip.nth l x ≠ Fip.nth l (x + 1) := fun e => by
      have := h.inj a0 (by omega) (by omega) (by omega) e
      omega
    have h4 : inv (S.swp l x (x + 1)) + 1 = inv l ∨ inv (S.swp l x (x + 1)) = inv l + 1 := by
      split at h2 <;> split at h2 <;> omega
    refine ⟨c1, ⟨?_, ?_⟩, ?_, ?_⟩
    · show cyc (S.stp (S.swp l x (x + 1)) xs) ≤ _
      rw [List.length_cons]; omega
    · show (cyc (S.stp (S.swp l x (x + 1)) xs) + _) % 2 = _
      rw [List.length_cons]; omega
    · show _ ≤ inv (S.stp (S.swp l x (x + 1)) xs) + _
      rw [List.length_cons]; omega
    · show (inv (S.stp (S.swp l x (x + 1)) xs) + _) % 2 = _
      rw [List.length_cons]; omega
/-- Wrong pairs are at least as many as exchanges, and more by an even number. -/
theorem J.inv_cyc {l : List Int} (h : J l) : l.length - cyc l ≤ inv l ∧ (inv l - (l.length - cyc l)) % 2 = 0 := by
  obtain ⟨a1, a2, a3⟩ := J.steps_ok _ h rfl
  obtain ⟨_, ⟨b1, b2⟩, _⟩ := h.stp a3
  rw [a2, cyc_right, a1] at b1 b2
  have := h.cyc_le
  omega
/-- The first k of the wrong pairs of a flute; all of the first k flutes. -/
def rowTo (l : List Int) (i : Nat) (k : Nat) : List Pr := ((List.range k).filter fun j : Nat => decide (i < j ∧ nth l (j : Int) < nth l (i : Int))).map fun j : Nat => ((i : Int), (j : Int))
def wrongTo (l : List Int) (k : Nat) : List Pr := (List.range k).flatMap fun i => rowTo l i l.length
def wrongOf (l : List Int) : List Pr := wrongTo l l.length
theorem rowTo_t {l : List Int} {i k : Nat} (h : i < k) (h2 : nth l (k : Int) < nth l (i : Int)) : rowTo l i (k + 1) = rowTo l i k ++ [((i : Int), (k : Int))] := by
  unfold rowTo; simp [List.range_succ, List.filter_append, h, h2]
theorem rowTo_f {l : List Int} {i k : Nat} (h : ¬ (i < k ∧ nth l (k : Int) < nth l (i : Int))) : rowTo l i (k + 1) = rowTo l i k := by
  unfold rowTo; rw [List.range_succ, List.filter_append]; simp [h]
theorem rowTo_start {l : List Int} {i k : Nat} (h : k ≤ i + 1) : rowTo l i k = [] := by
  unfold rowTo
  rw [List.filter_eq_nil_iff.2 fun j hj => by have := List.mem_range.1 hj; simp; omega]
  rfl
theorem wrongTo_succ {l : List Int} {k : Nat} : wrongTo l (k + 1) = wrongTo l k ++ rowTo l k l.length := by
  unfold wrongTo; simp [List.range_succ, List.flatMap_append]
theorem inv_sum : ∀ {l : List Int}, inv l = ((List.range l.length).map fun i : Nat => (l.drop (i + 1)).countP fun y => decide (y < nth l (i : Int))).sum := by
  intro l
  induction l with
  | nil => rfl
  | cons x s ih =>
    rw [inv, ih, List.length_cons, List.range_succ_eq_map, List.map_cons, List.sum_cons, List.map_map]
    refine congrArg (HAdd.hAdd _) (congrArg List.sum (List.map_congr_left fun i _ => ?_))
    simp only [Function.comp_def, List.drop_succ_cons, Nat.succ_eq_add_one]
    rfl
theorem countP_drop (l : List Int) (q : Int → Bool) (i : Nat) : (l.drop (i + 1)).countP q = (List.range l.length).countP fun j : Nat => decide (i < j) && q (nth l (j : Int)) := by
  induction l generalizing i with
  | nil => simp
  | cons x s ih =>
    have sh : ∀ j : Nat, nth (x :: s) ((j + 1 : Nat) : Int) = nth s (j : Int) := fun j => by
      unfold nth; rw [show (((j + 1 : Nat) : Int)).toNat = j + 1 by omega, show ((j : Int)).toNat = j by omega]; simp
    rw [List.drop_succ_cons, List.length_cons, List.range_succ_eq_map, List.countP_cons, List.countP_map]
    cases i with
    | zero =>
      rw [List.drop_zero]
      simp only [Function.comp_def, Nat.succ_eq_add_one, sh]
      simp
      clear ih sh
      induction s with
      | nil => simp
      | cons y s ih =>
        have sh : ∀ j : Nat, nth (y :: s) ((j + 1 : Nat) : Int) = nth s (j : Int) := fun j => by
          unfold nth; rw [show (((j + 1 : Nat) : Int)).toNat = j + 1 by omega, show ((j : Int)).toNat = j by omega]; simp
        rw [List.countP_cons, List.length_cons, List.range_succ_eq_map, List.countP_cons, List.countP_map, ih]
        simp only [Function.comp_def, Nat.succ_eq_add_one, sh]
        rfl
    | succ i =>
      rw [ih i]
      simp only [Function.comp_def, Nat.succ_eq_add_one, sh]
      simp
theorem wrongOf_length {l : List Int} : (wrongOf l).length = inv l := by
  unfold wrongOf wrongTo
  rw [inv_sum, List.length_flatMap]
  congr 1
  refine List.map_congr_left fun i _ => ?_
  unfold rowTo
  rw [List.length_map, ← List.countP_eq_length_filter, countP_drop]
  congr 1
  funext j
  simp
end S
end Go.Fip

set_option linter.unusedVariables false
set_option linter.unusedSimpArgs false
set_option linter.unnecessarySimpa false
namespace Go.Fip
namespace S
/-- The length of a circle, by its number. -/
def len (l : List Int) (i : Nat) : Nat := per l (((mins l).getD i 0 : Nat) : Int)
/-- The least number that all lengths of the first i circles divide. -/
def agn (l : List Int) : Nat → Nat
  | 0 => 1
  | i + 1 => Nat.lcm (agn l i) (len l i)
def again (l : List Int) : Int := (agn l (cyc l) : Int)
theorem len_pos {l : List Int} {i : Nat} : 1 ≤ len l i := per_pos
theorem agn_pos {l : List Int} : ∀ i, 1 ≤ agn l i
  | 0 => Nat.le_refl _
  | i + 1 => Nat.lcm_pos (agn_pos i) len_pos
theorem J.len_le {l : List Int} (h : J l) {i : Nat} (hi : i < cyc l) : len l i ≤ 10 := by
  have hm : (mins l).getD i 0 ∈ mins l := by
    unfold cyc at hi
    rw [List.getD_eq_getElem?_getD, List.getElem?_eq_getElem hi]
    exact List.getElem_mem hi
  have h1 := (mem_mins.1 hm).1
  have := (h.per_at (a := (((mins l).getD i 0 : Nat) : Int)) (by omega) (by omega)).2
  have := h.2.1
  unfold len
  omega
theorem J.agn_le {l : List Int} (h : J l) : ∀ i, i ≤ cyc l → agn l i ≤ 10 ^ i
  | 0, _ => Nat.le_refl _
  | i + 1, hi => by
    have h1 := J.agn_le h i (by omega)
    have h2 := h.len_le (i := i) (by omega)
    have h3 := Nat.le_of_dvd (Nat.mul_pos (agn_pos (l := l) i) (len_pos (l := l) (i := i))) (Nat.lcm_dvd_mul (agn l i) (len l i))
    show Nat.lcm _ _ ≤ _
    rw [Nat.pow_succ]
    exact Nat.le_trans h3 (Nat.mul_le_mul h1 h2)
theorem J.agn_le10 {l : List Int} (h : J l) {i : Nat} (hi : i ≤ cyc l) : agn l i ≤ 10000000000 := by
  have h1 := h.agn_le i hi
  have h2 := h.cyc_le
  have h3 := h.2.1
  have := Nat.pow_le_pow_right (show 1 ≤ 10 by omega) (show i ≤ 10 by omega)
  omega
/-- A step of the way to the greatest common divisor. -/
theorem gcd_step {n p x y : Nat} (hy : 0 < y) (h : Nat.gcd x y = Nat.gcd n p) : Nat.gcd y (x % y) = Nat.gcd n p := by
  rw [← h, Nat.gcd_comm y, Nat.gcd_comm x y]
  exact (Nat.gcd_rec y x).symm
theorem gcd_done {n p x : Nat} (h : Nat.gcd x 0 = Nat.gcd n p) : ((n : Int) / (x : Int)) * (p : Int) = (Nat.lcm n p : Int) := by
  rw [Nat.gcd_zero_right] at h
  subst h
  have : Nat.lcm n p = n / Nat.gcd n p * p := (Nat.div_mul_right_comm (Nat.gcd_dvd_left n p) p).symm
  rw [this]
  push_cast
  rfl
theorem gcd_pos {n p x : Nat} (h : Nat.gcd x 0 = Nat.gcd n p) (hn : 1 ≤ n) : 0 < x := by
  rw [Nat.gcd_zero_right] at h
  subst h
  exact Nat.gcd_pos_of_pos_left _ hn
/-- A habit that is done several times. -/
def pw (l : List Int) (k : Nat) : List Int := (List.range l.length).map fun a : Nat => it l k (a : Int)
theorem pw_length {l : List Int} {k : Nat} : (pw l k).length = l.length := by simp [pw]
theorem nth_pw {l : List Int} {k : Nat} {a : Int} (h0 : 0 ≤ a) (h1 : a < (l.length : Int)) : nth (pw l k) a = it l k a := by
  have := nth_nat (l := pw l k) (i := a.toNat) (by rw [pw_length]; omega)
  rw [show ((a.toNat : Nat) : Int) = a by omega] at this
  rw [this]
  simp only [pw, List.getElem_map, List.getElem_range]
  rw [show ((a.toNat : Nat) : Int) = a by omega]
theorem pw_zero {l : List Int} : pw l 0 = right l.length := by unfold pw right; rfl
theorem pw_one {l : List Int} : pw l 1 = l := ext_nth pw_length fun i hi => by
  rw [pw_length] at hi
  rw [nth_pw (by omega) (by omega)]
  rfl
theorem pw_behind {l : List Int} {k : Nat} : behind (pw l k) l = pw l (k + 1) := ext_nth (by unfold behind; rw [behindTo_length, pw_length, pw_length]) fun i hi => by
  unfold behind at hi ⊢
  rw [behindTo_length, pw_length] at hi
  rw [nth_pw (by omega) (by omega)]
  rw [nth_nat (by rw [behindTo_length, pw_length]; exact hi)]
  simp only [behindTo, List.getElem_map, List.getElem_range]
  rw [nth_pw (by omega) (by omega)]
  rfl
theorem agn_dvd {l : List Int} {k : Nat} : ∀ i, agn l i ∣ k ↔ ∀ j, j < i → len l j ∣ k
  | 0 => ⟨fun _ j hj => absurd hj (Nat.not_lt_zero j), fun _ => Nat.one_dvd k⟩
  | i + 1 => by
    have ih := agn_dvd (l := l) (k := k) i
    show Nat.lcm _ _ ∣ k ↔ _
    constructor
    · intro h j hj
      rcases Nat.lt_succ_iff_lt_or_eq.1 hj with h1 | rfl
      · exact ih.1 (Nat.dvd_trans (Nat.dvd_lcm_left _ _) h) j h1
      · exact Nat.dvd_trans (Nat.dvd_lcm_right _ _) h
    · intro h
      exact Nat.lcm_dvd (ih.2 fun j hj => h j (by omega)) (h i (by omega))
theorem J.self_iff {l : List Int} (h : J l) {k : Nat} : (∀ a : Nat, a < l.length → S.it l k (a : Int) = (a : Int)) ↔ agn l (cyc l) ∣ k := by
  rw [agn_dvd]
  constructor
  · intro hall j hj
    have hm : (mins l).getD j 0 ∈ mins l := by
      unfold cyc at hj
      rw [List.getD_eq_getElem?_getD, List.getElem?_eq_getElem hj]
      exact List.getElem_mem hj
    have h1 := (mem_mins.1 hm).1
    exact Nat.dvd_of_mod_eq_zero ((h.it_self (by omega) (by omega)).1 (hall _ h1))
  · intro hall a ha
    obtain ⟨i, hi, hr⟩ := h.min_of (a := (a : Int)) (by omega) (by omega)
    have h1 := (mem_mins.1 hi).1
    obtain ⟨j, hj, e⟩ := List.getElem_of_mem hi
    have h2 := hall j hj
    unfold len at h2
    rw [List.getD_eq_getElem?_getD, List.getElem?_eq_getElem hj, Option.getD_some, e] at h2
    rw [h.it_self (by omega) (by omega), h.per_rch (by omega) (by omega) hr]
    exact Nat.mod_eq_zero_of_dvd h2
theorem J.pw_right {l : List Int} (h : J l) {k : Nat} : pw l k = right l.length ↔ agn l (cyc l) ∣ k := by
  rw [← h.self_iff, ← pw_zero]
  constructor
  · intro e a ha
    have := congrArg (fun q => Fip.nth q (a : Int)) e
    rw [nth_pw (by omega) (by omega), nth_pw (by omega) (by omega)] at this
    exact this
  · intro hall
    refine ext_nth (by rw [pw_length, pw_length]) fun i hi => ?_
    rw [pw_length] at hi
    rw [nth_pw (by omega) (by omega), nth_pw (by omega) (by omega)]
    exact hall i hi
theorem J.pw_in {l : List Int} (h : J l) {k : Nat} : ∀ i, i < (pw l k).length → 0 ≤ Fip.nth (pw l k) (i : Int) ∧ Fip.nth (pw l k) (i : Int) < (l.length : Int) := fun i hi => by
  rw [pw_length] at hi
  rw [nth_pw (by omega) (by omega)]
  exact h.it (by omega) (by omega) k
theorem J.again_more {l : List Int} (h : J l) {k : Nat} (hk : k ≤ agn l (cyc l)) (hne : ¬ pw l k = right l.length) : k + 1 ≤ agn l (cyc l) :=
  Nat.lt_of_le_of_ne hk fun e => hne (h.pw_right.2 (by rw [e]; exact Nat.dvd_refl _))
theorem J.again_done {l : List Int} (h : J l) {k : Nat} (k1 : 1 ≤ k) (hk : k ≤ agn l (cyc l)) (he : pw l k = right l.length) : k = agn l (cyc l) :=
  Nat.le_antisymm hk (Nat.le_of_dvd k1 (h.pw_right.1 he))
/-- How often a habit is done until all is as before, or the error. -/
def againR (l : List Int) : Int × Int := if check l 0 ≠ 0 then (0, check l 0) else (again l, 0)
theorem ag1 {l : List Int} (h : ¬ check l 0 = 0) : againR l = (0, check l 0) := if_pos h
theorem ag2 {l : List Int} (h : check l 0 = 0) : againR l = (again l, 0) := if_neg fun k => k h
end S
end Go.Fip

set_option linter.unusedVariables false
set_option linter.unusedSimpArgs false
set_option linter.unnecessarySimpa false
namespace Go.Fip
namespace S
def two (a b : List Int) : Int := if check a 0 ≠ 0 then check a 0 else if check b 0 ≠ 0 then check b 0 else if a.length ≠ b.length then 15 else 0
theorem two_iff {a b : List Int} : two a b = 0 ↔ check a 0 = 0 ∧ check b 0 = 0 ∧ a.length = b.length := by
  unfold two
  split
  · rename_i h; exact ⟨fun h2 => absurd h2 h, fun h2 => absurd h2.1 h⟩
  · rename_i h
    split
    · rename_i h2; exact ⟨fun h3 => absurd h3 h2, fun h3 => absurd h3.2.1 h2⟩
    · rename_i h2
      split
      · rename_i h3; exact ⟨fun h4 => by omega, fun h4 => absurd h4.2.2 h3⟩
      · rename_i h3; exact ⟨fun _ => ⟨by omega, by omega, by omega⟩, fun _ => rfl⟩
theorem tw1 {a b : List Int} (h : ¬ check a 0 = 0) : two a b = check a 0 := if_pos h
theorem tw2 {a b : List Int} (h : check a 0 = 0) (h2 : ¬ check b 0 = 0) : two a b = check b 0 := by unfold two; rw [if_neg (fun k => k h), if_pos h2]
theorem tw3 {a b : List Int} (h : check a 0 = 0) (h2 : check b 0 = 0) (h3 : ¬ a.length = b.length) : two a b = 15 := by unfold two; rw [if_neg (fun k => k h), if_neg (fun k => k h2), if_pos h3]
def join (a b : List Int) : List Int × Int := if two a b ≠ 0 then ([], two a b) else (behind a b, 0)
theorem jn1 {a b : List Int} (h : ¬ two a b = 0) : join a b = ([], two a b) := if_pos h
theorem jn2 {a b : List Int} (h : two a b = 0) : join a b = (behind a b, 0) := if_neg fun k => k h
def power (l : List Int) (t : Int) : List Int × Int := if check l 0 ≠ 0 then ([], check l 0) else if t < 0 ∨ 1099511627776 < t then ([], 2) else (pw l t.toNat, 0)
theorem po1 {l : List Int} {t : Int} (h : ¬ check l 0 = 0) : power l t = ([], check l 0) := if_pos h
theorem po2 {l : List Int} {t : Int} (h : check l 0 = 0) (h2 : t < 0 ∨ 1099511627776 < t) : power l t = ([], 2) := by unfold power; rw [if_neg (fun k => k h), if_pos h2]
theorem po3 {l : List Int} {t : Int} (h : check l 0 = 0) (h2 : ¬ (t < 0 ∨ 1099511627776 < t)) : power l t = (pw l t.toNat, 0) := by unfold power; rw [if_neg (fun k => k h), if_neg h2]
theorem pw_mod {l : List Int} (h : J l) (k : Nat) : pw l (k % agn l (cyc l)) = pw l k := ext_nth (by rw [pw_length, pw_length]) fun i hi => by
  rw [pw_length] at hi
  rw [nth_pw (by omega) (by omega), nth_pw (by omega) (by omega)]
  have hd : per l (i : Int) ∣ agn l (cyc l) := Nat.dvd_of_mod_eq_zero ((h.it_self (by omega) (by omega)).1 (h.self_iff.2 (Nat.dvd_refl _) i hi))
  rw [← h.it_mod (by omega) (by omega) k, ← h.it_mod (by omega) (by omega) (k % agn l (cyc l)), Nat.mod_mod_of_dvd _ hd]
theorem pw_rem {l : List Int} (h : J l) {t : Int} {k : Nat} (ht : 0 ≤ t) (hk : (k : Int) = t % again l) : pw l k = pw l t.toNat := by
  obtain ⟨n, rfl⟩ := Int.eq_ofNat_of_zero_le ht
  have : k = n % agn l (cyc l) := by
    unfold again at hk
    exact_mod_cast hk
  rw [this, pw_mod h]
  rfl
theorem again_pos {l : List Int} : 1 ≤ again l := by
  have := agn_pos (l := l) (cyc l)
  unfold again
  omega
theorem rem_bd {l : List Int} (h : J l) {t : Int} : 0 ≤ t % again l ∧ t % again l ≤ 10000000000 := by
  have h1 := again_pos (l := l)
  have h2 := h.agn_le10 (Nat.le_refl _)
  have h3 := Int.emod_nonneg t (show again l ≠ 0 by omega)
  have h4 := Int.emod_lt_of_pos t (show 0 < again l by omega)
  unfold again at *
  omega
theorem nth_drop_nat {l : List Int} {k j : Nat} : nth (l.drop ((k : Int)).toNat) (j : Int) = nth l ((k + j : Nat) : Int) := by
  unfold nth
  rw [Int.toNat_natCast, Int.toNat_natCast, Int.toNat_natCast]
  simp [List.getD_eq_getElem?_getD, List.getElem?_drop]
theorem rowTo_le {l : List Int} {i k : Nat} : (rowTo l i k).length ≤ k := by
  unfold rowTo
  rw [List.length_map]
  have := List.length_filter_le (fun j : Nat => decide (i < j ∧ nth l (j : Int) < nth l (i : Int))) (List.range k)
  simpa using this
theorem wrongTo_le {l : List Int} (h : l.length ≤ 10) : ∀ k, (wrongTo l k).length ≤ 10 * k
  | 0 => by simp [wrongTo]
  | k + 1 => by
    rw [wrongTo_succ, List.length_append]
    have := wrongTo_le h k
    have := rowTo_le (l := l) (i := k) (k := l.length)
    omega
def wrong (l : List Int) : List Pr × Int := if check l 0 ≠ 0 then ([], check l 0) else (wrongOf l, 0)
theorem wr1 {l : List Int} (h : ¬ check l 0 = 0) : wrong l = ([], check l 0) := if_pos h
theorem wr2 {l : List Int} (h : check l 0 = 0) : wrong l = (wrongOf l, 0) := if_neg fun k => k h
end S
end Go.Fip

set_option linter.unusedVariables false
set_option linter.unusedSimpArgs false
namespace Go.Fip.S
open Go.Fip
abbrev Ml := List (Int × Int)
theorem J.exs_len {l : List Int} (h : J l) : (exs l).length ≤ 10 := by
  rw [(J.exs_ok _ h rfl).1]
  have := h.2.1
  omega
def exsR (l : List Int) : List Pr × Int := if check l 0 ≠ 0 then ([], check l 0) else (exs l, 0)
theorem ex1 {l : List Int} (h : ¬ check l 0 = 0) : exsR l = ([], check l 0) := if_pos h
theorem ex2 {l : List Int} (h : check l 0 = 0) : exsR l = (exs l, 0) := if_neg fun k => k h
/-- Exchanges so far; up to i all is right. -/
def Xs (l m : List Int) (xs : List Pr) (i : Nat) : Prop := J m ∧ m.length = l.length ∧ exs l = xs ++ exs m ∧ xs.length ≤ 10 ∧ ∀ j : Nat, j < i → Fip.nth m (j : Int) = (j : Int)
theorem Xs.start {l : List Int} (h : J l) : Xs l l [] 0 := ⟨h, rfl, rfl, by simp, all_zero⟩
section
variable {l m : List Int} {xs : List Pr} {i : Nat} (h : Xs l m xs i) (hj : J l) (hi : i < m.length)
include h
omit hi in
theorem Xs.next (he : Fip.nth m (i : Int) = (i : Int)) : Xs l m xs (i + 1) := ⟨h.1, h.2.1, h.2.2.1, h.2.2.2.1, all_snoc h.2.2.2.2 he⟩
include hi in
theorem Xs.at (hn : ¬ Fip.nth m (i : Int) = (i : Int)) : wrongAt m = some i := wrongAt_some.2 ⟨hi, hn, h.2.2.2.2⟩
include hi hj
theorem Xs.lt (hn : ¬ Fip.nth m (i : Int) = (i : Int)) : xs.length + 1 ≤ 10 := by
  have h1 := hj.exs_len
  rw [h.2.2.1, h.1.exs_step (h.at hi hn), List.length_append, List.length_cons] at h1
  omega
theorem Xs.step (hn : ¬ Fip.nth m (i : Int) = (i : Int)) : Xs l (swp m (i : Int) (Fip.nth m (i : Int))) (xs ++ [((i : Int), Fip.nth m (i : Int))]) i := by
  have hf := h.1.fix hi hn
  have hlt := h.lt hj hi hn
  have hv := h.1.nth (x := (i : Int)) (by omega) (by omega)
  refine ⟨hf.1, by rw [swp_length]; exact h.2.1, ?_, by simpa using hlt, fun j hji => ?_⟩
  · rw [h.2.2.1, h.1.exs_step (h.at hi hn), List.append_assoc]; rfl
  · have hj := h.2.2.2.2 j hji
    rw [nth_swp (by omega) (by omega) hv.1 hv.2 (by omega) (by omega)]
    split
    · rename_i e
      exfalso
      have := h.1.inj (x := (j : Int)) (y := (i : Int)) (by omega) (by omega) (by omega) (by omega) (by omega)
      omega
    · split
      · omega
      · exact hj
omit hj in
theorem Xs.dec (hn : ¬ Fip.nth m (i : Int) = (i : Int)) : m.length - cyc (swp m (i : Int) (Fip.nth m (i : Int))) < m.length - cyc m := by
  have := (h.1.fix hi hn).2
  have := h.1.cyc_lt hi hn
  omega
end
theorem Xs.done {l m : List Int} {xs : List Pr} {i : Nat} (h : Xs l m xs i) (hi : m.length ≤ i) : xs = exs l := by
  rw [h.2.2.1, exs_done (wrongAt_none.2 fun j hj => h.2.2.2.2 j (by omega)), List.append_nil]
/-- Where each joint from i on lies. -/
def Li (m : List Int) (M : Ml) (i : Nat) : Prop := ∀ j : Nat, i ≤ j → j < m.length → find (Fip.nth m (j : Int)) M = some (j : Int)
theorem J.li_add {m : List Int} {M : Ml} {k : Nat} (hj : J m) (hk : k < m.length) (h : ∀ j : Nat, j < k → find (Fip.nth m (j : Int)) M = some (j : Int)) : ∀ j : Nat, j < k + 1 → find (Fip.nth m (j : Int)) (upd (Fip.nth m (k : Int)) (k : Int) M) = some (j : Int) := fun j hjk => by
  rw [find_upd]
  split
  · rename_i e
    have := hj.inj (x := (j : Int)) (y := (k : Int)) (by omega) (by omega) (by omega) (by omega) e
    rw [this]
  · rename_i e
    exact h j (by rcases Nat.lt_or_ge j k with h1 | h1; · exact h1
                  · exact absurd (by rw [show j = k by omega]) e)
section
variable {l m : List Int} {xs : List Pr} {i : Nat} {M : Ml} (h : Xs l m xs i) (hM : Li m M i) (hi : i < m.length)
include h hM hi
theorem Xs.lies : (find (i : Int) M).getD 0 = (i : Int) ↔ Fip.nth m (i : Int) = (i : Int) := by
  constructor
  · intro e
    -- where i lies
    obtain ⟨j, hj, hji⟩ : ∃ j : Nat, j < m.length ∧ Fip.nth m (j : Int) = (i : Int) := by
      obtain ⟨p, hp, he⟩ := h.1.per_ex (a := (i : Int)) (by omega) (by omega)
      have hb := h.1.it (a := (i : Int)) (by omega) (by omega) p
      exact ⟨(S.it m p (i : Int)).toNat, by omega, by rw [show ((S.it m p (i : Int)).toNat : Int) = S.it m p (i : Int) by omega]; exact he⟩
    have hij : i ≤ j := by
      rcases Nat.lt_or_ge j i with h1 | h1
      · have := h.2.2.2.2 j h1
        omega
      · exact h1
    have h2 := hM j hij hj
    rw [hji] at h2
    rw [h2] at e
    simp at e
    rw [e] at hji
    exact hji
  · intro e
    have h2 := hM i (Nat.le_refl _) hi
    rw [e] at h2
    rw [h2]; rfl
theorem Xs.li_del (he : Fip.nth m (i : Int) = (i : Int)) : Li m (del (i : Int) M) (i + 1) := fun j hij hj => by
  rw [find_del_ne (fun e => ?_)]
  · exact hM j (by omega) hj
  · have := h.1.inj (x := (j : Int)) (y := (i : Int)) (by omega) (by omega) (by omega) (by omega) (by omega)
    omega
theorem Xs.li_step (hn : ¬ Fip.nth m (i : Int) = (i : Int)) : Li (swp m (i : Int) (Fip.nth m (i : Int))) (upd (Fip.nth (swp m (i : Int) (Fip.nth m (i : Int))) (i : Int)) (i : Int) (upd (Fip.nth m (i : Int)) (Fip.nth m (i : Int)) M)) i := fun j hij hj => by
  rw [swp_length] at hj
  have hv := h.1.nth (x := (i : Int)) (by omega) (by omega)
  have hJ := h.1.swp (a := (i : Int)) (b := Fip.nth m (i : Int)) (by omega) (by omega) hv.1 hv.2
  have hs := nth_swp (l := m) (a := (i : Int)) (b := Fip.nth m (i : Int)) (x := (j : Int)) (by omega) (by omega) hv.1 hv.2 (by omega) (by omega)
  rw [find_upd]
  split
  · rename_i e
    have := hJ.inj (x := (j : Int)) (y := (i : Int)) (by omega) (by rw [swp_length]; omega) (by omega) (by rw [swp_length]; omega) e
    rw [this]
  · rename_i e
    have hji : j ≠ i := fun e' => e (by rw [e'])
    by_cases hjb : (j : Int) = Fip.nth m (i : Int)
    · rw [hs, if_pos hjb, find_upd, if_pos rfl, hjb]
    · rw [hs, if_neg hjb, if_neg (by omega), find_upd, if_neg (fun e' => ?_)]
      · exact hM j hij hj
      · have := h.1.inj (x := (j : Int)) (y := (i : Int)) (by omega) (by omega) (by omega) (by omega) e'
        omega
end
end Go.Fip.S

set_option linter.unusedVariables false
set_option linter.unusedSimpArgs false
namespace Go.Fip.S
open Go.Fip
def stray (n : Int) (x : Pr) : Bool := !decide ((0 ≤ x.1 ∧ x.1 ≤ n - 1) ∧ (0 ≤ x.2 ∧ x.2 ≤ n - 1))
def same (x : Pr) : Bool := decide (x.1 = x.2)
def applyR (l : List Int) (xs : List Pr) : List Int × Int :=
  if check l 0 ≠ 0 then ([], check l 0) else if 60 < xs.length then ([], 6) else if has (stray (l.length : Int)) xs = true then ([], 3) else if has same xs = true then ([], 15) else (apl l xs, 0)
variable {l : List Int} {xs : List Pr}
theorem ap1 (h : ¬ check l 0 = 0) : applyR l xs = ([], check l 0) := if_pos h
theorem ap2 (h : check l 0 = 0) (h2 : 60 < xs.length) : applyR l xs = ([], 6) := by unfold applyR; rw [if_neg (fun k => k h), if_pos h2]
theorem ap3 (h : check l 0 = 0) (h2 : ¬ 60 < xs.length) (h3 : has (stray (l.length : Int)) xs = true) : applyR l xs = ([], 3) := by unfold applyR; rw [if_neg (fun k => k h), if_neg h2, if_pos h3]
theorem ap4 (h : check l 0 = 0) (h2 : ¬ 60 < xs.length) (h3 : has (stray (l.length : Int)) xs = false) (h4 : has same xs = true) : applyR l xs = ([], 15) := by unfold applyR; rw [if_neg (fun k => k h), if_neg h2, if_neg (by rw [h3]; decide), if_pos h4]
theorem ap5 (h : check l 0 = 0) (h2 : ¬ 60 < xs.length) (h3 : has (stray (l.length : Int)) xs = false) (h4 : has same xs = false) : applyR l xs = (apl l xs, 0) := by unfold applyR; rw [if_neg (fun k => k h), if_neg h2, if_neg (by rw [h3]; decide), if_neg (by rw [h4]; decide)]
theorem not_stray {n : Int} {x : Pr} : stray n x = false ↔ (0 ≤ x.1 ∧ x.1 < n) ∧ (0 ≤ x.2 ∧ x.2 < n) := by
  unfold stray
  simp
  omega
theorem not_same {x : Pr} : same x = false ↔ x.1 ≠ x.2 := by unfold same; simp
theorem stray_at (h3 : has (stray (l.length : Int)) xs = false) {k : Nat} (hk : k < xs.length) : (0 ≤ (nth xs (k : Int)).1 ∧ (nth xs (k : Int)).1 < (l.length : Int)) ∧ (0 ≤ (nth xs (k : Int)).2 ∧ (nth xs (k : Int)).2 < (l.length : Int)) :=
  not_stray.1 (has_not.1 h3 k hk)
theorem apl_snoc {ys : List Pr} {x : Pr} : apl l (ys ++ [x]) = swp (apl l ys) x.1 x.2 := by
  unfold apl
  rw [List.foldl_append]; rfl
theorem take_snoc {α : Type} [Inhabited α] {ys : List α} {k : Nat} (hk : k < ys.length) : ys.take (k + 1) = ys.take k ++ [nth ys (k : Int)] := by
  rw [List.take_add_one, nth_nat hk, List.getElem?_eq_getElem hk]; rfl
theorem apl_take {k : Nat} (hk : k < xs.length) : swp (apl l (xs.take k)) (nth xs (k : Int)).1 (nth xs (k : Int)).2 = apl l (xs.take (k + 1)) := by
  rw [take_snoc hk, apl_snoc]
theorem allX {xs : List Pr} {n : Nat} (h3 : has (stray (n : Int)) xs = false) (h4 : has same xs = false) : AllX n xs := fun x hx => by
  obtain ⟨i, hi, rfl⟩ := List.getElem_of_mem hx
  have h1 := not_stray.1 (has_not.1 h3 i hi)
  have h2 := not_same.1 (has_not.1 h4 i hi)
  rw [nth_nat hi] at h1 h2
  exact ⟨h1.1, h1.2, h2⟩
theorem AllX.has {xs : List Pr} {n : Nat} (h : AllX n xs) : has (stray (n : Int)) xs = false ∧ has same xs = false := by
  refine ⟨has_not.2 fun i hi => ?_, has_not.2 fun i hi => ?_⟩
  · have := h _ (List.getElem_mem hi)
    rw [nth_nat hi]
    exact not_stray.2 ⟨this.1, this.2.1⟩
  · have := h _ (List.getElem_mem hi)
    rw [nth_nat hi]
    exact not_same.2 this.2.2
end Go.Fip.S

set_option linter.unusedVariables false
set_option linter.unusedSimpArgs false
namespace Go.Fip.S
open Go.Fip
def cnts (l : List Int) (i : Nat) : List Int := (List.range 11).map fun p : Nat => (((List.range i).countP fun j => decide (len l j = p) : Nat) : Int)
def counts (l : List Int) : List Int := (List.range 11).map fun p : Nat => ((many l p : Nat) : Int)
theorem cnts_length {l : List Int} {i : Nat} : (cnts l i).length = 11 := by simp [cnts]
theorem counts_length {l : List Int} : (counts l).length = 11 := by simp [counts]
theorem cnts_zero {l : List Int} : List.replicate 11 (0 : Int) = cnts l 0 := by
  unfold cnts
  simp [List.range_zero, List.map_const']
theorem nth_map_range {f : Nat → Int} {n k : Nat} (h : k < n) : nth ((List.range n).map f) (k : Int) = f k := by
  rw [nth_nat (by simpa using h)]; simp
theorem nth_cnts {l : List Int} {i : Nat} {p : Nat} (h : p < 11) : nth (cnts l i) (p : Int) = (((List.range i).countP fun j => decide (len l j = p) : Nat) : Int) := nth_map_range h
theorem nth_counts {l : List Int} {p : Nat} (h : p < 11) : nth (counts l) (p : Int) = ((many l p : Nat) : Int) := nth_map_range h
theorem cnts_bd {l : List Int} {i : Nat} {p : Nat} (h : p < 11) : 0 ≤ nth (cnts l i) (p : Int) ∧ nth (cnts l i) (p : Int) ≤ (i : Int) := by
  rw [nth_cnts h]
  have := List.countP_le_length (p := fun j => decide (len l j = p)) (l := List.range i)
  rw [List.length_range] at this
  omega
theorem cnts_succ {l : List Int} {i : Nat} (h : len l i < 11) : (cnts l i).set (len l i) (nth (cnts l i) (len l i : Int) + 1) = cnts l (i + 1) := by
  refine ext_nth (by rw [List.length_set, cnts_length, cnts_length]) fun k h1 => ?_
  rw [List.length_set, cnts_length] at h1
  have hs := nth_set' (l := cnts l i) (i := (len l i : Int)) (x := (k : Int)) (v := nth (cnts l i) (len l i : Int) + 1) (by omega) (by rw [cnts_length]; omega) (by omega) (by rw [cnts_length]; omega)
  rw [Int.toNat_natCast] at hs
  rw [hs, nth_cnts h1, nth_cnts h1, nth_cnts h, List.range_succ, List.countP_append]
  by_cases e : len l i = k
  · subst e
    simp
  · rw [if_neg (by omega)]
    simp [e]
theorem many_len {l : List Int} {p : Nat} : (List.range (cyc l)).countP (fun j => decide (len l j = p)) = many l p := by
  unfold many cyc len
  have e : (List.range (mins l).length).map (fun j => (mins l).getD j 0) = mins l := by
    refine List.ext_getElem (by simp) fun k h1 h2 => ?_
    simp [List.getD_eq_getElem?_getD, h2]
  conv => rhs; rw [← e]
  rw [List.countP_map]
  rfl
theorem cnts_done {l : List Int} : cnts l (cyc l) = counts l := by
  unfold cnts counts
  refine List.map_congr_left fun p _ => ?_
  rw [many_len]
theorem many_le {l : List Int} {p : Nat} (h : J l) : many l p ≤ 10 := by
  have h1 : many l p ≤ cyc l := List.countP_le_length
  have := h.cyc_le
  have := h.2.1
  omega
/-- The least even length of which there is an odd number of circles. -/
def noneP (l : List Int) (n : Nat) : Bool := decide (n % 2 = 0 ∧ many l n % 2 = 1)
def noneL (l : List Int) : Nat := ((List.range 11).find? (noneP l)).getD 0
theorem noneL_hit {l : List Int} {n : Nat} (hn : n < 11) (h : noneP l n = true) (hall : ∀ k, k < n → noneP l k = false) : noneL l = n := by
  unfold noneL
  rw [List.find?_range_eq_some.2 ⟨h, List.mem_range.2 hn, fun j hj => by rw [hall j hj]; rfl⟩]
  rfl
theorem noneL_miss {l : List Int} (hall : ∀ k, k < 11 → noneP l k = false) : noneL l = 0 := by
  unfold noneL
  rw [List.find?_range_eq_none.2 fun j hj => by rw [hall j hj]; rfl]
  rfl
theorem noneL_le {l : List Int} : noneL l ≤ 10 := by
  unfold noneL
  cases h : (List.range 11).find? (noneP l) with
  | none => exact Nat.zero_le _
  | some n => have := List.mem_range.1 (List.find?_range_eq_some.1 h).2.1; show n ≤ 10; omega
theorem many_none {l : List Int} {p : Nat} (h : ∀ i : Nat, per l (i : Int) ≠ p) : many l p = 0 := by
  unfold many
  rw [List.countP_eq_zero]
  intro i _
  simpa using h i
theorem J.many_gt {l : List Int} (h : J l) {p : Nat} (hp : l.length < p) : S.many l p = 0 := by
  unfold S.many
  rw [List.countP_eq_zero]
  intro i hi
  have hm := (mem_mins.1 hi).1
  have := (h.per_at (a := (i : Int)) (by omega) (by omega)).2
  simp
  omega
theorem noneP_pos {l : List Int} {n : Nat} (h : noneP l n = true) : 0 < n := by
  rcases Nat.eq_zero_or_pos n with rfl | h1
  · exfalso
    have := many_none (l := l) (p := 0) (fun i => by have := per_pos (l := l) (a := (i : Int)); omega)
    simp [noneP, this] at h
  · exact h1
theorem J.noneP_le {l : List Int} (h : J l) {n : Nat} (hn : noneP l n = true) : n ≤ l.length := by
  rcases Nat.lt_or_ge l.length n with h1 | h1
  · simp [noneP, h.many_gt h1] at hn
  · exact h1
/-- Which lengths prove that there is no root. -/
def checkNone (l : List Int) (n : Int) : Int := if check l 0 ≠ 0 then check l 0 else if n < 1 ∨ (l.length : Int) < n then 2 else if n % 2 = 1 ∨ (many l n.toNat : Int) % 2 = 0 then 14 else 0
theorem cn1 {l : List Int} {n : Int} (h : ¬ check l 0 = 0) : checkNone l n = check l 0 := if_pos h
theorem cn2 {l : List Int} {n : Int} (h : check l 0 = 0) (h2 : n < 1 ∨ (l.length : Int) < n) : checkNone l n = 2 := by unfold checkNone; rw [if_neg (fun k => k h), if_pos h2]
theorem cn3 {l : List Int} {n : Int} (h : check l 0 = 0) (h2 : ¬ (n < 1 ∨ (l.length : Int) < n)) (h3 : n % 2 = 1 ∨ (many l n.toNat : Int) % 2 = 0) : checkNone l n = 14 := by unfold checkNone; rw [if_neg (fun k => k h), if_neg h2, if_pos h3]
theorem cn4 {l : List Int} {n : Int} (h : check l 0 = 0) (h2 : ¬ (n < 1 ∨ (l.length : Int) < n)) (h3 : ¬ (n % 2 = 1 ∨ (many l n.toNat : Int) % 2 = 0)) : checkNone l n = 0 := by unfold checkNone; rw [if_neg (fun k => k h), if_neg h2, if_neg h3]
theorem cn_iff {l : List Int} (h : check l 0 = 0) {n : Nat} (h1 : 1 ≤ n) (h2 : n ≤ l.length) : checkNone l (n : Int) = 0 ↔ noneP l n = true := by
  unfold checkNone noneP
  rw [if_neg (fun k => k h), if_neg (by omega), Int.toNat_natCast]
  simp only [decide_eq_true_eq]
  split <;> omega
def noneR (l : List Int) : Int × Int := if check l 0 ≠ 0 then (0, check l 0) else if noneL l = 0 then (0, 5) else ((noneL l : Int), 0)
theorem no1 {l : List Int} (h : ¬ check l 0 = 0) : noneR l = (0, check l 0) := if_pos h
theorem no2 {l : List Int} (h : check l 0 = 0) (h2 : noneL l = 0) : noneR l = (0, 5) := by unfold noneR; rw [if_neg (fun k => k h), if_pos h2]
theorem no3 {l : List Int} (h : check l 0 = 0) (h2 : ¬ noneL l = 0) : noneR l = ((noneL l : Int), 0) := by unfold noneR; rw [if_neg (fun k => k h), if_neg h2]
theorem none0 {l : List Int} : ∀ i, i < 1 → noneP l i = false := fun i hi => by
  cases h : noneP l i with
  | false => rfl
  | true => exact absurd (noneP_pos h) (by omega)
theorem J.none_miss {l : List Int} (h : J l) (hall : ∀ k, k < l.length + 1 → noneP l k = false) : noneL l = 0 := noneL_miss fun k hk => by
  rcases Nat.lt_or_ge k (l.length + 1) with h1 | h1
  · exact hall k h1
  · cases h2 : noneP l k with
    | false => rfl
    | true => exact absurd (h.noneP_le h2) (by omega)
end Go.Fip.S

set_option linter.unusedVariables false
set_option linter.unusedSimpArgs false
namespace Go.Fip.S
open Go.Fip
/-- The least flute of the i-th circle. -/
def mn (l : List Int) (i : Nat) : Int := (((mins l).getD i 0 : Nat) : Int)
theorem J.mn {l : List Int} (h : J l) {i : Nat} (hi : i < cyc l) : 0 ≤ S.mn l i ∧ S.mn l i < (l.length : Int) := by
  unfold S.mn
  have : (mins l).getD i 0 ∈ mins l := by
    rw [List.getD_eq_getElem?_getD, List.getElem?_eq_getElem hi]; exact List.getElem_mem hi
  have := (mem_mins.1 this).1
  omega
theorem mn_mem {l : List Int} {i : Nat} (hi : i < cyc l) : (mins l).getD i 0 ∈ mins l := by
  rw [List.getD_eq_getElem?_getD, List.getElem?_eq_getElem hi]; exact List.getElem_mem hi
theorem J.mn_all {l : List Int} (h : J l) {a : Int} (h0 : 0 ≤ a) (h1 : a < (l.length : Int)) : ∃ i, i < cyc l ∧ Rch l (S.mn l i) a := by
  obtain ⟨m, hm, hr⟩ := h.min_of h0 h1
  obtain ⟨i, hi, e⟩ := List.getElem_of_mem hm
  refine ⟨i, hi, ?_⟩
  unfold S.mn
  rw [List.getD_eq_getElem?_getD, List.getElem?_eq_getElem hi, e]
  exact hr
theorem J.mn_uni {l : List Int} (h : J l) {i j : Nat} {a : Int} (hi : i < cyc l) (hj : j < cyc l) (ri : Rch l (S.mn l i) a) (rj : Rch l (S.mn l j) a) : i = j := by
  have h1 := h.min_uni (mn_mem hi) (mn_mem hj) ri rj
  have h2 := mins_nodup l
  unfold cyc at hi hj
  rw [List.getD_eq_getElem?_getD, List.getD_eq_getElem?_getD, List.getElem?_eq_getElem hi, List.getElem?_eq_getElem hj] at h1
  rcases Nat.lt_trichotomy i j with h3 | h3 | h3
  · exact absurd h1 (List.pairwise_iff_getElem.1 h2 i j hi hj h3)
  · exact h3
  · exact absurd h1.symm (List.pairwise_iff_getElem.1 h2 j i hj hi h3)
/-- On the first i circles all is as it shall be. -/
def PowI (l : List Int) (t : Nat) (i : Nat) (o : List Int) : Prop := o.length = l.length ∧ ∀ a, 0 ≤ a → a < (l.length : Int) → (∃ j, j < i ∧ Rch l (mn l j) a) → nth o a = it l t a
def PowJ (l : List Int) (t : Nat) (i k : Nat) (o : List Int) : Prop := PowI l t i o ∧ ∀ q : Nat, q < k → nth o (nth (circ l (mn l i)) (q : Int)) = it l t (nth (circ l (mn l i)) (q : Int))
theorem PowI.start {l : List Int} {t : Nat} : PowI l t 0 (right l.length) := ⟨right_length _, fun a _ _ ⟨j, hj, _⟩ => absurd hj (Nat.not_lt_zero _)⟩
theorem PowI.go {l : List Int} {t i : Nat} {o : List Int} (h : PowI l t i o) : PowJ l t i 0 o := ⟨h, all_zero⟩
section
variable {l : List Int} (hj : J l) {t i : Nat} {o : List Int} (hi : i < cyc l)
include hj hi
theorem J.circ_in {k : Nat} (hk : k < per l (S.mn l i)) : 0 ≤ Fip.nth (circ l (S.mn l i)) (k : Int) ∧ Fip.nth (circ l (S.mn l i)) (k : Int) < (l.length : Int) := by
  rw [nth_circ hk]
  have := hj.mn hi
  exact hj.it this.1 this.2 k
theorem PowJ.step {k : Nat} (hk : k < per l (S.mn l i)) (h : PowJ l t i k o) : PowJ l t i (k + 1) (o.set (Fip.nth (circ l (S.mn l i)) (k : Int)).toNat (S.it l t (Fip.nth (circ l (S.mn l i)) (k : Int)))) := by
  have hc := hj.circ_in hi hk
  have hl := h.1.1
  refine ⟨⟨by rw [List.length_set]; exact hl, fun a h0 h1 hj' => ?_⟩, fun q hq => ?_⟩
  · rw [nth_set' hc.1 (by omega) h0 (by omega)]
    split
    · rename_i e; rw [e]
    · exact h.1.2 a h0 h1 hj'
  · have hc2 := hj.circ_in hi (k := q) (by omega)
    rw [nth_set' hc.1 (by omega) hc2.1 (by omega)]
    split
    · rename_i e; rw [e]
    · rename_i e
      exact h.2 q (by rcases Nat.lt_or_ge q k with h1 | h1; · exact h1
                      · exact absurd (by rw [show q = k by omega]) e)
theorem PowJ.done (h : PowJ l t i (per l (S.mn l i)) o) : PowI l t (i + 1) o := by
  have hm := hj.mn hi
  refine ⟨h.1.1, fun a h0 h1 ⟨j, hji, hr⟩ => ?_⟩
  rcases Nat.lt_or_ge j i with h2 | h2
  · exact h.1.2 a h0 h1 ⟨j, h2, hr⟩
  · rw [show j = i by omega] at hr
    have hmem := (hj.mem_circ hm.1 hm.2).2 hr
    unfold circ at hmem
    obtain ⟨q, hq, rfl⟩ := List.mem_map.1 hmem
    have hq2 := List.mem_range.1 hq
    have := h.2 q hq2
    rwa [nth_circ hq2] at this
/-- What lies so many further on. -/
theorem J.further {k : Nat} (hk : k < per l (S.mn l i)) {n : Int} (hn : 0 ≤ n) : Fip.nth (circ l (S.mn l i)) (((k : Int) + n) % ((circ l (S.mn l i)).length : Int)) = S.it l n.toNat (Fip.nth (circ l (S.mn l i)) (k : Int)) := by
  have hm := hj.mn hi
  have hp := per_pos (l := l) (a := S.mn l i)
  rw [circ_length]
  obtain ⟨n', rfl⟩ := Int.eq_ofNat_of_zero_le hn
  rw [show ((k : Int) + (n' : Int)) % (per l (S.mn l i) : Int) = (((k + n') % per l (S.mn l i) : Nat) : Int) by simp, nth_circ (Nat.mod_lt _ hp), nth_circ hk, hj.it_mod hm.1 hm.2, Nat.add_comm, Int.toNat_natCast, it_add, ← it_add, Nat.add_comm, it_add]
end
theorem PowI.done {l : List Int} {t : Nat} {o : List Int} (hj : J l) (h : PowI l t (cyc l) o) : o = pw l t := by
  refine ext_nth (by rw [h.1, pw_length]) fun a ha => ?_
  rw [h.1] at ha
  rw [nth_pw (by omega) (by omega)]
  exact h.2 _ (by omega) (by omega) (hj.mn_all (by omega) (by omega))
end Go.Fip.S

set_option linter.unusedVariables false
set_option linter.unusedSimpArgs false
namespace Go.Fip.S
open Go.Fip
theorem sub_length {α : Type} [BEq α] [LawfulBEq α] : ∀ {l m : List α}, l.Nodup → (∀ x ∈ l, x ∈ m) → l.length ≤ m.length
  | [], _, _, _ => Nat.zero_le _
  | x :: l, m, hn, hs => by
    rw [List.nodup_cons] at hn
    have h1 := sub_length (l := l) (m := m.erase x) hn.2 (fun y hy => (List.mem_erase_of_ne (by intro e; subst e; exact hn.1 hy)).2 (hs y (List.mem_cons_of_mem _ hy)))
    have h2 := hs x List.mem_cons_self
    rw [List.length_erase_of_mem h2] at h1
    have := List.length_pos_of_mem h2
    rw [List.length_cons]
    omega
/-- The first flute that is good. -/
def first (n : Nat) (p : Int → Bool) : Int := ((right n).find? p).getD 0
theorem first_spec {n : Nat} {p : Int → Bool} (h : ∃ y, 0 ≤ y ∧ y < (n : Int) ∧ p y = true) : 0 ≤ first n p ∧ first n p < (n : Int) ∧ p (first n p) = true ∧ ∀ y, 0 ≤ y → y < first n p → p y = false := by
  unfold first right
  rw [List.find?_map]
  obtain ⟨y, h0, h1, hp⟩ := h
  cases hf : (List.range n).find? (p ∘ fun k : Nat => (k : Int)) with
  | none =>
    have := List.find?_range_eq_none.1 hf y.toNat (by omega)
    simp [Int.toNat_of_nonneg h0, hp] at this
  | some k =>
    obtain ⟨h2, h3, h4⟩ := List.find?_range_eq_some.1 hf
    have hk := List.mem_range.1 h3
    simp only [Option.map_some, Option.getD_some]
    refine ⟨by omega, by omega, h2, fun y hy0 hy => ?_⟩
    have := h4 y.toNat (by omega)
    simpa [Int.toNat_of_nonneg hy0] using this
theorem first_uni {n : Nat} {p : Int → Bool} {x : Int} (h0 : 0 ≤ x) (h1 : x < (n : Int)) (hp : p x = true) (hall : ∀ y, 0 ≤ y → y < x → p y = false) : first n p = x := by
  obtain ⟨a, b, c, d⟩ := first_spec ⟨x, h0, h1, hp⟩
  rcases Int.lt_trichotomy (first n p) x with h | h | h
  · have := hall _ a h; rw [c] at this; cases this
  · exact h
  · have := d x h0 h; rw [hp] at this; cases this
/-- The flutes that are chosen for the first circles of a. -/
def xs (a b : List Int) : Nat → List Int
  | 0 => []
  | i + 1 => xs a b i ++ [first b.length fun y => decide ((∀ x ∈ xs a b i, y ∉ circ b x) ∧ per b y = len a i)]
def goodX (a b : List Int) (i : Nat) (y : Int) : Bool := decide ((∀ x ∈ xs a b i, y ∉ circ b x) ∧ per b y = len a i)
def X (a b : List Int) (i : Nat) : Int := first b.length (goodX a b i)
theorem xs_succ {a b : List Int} {i : Nat} : xs a b (i + 1) = xs a b i ++ [X a b i] := rfl
theorem mem_xs {a b : List Int} {x : Int} : ∀ {i : Nat}, x ∈ xs a b i ↔ ∃ j, j < i ∧ x = X a b j
  | 0 => by simp [xs]
  | i + 1 => by
    rw [xs_succ, List.mem_append, mem_xs (i := i), List.mem_singleton]
    constructor
    · rintro (⟨j, hj, e⟩ | e)
      · exact ⟨j, by omega, e⟩
      · exact ⟨i, by omega, e⟩
    · rintro ⟨j, hj, e⟩
      rcases Nat.lt_or_ge j i with h | h
      · exact .inl ⟨j, h, e⟩
      · rw [show j = i by omega] at e; exact .inr e
/-- Which flutes are taken. -/
def Tk (a b : List Int) (i : Nat) (y : Int) : Prop := ∃ j, j < i ∧ y ∈ circ b (X a b j)
theorem goodX_iff {a b : List Int} {i : Nat} {y : Int} : goodX a b i y = true ↔ ¬ Tk a b i y ∧ per b y = len a i := by
  unfold goodX
  rw [decide_eq_true_eq]
  constructor
  · rintro ⟨h1, h2⟩
    exact ⟨fun ⟨j, hj, hy⟩ => h1 _ (mem_xs.2 ⟨j, hj, rfl⟩) hy, h2⟩
  · rintro ⟨h1, h2⟩
    exact ⟨fun x hx hy => by obtain ⟨j, hj, rfl⟩ := mem_xs.1 hx; exact h1 ⟨j, hj, hy⟩, h2⟩
theorem count_lt {α : Type} {p : α → Bool} {L : List α} {i : Nat} (hi : i < L.length) (h : p L[i] = true) : (L.take i).countP p + 1 ≤ L.countP p := by
  have e := List.take_append_drop i L
  have h1 : L.countP p = (L.take i).countP p + (L.drop i).countP p := by rw [← List.countP_append, e]
  rw [h1, List.drop_eq_getElem_cons hi, List.countP_cons, if_pos h]
  omega
section
variable {a b : List Int} (ha : J a) (hb : J b) (hm : ∀ p, many a p = many b p)
include hb hm
/-- There always is a flute to choose. -/
theorem X_ex : ∀ i, i < cyc a → ∃ y, 0 ≤ y ∧ y < (b.length : Int) ∧ goodX a b i y = true := by
  intro i
  induction i using Nat.strongRecOn with
  | ind i ih =>
    intro hi
    -- otherwise all flutes on circles of this length are taken
    apply Classical.byContradiction
    intro hno
    have hX : ∀ j, j < i → 0 ≤ X a b j ∧ X a b j < (b.length : Int) ∧ per b (X a b j) = len a j := fun j hj => by
      obtain ⟨h1, h2, h3, _⟩ := first_spec (ih j hj (by omega))
      exact ⟨h1, h2, (goodX_iff.1 h3).2⟩
    have hall : ∀ y ∈ (right b.length).filter (fun y => decide (per b y = len a i)), y ∈ (((List.range i).filter fun j => decide (len a j = len a i)).map fun j => circ b (X a b j)).flatten := fun y hy => by
      rw [List.mem_filter, mem_right, decide_eq_true_eq] at hy
      have htk : Tk a b i y := Classical.byContradiction fun h => hno ⟨y, hy.1.1, hy.1.2, goodX_iff.2 ⟨h, hy.2⟩⟩
      obtain ⟨j, hj, hyj⟩ := htk
      have hXj := hX j hj
      have hr := (hb.mem_circ hXj.1 hXj.2.1).1 hyj
      have hp := hb.per_rch hXj.1 hXj.2.1 hr
      rw [List.mem_flatten]
      refine ⟨_, List.mem_map.2 ⟨j, List.mem_filter.2 ⟨List.mem_range.2 hj, ?_⟩, rfl⟩, hyj⟩
      rw [decide_eq_true_eq]
      rw [← hXj.2.2, ← hp, hy.2]
    have h1 := sub_length (List.Nodup.sublist List.filter_sublist (right_nodup b.length)) hall
    rw [← List.countP_eq_length_filter, hb.many, ← hm] at h1
    have h2 : (((List.range i).filter fun j => decide (len a j = len a i)).map fun j => circ b (X a b j)).flatten.length = len a i * ((List.range i).countP fun j => decide (len a j = len a i)) := by
      rw [List.length_flatten, List.map_map, List.countP_eq_length_filter]
      have : ∀ L : List Nat, (∀ j ∈ L, j < i ∧ len a j = len a i) → (L.map (List.length ∘ fun j => circ b (X a b j))).sum = len a i * L.length := by
        intro L
        induction L with
        | nil => intro _; simp
        | cons j L ih2 =>
          intro h
          have hj := h j List.mem_cons_self
          rw [List.map_cons, List.sum_cons, ih2 (fun k hk => h k (List.mem_cons_of_mem _ hk)), List.length_cons, Nat.mul_add]
          show (circ b (X a b j)).length + _ = _
          rw [circ_length, (hX j hj.1).2.2, hj.2]
          omega
      exact this _ fun j hj => by
        rw [List.mem_filter, List.mem_range, decide_eq_true_eq] at hj; exact hj
    rw [h2] at h1
    have h3 : ((List.range i).countP fun j => decide (len a j = len a i)) + 1 ≤ many a (len a i) := by
      have h4 := count_lt (p := fun j => decide (len a j = len a i)) (L := List.range (cyc a)) (i := i) (by simpa using hi) (by simp)
      rw [many_len, List.take_range, Nat.min_eq_left (by omega)] at h4
      exact h4
    have h5 := len_pos (l := a) (i := i)
    have := Nat.mul_le_mul_left (len a i) h3
    rw [Nat.mul_add, Nat.mul_one] at this
    omega
theorem X_spec {i : Nat} (hi : i < cyc a) : 0 ≤ X a b i ∧ X a b i < (b.length : Int) ∧ per b (X a b i) = len a i ∧ ¬ Tk a b i (X a b i) ∧ ∀ y, 0 ≤ y → y < X a b i → goodX a b i y = false := by
  obtain ⟨h1, h2, h3, h4⟩ := first_spec (X_ex hb hm i hi)
  have := goodX_iff.1 h3
  exact ⟨h1, h2, this.2, this.1, h4⟩
end
/-- What the first circles' flutes are called. -/
def AlkI (a b : List Int) (i : Nat) (o : List Int) : Prop := o.length = a.length ∧ ∀ j, j < i → ∀ q, q < len a j → nth o (it a q (mn a j)) = it b q (X a b j)
/-- .. and of the next circle the first ones, too. -/
def AlkJ (a b : List Int) (i k : Nat) (o : List Int) : Prop := AlkI a b i o ∧ ∀ q, q < k → nth o (it a q (mn a i)) = it b q (X a b i)
/-- Which flute on which circle. -/
def ixOf (a : List Int) (x : Int) : Nat := (List.range (cyc a)).findIdx fun j => decide (x ∈ circ a (mn a j))
def qOf (a : List Int) (x : Int) : Nat := (List.range a.length).findIdx fun q => decide (it a q (mn a (ixOf a x)) = x)
def alk (a b : List Int) : List Int := (List.range a.length).map fun i : Nat => it b (qOf a (i : Int)) (X a b (ixOf a (i : Int)))
section
variable {a b : List Int} (ha : J a)
include ha
theorem J.ixOf {x : Int} (h0 : 0 ≤ x) (h1 : x < (a.length : Int)) : S.ixOf a x < cyc a ∧ S.qOf a x < len a (S.ixOf a x) ∧ S.it a (S.qOf a x) (S.mn a (S.ixOf a x)) = x := by
  obtain ⟨i, hi, hr⟩ := ha.mn_all h0 h1
  have hi1 : S.ixOf a x < cyc a := by
    have := List.findIdx_lt_length_of_exists (p := fun j => decide (x ∈ circ a (S.mn a j))) (xs := List.range (cyc a)) ⟨i, List.mem_range.2 hi, by have hm := ha.mn hi; exact decide_eq_true ((ha.mem_circ hm.1 hm.2).2 hr)⟩
    simpa [S.ixOf] using this
  have hx : x ∈ circ a (S.mn a (S.ixOf a x)) := by
    have := List.findIdx_getElem (p := fun j => decide (x ∈ circ a (S.mn a j))) (xs := List.range (cyc a)) (w := by simpa [S.ixOf] using hi1)
    simpa [S.ixOf] using this
  have hm := ha.mn hi1
  unfold circ at hx
  obtain ⟨q, hq, e⟩ := List.mem_map.1 hx
  have hq2 := List.mem_range.1 hq
  have hpl := (ha.per_at hm.1 hm.2).2
  have hq1 : S.qOf a x ≤ q := by
    apply Classical.byContradiction
    intro hgt
    have := List.not_of_lt_findIdx (p := fun q => decide (S.it a q (S.mn a (S.ixOf a x)) = x)) (xs := List.range a.length) (i := q) (by unfold S.qOf at hgt; omega)
    simp [e] at this
  have hlt : S.qOf a x < a.length := by omega
  have he : S.it a (S.qOf a x) (S.mn a (S.ixOf a x)) = x := by
    have := List.findIdx_getElem (p := fun q => decide (S.it a q (S.mn a (S.ixOf a x)) = x)) (xs := List.range a.length) (w := by simpa [S.qOf] using hlt)
    simpa [S.qOf] using this
  exact ⟨hi1, by show S.qOf a x < per a (S.mn a (S.ixOf a x)); omega, he⟩
theorem J.ix_at {j q : Nat} (hj : j < cyc a) (hq : q < len a j) : S.ixOf a (S.it a q (S.mn a j)) = j ∧ S.qOf a (S.it a q (S.mn a j)) = q := by
  have hm := ha.mn hj
  have hx := ha.it hm.1 hm.2 q
  obtain ⟨h1, h2, h3⟩ := ha.ixOf hx.1 hx.2
  have e : S.ixOf a (S.it a q (S.mn a j)) = j := ha.mn_uni h1 hj ⟨_, h3⟩ ⟨_, rfl⟩
  rw [e] at h2 h3
  exact ⟨e, ha.it_eq hm.1 hm.2 h2 hq h3⟩
omit ha in
theorem J.nth_alk {x : Int} (h0 : 0 ≤ x) (h1 : x < (a.length : Int)) : Fip.nth (alk a b) x = S.it b (S.qOf a x) (X a b (S.ixOf a x)) := by
  obtain ⟨n, rfl⟩ := Int.eq_ofNat_of_zero_le h0
  unfold alk
  rw [nth_nat (by simp; omega)]
  simp
theorem AlkI.done {o : List Int} (h : AlkI a b (cyc a) o) : o = alk a b := by
  refine ext_nth (by rw [h.1]; simp [alk]) fun i hi => ?_
  rw [h.1] at hi
  obtain ⟨h1, h2, h3⟩ := ha.ixOf (x := (i : Int)) (by omega) (by omega)
  rw [J.nth_alk (by omega) (by omega)]
  have := h.2 _ h1 _ h2
  rwa [h3] at this
theorem AlkJ.step {i k : Nat} {o : List Int} (hi : i < cyc a) (hk : k < len a i) (h : AlkJ a b i k o) : AlkJ a b i (k + 1) (o.set (S.it a k (S.mn a i)).toNat (S.it b k (X a b i))) := by
  have hm := ha.mn hi
  have hl := h.1.1
  have hc := ha.it hm.1 hm.2 k
  refine ⟨⟨by rw [List.length_set]; exact hl, fun j hj q hq => ?_⟩, fun q hq => ?_⟩
  · have hmj := ha.mn (i := j) (by omega)
    have hcj := ha.it hmj.1 hmj.2 q
    rw [nth_set' hc.1 (by omega) hcj.1 (by omega), if_neg (fun e => ?_)]
    · exact h.1.2 j hj q hq
    · have := ha.mn_uni (by omega) hi ⟨q, rfl⟩ ⟨k, e.symm⟩
      omega
  · have hcq := ha.it hm.1 hm.2 q
    rw [nth_set' hc.1 (by omega) hcq.1 (by omega)]
    split
    · rename_i e
      rw [ha.it_eq hm.1 hm.2 (i := q) (j := k) (show q < per a (S.mn a i) by unfold len at hk; exact Nat.lt_of_lt_of_le hq hk) hk e]
    · rename_i e
      exact h.2 q (by rcases Nat.lt_or_ge q k with h1 | h1; · exact h1
                      · exact absurd (by rw [show q = k by omega]) e)
end
theorem AlkI.start {a b : List Int} {o : List Int} (h : o.length = a.length) : AlkI a b 0 o := ⟨h, fun j hj => absurd hj (Nat.not_lt_zero _)⟩
theorem AlkI.go {a b : List Int} {i : Nat} {o : List Int} (h : AlkI a b i o) : AlkJ a b i 0 o := ⟨h, fun q hq => absurd hq (Nat.not_lt_zero _)⟩
theorem AlkJ.done {a b : List Int} {i : Nat} {o : List Int} (h : AlkJ a b i (len a i) o) : AlkI a b (i + 1) o := ⟨h.1.1, fun j hj q hq => by
  rcases Nat.lt_or_ge j i with h1 | h1
  · exact h.1.2 j h1 q hq
  · rw [show j = i by omega] at hq ⊢; exact h.2 q hq⟩
/-- Which flutes are taken, of the next circle the first ones, too. -/
def TkJ (a b : List Int) (i k : Nat) (y : Int) : Prop := Tk a b i y ∨ ∃ q, q < k ∧ y = it b q (X a b i)
def Mk (a b : List Int) (no yes : Int) (i k : Nat) (U : List Int) : Prop := U.length = b.length ∧ ∀ y, 0 ≤ y → y < (b.length : Int) → (nth U y = no ∧ ¬ TkJ a b i k y) ∨ (nth U y = yes ∧ TkJ a b i k y)
theorem Mk.start {a b : List Int} {no yes : Int} {U : List Int} (hl : U.length = b.length) (h : ∀ i, i < b.length → nth U (i : Int) = no) : Mk a b no yes 0 0 U := ⟨hl, fun y h0 h1 => .inl ⟨by
  have := h y.toNat (by omega)
  rwa [Int.toNat_of_nonneg h0] at this, fun ht => by
    rcases ht with ⟨j, hj, _⟩ | ⟨q, hq, _⟩
    · exact absurd hj (Nat.not_lt_zero _)
    · exact absurd hq (Nat.not_lt_zero _)⟩⟩
section
variable {a b : List Int} (hb : J b) (hm : ∀ p, many a p = many b p) {i : Nat} (hi : i < cyc a)
include hb hm hi
theorem TkJ_new {k : Nat} (hk : k < len a i) : ¬ TkJ a b i k (it b k (X a b i)) := by
  obtain ⟨x0, x1, xp, xn, _⟩ := X_spec hb hm hi
  rintro (⟨j, hj, hy⟩ | ⟨q, hq, e⟩)
  · have xj := X_spec hb hm (i := j) (by omega)
    have hr := (hb.mem_circ xj.1 xj.2.1).1 hy
    have hr2 : Rch b (X a b j) (X a b i) := hr.trans (hb.symm x0 x1 ⟨k, rfl⟩)
    exact xn ⟨j, hj, (hb.mem_circ xj.1 xj.2.1).2 hr2⟩
  · have := hb.it_eq x0 x1 (i := k) (j := q) (by omega) (by omega) e
    omega
theorem Mk.step {no yes : Int} {k : Nat} {U : List Int} (hk : k < len a i) (h : Mk a b no yes i k U) : nth U (it b k (X a b i)) = no ∧ Mk a b no yes i (k + 1) (U.set (it b k (X a b i)).toNat yes) := by
  obtain ⟨x0, x1, xp, xn, _⟩ := X_spec hb hm hi
  have hc := hb.it x0 x1 k
  have hl := h.1
  have hn := TkJ_new hb hm hi hk
  refine ⟨?_, by rw [List.length_set]; exact hl, fun y h0 h1 => ?_⟩
  · rcases h.2 _ hc.1 hc.2 with h2 | h2
    · exact h2.1
    · exact absurd h2.2 hn
  · rw [nth_set' hc.1 (by omega) h0 (by omega)]
    split
    · rename_i e
      exact .inr ⟨rfl, .inr ⟨k, Nat.lt_succ_self k, e⟩⟩
    · rename_i e
      rcases h.2 y h0 h1 with h2 | h2
      · refine .inl ⟨h2.1, fun ht => h2.2 ?_⟩
        rcases ht with ht | ⟨q, hq, hy⟩
        · exact .inl ht
        · rcases Nat.lt_or_ge q k with h3 | h3
          · exact .inr ⟨q, h3, hy⟩
          · rw [show q = k by omega] at hy; exact absurd hy e
      · refine .inr ⟨h2.1, ?_⟩
        rcases h2.2 with ht | ⟨q, hq, hy⟩
        · exact .inl ht
        · exact .inr ⟨q, by omega, hy⟩
theorem Mk.done {no yes : Int} {U : List Int} (h : Mk a b no yes i (len a i) U) : Mk a b no yes (i + 1) 0 U := by
  obtain ⟨x0, x1, xp, xn, _⟩ := X_spec hb hm hi
  refine ⟨h.1, fun y h0 h1 => ?_⟩
  have e : TkJ a b i (len a i) y ↔ TkJ a b (i + 1) 0 y := by
    constructor
    · rintro (⟨j, hj, hy⟩ | ⟨q, hq, e⟩)
      · exact .inl ⟨j, by omega, hy⟩
      · exact .inl ⟨i, Nat.lt_succ_self i, by rw [e]; exact (hb.mem_circ x0 x1).2 ⟨q, rfl⟩⟩
    · rintro (⟨j, hj, hy⟩ | ⟨q, hq, _⟩)
      · rcases Nat.lt_or_ge j i with h2 | h2
        · exact .inl ⟨j, h2, hy⟩
        · rw [show j = i by omega] at hy
          unfold circ at hy
          obtain ⟨q, hq, e⟩ := List.mem_map.1 hy
          rw [xp] at hq
          exact .inr ⟨q, List.mem_range.1 hq, e.symm⟩
      · exact absurd hq (Nat.not_lt_zero _)
  rw [← e]
  exact h.2 y h0 h1
omit hb hm hi in
/-- The mark tells which flutes are good. -/
theorem Mk.good {no yes : Int} (hne : no ≠ yes) {U : List Int} (h : Mk a b no yes i 0 U) {y : Int} (h0 : 0 ≤ y) (h1 : y < (b.length : Int)) : (nth U y = no ∧ per b y = len a i) ↔ goodX a b i y = true := by
  rw [goodX_iff]
  have e : TkJ a b i 0 y ↔ Tk a b i y := ⟨fun h => h.elim id (fun ⟨q, hq, _⟩ => absurd hq (Nat.not_lt_zero _)), .inl⟩
  rcases h.2 y h0 h1 with h2 | h2
  · rw [e] at h2
    exact ⟨fun h3 => ⟨h2.2, h3.2⟩, fun h3 => ⟨h2.1, h3.2⟩⟩
  · rw [e] at h2
    exact ⟨fun h3 => absurd (h3.1.symm.trans h2.1) hne, fun h3 => absurd h2.2 h3.1⟩
end
/-- .. what has no number yet is -1. -/
def OutJ (a b : List Int) (i k : Nat) (o : List Int) : Prop := AlkJ a b i k o ∧ ∀ y, 0 ≤ y → y < (a.length : Int) → (∀ j, j < i → ∀ q, q < len a j → y ≠ it a q (mn a j)) → (∀ q, q < k → y ≠ it a q (mn a i)) → nth o y = -1
theorem OutJ.start {a b : List Int} {o : List Int} (hl : o.length = a.length) (h : ∀ i, i < a.length → nth o (i : Int) = -1) : OutJ a b 0 0 o := ⟨(AlkI.start hl).go, fun y h0 h1 _ _ => by
  have := h y.toNat (by omega)
  rwa [Int.toNat_of_nonneg h0] at this⟩
theorem OutJ.step {a b : List Int} (ha : J a) {i k : Nat} {o : List Int} (hi : i < cyc a) (hk : k < len a i) (h : OutJ a b i k o) : OutJ a b i (k + 1) (o.set (it a k (mn a i)).toNat (it b k (X a b i))) := by
  have hm := ha.mn hi
  have hl := h.1.1.1
  have hc := ha.it hm.1 hm.2 k
  refine ⟨h.1.step ha hi hk, fun y h0 h1 h2 h3 => ?_⟩
  rw [nth_set' hc.1 (by omega) h0 (by omega), if_neg (h3 k (Nat.lt_succ_self k))]
  exact h.2 y h0 h1 h2 (fun q hq => h3 q (by omega))
theorem OutJ.done {a b : List Int} {i : Nat} {o : List Int} (h : OutJ a b i (len a i) o) : OutJ a b (i + 1) 0 o := ⟨h.1.done.go, fun y h0 h1 h2 _ => h.2 y h0 h1 (fun j hj => h2 j (by omega)) (fun q hq => h2 i (Nat.lt_succ_self i) q hq)⟩
theorem minsTo_mono {l : List Int} {i k : Nat} (h : i ≤ k) : minsTo l i ≤ minsTo l k := by
  unfold minsTo
  exact List.Sublist.length_le (List.Sublist.filter _ (List.range_sublist.2 h))
theorem mn_minsTo {l : List Int} {k : Nat} (hk : k < l.length) (h : isMin l (k : Int) = true) : mn l (minsTo l k) = (k : Int) := by
  unfold mn; rw [mins_at hk h]
theorem J.min_before {l : List Int} (h : J l) {k : Nat} (hk : k < l.length) (hn : ¬ S.isMin l (k : Int) = true) : ∃ j, j < minsTo l k ∧ Rch l (S.mn l j) (k : Int) := by
  obtain ⟨m, hm, hr⟩ := h.min_of (a := (k : Int)) (by omega) (by omega)
  have hmm := mem_mins.1 hm
  have hle := (h.isMin (i := (m : Int)) (by omega) (by omega)).1 hmm.2 _ hr
  have hlt : m < k := by
    rcases Nat.lt_or_ge m k with h1 | h1
    · exact h1
    · rw [show m = k by omega] at hmm; exact absurd hmm.2 hn
  refine ⟨minsTo l m, ?_, by rw [mn_minsTo hmm.1 hmm.2]; exact hr⟩
  have h1 := minsTo_t hmm.2
  have h2 := minsTo_mono (l := l) (i := m + 1) (k := k) hlt
  omega
theorem J.min_late {l : List Int} (h : J l) {k : Nat} (hk : k < l.length) (hm : S.isMin l (k : Int) = true) {j : Nat} (hj : j < minsTo l k) (q : Nat) : (k : Int) ≠ S.it l q (S.mn l j) := fun e => by
  have h1 := minsTo_lt hk hm
  have h2 := h.mn_uni (i := j) (j := minsTo l k) (a := (k : Int)) (by omega) h1 ⟨q, e.symm⟩ (by rw [mn_minsTo hk hm]; exact Rch.refl _)
  omega
section
variable {a b : List Int} (ha : J a) (hb : J b) (hm : ∀ p, many a p = many b p) {k : Nat} (hk : k < a.length) {o : List Int} (h : OutJ a b (minsTo a k) 0 o)
include ha hk h
theorem OutJ.neg (hmin : S.isMin a (k : Int) = true) : Fip.nth o (k : Int) = -1 :=
  h.2 _ (by omega) (by omega) (fun j hj q _ => ha.min_late hk hmin hj q) (fun q hq => absurd hq (Nat.not_lt_zero _))
include hb hm
theorem OutJ.pos (hmin : ¬ S.isMin a (k : Int) = true) : 0 ≤ Fip.nth o (k : Int) := by
  obtain ⟨j, hj, q, hr⟩ := ha.min_before hk hmin
  have hc : minsTo a k ≤ cyc a := minsTo_mono (by omega)
  have hmj := ha.mn (i := j) (by omega)
  have e := ha.it_mod hmj.1 hmj.2 q
  rw [hr] at e
  have h1 := h.1.1.2 j hj (q % per a (S.mn a j)) (Nat.mod_lt _ per_pos)
  rw [e] at h1
  rw [h1]
  have hx := X_spec hb hm (i := j) (by omega)
  exact (hb.it hx.1 hx.2.1 _).1
end
def alikeR (a b : List Int) : List Int × Int := if two a b ≠ 0 then ([], two a b) else if counts a ≠ counts b then ([], 20) else (alk a b, 0)
theorem al1 {a b : List Int} (h : ¬ two a b = 0) : alikeR a b = ([], two a b) := if_pos h
theorem al2 {a b : List Int} (h : two a b = 0) (h2 : ¬ counts a = counts b) : alikeR a b = ([], 20) := by unfold alikeR; rw [if_neg (fun k => k h), if_pos h2]
theorem al3 {a b : List Int} (h : two a b = 0) (h2 : counts a = counts b) : alikeR a b = (alk a b, 0) := by unfold alikeR; rw [if_neg (fun k => k h), if_neg (fun k => k h2)]
theorem counts_iff {a b : List Int} (ha : J a) (hb : J b) : counts a = counts b ↔ ∀ p, many a p = many b p := by
  constructor
  · intro e p
    rcases Nat.lt_or_ge p 11 with h | h
    · have h1 := nth_counts (l := a) h
      rw [e, nth_counts h] at h1
      omega
    · have := ha.2.1; have := hb.2.1
      rw [ha.many_gt (by omega), hb.many_gt (by omega)]
  · intro h
    unfold counts
    exact List.map_congr_left fun p _ => by rw [h]
theorem counts_upto {a b : List Int} (ha : J a) (hb : J b) (hl : a.length = b.length) (h : ∀ p : Nat, p < a.length + 1 → 1 ≤ p → many a p = many b p) : counts a = counts b := (counts_iff ha hb).2 fun p => by
  rcases Nat.lt_or_ge p (a.length + 1) with h1 | h1
  · rcases Nat.eq_zero_or_pos p with rfl | h2
    · rw [many_none (fun i => by have := per_pos (l := a) (a := (i : Int)); omega), many_none (fun i => by have := per_pos (l := b) (a := (i : Int)); omega)]
    · exact h p h1 h2
  · rw [ha.many_gt (by omega), hb.many_gt (by omega)]
end Go.Fip.S
namespace Go.Fip.S
open Go.Fip
theorem set_all {o : List Int} {k : Nat} {c : Int} (hk : k < o.length) (h : ∀ i, i < k → nth o (i : Int) = c) : ∀ i, i < k + 1 → nth (o.set ((k : Int)).toNat c) (i : Int) = c := fun i hi => by
  rw [nth_set' (by omega) (by omega) (by omega) (by omega)]
  split
  · rfl
  · exact h i (by omega)
theorem X_le {a b : List Int} (hb : J b) (hm : ∀ p, many a p = many b p) {i : Nat} (hi : i < cyc a) {x : Int} (h0 : 0 ≤ x) (h1 : x ≤ X a b i) (hg : goodX a b i x = true) : x = X a b i := by
  have h := (X_spec hb hm hi).2.2.2.2
  apply Classical.byContradiction
  intro hne
  have := h x h0 (by omega)
  rw [hg] at this
  cases this
theorem Mk.at_X {a b : List Int} (hb : J b) (hm : ∀ p, many a p = many b p) {i : Nat} (hi : i < cyc a) {no yes : Int} (hne : no ≠ yes) {U : List Int} (h : Mk a b no yes i 0 U) : nth U (X a b i) = no := by
  obtain ⟨h0, h1, hp, hn, _⟩ := X_spec hb hm hi
  exact ((h.good hne h0 h1).2 (goodX_iff.2 ⟨hn, hp⟩)).1
theorem Mk.val {a b : List Int} {i k : Nat} {no yes : Int} {U : List Int} (h : Mk a b no yes i k U) {y : Int} (h0 : 0 ≤ y) (h1 : y < (b.length : Int)) : nth U y = no ∨ nth U y = yes := by
  rcases h.2 y h0 h1 with h2 | h2
  · exact .inl h2.1
  · exact .inr h2.1
def IsAl (a b n : List Int) : Prop := n.length = a.length ∧ check n 0 = 0 ∧ ∀ i, i < a.length → nth n (nth a (i : Int)) = nth b (nth n (i : Int))
instance (a b n : List Int) : Decidable (IsAl a b n) := by unfold IsAl; infer_instance
end Go.Fip.S

set_option linter.unusedVariables false
set_option linter.unusedSimpArgs false
namespace Go.Fip.S
open Go.Fip
/-- From i to x, from there to where i goes, from there to where x goes, and so on. -/
def alt (l : List Int) (i x : Int) (k : Nat) : Int := if k % 2 = 0 then it l (k / 2) i else it l (k / 2) x
theorem alt_zero {l : List Int} {i x : Int} : alt l i x 0 = i := rfl
theorem alt_one {l : List Int} {i x : Int} : alt l i x 1 = x := rfl
theorem alt_step {l : List Int} {i x : Int} (k : Nat) : alt l i x (k + 2) = nth l (alt l i x k) := by
  unfold alt
  rw [show (k + 2) % 2 = k % 2 by omega, show (k + 2) / 2 = k / 2 + 1 by omega]
  split <;> rfl
theorem alt_even {l : List Int} {i x : Int} (h : Nat) : alt l i x (2 * h) = it l h i := by
  unfold alt; rw [if_pos (by omega), show 2 * h / 2 = h by omega]
theorem alt_odd {l : List Int} {i x : Int} (h : Nat) : alt l i x (2 * h + 1) = it l h x := by
  unfold alt; rw [if_neg (by omega), show (2 * h + 1) / 2 = h by omega]
/-- How many have no number yet. -/
def negs (b : List Int) : Nat := b.countP fun v => decide (v < 0)
def U (l b : List Int) (p : Nat) : Nat := (right l.length).countP fun y => decide (nth b y < 0 ∧ per l y = p)
/-- A root in part. -/
def Good (l b : List Int) : Prop := b.length = l.length ∧ ∀ y, 0 ≤ y → y < (l.length : Int) → nth b y = -1 ∨ (0 ≤ nth b y ∧ nth b y < (l.length : Int) ∧ nth b (nth b y) = nth l y)
theorem negs_set {b : List Int} {y t : Int} (h0 : 0 ≤ y) (h1 : y < (b.length : Int)) (hy : nth b y < 0) (ht : 0 ≤ t) : negs (b.set y.toNat t) + 1 = negs b := by
  unfold negs
  have hlt : y.toNat < b.length := by omega
  have e : b[y.toNat] = nth b y := by
    have := nth_nat (l := b) (i := y.toNat) hlt
    rw [Int.toNat_of_nonneg h0] at this
    exact this.symm
  rw [List.countP_set hlt, e, if_pos (by simpa using hy), if_neg (by simpa using ht)]
  have : 0 < List.countP (fun v => decide (v < 0)) b := List.countP_pos_iff.2 ⟨b[y.toNat], List.getElem_mem hlt, by rw [e]; simpa using hy⟩
  omega
theorem countP_one {α : Type} [DecidableEq α] {P Q : α → Bool} {y : α} : ∀ {L : List α}, L.Nodup → y ∈ L → P y = true → Q y = false → (∀ z ∈ L, z ≠ y → P z = Q z) → L.countP Q + 1 = L.countP P
  | [], _, h, _, _, _ => by cases h
  | z :: L, hn, hy, hp, hq, he => by
    rw [List.nodup_cons] at hn
    rw [List.countP_cons, List.countP_cons]
    by_cases hz : z = y
    · subst hz
      have h1 : L.countP Q = L.countP P := List.countP_congr (fun w hw => by rw [he w (List.mem_cons_of_mem _ hw) (fun e => hn.1 (e ▸ hw))])
      rw [hp, hq, h1]
      simp
    · have h2 : y ∈ L := by
        rcases List.mem_cons.1 hy with h | h
        · exact absurd h.symm hz
        · exact h
      have := countP_one hn.2 h2 hp hq (fun w hw hne => he w (List.mem_cons_of_mem _ hw) hne)
      rw [he z List.mem_cons_self hz]
      omega
theorem U_set {l b : List Int} {y t : Int} {p : Nat} (hl : b.length = l.length) (h0 : 0 ≤ y) (h1 : y < (l.length : Int)) (hy : nth b y < 0) (ht : 0 ≤ t) : U l (b.set y.toNat t) p + (if per l y = p then 1 else 0) = U l b p := by
  unfold U
  have hn : ∀ z, z ∈ right l.length → z ≠ y → nth (b.set y.toNat t) z = nth b z := fun z hz hne => by
    have := mem_right.1 hz
    rw [nth_set' h0 (by omega) this.1 (by omega), if_neg hne]
  have hy2 : nth (b.set y.toNat t) y = t := by rw [nth_set' h0 (by omega) h0 (by omega), if_pos rfl]
  by_cases hp : per l y = p
  · rw [if_pos hp]
    exact countP_one (right_nodup _) (mem_right.2 ⟨h0, h1⟩) (by simp [hy, hp]) (by rw [hy2]; simp; omega) (fun z hz hne => by rw [hn z hz hne])
  · rw [if_neg hp, Nat.add_zero]
    refine List.countP_congr fun z hz => ?_
    by_cases hz2 : z = y
    · subst hz2; simp [hp]
    · rw [hn z hz hz2]
/-- k steps have been taken. -/
structure Fl (l b : List Int) (i x : Int) (k : Nat) (now : List Int) : Prop where
  len : now.length = l.length
  val : ∀ j, j < k → nth now (alt l i x j) = alt l i x (j + 1)
  oth : ∀ y, 0 ≤ y → y < (l.length : Int) → (∀ j, j < k → y ≠ alt l i x j) → nth now y = nth b y
  dist : ∀ j, j < k → ∀ j', j' < j → alt l i x j' ≠ alt l i x j
  unb : ∀ j, j < k → nth b (alt l i x j) < 0
  ng : negs now + k = negs b
  cnt : ∀ p, U l now p + ((List.range k).countP fun j => decide (per l (alt l i x j) = p)) = U l b p
section
variable {l b : List Int} (hj : J l) {i x : Int} (i0 : 0 ≤ i) (i1 : i < (l.length : Int)) (x0 : 0 ≤ x) (x1 : x < (l.length : Int))
include hj i0 i1 x0 x1
theorem J.alt (k : Nat) : 0 ≤ S.alt l i x k ∧ S.alt l i x k < (l.length : Int) := by
  unfold S.alt
  split
  · exact hj.it i0 i1 _
  · exact hj.it x0 x1 _
omit hj i0 i1 x0 x1 in
theorem Fl.start (hb : b.length = l.length) : Fl l b i x 0 b := ⟨hb, fun j h => absurd h (Nat.not_lt_zero _), fun _ _ _ _ => rfl, fun j h => absurd h (Nat.not_lt_zero _), fun j h => absurd h (Nat.not_lt_zero _), rfl, fun p => by simp⟩
theorem Fl.step {k : Nat} {now : List Int} (h : Fl l b i x k now) (hn : Fip.nth now (S.alt l i x k) < 0) : Fl l b i x (k + 1) (now.set (S.alt l i x k).toNat (S.alt l i x (k + 1))) := by
  have ha := fun k => hj.alt i0 i1 x0 x1 k
  have hl := h.len
  have hne : ∀ j, j < k → S.alt l i x j ≠ S.alt l i x k := fun j hjk e => by
    have h1 := h.val j hjk
    rw [e] at h1
    have := (ha (j + 1)).1
    omega
  have hs := fun (y : Int) (y0 : 0 ≤ y) (y1 : y < (l.length : Int)) => nth_set' (l := now) (i := S.alt l i x k) (x := y) (v := S.alt l i x (k + 1)) (ha k).1 (by have := (ha k).2; omega) y0 (by omega)
  have hub : Fip.nth b (S.alt l i x k) < 0 := by
    rw [← h.oth _ (ha k).1 (ha k).2 (fun j hjk e => hne j hjk e.symm)]; exact hn
  refine ⟨by rw [List.length_set]; exact hl, fun j hjk => ?_, fun y y0 y1 hy => ?_, fun j hjk j' hj' => ?_, fun j hjk => ?_, ?_, fun p => ?_⟩
  · rw [hs _ (ha j).1 (ha j).2]
    rcases Nat.lt_or_ge j k with h1 | h1
    · rw [if_neg (hne j h1)]; exact h.val j h1
    · rw [show j = k by omega, if_pos rfl]
  · rw [hs y y0 y1, if_neg (hy k (Nat.lt_succ_self k))]
    exact h.oth y y0 y1 (fun j hjk => hy j (by omega))
  · rcases Nat.lt_or_ge j k with h1 | h1
    · exact h.dist j h1 j' hj'
    · rw [show j = k by omega] at hj' ⊢; exact hne j' hj'
  · rcases Nat.lt_or_ge j k with h1 | h1
    · exact h.unb j h1
    · rw [show j = k by omega]; exact hub
  · have := negs_set (b := now) (ha k).1 (by have := (ha k).2; omega) hn (ha (k + 1)).1
    have := h.ng
    omega
  · have h1 := U_set (l := l) (b := now) (p := p) hl (ha k).1 (ha k).2 hn (ha (k + 1)).1
    have h2 := h.cnt p
    rw [List.range_succ, List.countP_append]
    simp only [List.countP_cons, List.countP_nil, Nat.zero_add, decide_eq_true_eq]
    omega
end
/-- Where it ends. -/
structure Stop (l b : List Int) (i x : Int) (m : Nat) (now : List Int) : Prop extends Fl l b i x m now where
  stop : 0 ≤ nth now (alt l i x m)
theorem countP_all {m p q : Nat} {f : Nat → Nat} (h : ∀ j, j < m → f j = q) : ((List.range m).countP fun j => decide (f j = p)) = if q = p then m else 0 := by
  by_cases e : q = p
  · rw [if_pos e, List.countP_eq_length.2 (fun j hj => by rw [List.mem_range] at hj; simp [h j hj, e]), List.length_range]
  · rw [if_neg e, List.countP_eq_zero.2 (fun j hj => by rw [List.mem_range] at hj; simp [h j hj, e])]
section
variable {l b : List Int} (hj : J l) (hb : Good l b)
include hj hb
/-- With a flute all that lie on its circle have a number. -/
theorem Good.fwd {y : Int} (y0 : 0 ≤ y) (y1 : y < (l.length : Int)) (h : 0 ≤ Fip.nth b y) : 0 ≤ Fip.nth b (Fip.nth l y) := by
  rcases hb.2 y y0 y1 with h1 | ⟨h1, h2, h3⟩
  · omega
  · rcases hb.2 _ h1 h2 with h4 | ⟨h4, h5, h6⟩
    · have := hj.nth y0 y1; omega
    · rw [h3] at h6
      rw [h6]
      exact (hj.nth h1 h2).1
theorem Good.on {y : Int} (y0 : 0 ≤ y) (y1 : y < (l.length : Int)) (h : 0 ≤ Fip.nth b y) : ∀ k, 0 ≤ Fip.nth b (S.it l k y)
  | 0 => h
  | k + 1 => Good.fwd hj hb (hj.it y0 y1 k).1 (hj.it y0 y1 k).2 (Good.on y0 y1 h k)
theorem Good.off {y z : Int} (y0 : 0 ≤ y) (y1 : y < (l.length : Int)) (h : Fip.nth b y < 0) (hr : Rch l y z) : Fip.nth b z < 0 := by
  have hz := hj.rin y0 y1 hr
  apply Classical.byContradiction
  intro hn
  obtain ⟨k, hk⟩ := hj.symm y0 y1 hr
  have := Good.on hj hb hz.1 hz.2 (by omega) k
  rw [hk] at this
  omega
theorem Good.inj {y z : Int} (y0 : 0 ≤ y) (y1 : y < (l.length : Int)) (z0 : 0 ≤ z) (z1 : z < (l.length : Int)) (hy : 0 ≤ Fip.nth b y) (e : Fip.nth b y = Fip.nth b z) : y = z := by
  rcases hb.2 y y0 y1 with h1 | ⟨h1, h2, h3⟩
  · omega
  · rcases hb.2 z z0 z1 with k1 | ⟨k1, k2, k3⟩
    · omega
    · rw [e] at h3
      exact hj.inj y0 y1 z0 z1 (h3.symm.trans k3)
theorem Good.diff : Diff b := fun i hi k hk ⟨e, h0⟩ => by
  have := Good.inj hj hb (y := (k : Int)) (z := (i : Int)) (by omega) (by have := hb.1; omega) (by omega) (by have := hb.1; omega) (by omega) e
  omega
variable {i x : Int} (i0 : 0 ≤ i) (i1 : i < (l.length : Int)) (x0 : 0 ≤ x) (x1 : x < (l.length : Int)) (hi : Fip.nth b i < 0) {m : Nat} {now : List Int} (h : Stop l b i x m now)
include i0 i1 x0 x1 h
/-- If it ends where it began the root goes on. -/
theorem Stop.good (hm : 1 ≤ m) (e0 : S.alt l i x m = i) (e1 : S.alt l i x (m + 1) = x) : Good l now := by
  have ha := fun k => hj.alt i0 i1 x0 x1 k
  have hval : ∀ j, j < m + 1 → Fip.nth now (S.alt l i x j) = S.alt l i x (j + 1) := fun j hjm => by
    rcases Nat.lt_or_ge j m with h1 | h1
    · exact h.val j h1
    · rw [show j = m by omega, e0, e1]
      exact h.val 0 hm
  refine ⟨h.len, fun y y0 y1 => ?_⟩
  by_cases hy : ∃ j, j < m ∧ y = S.alt l i x j
  · obtain ⟨j, hjm, rfl⟩ := hy
    right
    rw [h.val j hjm]
    exact ⟨(ha (j + 1)).1, (ha (j + 1)).2, by rw [hval (j + 1) (by omega)]; exact alt_step j⟩
  · have hy2 : ∀ j, j < m → y ≠ S.alt l i x j := fun j hjm e => hy ⟨j, hjm, e⟩
    rw [h.oth y y0 y1 hy2]
    rcases hb.2 y y0 y1 with h1 | ⟨h1, h2, h3⟩
    · exact .inl h1
    · refine .inr ⟨h1, h2, ?_⟩
      rw [h.oth _ h1 h2 (fun j hjm e => ?_), h3]
      have := h.unb j hjm
      rw [← e, h3] at this
      have := (hj.nth y0 y1).1
      omega
/-- If it ends as it shall, it ends where it began. -/
theorem Stop.back (hi : Fip.nth b i < 0) (hc : Fip.nth now (S.alt l i x m) = S.alt l i x (m + 1)) (hd : Diff now) : 1 ≤ m ∧ S.alt l i x m = i ∧ S.alt l i x (m + 1) = x := by
  have ha := fun k => hj.alt i0 i1 x0 x1 k
  have hl := h.len
  by_cases hm : ∃ j, j < m ∧ S.alt l i x j = S.alt l i x m
  · obtain ⟨j, hjm, e⟩ := hm
    have h1 := h.val j hjm
    rw [e, hc] at h1
    rcases Nat.eq_zero_or_pos j with rfl | hj0
    · exact ⟨by omega, by rw [← e]; rfl, by rw [h1]; rfl⟩
    · exfalso
      -- two go to the same
      have h2 := h.val (j - 1) (by omega)
      have h3 := h.val (m - 1) (by omega)
      rw [show j - 1 + 1 = j by omega] at h2
      rw [show m - 1 + 1 = m by omega, ← e] at h3
      have hne := h.dist (m - 1) (by omega) (j - 1) (by omega)
      have a1 := ha (j - 1); have a2 := ha (m - 1); have a3 := ha j
      have g : ∀ y z : Int, 0 ≤ y → y < z → z < (now.length : Int) → Fip.nth now y = Fip.nth now z → 0 ≤ Fip.nth now z → False := fun y z y0 yz z1 e h0 => by
        have := hd z.toNat (by omega) y.toNat (by omega)
        rw [Int.toNat_of_nonneg y0, Int.toNat_of_nonneg (by omega)] at this
        exact this ⟨e, h0⟩
      rcases Int.lt_trichotomy (S.alt l i x (j - 1)) (S.alt l i x (m - 1)) with h4 | h4 | h4
      · exact g _ _ a1.1 h4 (by omega) (by rw [h2, h3]) (by rw [h3]; exact a3.1)
      · exact hne h4
      · exact g _ _ a2.1 h4 (by omega) (by rw [h2, h3]) (by rw [h2]; exact a3.1)
  · exfalso
    have hm2 : ∀ j, j < m → S.alt l i x m ≠ S.alt l i x j := fun j hjm e => hm ⟨j, hjm, e.symm⟩
    have h1 := h.stop
    have hbm := h.oth _ (ha m).1 (ha m).2 hm2
    rw [hbm] at h1 hc
    match m, h, h1, hc with
    | 0, _, h1, _ => rw [alt_zero] at h1; omega
    | 1, _, h1, hc =>
      rw [alt_one] at h1 hc
      rcases hb.2 x x0 x1 with h2 | ⟨h2, h3, h4⟩
      · omega
      · have h5 := Good.on hj hb x0 x1 h1 1
        have h6 : 0 ≤ Fip.nth b (Fip.nth b x) := by rw [h4]; exact (hj.nth x0 x1).1
        rw [hc, alt_step 0, alt_zero] at h6
        have := Good.off hj hb i0 i1 hi ⟨1, rfl⟩
        rw [it_one] at this
        omega
    | m + 2, h, h1, _ =>
      rw [alt_step] at h1
      have h2 := h.unb m (by omega)
      have := Good.off hj hb (ha m).1 (ha m).2 h2 ⟨1, rfl⟩
      rw [it_one] at this
      omega
omit hb in
/-- What then is known of the circles. -/
theorem Stop.circles (hm : 1 ≤ m) (e0 : S.alt l i x m = i) (e1 : S.alt l i x (m + 1) = x) : (m = 2 * per l i ∧ per l x = per l i ∧ x ∉ circ l i) ∨ (m = per l i ∧ m % 2 = 1 ∧ x = S.it l ((m + 1) / 2) i) := by
  rcases Nat.mod_two_eq_zero_or_one m with h2 | h2
  · left
    obtain ⟨k, rfl⟩ : ∃ k, m = 2 * k := ⟨m / 2, by omega⟩
    rw [alt_even] at e0
    rw [alt_odd] at e1
    have hp : per l i = k := by
      have h3 := (hj.it_self i0 i1).1 e0
      have h4 := Nat.dvd_of_mod_eq_zero h3
      have h5 := Nat.le_of_dvd (by omega) h4
      rcases Nat.lt_or_ge (per l i) k with h6 | h6
      · exfalso
        have h7 := h.dist (2 * per l i) (by omega) 0 (by have := per_pos (l := l) (a := i); omega)
        rw [alt_even, alt_zero, (hj.per_at i0 i1).1] at h7
        exact h7 rfl
      · omega
    have hpx : per l x = k := by
      have h3 := (hj.it_self x0 x1).1 e1
      have h4 := Nat.dvd_of_mod_eq_zero h3
      have h5 := Nat.le_of_dvd (by omega) h4
      rcases Nat.lt_or_ge (per l x) k with h6 | h6
      · exfalso
        have h7 := h.dist (2 * per l x + 1) (by omega) 1 (by have := per_pos (l := l) (a := x); omega)
        rw [alt_odd, alt_one, (hj.per_at x0 x1).1] at h7
        exact h7 rfl
      · omega
    refine ⟨by omega, by omega, fun hx => ?_⟩
    unfold circ at hx
    obtain ⟨q, hq, e⟩ := List.mem_map.1 hx
    have hq2 := List.mem_range.1 hq
    rcases Nat.lt_or_ge (2 * q) 1 with h3 | h3
    · have h4 := h.dist 1 (by omega) (2 * q) (by omega)
      rw [alt_even, alt_one] at h4
      exact h4 e
    · have h4 := h.dist (2 * q) (by omega) 1 (by omega)
      rw [alt_even, alt_one] at h4
      exact h4 e.symm
  · right
    obtain ⟨k, rfl⟩ : ∃ k, m = 2 * k + 1 := ⟨m / 2, by omega⟩
    rw [alt_odd] at e0
    rw [show 2 * k + 1 + 1 = 2 * (k + 1) by omega, alt_even] at e1
    have hper : S.it l (2 * k + 1) i = i := by
      rw [show 2 * k + 1 = k + (k + 1) by omega, it_add, e1, e0]
    have hp1 := Nat.dvd_of_mod_eq_zero ((hj.it_self i0 i1).1 hper)
    have hp2 : k + 1 ≤ per l i := by
      rcases Nat.lt_or_ge (per l i) (k + 1) with h3 | h3
      · exfalso
        have h7 := h.dist (2 * per l i) (by omega) 0 (by have := per_pos (l := l) (a := i); omega)
        rw [alt_even, alt_zero, (hj.per_at i0 i1).1] at h7
        exact h7 rfl
      · exact h3
    obtain ⟨c, hc⟩ := hp1
    have hc1 : c = 1 := by
      rcases c with _ | _ | c
      · omega
      · rfl
      · exfalso
        have : per l i * 2 ≤ per l i * (c + 1 + 1) := Nat.mul_le_mul_left _ (by omega)
        omega
    subst hc1
    exact ⟨by omega, by omega, by rw [show (2 * k + 1 + 1) / 2 = k + 1 by omega]; exact e1.symm⟩
end
/-- To which flutes i may go. -/
def free (l b : List Int) (i y : Int) : Bool := decide (nth b y < 0 ∧ per l y = per l i ∧ (place (circ l i) y < 0 ∨ 2 * place (circ l i) y % (per l i : Int) = 1 % (per l i : Int)))
theorem place_at {l : List Int} (hj : J l) {i : Int} (i0 : 0 ≤ i) (i1 : i < (l.length : Int)) {k : Nat} (hk : k < per l i) : place (circ l i) (it l k i) = (k : Int) := by
  unfold place
  refine idx_hit (by rw [circ_length]; exact hk) (fun q hq => ?_) ?_
  · rw [nth_circ (by omega)]
    refine decide_eq_false fun e => ?_
    have := hj.it_eq i0 i1 (by omega) hk e
    omega
  · rw [nth_circ hk]; exact decide_eq_true rfl
theorem place_out {c : List Int} {x : Int} : place c x < 0 ↔ x ∉ c := by
  have h := place_iff (l := c) (x := x)
  constructor
  · intro h1 hx
    obtain ⟨k, hk, e⟩ := List.getElem_of_mem hx
    have := h.2 ⟨k, hk, by rw [nth_nat hk]; exact e⟩
    omega
  · intro h1
    apply Classical.byContradiction
    intro h2
    obtain ⟨k, hk, e⟩ := h.1 (by omega)
    rw [nth_nat hk] at e
    exact h1 (e ▸ List.getElem_mem hk)
section
variable {l b : List Int} (hj : J l) (hb : Good l b) {i x : Int} (i0 : 0 ≤ i) (i1 : i < (l.length : Int)) (x0 : 0 ≤ x) (x1 : x < (l.length : Int)) (hi : Fip.nth b i < 0) {m : Nat} {now : List Int} (h : Stop l b i x m now)
include hj hb i0 i1 x0 x1 hi h
omit hb in
theorem Stop.free (hm : 1 ≤ m) (e0 : S.alt l i x m = i) (e1 : S.alt l i x (m + 1) = x) : S.free l b i x = true := by
  unfold S.free
  rw [decide_eq_true_eq]
  have hx : Fip.nth b x < 0 := by
    rcases Nat.lt_or_ge 1 m with h1 | h1
    · have := h.unb 1 h1; rwa [alt_one] at this
    · rw [show m = 1 by omega, alt_one] at e0; rw [e0]; exact hi
  rcases h.circles hj i0 i1 x0 x1 hm e0 e1 with ⟨hm2, hp, hn⟩ | ⟨hm2, ho, hx2⟩
  · exact ⟨hx, hp, .inl (place_out.2 hn)⟩
  · refine ⟨hx, hj.per_rch i0 i1 ⟨_, hx2.symm⟩, .inr ?_⟩
    rcases Nat.lt_or_ge 1 m with h1 | h1
    · rw [hx2, place_at hj i0 i1 (by omega), ← hm2]
      rw [show (2 * (((m + 1) / 2 : Nat) : Int)) = ((m : Int) + 1) by omega]
      rw [Int.add_emod_left]
    · have hp1 : per l i = 1 := by omega
      rw [hp1]
      omega
theorem Stop.of_free (hf : S.free l b i x = true) : 1 ≤ m ∧ S.alt l i x m = i ∧ S.alt l i x (m + 1) = x := by
  unfold S.free at hf
  rw [decide_eq_true_eq] at hf
  obtain ⟨hx, hp, hpl⟩ := hf
  have ha := fun k => hj.alt i0 i1 x0 x1 k
  have hpp := per_pos (l := l) (a := i)
  -- all that are met are without a number
  have hun : ∀ k, Fip.nth b (S.alt l i x k) < 0 := fun k => by
    unfold S.alt
    split
    · exact Good.off hj hb i0 i1 hi ⟨_, rfl⟩
    · exact Good.off hj hb x0 x1 hx ⟨_, rfl⟩
  have hrep : ∃ j, j < m ∧ S.alt l i x j = S.alt l i x m := Classical.byContradiction fun hno => by
    have h1 := h.oth _ (ha m).1 (ha m).2 (fun j hjm e => hno ⟨j, hjm, e.symm⟩)
    have := h.stop
    have := hun m
    omega
  obtain ⟨j, hjm, e⟩ := hrep
  have hj2 : j < 2 := by
    apply Classical.byContradiction
    intro h2
    obtain ⟨j', rfl⟩ : ∃ j', j = j' + 2 := ⟨j - 2, by omega⟩
    obtain ⟨m', rfl⟩ : ∃ m', m = m' + 2 := ⟨m - 2, by omega⟩
    rw [alt_step, alt_step] at e
    have := hj.inj (ha j').1 (ha j').2 (ha m').1 (ha m').2 e
    exact h.dist m' (by omega) j' (by omega) this
  by_cases hc : x ∈ circ l i
  · -- on its own circle
    unfold circ at hc
    obtain ⟨k0, hk, ek⟩ := List.mem_map.1 hc
    have hk2 := List.mem_range.1 hk
    have hpl2 : 2 * k0 % per l i = 1 % per l i := by
      rcases hpl with h1 | h1
      · exact absurd (List.mem_map.2 ⟨k0, hk, ek⟩) (place_out.1 h1)
      · rw [← ek, place_at hj i0 i1 hk2] at h1
        exact_mod_cast h1
    -- the t-th is t times k0 further on
    have htwo : ∀ t, S.it l (2 * t * k0) i = S.it l t i := fun t => by
      rw [← hj.it_mod i0 i1 (2 * t * k0), ← hj.it_mod i0 i1 t]
      congr 1
      rw [show 2 * t * k0 = t * (2 * k0) by rw [Nat.mul_comm 2 t, Nat.mul_assoc], Nat.mul_mod, hpl2, ← Nat.mul_mod, Nat.mul_one]
    have hat : ∀ t, S.alt l i x t = S.it l (t * k0) i := fun t => by
      rcases Nat.mod_two_eq_zero_or_one t with h1 | h1
      · obtain ⟨q, rfl⟩ : ∃ q, t = 2 * q := ⟨t / 2, by omega⟩
        rw [alt_even, htwo]
      · obtain ⟨q, rfl⟩ : ∃ q, t = 2 * q + 1 := ⟨t / 2, by omega⟩
        rw [alt_odd, ← ek, Nat.add_mul, Nat.one_mul, ← it_add, Nat.add_comm q k0, Nat.add_comm (2 * q * k0) k0, it_add, it_add, htwo]
    have hdv : ∀ t, S.it l (t * k0) i = i → per l i ∣ t := fun t ht => by
      have h1 : S.it l (2 * t * k0) i = i := by
        rw [show 2 * t * k0 = t * k0 + t * k0 by rw [Nat.mul_assoc, Nat.two_mul], it_add, ht, ht]
      rw [htwo] at h1
      exact Nat.dvd_of_mod_eq_zero ((hj.it_self i0 i1).1 h1)
    rcases Nat.eq_zero_or_pos j with rfl | hj0
    · rw [alt_zero] at e
      refine ⟨by omega, e.symm, ?_⟩
      rw [hat, Nat.add_mul, Nat.one_mul, Nat.add_comm, it_add, ← hat, ← e, ek]
    · exfalso
      have hj1 : j = 1 := by omega
      subst hj1
      rw [hat, hat, Nat.one_mul, show m * k0 = k0 + (m - 1) * k0 by (obtain ⟨m', rfl⟩ : ∃ m', m = m' + 1 := ⟨m - 1, by omega⟩); rw [Nat.add_mul, Nat.one_mul, Nat.add_sub_cancel, Nat.add_comm]] at e
      rw [it_add] at e
      have h2 := hj.it_inj i0 i1 (hj.it i0 i1 ((m - 1) * k0)).1 (hj.it i0 i1 ((m - 1) * k0)).2 k0 e
      rw [← hat] at h2
      exact h.dist (m - 1) (by omega) 0 (by omega) (by rw [alt_zero]; exact h2)
  · -- on another one
    have hnr : ∀ k q, S.it l k i ≠ S.it l q x := fun k q e => by
      have hr : Rch l i x := (show Rch l i (S.it l q x) from ⟨k, e⟩).trans (hj.symm x0 x1 ⟨q, rfl⟩)
      exact hc ((hj.mem_circ i0 i1).2 hr)
    rcases Nat.mod_two_eq_zero_or_one m with h2 | h2
    · obtain ⟨k, rfl⟩ : ∃ k, m = 2 * k := ⟨m / 2, by omega⟩
      rw [alt_even] at e
      have hj0 : j = 0 := by
        rcases Nat.eq_zero_or_pos j with h3 | h3
        · exact h3
        · rw [show j = 1 by omega, alt_one] at e
          exact absurd e.symm (hnr k 0)
      subst hj0
      rw [alt_zero] at e
      have h3 := (hj.it_self i0 i1).1 e.symm
      refine ⟨by omega, by rw [alt_even]; exact e.symm, ?_⟩
      rw [alt_odd]
      exact (hj.it_self x0 x1).2 (by rw [hp]; exact h3)
    · obtain ⟨k, rfl⟩ : ∃ k, m = 2 * k + 1 := ⟨m / 2, by omega⟩
      rw [alt_odd] at e
      exfalso
      rcases Nat.eq_zero_or_pos j with h3 | h3
      · subst h3
        rw [alt_zero] at e
        exact hnr 0 k e
      · rw [show j = 1 by omega, alt_one] at e
        have h4 := (hj.it_self x0 x1).1 e.symm
        rw [hp] at h4
        have h5 := (hj.it_self i0 i1).2 h4
        exact h.dist (2 * k) (by omega) 0 (by omega) (by rw [alt_zero, alt_even, h5])
/-- It ends as it shall if, and only if, i may go to x. -/
theorem Stop.iff : (Fip.nth now (S.alt l i x m) = S.alt l i x (m + 1) ∧ Diff now) ↔ S.free l b i x = true := by
  constructor
  · rintro ⟨h1, h2⟩
    obtain ⟨a, b', c⟩ := h.back hj hb i0 i1 x0 x1 hi h1 h2
    exact h.free hj i0 i1 x0 x1 hi a b' c
  · intro hf
    obtain ⟨a, e0, e1⟩ := h.of_free hj hb i0 i1 x0 x1 hi hf
    refine ⟨?_, Good.diff hj (h.good hj hb i0 i1 x0 x1 a e0 e1)⟩
    have := h.val 0 a
    rw [alt_zero, Nat.zero_add, alt_one] at this
    rw [e0, e1, this]
end
end Go.Fip.S

set_option linter.unusedVariables false
set_option linter.unusedSimpArgs false
namespace Go.Fip.S
open Go.Fip
def fillF (l : List Int) : Nat → List Int → Int → Int → List Int
  | 0, now, _, _ => now
  | f + 1, now, a, t => if nth now a < 0 then fillF l f (now.set a.toNat t) t (nth l a) else now
def fillN (l now : List Int) (a t : Int) : List Int := fillF l (negs now) now a t
theorem fillN_step {l now : List Int} {a t : Int} (h0 : 0 ≤ a) (h1 : a < (now.length : Int)) (hn : nth now a < 0) (ht : 0 ≤ t) : fillN l now a t = fillN l (now.set a.toNat t) t (nth l a) := by
  unfold fillN
  rw [← negs_set h0 h1 hn ht, fillF, if_pos hn]
theorem fillN_stop {l now : List Int} {a t : Int} (h : 0 ≤ nth now a) : fillN l now a t = now := by
  unfold fillN
  cases negs now with
  | zero => rfl
  | succ f => rw [fillF, if_neg (by omega)]
section
variable {l b : List Int} (hj : J l) {i x : Int} (i0 : 0 ≤ i) (i1 : i < (l.length : Int)) (x0 : 0 ≤ x) (x1 : x < (l.length : Int))
include hj i0 i1 x0 x1
theorem fill_spec : ∀ (n : Nat) (k : Nat) (now : List Int), negs now = n → Fl l b i x k now → ∃ m, Stop l b i x m (fillN l now (S.alt l i x k) (S.alt l i x (k + 1))) := by
  intro n
  induction n with
  | zero =>
    intro k now hn h
    have hz : 0 ≤ Fip.nth now (S.alt l i x k) := Classical.byContradiction fun hc => by
      have ha := hj.alt i0 i1 x0 x1 k
      have := negs_set (b := now) (t := 0) ha.1 (by rw [h.len]; exact ha.2) (by omega) (by omega)
      omega
    rw [fillN_stop hz]
    exact ⟨k, h, hz⟩
  | succ n ih =>
    intro k now hn h
    by_cases hz : 0 ≤ Fip.nth now (S.alt l i x k)
    · rw [fillN_stop hz]
      exact ⟨k, h, hz⟩
    · have ha := hj.alt i0 i1 x0 x1 k
      have ha1 := hj.alt i0 i1 x0 x1 (k + 1)
      rw [fillN_step ha.1 (by rw [h.len]; exact ha.2) (by omega) ha1.1, ← alt_step]
      refine ih (k + 1) _ ?_ (h.step hj i0 i1 x0 x1 (by omega))
      have := negs_set (b := now) ha.1 (by rw [h.len]; exact ha.2) (by omega) ha1.1
      omega
theorem fill_stop (hb : b.length = l.length) : ∃ m, Stop l b i x m (fillN l b i x) := fill_spec hj i0 i1 x0 x1 _ 0 b rfl (Fl.start hb)
end
/-- The first flute without a number. -/
def un (b : List Int) : Option Nat := (List.range b.length).find? fun i => decide (nth b (i : Int) < 0)
theorem un_some {b : List Int} {i : Nat} : un b = some i ↔ i < b.length ∧ nth b (i : Int) < 0 ∧ ∀ j, j < i → 0 ≤ nth b (j : Int) := by
  unfold un
  rw [List.find?_range_eq_some]
  simp only [decide_eq_true_eq, List.mem_range, Bool.not_eq_true', decide_eq_false_iff_not]
  exact ⟨fun h => ⟨h.2.1, h.1, fun j hj => by have := h.2.2 j hj; omega⟩, fun h => ⟨h.2.1, h.1, fun j hj => by have := h.2.2 j hj; omega⟩⟩
theorem un_none {b : List Int} : un b = none ↔ ∀ i, i < b.length → 0 ≤ nth b (i : Int) := by
  unfold un
  rw [List.find?_range_eq_none]
  simp only [Bool.not_eq_true', decide_eq_false_iff_not]
  exact ⟨fun h i hi => by have := h i hi; omega, fun h i hi => by have := h i hi; omega⟩
/-- Of each even length there is an even number of circles without numbers. -/
def par (l b : List Int) : Bool := (List.range 11).all fun p => decide (p % 2 = 1 ∨ U l b p % (2 * p) = 0)
theorem J.U_gt {l b : List Int} (h : J l) {p : Nat} (hp : 10 < p) : U l b p = 0 := by
  unfold U
  rw [List.countP_eq_zero]
  intro y hy
  have hr := mem_right.1 hy
  have := (h.per_at hr.1 hr.2).2
  have := h.2.1
  simp
  omega
theorem par_iff {l b : List Int} (h : J l) : par l b = true ↔ ∀ p, p % 2 = 0 → U l b p % (2 * p) = 0 := by
  unfold par
  rw [List.all_eq_true]
  constructor
  · intro h1 p hp
    rcases Nat.lt_or_ge p 11 with h2 | h2
    · have := h1 p (List.mem_range.2 h2)
      rw [decide_eq_true_eq] at this
      omega
    · rw [h.U_gt (by omega)]; exact Nat.zero_mod _
  · intro h1 p _
    rw [decide_eq_true_eq]
    rcases Nat.mod_two_eq_zero_or_one p with h2 | h2
    · exact .inr (h1 p h2)
    · exact .inl h2
section
variable {l b : List Int} (hj : J l) (hb : Good l b) {i x : Int} (i0 : 0 ≤ i) (i1 : i < (l.length : Int)) (x0 : 0 ≤ x) (x1 : x < (l.length : Int)) (hi : Fip.nth b i < 0)
include hj hb i0 i1 x0 x1 hi
/-- Whether the way goes on as it shall: it does if i may go to x. -/
theorem nice_iff : ∃ m, Stop l b i x m (fillN l b i x) ∧ ((Fip.nth (fillN l b i x) (S.alt l i x m) = S.alt l i x (m + 1) ∧ Diff (fillN l b i x)) ↔ S.free l b i x = true) := by
  obtain ⟨m, hm⟩ := fill_stop hj i0 i1 x0 x1 (b := b) hb.1
  exact ⟨m, hm, hm.iff hj hb i0 i1 x0 x1 hi⟩
variable (hf : S.free l b i x = true)
include hf
theorem fill_good : Good l (fillN l b i x) := by
  obtain ⟨m, hm⟩ := fill_stop hj i0 i1 x0 x1 (b := b) hb.1
  obtain ⟨h1, e0, e1⟩ := hm.of_free hj hb i0 i1 x0 x1 hi hf
  exact hm.good hj hb i0 i1 x0 x1 h1 e0 e1
theorem fill_negs : negs (fillN l b i x) < negs b := by
  obtain ⟨m, hm⟩ := fill_stop hj i0 i1 x0 x1 (b := b) hb.1
  obtain ⟨h1, e0, e1⟩ := hm.of_free hj hb i0 i1 x0 x1 hi hf
  have := hm.ng
  omega
theorem fill_U {p : Nat} (hp : p % 2 = 0) : U l (fillN l b i x) p % (2 * p) = U l b p % (2 * p) := by
  obtain ⟨m, hm⟩ := fill_stop hj i0 i1 x0 x1 (b := b) hb.1
  obtain ⟨h1, e0, e1⟩ := hm.of_free hj hb i0 i1 x0 x1 hi hf
  have hper : per l x = per l i := by
    unfold S.free at hf
    rw [decide_eq_true_eq] at hf
    exact hf.2.1
  have h2 := hm.cnt p
  have ha : ∀ j, j < m → per l (S.alt l i x j) = per l i := fun j _ => by
    unfold S.alt
    split
    · exact hj.per_rch i0 i1 ⟨_, rfl⟩
    · rw [hj.per_rch x0 x1 ⟨_, rfl⟩, hper]
  rw [countP_all ha] at h2
  by_cases e : per l i = p
  · rw [if_pos e] at h2
    rcases hm.circles hj i0 i1 x0 x1 h1 e0 e1 with ⟨hm2, _⟩ | ⟨hm2, ho, _⟩
    · rw [← h2, hm2, e, Nat.add_mod_right]
    · omega
  · rw [if_neg e] at h2
    rw [← h2, Nat.add_zero]
theorem fill_par : par l (fillN l b i x) = par l b := by
  rw [Bool.eq_iff_iff, par_iff hj, par_iff hj]
  constructor
  · intro h p hp; rw [← fill_U hj hb i0 i1 x0 x1 hi hf hp]; exact h p hp
  · intro h p hp; rw [fill_U hj hb i0 i1 x0 x1 hi hf hp]; exact h p hp
end
section
variable {l b : List Int} (hj : J l) (hb : Good l b) {i : Int} (i0 : 0 ≤ i) (i1 : i < (l.length : Int)) (hi : Fip.nth b i < 0)
include hj hb i0 i1 hi
theorem free_ex (hp : par l b = true) : ∃ y, 0 ≤ y ∧ y < (l.length : Int) ∧ S.free l b i y = true := by
  have hpp := per_pos (l := l) (a := i)
  rcases Nat.mod_two_eq_zero_or_one (per l i) with h2 | h2
  · have h1 := (par_iff hj).1 hp _ h2
    have hci : ∀ y ∈ circ l i, 0 ≤ y ∧ y < (l.length : Int) ∧ Fip.nth b y < 0 ∧ per l y = per l i := fun y hy => by
      have hr := (hj.mem_circ i0 i1).1 hy
      have hy2 := hj.rin i0 i1 hr
      exact ⟨hy2.1, hy2.2, Good.off hj hb i0 i1 hi hr, hj.per_rch i0 i1 hr⟩
    apply Classical.byContradiction
    intro hno
    have hU : U l b (per l i) ≤ per l i := by
      unfold U
      rw [List.countP_eq_length_filter]
      have := sub_length (l := (right l.length).filter fun y => decide (Fip.nth b y < 0 ∧ per l y = per l i)) (m := circ l i) (List.Nodup.sublist List.filter_sublist (right_nodup _)) (fun y hy => by
        rw [List.mem_filter, mem_right, decide_eq_true_eq] at hy
        apply Classical.byContradiction
        intro hc
        exact hno ⟨y, hy.1.1, hy.1.2, by unfold S.free; rw [decide_eq_true_eq]; exact ⟨hy.2.1, hy.2.2, .inl (place_out.2 hc)⟩⟩)
      rwa [circ_length] at this
    have hU2 : per l i ≤ U l b (per l i) := by
      unfold U
      rw [List.countP_eq_length_filter]
      have := sub_length (m := (right l.length).filter fun y => decide (Fip.nth b y < 0 ∧ per l y = per l i)) (l := circ l i) (hj.circ_nodup i0 i1) (fun y hy => by
        rw [List.mem_filter, mem_right, decide_eq_true_eq]
        have := hci y hy
        exact ⟨⟨this.1, this.2.1⟩, this.2.2⟩)
      rwa [circ_length] at this
    have e : U l b (per l i) = per l i := by omega
    rw [e, Nat.mod_eq_of_lt (by omega)] at h1
    omega
  · refine ⟨S.it l ((per l i + 1) / 2) i, (hj.it i0 i1 _).1, (hj.it i0 i1 _).2, ?_⟩
    unfold S.free
    rw [decide_eq_true_eq]
    refine ⟨Good.off hj hb i0 i1 hi ⟨_, rfl⟩, hj.per_rch i0 i1 ⟨_, rfl⟩, .inr ?_⟩
    rcases Nat.lt_or_ge 1 (per l i) with h3 | h3
    · rw [place_at hj i0 i1 (by omega), show (2 * (((per l i + 1) / 2 : Nat) : Int)) = ((per l i : Int) + 1) by omega, Int.add_emod_left]
    · rw [show per l i = 1 by omega]
      omega
end
def rtF (l : List Int) : Nat → List Int → List Int
  | 0, b => b
  | f + 1, b => match un b with
    | none => b
    | some i => rtF l f (fillN l b (i : Int) (first l.length (free l b (i : Int))))
def rt (l b : List Int) : List Int := rtF l (negs b) b
theorem rtF_none {l b : List Int} (h : un b = none) : ∀ f, rtF l f b = b
  | 0 => rfl
  | f + 1 => by rw [rtF, h]
theorem rtF_some {l b : List Int} {i : Nat} (h : un b = some i) (f : Nat) : rtF l (f + 1) b = rtF l f (fillN l b (i : Int) (first l.length (free l b (i : Int)))) := by rw [rtF, h]
theorem negs_pos {b : List Int} {i : Nat} (h : un b = some i) : 1 ≤ negs b := by
  obtain ⟨h1, h2, _⟩ := un_some.1 h
  have := negs_set (b := b) (y := (i : Int)) (t := 0) (by omega) (by omega) h2 (by omega)
  omega
section
variable {l : List Int} (hj : J l)
include hj
theorem un_first {b : List Int} (hb : Good l b) (hp : par l b = true) {i : Nat} (hu : un b = some i) : 0 ≤ first l.length (free l b (i : Int)) ∧ first l.length (free l b (i : Int)) < (l.length : Int) ∧ free l b (i : Int) (first l.length (free l b (i : Int))) = true ∧ ∀ y, 0 ≤ y → y < first l.length (free l b (i : Int)) → free l b (i : Int) y = false := by
  obtain ⟨h1, h2, _⟩ := un_some.1 hu
  have := hb.1
  exact first_spec (free_ex hj hb (by omega) (by omega) h2 hp)
theorem rtF_eq : ∀ (f : Nat) (b : List Int), Good l b → par l b = true → negs b ≤ f → rtF l f b = rt l b := by
  intro f
  induction f using Nat.strongRecOn with
  | ind f ih =>
    intro b hb hp hf
    cases hu : un b with
    | none => unfold rt; rw [rtF_none hu, rtF_none hu]
    | some i =>
      obtain ⟨h1, h2, _⟩ := un_some.1 hu
      have hl := hb.1
      have hn := negs_pos hu
      obtain ⟨x0, x1, hx, _⟩ := un_first hj hb hp hu
      have g1 := fill_good hj hb (by omega) (by omega) x0 x1 h2 hx
      have g2 := fill_negs hj hb (by omega) (by omega) x0 x1 h2 hx
      have g3 := fill_par hj hb (by omega) (by omega) x0 x1 h2 hx
      obtain ⟨f', rfl⟩ : ∃ f', f = f' + 1 := ⟨f - 1, by omega⟩
      obtain ⟨n', hn'⟩ : ∃ n', negs b = n' + 1 := ⟨negs b - 1, by omega⟩
      unfold rt
      rw [hn', rtF_some hu, rtF_some hu, ih f' (by omega) _ g1 (by rw [g3]; exact hp) (by omega), ih n' (by omega) _ g1 (by rw [g3]; exact hp) (by omega)]
theorem rt_step {b : List Int} (hb : Good l b) (hp : par l b = true) {i : Nat} (hu : un b = some i) : rt l b = rt l (fillN l b (i : Int) (first l.length (free l b (i : Int)))) := by
  obtain ⟨h1, h2, _⟩ := un_some.1 hu
  have hl := hb.1
  have hn := negs_pos hu
  obtain ⟨x0, x1, hx, _⟩ := un_first hj hb hp hu
  have g1 := fill_good hj hb (by omega) (by omega) x0 x1 h2 hx
  have g2 := fill_negs hj hb (by omega) (by omega) x0 x1 h2 hx
  have g3 := fill_par hj hb (by omega) (by omega) x0 x1 h2 hx
  obtain ⟨n', hn'⟩ : ∃ n', negs b = n' + 1 := ⟨negs b - 1, by omega⟩
  conv => lhs; unfold rt; rw [hn', rtF_some hu]
  exact rtF_eq hj n' _ g1 (by rw [g3]; exact hp) (by omega)
/-- What comes out in the end is a root in part that leaves nothing out. -/
theorem rt_good : ∀ (n : Nat) (b : List Int), negs b = n → Good l b → par l b = true → Good l (rt l b) ∧ un (rt l b) = none := by
  intro n
  induction n using Nat.strongRecOn with
  | ind n ih =>
    intro b hn hb hp
    cases hu : un b with
    | none => unfold rt; rw [rtF_none hu]; exact ⟨hb, hu⟩
    | some i =>
      obtain ⟨h1, h2, _⟩ := un_some.1 hu
      have hl := hb.1
      obtain ⟨x0, x1, hx, _⟩ := un_first hj hb hp hu
      rw [rt_step hj hb hp hu]
      exact ih _ (by rw [← hn]; exact fill_negs hj hb (by omega) (by omega) x0 x1 h2 hx) _ rfl (fill_good hj hb (by omega) (by omega) x0 x1 h2 hx) (by rw [fill_par hj hb (by omega) (by omega) x0 x1 h2 hx]; exact hp)
end
theorem rt_none {l b : List Int} (h : un b = none) : rt l b = b := rtF_none h _
/-- The search's answer. -/
def rootB (l b : List Int) : List Int := if par l b = true then rt l b else []
theorem rb_f {l b : List Int} (h : ¬ par l b = true) : rootB l b = [] := if_neg h
theorem rb_t {l b : List Int} (h : par l b = true) : rootB l b = rt l b := if_pos h
/-- Nothing has a number. -/
def none1 (n : Nat) : List Int := List.replicate n (-1)
theorem nth_none1 {n : Nat} {y : Int} (h0 : 0 ≤ y) (h1 : y < (n : Int)) : nth (none1 n) y = -1 := by
  unfold none1
  obtain ⟨k, rfl⟩ := Int.eq_ofNat_of_zero_le h0
  rw [nth_nat (by simp; omega)]
  simp
theorem none1_good {l : List Int} : Good l (none1 l.length) := ⟨by simp [none1], fun y y0 y1 => .inl (nth_none1 y0 y1)⟩
theorem none1_U {l : List Int} (hj : J l) {p : Nat} : U l (none1 l.length) p = p * many l p := by
  rw [← hj.many p]
  unfold U
  refine List.countP_congr fun y hy => ?_
  have := mem_right.1 hy
  rw [nth_none1 this.1 this.2]
  simp
theorem none1_par {l : List Int} (hj : J l) : par l (none1 l.length) = true ↔ noneL l = 0 := by
  rw [par_iff hj]
  constructor
  · intro h
    refine hj.none_miss fun k hk => ?_
    cases hn : noneP l k with
    | false => rfl
    | true =>
      exfalso
      have hk0 := noneP_pos hn
      unfold noneP at hn
      rw [decide_eq_true_eq] at hn
      have h1 := h k hn.1
      rw [none1_U hj] at h1
      obtain ⟨c, hc⟩ := Nat.dvd_of_mod_eq_zero h1
      have : many l k = 2 * c := Nat.eq_of_mul_eq_mul_left hk0 (by rw [hc, Nat.mul_comm 2 k, Nat.mul_assoc])
      omega
  · intro h p hp
    rw [none1_U hj]
    rcases Nat.mod_two_eq_zero_or_one (many l p) with h1 | h1
    · obtain ⟨c, hc⟩ := Nat.dvd_of_mod_eq_zero h1
      rw [hc, ← Nat.mul_assoc, Nat.mul_comm p 2, Nat.mul_mod_right]
    · exfalso
      have hn : noneP l p = true := decide_eq_true ⟨hp, h1⟩
      have hle := hj.noneP_le hn
      have := hj.2.1
      unfold noneL at h
      cases hf : (List.range 11).find? (noneP l) with
      | none =>
        have := List.find?_range_eq_none.1 hf p (by omega)
        rw [hn] at this
        simp at this
      | some q =>
        have hq := (List.find?_range_eq_some.1 hf).1
        have := noneP_pos hq
        rw [hf] at h
        simp at h
        omega
def rootR (l : List Int) : List Int × Int := if check l 0 ≠ 0 then ([], check l 0) else if noneL l = 0 then (rt l (none1 l.length), 0) else ([], 20)
theorem ro1 {l : List Int} (h : ¬ check l 0 = 0) : rootR l = ([], check l 0) := if_pos h
theorem ro2 {l : List Int} (h : check l 0 = 0) (h2 : ¬ noneL l = 0) : rootR l = ([], 20) := by unfold rootR; rw [if_neg (fun k => k h), if_neg h2]
theorem ro3 {l : List Int} (h : check l 0 = 0) (h2 : noneL l = 0) : rootR l = (rt l (none1 l.length), 0) := by unfold rootR; rw [if_neg (fun k => k h), if_pos h2]
end Go.Fip.S
namespace Go.Fip.S
open Go.Fip
theorem place_lt {c : List Int} {x : Int} : place c x < (c.length : Int) ∨ place c x = -1 := by
  unfold place idx
  cases h : c.findIdx? (fun y => decide (y = x)) with
  | none => exact .inr rfl
  | some k =>
    left
    have := (List.findIdx?_eq_some_iff_getElem.1 h).1
    show (k : Int) < _
    omega
theorem place_ge {c : List Int} {x : Int} : -1 ≤ place c x := by
  unfold place idx
  cases c.findIdx? (fun y => decide (y = x)) with
  | none => exact Int.le_refl _
  | some k => show (-1 : Int) ≤ (k : Int); omega
theorem Stop.keep {l b : List Int} (hj : J l) {i x : Int} (i0 : 0 ≤ i) (i1 : i < (l.length : Int)) (x0 : 0 ≤ x) (x1 : x < (l.length : Int)) (hi : nth b i < 0) {m : Nat} {now : List Int} (h : Stop l b i x m now) {y : Int} (y0 : 0 ≤ y) (y1 : y < (l.length : Int)) (hy : 0 ≤ nth b y ∨ y = i) : 0 ≤ nth now y := by
  by_cases hm : ∃ j, j < m ∧ y = S.alt l i x j
  · obtain ⟨j, hjm, rfl⟩ := hm
    rw [h.val j hjm]
    exact (hj.alt i0 i1 x0 x1 (j + 1)).1
  · rw [h.oth y y0 y1 (fun j hjm e => hm ⟨j, hjm, e⟩)]
    rcases hy with h1 | rfl
    · exact h1
    · exfalso
      rcases Nat.eq_zero_or_pos m with h2 | h2
      · subst h2
        have h3 := h.stop
        have h4 := h.oth y y0 y1 (fun j hjm => absurd hjm (Nat.not_lt_zero _))
        rw [alt_zero, h4] at h3
        omega
      · exact hm ⟨0, h2, rfl⟩
end Go.Fip.S
namespace Go.Fip.S
open Go.Fip
theorem par_full {l b : List Int} (hj : J l) (hl : b.length = l.length) (h : un b = none) : par l b = true := (par_iff hj).2 fun p _ => by
  have : U l b p = 0 := by
    unfold U
    rw [List.countP_eq_zero]
    intro y hy
    have hr := mem_right.1 hy
    have := un_none.1 h y.toNat (by omega)
    rw [Int.toNat_of_nonneg hr.1] at this
    simp
    omega
  rw [this, Nat.zero_mod]
theorem rt_len {l b : List Int} (hj : J l) (hb : Good l b) (hp : par l b = true) : (rt l b).length = l.length := (rt_good hj _ b rfl hb hp).1.1
theorem un_none1 {l : List Int} (hj : J l) : un (none1 l.length) = some 0 := un_some.2 ⟨by have h9 := hj.1; simp [none1]; omega, by
  have h := nth_none1 (n := l.length) (y := ((0 : Nat) : Int)) (by omega) (by have := hj.1; omega)
  omega, fun j hj => absurd hj (Nat.not_lt_zero _)⟩
theorem rt_at {l b : List Int} (hj : J l) (hb : Good l b) (hp : par l b = true) {i : Nat} (hu : un b = some i) {x : Int} (x0 : 0 ≤ x) (x1 : x < (l.length : Int)) (hx : free l b (i : Int) x = true) (hall : ∀ y, 0 ≤ y → y < x → free l b (i : Int) y = false) : rt l b = rt l (fillN l b (i : Int) x) := by
  rw [rt_step hj hb hp hu, first_uni x0 x1 hx hall]
end Go.Fip.S

set_option linter.unusedVariables false
set_option linter.unusedSimpArgs false
set_option linter.unusedSectionVars false
namespace Go.Fip.S
open Go.Fip
abbrev Rg (k : List Int) : Prop := Ok (-1) k
theorem Rg.nth {k : List Int} (h : Rg k) {x : Int} (h0 : 0 ≤ x) (h1 : x < (k.length : Int)) : -1 ≤ Fip.nth k x ∧ Fip.nth k x < (k.length : Int) := by
  have := h.2.2.1 x.toNat (by omega)
  rwa [show ((x.toNat : Nat) : Int) = x by omega] at this
theorem Rg.inj {k : List Int} (h : Rg k) {x y : Int} (h0 : 0 ≤ x) (h1 : x < (k.length : Int)) (k0 : 0 ≤ y) (k1 : y < (k.length : Int)) (hx : 0 ≤ Fip.nth k x) (e : Fip.nth k x = Fip.nth k y) : x = y := by
  have d := h.2.2.2
  rcases Int.lt_trichotomy x y with h2 | h2 | h2
  · have := d y.toNat (by omega) x.toNat (by omega)
    rw [show ((x.toNat : Nat) : Int) = x by omega, show ((y.toNat : Nat) : Int) = y by omega] at this
    exact absurd ⟨e, by omega⟩ this
  · exact h2
  · have := d x.toNat (by omega) y.toNat (by omega)
    rw [show ((x.toNat : Nat) : Int) = x by omega, show ((y.toNat : Nat) : Int) = y by omega] at this
    exact absurd ⟨e.symm, by omega⟩ this
/-- From a so many steps by readings, to e. -/
def Chain (k : List Int) (a : Int) (j : Nat) : Prop := 0 ≤ a ∧ a < (k.length : Int) ∧ ∀ t, t < j → 0 ≤ Fip.nth k (it k t a)
section
variable {k : List Int} (h : Rg k) {a : Int} {j : Nat} (hc : Chain k a j)
include h hc
theorem Chain.at : ∀ t, t ≤ j → 0 ≤ it k t a ∧ it k t a < (k.length : Int)
  | 0, _ => ⟨hc.1, hc.2.1⟩
  | t + 1, ht => by
    have h1 := Chain.at t (by omega)
    have h2 := hc.2.2 t (by omega)
    have h3 := h.nth h1.1 h1.2
    exact ⟨h2, h3.2⟩
/-- If it ends there, all on it are different. -/
theorem Chain.dist (he : Fip.nth k (it k j a) < 0) : ∀ t u, t < u → u ≤ j → it k t a ≠ it k u a := fun t u htu hu e => by
  have h1 : it k (t + (j - u)) a = it k j a := by
    rw [Nat.add_comm t, it_add, e, ← it_add, show j - u + u = j by omega]
  have h2 := hc.2.2 (t + (j - u)) (by omega)
  rw [h1] at h2
  omega
theorem Chain.lt (he : Fip.nth k (it k j a) < 0) : j < k.length := by
  have hn : ((List.range (j + 1)).map fun t => it k t a).Nodup := by
    rw [List.nodup_iff_pairwise_ne, List.pairwise_iff_getElem]
    intro t u ht hu htu
    simp only [List.length_map, List.length_range] at ht hu
    simp only [List.getElem_map, List.getElem_range]
    exact Chain.dist h hc he t u htu (by omega)
  have := nodup_len k.length _ hn (fun x hx => by
    obtain ⟨t, ht, rfl⟩ := List.mem_map.1 hx
    exact Chain.at h hc t (by have := List.mem_range.1 ht; omega))
  simp at this
  omega
end
/-- No reading leads there. -/
def isStart (k : List Int) (i : Int) : Bool := decide (∀ j, j < k.length → nth k (j : Int) ≠ i)
theorem isStart_iff {k : List Int} {i : Int} : isStart k i = true ↔ ∀ y, 0 ≤ y → y < (k.length : Int) → nth k y ≠ i := by
  unfold isStart
  rw [decide_eq_true_eq]
  constructor
  · intro h y y0 y1
    have := h y.toNat (by omega)
    rwa [Int.toNat_of_nonneg y0] at this
  · intro h j hj
    exact h _ (by omega) (by omega)
def flen (k : List Int) (s : Int) : Nat := (List.range k.length).findIdx fun j => decide (nth k (it k j s) < 0)
def endOf (k : List Int) (s : Int) : Int := it k (flen k s) s
section
variable {k : List Int} (h : Rg k)
include h
theorem start_ends {s : Int} (s0 : 0 ≤ s) (s1 : s < (k.length : Int)) (hs : isStart k s = true) : ∃ j, j < k.length ∧ nth k (it k j s) < 0 := Classical.byContradiction fun hno => by
  have hc : ∀ j, j ≤ k.length → Chain k s j := fun j hj => ⟨s0, s1, fun t ht => Classical.byContradiction fun h9 => hno ⟨t, by omega, by omega⟩⟩
  have hat := fun t (ht : t ≤ k.length) => Chain.at h (hc k.length (Nat.le_refl _)) t ht
  have hback : ∀ i j, i < j → j ≤ k.length → it k i s = it k j s → False := fun i => by
    induction i with
    | zero =>
      intro j hj hl e
      obtain ⟨j', rfl⟩ : ∃ j', j = j' + 1 := ⟨j - 1, by omega⟩
      have h1 := hat j' (by omega)
      exact isStart_iff.1 hs _ h1.1 h1.2 e.symm
    | succ i ih =>
      intro j hj hl e
      obtain ⟨j', rfl⟩ : ∃ j', j = j' + 1 := ⟨j - 1, by omega⟩
      have h1 := hat i (by omega)
      have h2 := hat j' (by omega)
      exact ih j' (by omega) (by omega) (h.inj h1.1 h1.2 h2.1 h2.2 ((hc k.length (Nat.le_refl _)).2.2 i (by omega)) e)
  have hn : ((List.range (k.length + 1)).map fun t => it k t s).Nodup := by
    rw [List.nodup_iff_pairwise_ne, List.pairwise_iff_getElem]
    intro t u ht hu htu
    simp only [List.length_map, List.length_range] at ht hu
    simp only [List.getElem_map, List.getElem_range]
    exact fun e => hback t u htu (by omega) e
  have := nodup_len k.length _ hn (fun x hx => by
    obtain ⟨t, ht, rfl⟩ := List.mem_map.1 hx
    exact hat t (by have := List.mem_range.1 ht; omega))
  simp at this
  omega
theorem flen_spec {s : Int} (s0 : 0 ≤ s) (s1 : s < (k.length : Int)) (hs : isStart k s = true) : flen k s < k.length ∧ nth k (endOf k s) < 0 ∧ Chain k s (flen k s) := by
  obtain ⟨j, hj, he⟩ := start_ends h s0 s1 hs
  have h1 : flen k s < k.length := by
    have := List.findIdx_lt_length_of_exists (p := fun j => decide (nth k (it k j s) < 0)) (xs := List.range k.length) ⟨j, List.mem_range.2 hj, decide_eq_true he⟩
    simpa [flen] using this
  refine ⟨h1, ?_, s0, s1, fun t ht => ?_⟩
  · have := List.findIdx_getElem (p := fun j => decide (nth k (it k j s) < 0)) (xs := List.range k.length) (w := by simpa [flen] using h1)
    simpa [flen, endOf] using this
  · apply Classical.byContradiction
    intro hn
    have := List.not_of_lt_findIdx (p := fun j => decide (nth k (it k j s) < 0)) (xs := List.range k.length) (i := t) ht
    simp at this
    omega
omit h in
theorem flen_uni {s : Int} {j : Nat} (hj : j < k.length) (he : nth k (it k j s) < 0) (hc : ∀ t, t < j → 0 ≤ nth k (it k t s)) : flen k s = j := by
  unfold flen
  rcases Nat.lt_trichotomy ((List.range k.length).findIdx fun j => decide (nth k (it k j s) < 0)) j with h1 | h1 | h1
  · have := List.findIdx_getElem (p := fun j => decide (nth k (it k j s) < 0)) (xs := List.range k.length) (w := by simp; omega)
    have h2 := hc _ h1
    simp at this
    omega
  · exact h1
  · have := List.not_of_lt_findIdx (p := fun j => decide (nth k (it k j s) < 0)) (xs := List.range k.length) (i := j) h1
    simp at this
    omega
theorem endOf_in {s : Int} (s0 : 0 ≤ s) (s1 : s < (k.length : Int)) (hs : isStart k s = true) : 0 ≤ endOf k s ∧ endOf k s < (k.length : Int) :=
  Chain.at h (flen_spec h s0 s1 hs).2.2 _ (Nat.le_refl _)
theorem endOf_inj {s t : Int} (s0 : 0 ≤ s) (s1 : s < (k.length : Int)) (hs : isStart k s = true) (t0 : 0 ≤ t) (t1 : t < (k.length : Int)) (ht : isStart k t = true) (e : endOf k s = endOf k t) : s = t := by
  have main : ∀ (s t : Int), 0 ≤ s → s < (k.length : Int) → isStart k s = true → 0 ≤ t → t < (k.length : Int) → isStart k t = true → endOf k s = endOf k t → flen k s ≤ flen k t → s = t := fun s t s0 s1 hs t0 t1 ht e hle => by
    obtain ⟨_, _, hcs⟩ := flen_spec h s0 s1 hs
    obtain ⟨_, _, hct⟩ := flen_spec h t0 t1 ht
    have back : ∀ n, n ≤ flen k s → it k (flen k s - n) s = it k (flen k t - n) t := fun n => by
      induction n with
      | zero => intro _; exact e
      | succ n ih =>
        intro hn
        have h1 := ih (by omega)
        have hs2 := Chain.at h hcs (flen k s - (n + 1)) (by omega)
        have ht2 := Chain.at h hct (flen k t - (n + 1)) (by omega)
        rw [show flen k s - n = (flen k s - (n + 1)) + 1 by omega, show flen k t - n = (flen k t - (n + 1)) + 1 by omega] at h1
        exact h.inj hs2.1 hs2.2 ht2.1 ht2.2 (hcs.2.2 _ (by omega)) h1
    have h1 := back (flen k s) (Nat.le_refl _)
    rw [Nat.sub_self] at h1
    rcases Nat.eq_zero_or_pos (flen k t - flen k s) with h2 | h2
    · rw [h2] at h1; exact h1
    · exfalso
      obtain ⟨d, hd⟩ : ∃ d, flen k t - flen k s = d + 1 := ⟨flen k t - flen k s - 1, by omega⟩
      rw [hd] at h1
      have ht2 := Chain.at h hct d (by omega)
      exact isStart_iff.1 hs _ ht2.1 ht2.2 h1.symm
  rcases Nat.le_total (flen k s) (flen k t) with h1 | h1
  · exact main s t s0 s1 hs t0 t1 ht e h1
  · exact (main t s t0 t1 ht s0 s1 hs e.symm h1).symm
/-- A path that is read back ends at a start. -/
theorem start_of : ∀ (n : Nat) (a : Int) (j : Nat), k.length - j = n → Chain k a j → nth k (it k j a) < 0 → ∃ s, 0 ≤ s ∧ s < (k.length : Int) ∧ isStart k s = true ∧ endOf k s = it k j a := by
  intro n
  induction n using Nat.strongRecOn with
  | ind n ih =>
    intro a j hn hc he
    have hlt := Chain.lt h hc he
    by_cases hs : isStart k a = true
    · exact ⟨a, hc.1, hc.2.1, hs, by unfold endOf; rw [flen_uni hlt he hc.2.2]⟩
    · rw [isStart_iff] at hs
      simp only [Classical.not_forall, Classical.not_not] at hs
      obtain ⟨y, y0, y1, hy⟩ := hs
      have hit : ∀ t, it k (t + 1) y = it k t a := fun t => by rw [it_succ', hy]
      obtain ⟨s, s0, s1, hs, e⟩ := ih (k.length - (j + 1)) (by omega) y (j + 1) rfl ⟨y0, y1, fun t ht => by
        cases t with
        | zero => show 0 ≤ nth k y; rw [hy]; exact hc.1
        | succ t => rw [hit]; exact hc.2.2 t (by omega)⟩ (by rw [hit]; exact he)
      exact ⟨s, s0, s1, hs, by rw [e, hit]⟩
end
/-- The start of the path that ends at e. -/
def bst (k : List Int) (e : Int) : Int := first k.length fun s => decide (isStart k s = true ∧ endOf k s = e)
section
variable {k : List Int} (h : Rg k)
include h
theorem bst_spec {e : Int} (e0 : 0 ≤ e) (e1 : e < (k.length : Int)) (he : nth k e < 0) : 0 ≤ bst k e ∧ bst k e < (k.length : Int) ∧ isStart k (bst k e) = true ∧ endOf k (bst k e) = e := by
  obtain ⟨s, s0, s1, hs, hse⟩ := start_of h _ e 0 rfl ⟨e0, e1, fun t ht => absurd ht (Nat.not_lt_zero _)⟩ he
  obtain ⟨a, b, c, _⟩ := first_spec (n := k.length) (p := fun s => decide (isStart k s = true ∧ endOf k s = e)) ⟨s, s0, s1, decide_eq_true ⟨hs, hse⟩⟩
  rw [decide_eq_true_eq] at c
  exact ⟨a, b, c.1, c.2⟩
theorem bst_uni {s : Int} (s0 : 0 ≤ s) (s1 : s < (k.length : Int)) (hs : isStart k s = true) : bst k (endOf k s) = s := by
  have hin := endOf_in h s0 s1 hs
  obtain ⟨a, b, c, d⟩ := bst_spec h hin.1 hin.2 (flen_spec h s0 s1 hs).2.1
  exact endOf_inj h a b c s0 s1 hs d
end
/-- The joints with the most circles: each path comes back to its start. -/
def best (k : List Int) : List Int := (List.range k.length).map fun i : Nat => if nth k (i : Int) < 0 then bst k (i : Int) else nth k (i : Int)
theorem best_length {k : List Int} : (best k).length = k.length := by simp [best]
theorem nth_best {k : List Int} {x : Int} (x0 : 0 ≤ x) (x1 : x < (k.length : Int)) : nth (best k) x = if nth k x < 0 then bst k x else nth k x := by
  obtain ⟨n, rfl⟩ := Int.eq_ofNat_of_zero_le x0
  unfold best
  rw [nth_nat (by simp; omega)]
  simp
/-- Joints fit readings. -/
def Fits (l k : List Int) : Prop := l.length = k.length ∧ ∀ i, i < l.length → 0 ≤ nth k (i : Int) → nth k (i : Int) = nth l (i : Int)
instance (l k : List Int) : Decidable (Fits l k) := by unfold Fits; infer_instance
theorem Fits.nth {l k : List Int} (h : Fits l k) {x : Int} (x0 : 0 ≤ x) (x1 : x < (l.length : Int)) (hx : 0 ≤ Fip.nth k x) : Fip.nth k x = Fip.nth l x := by
  have := h.2 x.toNat (by omega)
  rw [Int.toNat_of_nonneg x0] at this
  exact this hx
theorem best_fits {k : List Int} : Fits (best k) k := ⟨best_length, fun i hi h0 => by
  rw [best_length] at hi
  rw [nth_best (by omega) (by omega), if_neg (by omega)]⟩
theorem best_J {k : List Int} (h : Rg k) : J (best k) := by
  have hr : ∀ x, 0 ≤ x → x < (k.length : Int) → 0 ≤ nth (best k) x ∧ nth (best k) x < (k.length : Int) := fun x x0 x1 => by
    rw [nth_best x0 x1]
    split
    · rename_i hx
      have := bst_spec h x0 x1 hx
      exact ⟨this.1, this.2.1⟩
    · have := h.nth x0 x1
      omega
  have hi : ∀ x y, 0 ≤ x → x < (k.length : Int) → 0 ≤ y → y < (k.length : Int) → nth (best k) x = nth (best k) y → x = y := fun x y x0 x1 y0 y1 e => by
    rw [nth_best x0 x1, nth_best y0 y1] at e
    by_cases hx : nth k x < 0
    · have bx := bst_spec h x0 x1 hx
      rw [if_pos hx] at e
      by_cases hy : nth k y < 0
      · rw [if_pos hy] at e
        have b' := bst_spec h y0 y1 hy
        rw [← bx.2.2.2, e, b'.2.2.2]
      · rw [if_neg hy] at e
        exact absurd e.symm (isStart_iff.1 bx.2.2.1 y y0 y1)
    · rw [if_neg hx] at e
      by_cases hy : nth k y < 0
      · rw [if_pos hy] at e
        have b' := bst_spec h y0 y1 hy
        exact absurd e (isStart_iff.1 b'.2.2.1 x x0 x1)
      · rw [if_neg hy] at e
        exact h.inj x0 x1 y0 y1 (by omega) e
  refine ⟨by rw [best_length]; exact h.1, by rw [best_length]; exact h.2.1, fun i hi2 => ?_, fun i hi2 j hj e => ?_⟩
  · rw [best_length] at hi2 ⊢
    exact hr _ (by omega) (by omega)
  · rw [best_length] at hi2
    have := hi _ _ (by omega) (by omega) (by omega) (by omega) e.1
    omega
/-- The flutes whose joint was not read, and those to which no reading leads. -/
def ends (k : List Int) : List Nat := (List.range k.length).filter fun i : Nat => decide (nth k (i : Int) < 0)
def starts (k : List Int) : List Nat := (List.range k.length).filter fun i : Nat => isStart k (i : Int)
theorem mem_ends {k : List Int} {i : Nat} : i ∈ ends k ↔ i < k.length ∧ nth k (i : Int) < 0 := by unfold ends; rw [List.mem_filter, List.mem_range, decide_eq_true_eq]
theorem mem_starts {k : List Int} {i : Nat} : i ∈ starts k ↔ i < k.length ∧ isStart k (i : Int) = true := by unfold starts; rw [List.mem_filter, List.mem_range]
theorem nodup_map {α β : Type} {f : α → β} : ∀ {L : List α}, L.Nodup → (∀ x ∈ L, ∀ y ∈ L, f x = f y → x = y) → (L.map f).Nodup
  | [], _, _ => List.nodup_nil
  | x :: L, hn, hi => by
    rw [List.nodup_cons] at hn
    rw [List.map_cons, List.nodup_cons]
    refine ⟨fun hx => ?_, nodup_map hn.2 (fun a ha b hb e => hi a (List.mem_cons_of_mem _ ha) b (List.mem_cons_of_mem _ hb) e)⟩
    obtain ⟨y, hy, e⟩ := List.mem_map.1 hx
    exact hn.1 (hi y (List.mem_cons_of_mem _ hy) x List.mem_cons_self e ▸ hy)
theorem ends_starts {k : List Int} (h : Rg k) : (ends k).length = (starts k).length := by
  have n1 : (ends k).Nodup := List.Nodup.sublist List.filter_sublist List.nodup_range
  have n2 : (starts k).Nodup := List.Nodup.sublist List.filter_sublist List.nodup_range
  apply Nat.le_antisymm
  · have := sub_length (l := (ends k).map fun i : Nat => (bst k (i : Int)).toNat) (m := starts k) (nodup_map n1 (fun x hx y hy e => by
      have hx2 := mem_ends.1 hx; have hy2 := mem_ends.1 hy
      have bx := bst_spec h (e := (x : Int)) (by omega) (by omega) hx2.2
      have b' := bst_spec h (e := (y : Int)) (by omega) (by omega) hy2.2
      have e2 : bst k (x : Int) = bst k (y : Int) := by omega
      have h3 := bx.2.2.2
      rw [e2, b'.2.2.2] at h3
      omega)) (fun z hz => by
      obtain ⟨x, hx, rfl⟩ := List.mem_map.1 hz
      have hx2 := mem_ends.1 hx
      have bx := bst_spec h (e := (x : Int)) (by omega) (by omega) hx2.2
      refine mem_starts.2 ⟨by omega, ?_⟩
      rw [Int.toNat_of_nonneg bx.1]; exact bx.2.2.1)
    rwa [List.length_map] at this
  · have := sub_length (l := (starts k).map fun i : Nat => (endOf k (i : Int)).toNat) (m := ends k) (nodup_map n2 (fun x hx y hy e => by
      have hx2 := mem_starts.1 hx; have hy2 := mem_starts.1 hy
      have e1 := endOf_in h (s := (x : Int)) (by omega) (by omega) hx2.2
      have e2 := endOf_in h (s := (y : Int)) (by omega) (by omega) hy2.2
      have := endOf_inj h (s := (x : Int)) (t := (y : Int)) (by omega) (by omega) hx2.2 (by omega) (by omega) hy2.2 (by omega)
      omega)) (fun z hz => by
      obtain ⟨x, hx, rfl⟩ := List.mem_map.1 hz
      have hx2 := mem_starts.1 hx
      have e1 := endOf_in h (s := (x : Int)) (by omega) (by omega) hx2.2
      refine mem_ends.2 ⟨by omega, ?_⟩
      rw [Int.toNat_of_nonneg e1.1]; exact (flen_spec h (s := (x : Int)) (by omega) (by omega) hx2.2).2.1)
    rwa [List.length_map] at this
def path (k : List Int) (s : Int) : List Int := (List.range (flen k s + 1)).map fun j => it k j s
def paths (k : List Int) : List (List Int) := (starts k).map fun i : Nat => path k (i : Int)
theorem path_length {k : List Int} {s : Int} : (path k s).length = flen k s + 1 := by simp [path]
theorem nth_path {k : List Int} {s : Int} {j : Nat} (hj : j < flen k s + 1) : nth (path k s) (j : Int) = it k j s := by
  unfold path; rw [nth_nat (by simpa using hj)]; simp
/-- So many things one behind another. -/
def fact : Nat → Nat
  | 0 => 1
  | n + 1 => fact n * (n + 1)
theorem fact_pos : ∀ n, 1 ≤ fact n
  | 0 => Nat.le_refl _
  | n + 1 => Nat.le_trans (fact_pos n) (Nat.le_mul_of_pos_right _ (Nat.succ_pos n))
theorem fact_mono {m n : Nat} (h : m ≤ n) : fact m ≤ fact n := by
  induction n with
  | zero => rw [show m = 0 by omega]; exact Nat.le_refl _
  | succ n ih =>
    rcases Nat.lt_or_ge m (n + 1) with h1 | h1
    · exact Nat.le_trans (ih (by omega)) (Nat.le_mul_of_pos_right _ (Nat.succ_pos n))
    · rw [show m = n + 1 by omega]; exact Nat.le_refl _
theorem ends_le {k : List Int} : (ends k).length ≤ k.length := by
  have := List.length_filter_le (fun i : Nat => decide (nth k (i : Int) < 0)) (List.range k.length)
  simpa [ends] using this
def bestR (k : List Int) : List Int × Int := if check k (-1) ≠ 0 then ([], check k (-1)) else (best k, 0)
def spanLo (k : List Int) : Int := (k.length : Int) - (cyc (best k) : Int)
def spanHi (k : List Int) : Int := spanLo k + max 0 (((ends k).length : Int) - 1)
def spanR (k : List Int) : (Int × Int) × Int := if check k (-1) ≠ 0 then ((0, 0), check k (-1)) else ((spanLo k, spanHi k), 0)
def countR (k : List Int) : Int × Int := if check k (-1) ≠ 0 then (0, check k (-1)) else ((fact (ends k).length : Int), 0)
theorem br1 {k : List Int} (h : ¬ check k (-1) = 0) : bestR k = ([], check k (-1)) := if_pos h
theorem br2 {k : List Int} (h : check k (-1) = 0) : bestR k = (best k, 0) := if_neg fun q => q h
theorem sr1 {k : List Int} (h : ¬ check k (-1) = 0) : spanR k = ((0, 0), check k (-1)) := if_pos h
theorem sr2 {k : List Int} (h : check k (-1) = 0) : spanR k = ((spanLo k, spanHi k), 0) := if_neg fun q => q h
theorem cr1 {k : List Int} (h : ¬ check k (-1) = 0) : countR k = (0, check k (-1)) := if_pos h
theorem cr2 {k : List Int} (h : check k (-1) = 0) : countR k = ((fact (ends k).length : Int), 0) := if_neg fun q => q h
theorem place_nth {l : List Int} {x : Int} (h : 0 ≤ place l x) : place l x < (l.length : Int) ∧ nth l (place l x) = x := by
  unfold place idx at h ⊢
  cases hf : l.findIdx? (fun y => decide (y = x)) with
  | none => rw [hf] at h; exact absurd h (by decide)
  | some k =>
    obtain ⟨hk, hp, _⟩ := List.findIdx?_eq_some_iff_getElem.1 hf
    refine ⟨?_, ?_⟩
    · show (k : Int) < _; omega
    · show nth l (k : Int) = x
      rw [nth_nat hk]
      simpa using hp
theorem place_start {l : List Int} {x : Int} : place l x < 0 ↔ isStart l x = true := by
  rw [place_out, isStart_iff]
  constructor
  · intro h y y0 y1 e
    have hm : nth l y ∈ l := by
      have := nth_nat (l := l) (i := y.toNat) (by omega)
      rw [Int.toNat_of_nonneg y0] at this
      rw [this]; exact List.getElem_mem (by omega)
    exact h (e ▸ hm)
  · intro h hx
    obtain ⟨k, hk, e⟩ := List.getElem_of_mem hx
    exact h (k : Int) (by omega) (by omega) (by rw [nth_nat hk]; exact e)
theorem Chain.back {k : List Int} {a b : Int} {j : Nat} (hc : Chain k a j) (b0 : 0 ≤ b) (b1 : b < (k.length : Int)) (e : nth k b = a) : Chain k b (j + 1) ∧ it k (j + 1) b = it k j a := by
  have hit : ∀ t, it k (t + 1) b = it k t a := fun t => by rw [it_succ', e]
  refine ⟨⟨b0, b1, fun t ht => ?_⟩, hit j⟩
  cases t with
  | zero => show 0 ≤ nth k b; rw [e]; exact hc.1
  | succ t => rw [hit]; exact hc.2.2 t (by omega)
theorem Chain.start {k : List Int} {a : Int} (h0 : 0 ≤ a) (h1 : a < (k.length : Int)) : Chain k a 0 := ⟨h0, h1, fun t ht => absurd ht (Nat.not_lt_zero _)⟩
theorem Chain.done {k : List Int} (h : Rg k) {a e : Int} {j : Nat} (hc : Chain k a j) (he : it k j a = e) (hn : nth k e < 0) (hs : isStart k a = true) : bst k e = a := by
  have hlt := Chain.lt h hc (by rw [he]; exact hn)
  have h1 : endOf k a = e := by unfold endOf; rw [flen_uni hlt (by rw [he]; exact hn) hc.2.2, he]
  rw [← h1]
  exact bst_uni h hc.1 hc.2.1 hs
/-- Up to q all is as it shall be. -/
def BestI (k : List Int) (q : Nat) (o : List Int) : Prop := o.length = k.length ∧ ∀ y : Nat, y < k.length → nth o (y : Int) = if y < q then nth (best k) (y : Int) else nth k (y : Int)
theorem BestI.start {k o : List Int} (e : o = k) : BestI k 0 o := ⟨by rw [e], fun y _ => by rw [if_neg (Nat.not_lt_zero _), e]⟩
theorem BestI.skip {k o : List Int} {q : Nat} (h : BestI k q o) (hq : q < k.length) (hn : 0 ≤ nth k (q : Int)) : BestI k (q + 1) o := ⟨h.1, fun y hy => by
  rw [h.2 y hy]
  by_cases h1 : y < q
  · rw [if_pos h1, if_pos (by omega)]
  · rw [if_neg h1]
    split
    · rw [show y = q by omega, nth_best (by omega) (by omega), if_neg (by omega)]
    · rfl⟩
theorem BestI.set {k o : List Int} {q : Nat} {a : Int} (h : BestI k q o) (hq : q < k.length) (hn : nth k (q : Int) < 0) (e : bst k (q : Int) = a) : BestI k (q + 1) (o.set ((q : Int)).toNat a) := ⟨by rw [List.length_set]; exact h.1, fun y hy => by
  have hl := h.1
  rw [nth_set' (by omega) (by omega) (by omega) (by omega)]
  by_cases h1 : (y : Int) = (q : Int)
  · rw [if_pos h1, if_pos (by omega), h1, nth_best (by omega) (by omega), if_pos hn, e]
  · rw [if_neg h1, h.2 y hy]
    by_cases h2 : y < q
    · rw [if_pos h2, if_pos (by omega)]
    · rw [if_neg h2, if_neg (by omega)]⟩
theorem BestI.done {k o : List Int} (h : BestI k k.length o) : o = best k := ext_nth (by rw [h.1, best_length]) fun i hi => by
  rw [h.1] at hi
  rw [h.2 i hi, if_pos hi]
def endsTo (k : List Int) (q : Nat) : Nat := ((List.range q).filter fun i : Nat => decide (nth k (i : Int) < 0)).length
theorem endsTo_t {k : List Int} {q : Nat} (h : nth k (q : Int) < 0) : endsTo k (q + 1) = endsTo k q + 1 := by simp [endsTo, List.range_succ, h]
theorem endsTo_f {k : List Int} {q : Nat} (h : 0 ≤ nth k (q : Int)) : endsTo k (q + 1) = endsTo k q := by
  have : ¬ nth k (q : Int) < 0 := by omega
  simp [endsTo, List.range_succ, this]
theorem endsTo_le {k : List Int} {q : Nat} : endsTo k q ≤ q := by
  have := List.length_filter_le (fun i : Nat => decide (nth k (i : Int) < 0)) (List.range q)
  simpa [endsTo] using this
/-- The first paths are closed. -/
def BestP (k : List Int) (q : Nat) (o : List Int) : Prop := o.length = k.length ∧ (∀ y, 0 ≤ y → y < (k.length : Int) → 0 ≤ nth k y → nth o y = nth k y) ∧ ∀ j, j < q → ∀ s : Nat, (starts k)[j]? = some s → nth o (endOf k (s : Int)) = (s : Int)
theorem BestP.start {k : List Int} : BestP k 0 k := ⟨rfl, fun _ _ _ _ => rfl, fun j hj => absurd hj (Nat.not_lt_zero _)⟩
theorem BestP.set {k o : List Int} (h : Rg k) {q : Nat} {s : Nat} (hP : BestP k q o) (hs : (starts k)[q]? = some s) : BestP k (q + 1) (o.set (endOf k (s : Int)).toNat (s : Int)) := by
  have hl := hP.1
  have hm := mem_starts.1 (List.mem_of_getElem? hs)
  have he := endOf_in h (s := (s : Int)) (by omega) (by omega) hm.2
  have hn := (flen_spec h (s := (s : Int)) (by omega) (by omega) hm.2).2.1
  have hs' := fun (y : Int) (y0 : 0 ≤ y) (y1 : y < (k.length : Int)) => nth_set' (l := o) (i := endOf k (s : Int)) (x := y) (v := (s : Int)) he.1 (by omega) y0 (by omega)
  refine ⟨by rw [List.length_set]; exact hl, fun y y0 y1 hy => ?_, fun j hj t ht => ?_⟩
  · rw [hs' y y0 y1, if_neg (fun e => by rw [e] at hy; omega)]
    exact hP.2.1 y y0 y1 hy
  · have hmt := mem_starts.1 (List.mem_of_getElem? ht)
    have het := endOf_in h (s := (t : Int)) (by omega) (by omega) hmt.2
    rw [hs' _ het.1 het.2]
    split
    · rename_i e
      exact (endOf_inj h (s := (t : Int)) (t := (s : Int)) (by omega) (by omega) hmt.2 (by omega) (by omega) hm.2 e).symm
    · rename_i e
      rcases Nat.lt_or_ge j q with h1 | h1
      · exact hP.2.2 j h1 t ht
      · rw [show j = q by omega, hs] at ht
        cases ht
        exact absurd rfl e
theorem BestP.done {k o : List Int} (h : Rg k) (hP : BestP k (starts k).length o) : o = best k := ext_nth (by rw [hP.1, best_length]) fun i hi => by
  rw [hP.1] at hi
  rw [nth_best (by omega) (by omega)]
  split
  · rename_i hn
    obtain ⟨b0, b1, bs, be⟩ := bst_spec h (e := (i : Int)) (by omega) (by omega) hn
    obtain ⟨j, hj, e⟩ := List.getElem_of_mem (mem_starts.2 ⟨(by omega : (bst k (i : Int)).toNat < k.length), by rw [Int.toNat_of_nonneg b0]; exact bs⟩)
    have := hP.2.2 j hj _ (by rw [List.getElem?_eq_getElem hj, e])
    rw [Int.toNat_of_nonneg b0, be] at this
    exact this
  · rename_i hn
    exact hP.2.1 _ (by omega) (by omega) (by omega)
def startsTo (k : List Int) (q : Nat) : List (List Int) := ((List.range q).filter fun i : Nat => isStart k (i : Int)).map fun i : Nat => path k (i : Int)
theorem startsTo_t {k : List Int} {q : Nat} (h : isStart k (q : Int) = true) : startsTo k (q + 1) = startsTo k q ++ [path k (q : Int)] := by simp [startsTo, List.range_succ, h]
theorem startsTo_f {k : List Int} {q : Nat} (h : ¬ isStart k (q : Int) = true) : startsTo k (q + 1) = startsTo k q := by simp [startsTo, List.range_succ, h]
theorem startsTo_len {k : List Int} {q : Nat} : (startsTo k q).length ≤ q := by
  unfold startsTo
  rw [List.length_map]
  have := List.length_filter_le (fun i : Nat => isStart k (i : Int)) (List.range q)
  simpa using this
theorem paths_len {k : List Int} : (paths k).length = (starts k).length := by simp [paths]
theorem nth_paths {k : List Int} {j s : Nat} (hs : (starts k)[j]? = some s) : nth (paths k) (j : Int) = path k (s : Int) := by
  have hj := (List.getElem?_eq_some_iff.1 hs).1
  have := (List.getElem?_eq_some_iff.1 hs).2
  rw [nth_nat (by rw [paths_len]; exact hj)]
  unfold paths
  rw [List.getElem_map, this]
def pathTo (k : List Int) (s : Int) (j : Nat) : List Int := (List.range j).map fun j => it k j s
theorem pathTo_succ {k : List Int} {s : Int} {j : Nat} : pathTo k s (j + 1) = pathTo k s j ++ [it k j s] := by simp [pathTo, List.range_succ]
theorem pathTo_length {k : List Int} {s : Int} {j : Nat} : (pathTo k s j).length = j := by simp [pathTo]
end Go.Fip.S

set_option linter.unusedVariables false
set_option linter.unusedSimpArgs false
namespace Go.Fip
theorem drop_right {n : Nat} {k : Nat} (hk : k + 1 < n) : nth ((S.right n).drop 1) (k : Int) = (k : Int) + 1 := by
  have h : k < ((S.right n).drop 1).length := by rw [List.length_drop, S.right_length]; omega
  rw [nth_nat h, List.getElem_drop]
  simp [S.right]
  omega
theorem drop_right_length {n : Nat} : ((S.right n).drop 1).length = n - 1 := by rw [List.length_drop, S.right_length]
theorem Rd.cut3n {α : Type} {enc : α → List Value} {sz : Nat} {v : Value} {xs : List α} {w : World} (h : Rd enc sz v xs w) : Rd enc sz (cutv3 v sz 0 xs.length xs.length) xs w := by
  have h2 := h.cut3 (lo := 0) (hi := xs.length) (m := xs.length) (Nat.zero_le _) (Nat.le_refl _) (Nat.le_refl _) (fun a n c e => by
    obtain ⟨a', c', e', hc, _⟩ := h.is
    rw [e'] at e
    cases e
    exact hc)
  simpa using h2
theorem cut3_shape {v : Value} {sz n : Nat} (h : SliceIs v n) : ∃ a, cutv3 v sz 0 n n = .slice a n n := by
  obtain ⟨a, c, rfl, _⟩ := h
  exact ⟨_, rfl⟩
end Go.Fip

set_option linter.unusedVariables false
set_option linter.unusedSimpArgs false
set_option linter.unusedSectionVars false
namespace Go.Fip.S
open Go.Fip
theorem len_power {l : List Int} {t : Int} : (power l t).1.length ≤ l.length := by
  unfold power
  split
  · simp
  · split
    · simp
    · exact Nat.le_of_eq pw_length
theorem len_join {a b : List Int} : (join a b).1.length ≤ a.length := by
  unfold join
  split
  · simp
  · unfold behind; exact Nat.le_of_eq behindTo_length
theorem len_alike {a b : List Int} : (alikeR a b).1.length ≤ a.length := by
  unfold alikeR
  split
  · simp
  · split
    · simp
    · simp [alk]
theorem len_root {l : List Int} : (rootR l).1.length ≤ l.length := by
  unfold rootR
  split
  · simp
  · rename_i h
    split
    · rename_i h2
      have hj := check_iff.1 (Classical.not_not.1 h)
      exact Nat.le_of_eq (rt_len hj none1_good ((none1_par hj).2 h2))
    · simp
theorem len_best {k : List Int} : (bestR k).1.length ≤ k.length := by
  unfold bestR
  split
  · simp
  · exact Nat.le_of_eq best_length
theorem len_apply {l : List Int} {xs : List Pr} : (applyR l xs).1.length ≤ l.length := by
  unfold applyR
  split
  · simp
  · split
    · simp
    · split
      · simp
      · split
        · simp
        · exact Nat.le_of_eq apl_length
theorem len_wrong {l : List Int} : (wrong l).1.length ≤ 100 := by
  unfold wrong
  split
  · simp
  · rename_i h
    have hj := check_iff.1 (Classical.not_not.1 h)
    have h1 := wrongTo_le (l := l) hj.2.1 l.length
    have := hj.2.1
    show (wrongTo l l.length).length ≤ 100
    omega
theorem len_exs {l : List Int} : (exsR l).1.length ≤ 10 := by
  unfold exsR
  split
  · simp
  · rename_i h
    exact J.exs_len (check_iff.1 (Classical.not_not.1 h))
end Go.Fip.S
