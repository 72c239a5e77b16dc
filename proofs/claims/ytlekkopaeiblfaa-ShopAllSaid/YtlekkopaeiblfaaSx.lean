/- Plans exchanged, read from their end, and scaled. -/
import Derived.Test.YtlekkopaeiblfaaSw
set_option linter.unusedVariables false
set_option linter.unusedSimpArgs false
set_option linter.unusedSectionVars false
set_option linter.unnecessarySimpa false
namespace Go.Fip.S
section
variable {l p : List Pr} {B U F c : List Int}
theorem checkCircle_iff : checkCircle l B U F c = 0 ↔ checkOrder l B U F = 0 ∧ ¬ (c.length < 2 ∨ 2 * l.length < c.length) ∧ InC l.length c ∧ Circ B U F c := by
  constructor
  · intro h
    by_cases h1 : checkOrder l B U F = 0
    · by_cases h2 : c.length < 2 ∨ 2 * l.length < c.length
      · rw [cc2 h1 h2] at h; cases h
      · by_cases h3 : InC l.length c
        · by_cases h4 : Circ B U F c
          · exact ⟨h1, h2, h3, h4⟩
          · rw [cc4 h1 h2 h3 h4] at h; cases h
        · rw [cc3 h1 h2 h3] at h; cases h
    · rw [cc1 h1] at h; exact absurd h h1
  · rintro ⟨h1, h2, h3, h4⟩
    exact cc5 h1 h2 h3 h4
/-- What can be played has no circle. -/
theorem no_circle (hj : Jobs l) (hs : SolP l B U F p) : ¬ checkCircle l B U F c = 0 := fun h => by
  obtain ⟨_, h2, h3, h4⟩ := checkCircle_iff.1 h
  exact circ_none hj (by omega) h3 h4 ⟨_, hs.2⟩
theorem solP_of_solF (hs : ∃ s, SolF l B U F s) : ∃ p, SolP l B U F p := by
  obtain ⟨s, hs⟩ := hs
  have hn : ∀ w, w < 2 * l.length → nth ((List.range (2 * l.length)).map s) (w : Int) = s w := fun w hw => by
    rw [nth_nat (by simpa using hw)]; simp
  exact ⟨_, solP_pairs (A := (List.range (2 * l.length)).map s) (solF_congr (fun w hw => (hn w hw).symm) hs)⟩
theorem play_no (hc : checkOrder l B U F = 0) (h : ¬ ∃ p, SolP l B U F p) : play l B U F = ([], 13) ∧ circleError l B U F = 0 := by
  have hn : playOf l B U F = none := playOf_none (fun hs => h (solP_of_solF hs))
  exact ⟨pl2 hc (by rw [hn]; rfl), ce3 hc (by rw [hn]; simp)⟩
theorem play_yes (hj : Jobs l) (hc : checkOrder l B U F = 0) (hs : SolP l B U F p) : play l B U F = (p, 0) ∧ circleError l B U F = 5 :=
  ⟨by rw [pl3 hc (by rw [playOf_some hj hs]; simp), playOf_some hj hs]; rfl, ce2 hc (by rw [playOf_some hj hs]; rfl)⟩
theorem play_err (hj : Jobs l) (hc : checkOrder l B U F = 0) : (play l B U F).2 = 0 ∨ (play l B U F).2 = 13 := by
  by_cases h : ∃ p, SolP l B U F p
  · obtain ⟨p, hs⟩ := h; rw [(play_yes hj hc hs).1]; exact .inl rfl
  · rw [(play_no hc h).1]; exact .inr rfl
theorem play_allT (hj : Jobs l) (hc : checkOrder l B U F = 0) : AllT (play l B U F).1 := by
  by_cases h : ∃ p, SolP l B U F p
  · obtain ⟨p, hs⟩ := h; rw [(play_yes hj hc hs).1]; exact hs.allT hj
  · rw [(play_no hc h).1]; intro i hi; simp at hi
theorem play_len2 : (play l B U F).1.length ≤ l.length := by
  by_cases h : checkOrder l B U F = 0
  · cases h2 : playOf l B U F with
    | none => rw [pl2 h (by rw [h2]; rfl)]; simp
    | some p => rw [pl3 h (by rw [h2]; simp), h2]; exact Nat.le_of_eq (playOf_is h2).1
  · rw [pl1 h]; simp
/-! ### Exchanged -/
def flipF (F : List Int) : List Int := F.map fun x => 1 - x
theorem flipF_length : (flipF F).length = F.length := by simp [flipF]
theorem nth_flipF {i : Int} (h0 : 0 ≤ i) (h1 : i < (F.length : Int)) : nth (flipF F) i = 1 - nth F i := by
  have e : ((i.toNat : Nat) : Int) = i := by omega
  rw [← e, nth_nat (by rw [flipF_length]; omega), nth_nat (by omega)]
  simp [flipF]
theorem flipF_flipF : flipF (flipF F) = F := by
  unfold flipF
  rw [List.map_map]
  have : ((fun x : Int => 1 - x) ∘ fun x => 1 - x) = id := by funext x; simp [Function.comp]; omega
  rw [this, List.map_id]
theorem Ord.sw {n : Nat} (h : Ord n B U F) : Ord n U B (flipF F) := by
  obtain ⟨h1, h2, h3, h4⟩ := h
  refine ⟨h2, h1, by rw [flipF_length]; exact h3, fun i hi => ?_⟩
  have := h4 i hi
  unfold okFor at *
  rw [nth_flipF (by omega) (by omega)]
  exact ⟨this.2.1, this.1, by omega, by omega⟩
theorem play_sw (hj : Jobs l) (hO : Ord l.length B U F) : play (sw l) U B (flipF F) = (sw (play l B U F).1, (play l B U F).2) := by
  have hc := checkOrder_iff.2 ⟨hj, hO⟩
  have hO2 := hO.sw
  have hc2 : checkOrder (sw l) U B (flipF F) = 0 := checkOrder_iff.2 ⟨hj.sw, by rw [sw_length]; exact hO2⟩
  have hF : ∀ i : Int, 0 ≤ i → i < (l.length : Int) → nth (flipF F) i = 1 - nth F i := fun i h0 h1 => nth_flipF h0 (by have := hO.2.2.1; omega)
  have hF2 : ∀ i : Int, 0 ≤ i → i < ((sw l).length : Int) → nth F i = 1 - nth (flipF F) i := fun i h0 h1 => by
    rw [sw_length] at h1; rw [hF i h0 h1]; omega
  by_cases h : ∃ p, SolP l B U F p
  · obtain ⟨p, hs⟩ := h
    rw [(play_yes hj hc hs).1, (play_yes hj.sw hc2 (hs.sw hF)).1]
  · rw [(play_no hc h).1, (play_no hc2 (fun ⟨p, hs⟩ => h ⟨S.sw p, by have := hs.sw hF2; rw [sw_sw] at this; exact this⟩)).1]
    rfl
/-! ### Read from its end -/
def back (l p : List Pr) (n : Int) : List Pr := (List.range l.length).map fun i : Nat => (n - (nth p (i : Int)).1 - (nth l (i : Int)).1, n - (nth p (i : Int)).2 - (nth l (i : Int)).2)
theorem back_length {n : Int} : (back l p n).length = l.length := by simp [back]
theorem nth_back {n : Int} {i : Nat} (h : i < l.length) : nth (back l p n) (i : Int) = (n - (nth p (i : Int)).1 - (nth l (i : Int)).1, n - (nth p (i : Int)).2 - (nth l (i : Int)).2) := by
  rw [nth_nat (by rw [back_length]; exact h)]
  simp [back]
theorem at2_back {n : Int} {w : Nat} (h : w < 2 * l.length) : at2 (back l p n) (w : Int) = n - at2 p (w : Int) - at2 l (w : Int) := by
  have e := nth_back (l := l) (p := p) (n := n) (i := w / 2) (by omega)
  have c : ((w / 2 : Nat) : Int) = (w : Int) / 2 := by omega
  rw [c] at e
  unfold at2
  rw [e]
  split <;> rfl
theorem back_ok (hj : Jobs l) (hT : AllT p) (hl : p.length = l.length) (hR : Right l p) {n : Int} (hn : endOf l p = n) (hn2 : n ≤ 100000) : checkPlan l (back l p n) = (endOf l (back l p n), 0) ∧ endOf l (back l p n) ≤ n := by
  have ends : ∀ w, w < 2 * l.length → 0 ≤ at2 p ((w : Nat) : Int) ∧ at2 p (w : Int) + at2 l (w : Int) ≤ n ∧ 1 ≤ at2 l (w : Int) := fun w hw => by
    have h1 := endTo_ge (l := l) (p := p) (2 * l.length) w hw
    have h2 := hT.at2 (w := (w : Int)) (by omega) (by omega)
    have h3 := hj.at2 (w := (w : Int)) (by omega) (by omega)
    unfold endOf at hn
    omega
  have hn0 : 0 ≤ n := by rw [← hn]; exact end_nonneg _
  constructor
  · refine cp5 (checkJobs_iff.2 hj) (by rw [back_length]) (allT_of (c := n) hn2 (fun w hw => ?_)) (fun v hv w hw hc => ?_)
    · rw [back_length] at hw
      have := ends w hw
      rw [at2_back hw]
      omega
    · have h1 := hR v hv w hw
      unfold clash at hc h1
      rw [at2_back hv, at2_back (show w < 2 * l.length by omega)] at hc
      omega
  · refine endTo_le hn0 _ fun w hw => ?_
    have := ends w hw
    rw [at2_back hw]
    omega
/-! ### Scaled -/
def scale (k : Int) (l : List Pr) : List Pr := l.map fun p => (k * p.1, k * p.2)
theorem scale_length {k : Int} : (scale k l).length = l.length := by simp [scale]
theorem nth_scale {k : Int} (i : Int) : nth (scale k l) i = (k * (nth l i).1, k * (nth l i).2) := by
  unfold nth scale
  rw [List.getD_eq_getElem?_getD, List.getD_eq_getElem?_getD, List.getElem?_map]
  cases l[i.toNat]? with
  | none => show ((0 : Int), (0 : Int)) = (k * 0, k * 0); rw [Int.mul_zero]
  | some a => rfl
theorem at2_scale {k : Int} (w : Int) : at2 (scale k l) w = k * at2 l w := by
  unfold at2
  rw [nth_scale]
  split <;> rfl
theorem sumTo_scale {k b : Int} : ∀ n, sumTo (scale k l) b n = k * sumTo l b n
  | 0 => by simp [sumTo]
  | n + 1 => by rw [sumTo, sumTo, sumTo_scale n, at2_scale, Int.mul_add]
theorem mul_max {k a b : Int} (hk : 0 ≤ k) : k * max a b = max (k * a) (k * b) := by
  rcases Int.le_total a b with h | h
  · have := Int.mul_le_mul_of_nonneg_left h hk
    rw [show max a b = b by omega, show max (k * a) (k * b) = k * b by omega]
  · have := Int.mul_le_mul_of_nonneg_left h hk
    rw [show max a b = a by omega, show max (k * a) (k * b) = k * a by omega]
theorem shortTo_scale {k : Int} (hk : 0 ≤ k) : ∀ n, shortTo (scale k l) n = k * shortTo l n
  | 0 => by
    rw [shortTo, shortTo]
    unfold sumOf
    rw [scale_length, sumTo_scale, sumTo_scale, mul_max hk]
  | n + 1 => by rw [shortTo, shortTo, shortTo_scale hk n, mul_max hk, nth_scale, Int.mul_add]
theorem shortestOf_scale {k : Int} (hk : 0 ≤ k) : shortestOf (scale k l) = k * shortestOf l := by unfold shortestOf; rw [scale_length, shortTo_scale hk]
theorem SolP.scale {k : Int} (hk : 0 ≤ k) (h : SolP l B U F p) : SolP (scale k l) B U F (scale k p) := by
  refine ⟨by rw [scale_length, scale_length]; exact h.1, fun w hw => ?_⟩
  rw [scale_length] at hw
  obtain ⟨h1, h2, h3⟩ := h.2 w hw
  refine ⟨by rw [at2_scale]; exact Int.mul_nonneg hk h1, fun v hv hW => ?_, ?_⟩
  · rw [scale_length] at hv
    rw [at2_scale, at2_scale, at2_scale, ← Int.mul_add]
    exact Int.mul_le_mul_of_nonneg_left (h2 v hv hW) hk
  · rcases h3 with h3 | ⟨v, hv, hW, h3⟩
    · left; rw [at2_scale, h3, Int.mul_zero]
    · right; exact ⟨v, by rw [scale_length]; exact hv, hW, by rw [at2_scale, at2_scale, at2_scale, h3, Int.mul_add]⟩
theorem play_scale (hj : Jobs l) {k : Int} (hk : 1 ≤ k) (hjk : Jobs (S.scale k l)) (hO : Ord l.length B U F) : play (S.scale k l) B U F = (S.scale k (play l B U F).1, (play l B U F).2) := by
  have hc := checkOrder_iff.2 ⟨hj, hO⟩
  have hc2 : checkOrder (S.scale k l) B U F = 0 := checkOrder_iff.2 ⟨hjk, by rw [scale_length]; exact hO⟩
  by_cases h : ∃ p, SolP l B U F p
  · obtain ⟨p, hs⟩ := h
    rw [(play_yes hj hc hs).1, (play_yes hjk hc2 (hs.scale (by omega))).1]
  · rw [(play_no hc h).1]
    have hn : ¬ ∃ p, SolP (S.scale k l) B U F p := fun ⟨p, hs⟩ => by
      refine h ?_
      have hf : Feas l B U F (fun w => at2 p (w : Int)) := fun w hw => by
        obtain ⟨h1, h2, _⟩ := hs.2 w (by rw [scale_length]; exact hw)
        refine ⟨h1, fun v hv hW => ?_⟩
        have h3 := h2 v (by rw [scale_length]; exact hv) hW
        rw [at2_scale] at h3
        have hm := hj.at2 (w := (v : Int)) (by omega) (by omega)
        have h4 : at2 l (v : Int) ≤ k * at2 l (v : Int) := by
          have := Int.mul_le_mul_of_nonneg_right hk (show 0 ≤ at2 l (v : Int) by omega)
          omega
        show at2 p (v : Int) + _ ≤ at2 p (w : Int)
        omega
      obtain ⟨q, hq, _⟩ := sol_of_feas hj hf
      exact ⟨q, hq⟩
    rw [(play_no hc2 hn).1]
    rfl
end
end Go.Fip.S
