/- Benches exchanged; the plan that is returned ends with the shortest day. -/
import Derived.Test.YtlekkopaeiblfaaSt
set_option linter.unusedVariables false
set_option linter.unusedSimpArgs false
set_option linter.unusedSectionVars false
set_option linter.unnecessarySimpa false
namespace Go.Fip.S
/-- Jobs, or times, with both benches exchanged. -/
def sw (l : List Pr) : List Pr := l.map fun p => (p.2, p.1)
theorem sw_length (l : List Pr) : (sw l).length = l.length := by simp [sw]
theorem nth_sw (l : List Pr) (i : Int) : nth (sw l) i = ((nth l i).2, (nth l i).1) := by
  unfold nth sw
  rw [List.getD_eq_getElem?_getD, List.getD_eq_getElem?_getD, List.getElem?_map]
  cases l[i.toNat]? <;> rfl
theorem sw_sw (l : List Pr) : sw (sw l) = l := by simp [sw, Function.comp_def]
def flip (w : Int) : Int := if w % 2 = 0 then w + 1 else w - 1
theorem flip_div (w : Int) : flip w / 2 = w / 2 := by unfold flip; split <;> omega
theorem flip_mod (w : Int) : flip w % 2 = 1 - w % 2 := by unfold flip; split <;> omega
theorem flip_flip (w : Int) : flip (flip w) = w := by have := flip_div w; have := flip_mod w; have := flip_div (flip w); have := flip_mod (flip w); omega
theorem at2_sw (l : List Pr) (w : Int) : at2 (sw l) w = at2 l (flip w) := by
  have h1 := flip_div w
  have h2 := flip_mod w
  unfold at2
  rw [nth_sw, h1, h2]
  by_cases h : w % 2 = 0
  · rw [if_pos h, if_neg (by omega)]
  · rw [if_neg h, if_pos (by omega)]
theorem sw_at2 (l : List Pr) (w : Int) : at2 l w = at2 (sw l) (flip w) := by rw [at2_sw, flip_flip]
theorem Jobs.sw {l : List Pr} (h : Jobs l) : Jobs (sw l) := by
  refine ⟨by rw [sw_length]; exact h.1, by rw [sw_length]; exact h.2.1, fun i hi => ?_⟩
  rw [sw_length] at hi
  have := h.2.2 i hi
  rw [nth_sw]
  unfold okJob at *
  simp only
  omega
theorem sumTo_sw (l : List Pr) {b : Int} (hb : b = 0 ∨ b = 1) : ∀ k, sumTo (sw l) b k = sumTo l (1 - b) k
  | 0 => rfl
  | k + 1 => by
    rw [sumTo, sumTo, sumTo_sw l hb k, at2_sw]
    congr 2
    unfold flip
    rcases hb with rfl | rfl
    · rw [if_pos (by omega)]; omega
    · rw [if_neg (by omega)]; omega
theorem shortTo_sw (l : List Pr) : ∀ k, shortTo (sw l) k = shortTo l k
  | 0 => by
    rw [shortTo, shortTo]
    unfold sumOf
    rw [sw_length, sumTo_sw l (.inl rfl), sumTo_sw l (.inr rfl)]
    show max (sumTo l 1 _) (sumTo l 0 _) = _
    omega
  | k + 1 => by rw [shortTo, shortTo, shortTo_sw l k, nth_sw]; simp only; omega
theorem shortestOf_sw (l : List Pr) : shortestOf (sw l) = shortestOf l := by unfold shortestOf; rw [sw_length, shortTo_sw]
theorem waits_sw {n : Nat} {B U F F' : List Int} (hF : ∀ i : Int, 0 ≤ i → i < (n : Int) → nth F' i = 1 - nth F i) {w v : Int} (h0 : 0 ≤ w) (h1 : w < 2 * (n : Int)) : Waits U B F' (flip w) (flip v) ↔ Waits B U F w v := by
  have a := flip_div w
  have b := flip_mod w
  have c := flip_div v
  have d := flip_mod v
  unfold Waits row
  rw [a, b, c, d]
  by_cases h : w % 2 = v % 2
  · rw [if_neg (show ¬ (1 - w % 2 ≠ 1 - v % 2) by omega), if_neg (show ¬ (w % 2 ≠ v % 2) by omega)]
    by_cases h2 : w % 2 = 1
    · rw [if_neg (show ¬ 1 - w % 2 = 1 by omega), if_pos h2]
    · rw [if_pos (show 1 - w % 2 = 1 by omega), if_neg h2]
  · rw [if_pos (show 1 - w % 2 ≠ 1 - v % 2 by omega), if_pos (show w % 2 ≠ v % 2 by omega), hF (w / 2) (by omega) (by omega)]
    constructor <;> intro h3 <;> exact ⟨h3.1, by omega⟩
theorem SolP.sw {l p : List Pr} {B U F F' : List Int} (hF : ∀ i : Int, 0 ≤ i → i < (l.length : Int) → nth F' i = 1 - nth F i) (h : SolP l B U F p) : SolP (sw l) U B F' (sw p) := by
  refine ⟨by rw [sw_length, sw_length]; exact h.1, fun w hw => ?_⟩
  rw [sw_length] at hw
  have fd := flip_div (w : Int)
  have fm := flip_mod (w : Int)
  have e : (((flip (w : Int)).toNat : Nat) : Int) = flip (w : Int) := by omega
  have key := h.2 (flip (w : Int)).toNat (by omega)
  rw [e] at key
  rw [at2_sw]
  refine ⟨key.1, fun v hv hW => ?_, ?_⟩
  · rw [sw_length] at hv
    have gd := flip_div (v : Int)
    have gm := flip_mod (v : Int)
    have e2 : (((flip (v : Int)).toNat : Nat) : Int) = flip (v : Int) := by omega
    have := key.2.1 (flip (v : Int)).toNat (by omega)
    rw [e2] at this
    rw [at2_sw, at2_sw]
    refine this ((waits_sw hF (by omega) (by omega)).1 ?_)
    rw [flip_flip, flip_flip]; exact hW
  · rcases key.2.2 with k0 | ⟨v, hv, hW, k1⟩
    · exact .inl k0
    · right
      have gd := flip_div (v : Int)
      have gm := flip_mod (v : Int)
      have e2 : (((flip (v : Int)).toNat : Nat) : Int) = flip (v : Int) := by omega
      refine ⟨(flip (v : Int)).toNat, by rw [sw_length]; omega, ?_, ?_⟩
      · rw [e2]
        have := (waits_sw hF (v := (v : Int)) (w := flip (w : Int)) (by omega) (by omega)).2 hW
        rwa [flip_flip] at this
      · rw [e2, at2_sw, at2_sw, flip_flip]; exact k1
theorem endOf_sw_le (l p : List Pr) : endOf (sw l) (sw p) ≤ endOf l p := by
  refine endTo_le (end_nonneg _) _ fun i hi => ?_
  rw [sw_length] at hi
  have fd := flip_div (i : Int)
  have fm := flip_mod (i : Int)
  have := endTo_ge (l := l) (p := p) (2 * l.length) (flip (i : Int)).toNat (by omega)
  rw [show (((flip (i : Int)).toNat : Nat) : Int) = flip (i : Int) by omega] at this
  rw [at2_sw, at2_sw]
  exact this
theorem endOf_sw (l p : List Pr) : endOf (sw l) (sw p) = endOf l p := by
  have h1 := endOf_sw_le l p
  have h2 := endOf_sw_le (sw l) (sw p)
  rw [sw_sw, sw_sw] at h2
  omega
/-! ### The plan -/
section
variable {l : List Pr}
theorem shorts_nodup : ∀ k, (shortsTo l k).Nodup
  | 0 => List.nodup_nil
  | k + 1 => by
    by_cases h : (nth l (k : Int)).1 ≤ (nth l (k : Int)).2
    · rw [(sh_t h).1, List.nodup_append]
      refine ⟨shorts_nodup k, by simp, fun a ha b hb e => ?_⟩
      rw [List.mem_singleton] at hb
      have := (shorts_mem.1 ha).1
      omega
    · rw [(sh_f h).1]; exact shorts_nodup k
theorem longs_nodup : ∀ k, (longsTo l k).Nodup
  | 0 => List.nodup_nil
  | k + 1 => by
    by_cases h : (nth l (k : Int)).1 ≤ (nth l (k : Int)).2
    · rw [(sh_t h).2]; exact longs_nodup k
    · rw [(sh_f h).2, List.nodup_append]
      refine ⟨longs_nodup k, by simp, fun a ha b hb e => ?_⟩
      rw [List.mem_singleton] at hb
      have := (longs_mem.1 ha).1
      omega
/-- A part without one of its numbers, the other part, and that number: all, each once. -/
theorem without_all {n : Nat} {X Y : List Int} {r : Int} (hX : X.Nodup) (hY : Y.Nodup) (hd : ∀ x ∈ X, x ∉ Y) (hall : ∀ i : Int, (0 ≤ i ∧ i < (n : Int)) ↔ i ∈ X ∨ i ∈ Y) (hr : r ∈ X) :
    (∀ i, i < n → ((i : Nat) : Int) ∈ ((X.filter fun y => !decide (y = r)) ++ Y) ++ [r]) ∧ ((X.filter fun y => !decide (y = r)) ++ Y).length + 1 = n := by
  have hm : ∀ i, i < n → ((i : Nat) : Int) ∈ ((X.filter fun y => !decide (y = r)) ++ Y) ++ [r] := fun i hi => by
    rw [List.mem_append, List.mem_append, List.mem_singleton, List.mem_filter]
    rcases (hall (i : Int)).1 ⟨by omega, by omega⟩ with h | h
    · by_cases e : (i : Int) = r
      · exact .inr e
      · exact .inl (.inl ⟨h, by simpa using e⟩)
    · exact .inl (.inr h)
  refine ⟨hm, ?_⟩
  have h1 := all_len n _ hm
  have h2 := nodup_len n (((X.filter fun y => !decide (y = r)) ++ Y) ++ [r]) (by
    rw [List.nodup_append, List.nodup_append]
    refine ⟨⟨hX.sublist List.filter_sublist, hY, fun a ha b hb e => ?_⟩, by simp, fun a ha b hb e => ?_⟩
    · subst e; exact hd a (List.mem_filter.1 ha).1 hb
    · rw [List.mem_singleton] at hb
      subst hb
      subst e
      rcases List.mem_append.1 ha with h | h
      · have := (List.mem_filter.1 h).2
        simp at this
      · exact hd a hr h) (fun x hx => by
    rcases List.mem_append.1 hx with h | h
    · rcases List.mem_append.1 h with h | h
      · exact (hall x).2 (.inl (List.mem_filter.1 h).1)
      · exact (hall x).2 (.inr h)
    · rw [List.mem_singleton] at h; subst h; exact (hall x).2 (.inl hr))
  rw [List.length_append, List.length_singleton] at h1 h2
  omega
theorem shortR_best (h : 0 < (shortsTo l l.length).length) : shortR l l.length ∈ shortsTo l l.length ∧ ∀ x ∈ shortsTo l l.length, (nth l x).1 ≤ (nth l (shortR l l.length)).1 := by
  obtain ⟨i, hi, he, hm, _⟩ := bestTo_spec (p := longer1 l) (l := shortsTo l l.length) (fun x => (nth l x).1) (fun x y => by simp [longer1]) ((shortsTo l l.length).length - 1)
  have e : shortR l l.length = nth (shortsTo l l.length) (i : Int) := he
  rw [e]
  refine ⟨nth_mem (by omega), fun x hx => ?_⟩
  obtain ⟨j, hj, rfl⟩ := List.getElem_of_mem hx
  rw [← nth_nat hj]
  exact hm j (by omega)
theorem longR_best (h : 0 < (longsTo l l.length).length) : longR l l.length ∈ longsTo l l.length ∧ ∀ x ∈ longsTo l l.length, (nth l x).2 ≤ (nth l (longR l l.length)).2 := by
  obtain ⟨i, hi, he, hm, _⟩ := bestTo_spec (p := longer2 l) (l := longsTo l l.length) (fun x => (nth l x).2) (fun x y => by simp [longer2]) ((longsTo l l.length).length - 1)
  have e : longR l l.length = nth (longsTo l l.length) (i : Int) := he
  rw [e]
  refine ⟨nth_mem (by omega), fun x hx => ?_⟩
  obtain ⟨j, hj, rfl⟩ := List.getElem_of_mem hx
  rw [← nth_nat hj]
  exact hm j (by omega)
theorem planOrd_ok (hj : Jobs l) : Ord l.length (planOrd l).1 (planOrd l).2.1 (planOrd l).2.2 ∧ ∃ p, SolP l (planOrd l).1 (planOrd l).2.1 (planOrd l).2.2 p ∧ endOf l p ≤ shortestOf l := by
  have hp := parts_length (l := l) l.length
  have hl1 := hj.1
  by_cases hu : useShort l l.length
  · rw [planOrd_t rfl hu]
    have hS : 0 < (shortsTo l l.length).length := by unfold useShort at hu; omega
    obtain ⟨hr, hb⟩ := shortR_best hS
    have hrm := (shorts_mem.1 hr).2
    obtain ⟨hall, hlen⟩ := without_all (n := l.length) (shorts_nodup l.length) (longs_nodup l.length) (fun x hx hy => (longs_mem.1 hy).2 (shorts_mem.1 hx).2)
      (fun i => ⟨fun hi => by by_cases h : (nth l i).1 ≤ (nth l i).2
                              · exact .inl (shorts_mem.2 ⟨hi, h⟩)
                              · exact .inr (longs_mem.2 ⟨hi, h⟩), fun h => h.elim (fun h => (shorts_mem.1 h).1) (fun h => (longs_mem.1 h).1)⟩) hr
    refine opt hj hlen (shorts_mem.1 hr).1 hall ((shortsTo l l.length).filter fun y => !decide (y = shortR l l.length)).length (fun k hk hk2 => ?_) (fun k hk hk2 => ?_)
    · have hmem : nth (rowS l l.length) (k : Int) ∈ shortsTo l l.length := by
        unfold rowS
        rw [nth_append_l (by omega) (by omega)]
        exact (List.mem_filter.1 (nth_mem hk)).1
      have h1 := (shorts_mem.1 hmem).2
      have h2 := hb _ hmem
      exact ⟨h1, Int.le_trans h2 hrm⟩
    · have hk3 : k - ((shortsTo l l.length).filter fun y => !decide (y = shortR l l.length)).length < (longsTo l l.length).length := by
        unfold rowS at hk2; rw [List.length_append] at hk2; omega
      have hmem : nth (rowS l l.length) (k : Int) ∈ longsTo l l.length := by
        unfold rowS
        rw [nth_append_r (by omega), show (k : Int) - (((shortsTo l l.length).filter fun y => !decide (y = shortR l l.length)).length : Int) = ((k - ((shortsTo l l.length).filter fun y => !decide (y = shortR l l.length)).length : Nat) : Int) by omega]
        exact nth_mem hk3
      have h1 := (longs_mem.1 hmem).2
      have h2 := (longR_best (l := l) (by omega)).2 _ hmem
      unfold useShort at hu
      have h3 : (nth l (longR l l.length)).2 ≤ (nth l (shortR l l.length)).1 := by omega
      exact ⟨by show (nth l (nth (rowS l l.length) (k : Int))).2 ≤ (nth l (nth (rowS l l.length) (k : Int))).1; omega, by show (nth l (nth (rowS l l.length) (k : Int))).2 ≤ _; omega⟩
  · rw [planOrd_f rfl hu]
    have hL : 0 < (longsTo l l.length).length := by unfold useShort at hu; omega
    obtain ⟨hr, hb⟩ := longR_best hL
    have hrm := (longs_mem.1 hr).2
    obtain ⟨hall, hlen⟩ := without_all (n := l.length) (longs_nodup l.length) (shorts_nodup l.length) (fun x hx hy => (longs_mem.1 hx).2 (shorts_mem.1 hy).2)
      (fun i => ⟨fun hi => by by_cases h : (nth l i).1 ≤ (nth l i).2
                              · exact .inr (shorts_mem.2 ⟨hi, h⟩)
                              · exact .inl (longs_mem.2 ⟨hi, h⟩), fun h => h.elim (fun h => (longs_mem.1 h).1) (fun h => (shorts_mem.1 h).1)⟩) hr
    obtain ⟨hO, p, hp, he⟩ := opt hj.sw (R := rowL l l.length) (r := longR l l.length) (by rw [sw_length]; exact hlen) (by rw [sw_length]; exact (longs_mem.1 hr).1) (by rw [sw_length]; exact hall)
      ((longsTo l l.length).filter fun y => !decide (y = longR l l.length)).length (fun k hk hk2 => by
        have hmem : nth (rowL l l.length) (k : Int) ∈ longsTo l l.length := by
          unfold rowL
          rw [nth_append_l (by omega) (by omega)]
          exact (List.mem_filter.1 (nth_mem hk)).1
        have h1 := (longs_mem.1 hmem).2
        have h2 := hb _ hmem
        rw [nth_sw, nth_sw]
        simp only
        omega) (fun k hk hk2 => by
        have hk3 : k - ((longsTo l l.length).filter fun y => !decide (y = longR l l.length)).length < (shortsTo l l.length).length := by
          unfold rowL at hk2; rw [List.length_append] at hk2; omega
        have hmem : nth (rowL l l.length) (k : Int) ∈ shortsTo l l.length := by
          unfold rowL
          rw [nth_append_r (by omega), show (k : Int) - (((longsTo l l.length).filter fun y => !decide (y = longR l l.length)).length : Int) = ((k - ((longsTo l l.length).filter fun y => !decide (y = longR l l.length)).length : Nat) : Int) by omega]
          exact nth_mem hk3
        have h1 := (shorts_mem.1 hmem).2
        have h2 := (shortR_best (l := l) (by omega)).2 _ hmem
        unfold useShort at hu
        rw [nth_sw, nth_sw]
        simp only
        omega)
    rw [sw_length] at hO hp
    have hF : ∀ i : Int, 0 ≤ i → i < ((sw l).length : Int) → nth (firstsTo (longR l l.length) 0 l.length) i = 1 - nth (firstsTo (longR l l.length) 1 l.length) i := fun i h0 h1 => by
      rw [sw_length] at h1
      have a := firstsTo_nth (longR l l.length) 0 l.length i.toNat (by omega)
      have b := firstsTo_nth (longR l l.length) 1 l.length i.toNat (by omega)
      rw [show ((i.toNat : Nat) : Int) = i by omega] at a b
      rw [a, b]; split <;> omega
    refine ⟨⟨hO.2.1, hO.1, firstsTo_length _ _ _, fun i hi => ?_⟩, sw p, ?_, ?_⟩
    · have := hO.2.2.2 i hi
      unfold okFor at *
      rw [firstsTo_nth _ _ _ _ hi]
      exact ⟨this.2.1, this.1, by split <;> omega, by split <;> omega⟩
    · have := hp.sw hF
      rw [sw_sw] at this
      exact this
    · have h1 := endOf_sw l (sw p)
      rw [sw_sw] at h1
      rw [shortestOf_sw] at he
      omega
/-- THE PLAN: it is right, and ends with the shortest day. -/
theorem plan_ok (hj : Jobs l) : ∃ p, plan l = (p, 0) ∧ SolP l (planOrd l).1 (planOrd l).2.1 (planOrd l).2.2 p ∧ checkPlan l p = (shortestOf l, 0) := by
  obtain ⟨hO, p, hp, he⟩ := planOrd_ok hj
  have hc : checkOrder l (planOrd l).1 (planOrd l).2.1 (planOrd l).2.2 = 0 := checkOrder_iff.2 ⟨hj, hO⟩
  have hs := playOf_some hj hp
  refine ⟨p, ?_, hp, ?_⟩
  · rw [plan2 (checkJobs_iff.2 hj), pl3 hc (by rw [hs]; simp), hs]; rfl
  · rw [hp.check hj hO]
    have := shortest_le_end hj (hp.allT hj) hp.1 (hp.right hj hO)
    rw [show endOf l p = shortestOf l by omega]
end
end Go.Fip.S
namespace Go.Fip.S
theorem Walk.start {l : List Pr} {B U F : List Int} {E : Mm} (hOK : DayOK l B U F E) {a : Nat} (ha : a < 2 * l.length) (hn : (ready E B U F (a : Int)).2 = false) : Walk l B U F E [] (a : Int) where
  inn := fun y hy => by cases hy
  nd := List.nodup_nil
  at0 := by omega
  at1 := by omega
  no := by
    rcases hOK.st a ha with ⟨_, _, h, _⟩ | ⟨h, _⟩
    · rw [hn] at h; cases h
    · exact h
  lnk := fun i hi => by simp at hi
  last := fun h => by simp at h
theorem place_nat {Q : List Int} {x : Int} (h : 0 ≤ place Q x) : ∃ k : Nat, k < Q.length ∧ place Q x = (k : Int) :=
  ⟨(place Q x).toNat, by have := place_lt Q x; omega, by omega⟩
end Go.Fip.S
