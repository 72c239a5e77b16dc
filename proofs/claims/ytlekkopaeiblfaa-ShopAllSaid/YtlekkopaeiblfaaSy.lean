/- Plans that come of orders: the rounds of the readers' words. -/
import Derived.Test.YtlekkopaeiblfaaSo
set_option linter.unusedVariables false
set_option linter.unusedSimpArgs false
set_option linter.unusedSectionVars false
set_option linter.unnecessarySimpa false
namespace Go.Fip
theorem nth_set_same {α : Type} [Inhabited α] {l : List α} {i : Nat} {x : α} (h : i < l.length) : nth (l.set i x) (i : Int) = x := by
  rw [nth_nat (by simpa using h)]; simp
theorem nth_set_ne {α : Type} [Inhabited α] {l : List α} {i j : Nat} {x : α} (h : i ≠ j) : nth (l.set i x) (j : Int) = nth l (j : Int) := by
  unfold nth
  rw [List.getD_eq_getElem?_getD, List.getD_eq_getElem?_getD]
  simp [List.getElem?_set_ne h]
theorem nth_replicate {α : Type} [Inhabited α] {n i : Nat} {x : α} (h : i < n) : nth (List.replicate n x) (i : Int) = x := by
  rw [nth_nat (by simpa using h)]; simp
namespace S
section
variable (l : List Pr) (B T F : List Int)
/-- The times s are those to which the order is played. -/
def SolF (s : Nat → Int) : Prop := ∀ w, w < 2 * l.length → 0 ≤ s w ∧ (∀ v, v < 2 * l.length → Waits B T F (w : Int) (v : Int) → s v + at2 l (v : Int) ≤ s w) ∧
  (s w = 0 ∨ ∃ v, v < 2 * l.length ∧ Waits B T F (w : Int) (v : Int) ∧ s w = s v + at2 l (v : Int))
def rank (s : Nat → Int) (n w : Nat) : Nat := ((List.range n).filter fun v => decide (s v < s w)).length
theorem rank_lt {s : Nat → Int} {n w : Nat} (hw : w < n) : rank s n w < n := by
  unfold rank
  have h : ((List.range n).filter fun v => decide (s v < s w)).length ≤ (List.range n).length := List.length_filter_le _ _
  rcases Nat.lt_or_eq_of_le h with h1 | h1
  · simpa using h1
  · have := List.length_filter_eq_length_iff.1 h1 w (List.mem_range.2 hw)
    simp at this
theorem filter_len {p q : Nat → Bool} : ∀ (l : List Nat), (∀ x ∈ l, p x = true → q x = true) → (l.filter p).length ≤ (l.filter q).length ∧ (∀ y ∈ l, q y = true → p y = false → (l.filter p).length < (l.filter q).length)
  | [], _ => ⟨Nat.le_refl _, fun y hy => (by cases hy)⟩
  | a :: l, h => by
    obtain ⟨h1, h2⟩ := filter_len l (fun x hx => h x (List.mem_cons_of_mem _ hx))
    have ha := h a (List.mem_cons_self)
    constructor
    · cases hp : p a with
      | true => rw [List.filter_cons_of_pos (by simpa using hp), List.filter_cons_of_pos (by simpa using ha hp)]; simp; exact h1
      | false =>
        rw [List.filter_cons_of_neg (by simp [hp])]
        cases hq : q a with
        | true => rw [List.filter_cons_of_pos (by simpa using hq)]; simp; omega
        | false => rw [List.filter_cons_of_neg (by simp [hq])]; exact h1
    · intro y hy hq hp
      rcases List.mem_cons.1 hy with rfl | hy
      · rw [List.filter_cons_of_neg (by simp [hp]), List.filter_cons_of_pos (by simpa using hq)]; simp; omega
      · have h3 := h2 y hy hq hp
        cases hp' : p a with
        | true => rw [List.filter_cons_of_pos (by simpa using hp'), List.filter_cons_of_pos (by simpa using ha hp')]; simp; exact h3
        | false =>
          rw [List.filter_cons_of_neg (by simp [hp'])]
          cases hq' : q a with
          | true => rw [List.filter_cons_of_pos (by simpa using hq')]; simp; omega
          | false => rw [List.filter_cons_of_neg (by simp [hq'])]; exact h3
theorem rank_mono {s : Nat → Int} {n v w : Nat} (hv : v < n) (h : s v < s w) : rank s n v < rank s n w := by
  refine (filter_len (List.range n) (fun x _ hx => ?_)).2 v (List.mem_range.2 hv) (by simpa using h) (by simp)
  simp at hx ⊢; omega
/-- Where the rounds stand: r rounds are done, and of this one the works before w, and of w's those before v. -/
structure PI (r w v : Nat) (c : Bool) (A : List Int) : Prop where
  len : A.length = 2 * l.length
  lo : ∀ x, x < 2 * l.length → 0 ≤ nth A (x : Int)
  hi : ∀ x, x < 2 * l.length → nth A (x : Int) ≤ 500 * (256 * (r : Int) + 16 * w + v)
  sup : ∀ x, x < 2 * l.length → nth A (x : Int) = 0 ∨ ∃ y, y < 2 * l.length ∧ Waits B T F (x : Int) (y : Int) ∧ nth A (x : Int) ≤ nth A (y : Int) + at2 l (y : Int)
  un : c = false → ∀ x, x < 2 * l.length → ∀ y, y < 2 * l.length → (x < w ∨ (x = w ∧ y < v)) → Waits B T F (x : Int) (y : Int) → nth A (y : Int) + at2 l (y : Int) ≤ nth A (x : Int)
  pr : ∀ s, SolF l B T F s → (∀ x, x < 2 * l.length → nth A (x : Int) ≤ s x) ∧ (∀ x, x < 2 * l.length → rank s (2 * l.length) x < r → nth A (x : Int) = s x) ∧
    (∀ x, x < 2 * l.length → x < w → rank s (2 * l.length) x = r → nth A (x : Int) = s x) ∧
    (w < 2 * l.length → rank s (2 * l.length) w = r → ∀ y, y < 2 * l.length → y < v → Waits B T F (w : Int) (y : Int) → s y + at2 l (y : Int) ≤ nth A (w : Int))
  ch : c = true → ∀ s, SolF l B T F s → ∃ x, x < 2 * l.length ∧ r ≤ rank s (2 * l.length) x
variable {l B T F}
theorem PI.zero (hj : Jobs l) : PI l B T F 0 0 0 false (List.replicate (2 * l.length) 0) where
  len := by simp
  lo := fun x hx => by rw [nth_replicate hx]; exact Int.le_refl _
  hi := fun x hx => by rw [nth_replicate hx]; omega
  sup := fun x hx => .inl (nth_replicate hx)
  un := fun _ x _ y _ h _ => by omega
  pr := fun s hs => ⟨fun x hx => by rw [nth_replicate hx]; exact (hs x hx).1, fun x _ h => by omega, fun x _ h => by omega, fun _ _ y _ h => by omega⟩
  ch := fun h => by cases h
theorem PI.skip {r w v : Nat} {c : Bool} {A : List Int} (h : PI l B T F r w v c A) (hj : Jobs l) (hw : w < 2 * l.length) (hv : v < 2 * l.length)
    (hn : ¬ (Waits B T F (w : Int) (v : Int) ∧ nth A (w : Int) < nth A (v : Int) + at2 l (v : Int))) : PI l B T F r w (v + 1) c A where
  len := h.len
  lo := h.lo
  hi := fun x hx => by have := h.hi x hx; omega
  sup := h.sup
  un := fun hc x hx y hy hxy hW => by
    by_cases e : x = w ∧ y = v
    · obtain ⟨rfl, rfl⟩ := e
      exact Int.not_lt.1 fun hlt => hn ⟨hW, hlt⟩
    · exact h.un hc x hx y hy (by omega) hW
  pr := fun s hs => by
    obtain ⟨h1, h2, h3, h4⟩ := h.pr s hs
    refine ⟨h1, h2, h3, fun hw' hr y hy hyv hW => ?_⟩
    rcases Nat.lt_or_eq_of_le (Nat.le_of_lt_succ hyv) with h5 | rfl
    · exact h4 hw' hr y hy h5 hW
    · have hm := hj.at2 (w := (y : Int)) (by omega) (by omega)
      have hlt : s y < s w := by have := (hs w hw').2.1 y hy hW; omega
      have hrk := rank_mono (n := 2 * l.length) hy hlt
      rw [← h2 y hy (by omega)]
      exact Int.not_lt.1 fun hlt => hn ⟨hW, hlt⟩
  ch := h.ch
theorem PI.relax {r w v : Nat} {c : Bool} {A : List Int} (h : PI l B T F r w v c A) (hj : Jobs l) (hw : w < 2 * l.length) (hv : v < 2 * l.length)
    (hW : Waits B T F (w : Int) (v : Int)) (hlt : nth A (w : Int) < nth A (v : Int) + at2 l (v : Int)) : PI l B T F r w (v + 1) true (A.set w (nth A (v : Int) + at2 l (v : Int))) := by
  have hl := h.len
  have e1 : nth (A.set w (nth A (v : Int) + at2 l (v : Int))) (w : Int) = nth A (v : Int) + at2 l (v : Int) := nth_set_same (by omega)
  have e2 : ∀ x, x ≠ w → nth (A.set w (nth A (v : Int) + at2 l (v : Int))) (x : Int) = nth A (x : Int) := fun x hx => nth_set_ne (fun e => hx e.symm)
  have up : ∀ x, nth A (x : Nat) ≤ nth (A.set w (nth A (v : Int) + at2 l (v : Int))) (x : Int) := fun x => by
    by_cases e : x = w
    · subst e; rw [e1]; omega
    · rw [e2 x e]; exact Int.le_refl _
  have hm := hj.at2 (w := (v : Int)) (by omega) (by omega)
  have rk : ∀ s, SolF l B T F s → r ≤ rank s (2 * l.length) w := fun s hs => by
    obtain ⟨h1, h2, h3, h4⟩ := h.pr s hs
    rcases Nat.lt_or_ge (rank s (2 * l.length) w) r with h5 | h5
    · exfalso
      have h6 := h2 w hw h5
      have h7 := (hs w hw).2.1 v hv hW
      have h8 : s v < s w := by omega
      have h9 := rank_mono (n := 2 * l.length) hv h8
      have h10 := h2 v hv (by omega)
      omega
    · exact h5
  refine ⟨by simpa using hl, fun x hx => Int.le_trans (h.lo x hx) (up x), fun x hx => ?_, fun x hx => ?_, fun hc => (by cases hc), fun s hs => ?_, fun _ s hs => ⟨w, hw, rk s hs⟩⟩
  · by_cases e : x = w
    · subst e; rw [e1]; have := h.hi v hv; omega
    · rw [e2 x e]; have := h.hi x hx; omega
  · by_cases e : x = w
    · subst e
      right
      refine ⟨v, hv, hW, ?_⟩
      rw [e1]
      have := up v
      omega
    · rw [e2 x e]
      rcases h.sup x hx with h5 | ⟨y, hy, hWy, hle⟩
      · exact .inl h5
      · exact .inr ⟨y, hy, hWy, by have := up y; omega⟩
  · obtain ⟨h1, h2, h3, h4⟩ := h.pr s hs
    have hr := rk s hs
    have hsv := (hs w hw).2.1 v hv hW
    have h1v := h1 v hv
    refine ⟨fun x hx => ?_, fun x hx hxr => ?_, fun x hx hxw hxr => ?_, fun _ hwr y hy hyv hWy => ?_⟩
    · by_cases e : x = w
      · subst e; rw [e1]; omega
      · rw [e2 x e]; exact h1 x hx
    · rw [e2 x (fun e => by subst e; omega)]; exact h2 x hx hxr
    · rw [e2 x (by omega)]; exact h3 x hx hxw hxr
    · rw [e1]
      rcases Nat.lt_or_eq_of_le (Nat.le_of_lt_succ hyv) with h5 | rfl
      · have := h4 hw hwr y hy h5 hWy; omega
      · have h8 : s y < s w := by omega
        have h9 := rank_mono (n := 2 * l.length) hy h8
        rw [h2 y hy (by omega)]
        exact Int.le_refl _
theorem PI.row {r w : Nat} {c : Bool} {A : List Int} {v : Nat} (h : PI l B T F r w v c A) (hj : Jobs l) (hv : v = 2 * l.length) (hw : w < 2 * l.length) : PI l B T F r (w + 1) 0 c A where
  len := h.len
  lo := h.lo
  hi := fun x hx => by have := h.hi x hx; have := hj.2.1; omega
  sup := h.sup
  un := fun hc x hx y hy hxy hW => h.un hc x hx y hy (by omega) hW
  pr := fun s hs => by
    obtain ⟨h1, h2, h3, h4⟩ := h.pr s hs
    refine ⟨h1, h2, fun x hx hxw hxr => ?_, fun _ _ y _ hyv => by omega⟩
    rcases Nat.lt_or_eq_of_le (Nat.le_of_lt_succ hxw) with h5 | rfl
    · exact h3 x hx h5 hxr
    · refine Int.le_antisymm (h1 x hx) ?_
      rcases (hs x hx).2.2 with h6 | ⟨y, hy, hW, he⟩
      · rw [h6]; exact h.lo x hx
      · have := h4 hx hxr y hy (by omega) hW; omega
  ch := h.ch
theorem PI.round {r w : Nat} {c : Bool} {A : List Int} (h : PI l B T F r w 0 c A) (hj : Jobs l) (hw : w = 2 * l.length) : PI l B T F (r + 1) 0 0 false A where
  len := h.len
  lo := h.lo
  hi := fun x hx => by have := h.hi x hx; have := hj.2.1; omega
  sup := h.sup
  un := fun _ x hx y hy hxy hW => by omega
  pr := fun s hs => by
    obtain ⟨h1, h2, h3, h4⟩ := h.pr s hs
    refine ⟨h1, fun x hx hxr => ?_, fun x hx hxw => by omega, fun _ _ y _ hyv => by omega⟩
    rcases Nat.lt_or_eq_of_le (Nat.le_of_lt_succ hxr) with h5 | h5
    · exact h2 x hx h5
    · exact h3 x hx (by omega) h5
  ch := fun hc => by cases hc
/-- Nothing has changed: these are the times. -/
theorem PI.sol {r w : Nat} {A : List Int} (h : PI l B T F r w 0 false A) (hw : w = 2 * l.length) : SolF l B T F (fun x => nth A (x : Int)) := fun x hx => by
  refine ⟨h.lo x hx, fun v hv hW => h.un rfl x hx v hv (by omega) hW, ?_⟩
  rcases h.sup x hx with h1 | ⟨y, hy, hW, hle⟩
  · exact .inl h1
  · exact .inr ⟨y, hy, hW, Int.le_antisymm hle (h.un rfl x hx y hy (by omega) hW)⟩
theorem PI.none {r w : Nat} {A : List Int} (h : PI l B T F r w 0 true A) (hr : r = 2 * l.length) : ¬ ∃ s, SolF l B T F s := by
  rintro ⟨s, hs⟩
  obtain ⟨x, hx, hle⟩ := h.ch rfl s hs
  have := rank_lt (s := s) hx
  omega
/-- There is at most one. -/
theorem sol_unique (hj : Jobs l) {s t : Nat → Int} (hs : SolF l B T F s) (ht : SolF l B T F t) : ∀ w, w < 2 * l.length → s w = t w := by
  have key : ∀ {s t : Nat → Int}, SolF l B T F s → SolF l B T F t → ∀ (n : Nat) w, w < 2 * l.length → (s w).toNat < n → s w ≤ t w := by
    intro s t hs ht n
    induction n with
    | zero => intro w _ h; omega
    | succ n ih =>
      intro w hw hn
      rcases (hs w hw).2.2 with h | ⟨v, hv, hW, he⟩
      · have := (ht w hw).1; omega
      · have hm := hj.at2 (w := (v : Int)) (by omega) (by omega)
        have h0 := (hs v hv).1
        have h1 := ih v hv (by omega)
        have h2 := (ht w hw).2.1 v hv hW
        omega
  exact fun w hw => Int.le_antisymm (key hs ht _ w hw (Nat.lt_succ_self _)) (key ht hs _ w hw (Nat.lt_succ_self _))
variable (l B T F)
/-- The plan p is the one to which the order is played. -/
def SolP (p : List Pr) : Prop := p.length = l.length ∧ ∀ w, w < 2 * l.length → 0 ≤ at2 p (w : Int) ∧ (∀ v, v < 2 * l.length → Waits B T F (w : Int) (v : Int) → at2 p (v : Int) + at2 l (v : Int) ≤ at2 p (w : Int)) ∧
  (at2 p (w : Int) = 0 ∨ ∃ v, v < 2 * l.length ∧ Waits B T F (w : Int) (v : Int) ∧ at2 p (w : Int) = at2 p (v : Int) + at2 l (v : Int))
instance (p : List Pr) : Decidable (SolP l B T F p) := by unfold SolP; infer_instance
open Classical in
noncomputable def playOf : Option (List Pr) := if h : ∃ p, SolP l B T F p then some (Classical.choose h) else none
variable {l B T F}
theorem pair_ext {p q : List Pr} (hl : p.length = q.length) (h : ∀ w, w < 2 * p.length → at2 p (w : Int) = at2 q (w : Int)) : p = q := by
  refine List.ext_getElem hl fun i h1 h2 => ?_
  have a := h (2 * i) (by omega)
  have b := h (2 * i + 1) (by omega)
  unfold at2 at a b
  rw [if_pos (by omega), if_pos (by omega)] at a
  rw [if_neg (by omega), if_neg (by omega)] at b
  have e : ((2 * i : Nat) : Int) / 2 = (i : Int) := by omega
  have e2 : ((2 * i + 1 : Nat) : Int) / 2 = (i : Int) := by omega
  rw [e, nth_nat h1, nth_nat h2] at a
  rw [e2, nth_nat h1, nth_nat h2] at b
  exact Prod.ext a b
theorem playOf_some (hj : Jobs l) {p : List Pr} (h : SolP l B T F p) : playOf l B T F = some p := by
  have hex : ∃ p, SolP l B T F p := ⟨p, h⟩
  unfold playOf
  rw [dif_pos hex]
  have hc := Classical.choose_spec hex
  congr 1
  exact pair_ext (hc.1.trans h.1.symm) fun w hw => sol_unique hj (s := fun w => at2 _ (w : Int)) (t := fun w => at2 p (w : Int)) hc.2 h.2 w (by rw [hc.1] at hw; exact hw)
theorem playOf_is {p : List Pr} (h : playOf l B T F = some p) : SolP l B T F p := by
  unfold playOf at h
  split at h
  · rename_i hex; cases h; exact Classical.choose_spec hex
  · cases h
theorem playOf_none (h : ¬ ∃ s, SolF l B T F s) : playOf l B T F = none := by
  unfold playOf
  rw [dif_neg]
  rintro ⟨p, hp⟩
  exact h ⟨_, hp.2⟩
theorem playOf_no (h : playOf l B T F = none) : ¬ ∃ p, SolP l B T F p := by
  unfold playOf at h
  split at h
  · cases h
  · assumption
/-- The pairs of a row of times. -/
def pairsTo (A : List Int) : Nat → List Pr
  | 0 => []
  | k + 1 => pairsTo A k ++ [(nth A (2 * (k : Int)), nth A (2 * (k : Int) + 1))]
theorem pairsTo_length (A : List Int) : ∀ k, (pairsTo A k).length = k
  | 0 => rfl
  | k + 1 => by simp [pairsTo, pairsTo_length A k]
theorem pairsTo_nth (A : List Int) : ∀ k i, i < k → nth (pairsTo A k) (i : Int) = (nth A (2 * (i : Int)), nth A (2 * (i : Int) + 1))
  | k + 1, i, h => by
    show nth (_ ++ _) _ = _
    rcases Nat.lt_or_eq_of_le (Nat.le_of_lt_succ h) with h1 | rfl
    · rw [nth_append_l (by omega) (by rw [pairsTo_length]; omega), pairsTo_nth A k i h1]
    · rw [nth_snoc (by rw [pairsTo_length])]
theorem at2_pairs (A : List Int) {k w : Nat} (hw : w < 2 * k) : at2 (pairsTo A k) (w : Int) = nth A (w : Int) := by
  have e := pairsTo_nth A k (w / 2) (by omega)
  have c : ((w / 2 : Nat) : Int) = (w : Int) / 2 := by omega
  rw [c] at e
  unfold at2
  rw [e]
  split
  · rename_i h
    have : 2 * ((w : Int) / 2) = w := by omega
    simp only [this]
  · rename_i h
    have : 2 * ((w : Int) / 2) + 1 = w := by omega
    simp only [this]
theorem solF_congr {s t : Nat → Int} (h : ∀ w, w < 2 * l.length → s w = t w) (hs : SolF l B T F s) : SolF l B T F t := fun w hw => by
  obtain ⟨a, b, c⟩ := hs w hw
  refine ⟨by rw [← h w hw]; exact a, fun v hv hW => by rw [← h w hw, ← h v hv]; exact b v hv hW, ?_⟩
  rcases c with c | ⟨v, hv, hW, c⟩
  · left; rw [← h w hw]; exact c
  · right; exact ⟨v, hv, hW, by rw [← h w hw, ← h v hv]; exact c⟩
theorem solP_pairs {A : List Int} (h : SolF l B T F (fun x => nth A (x : Int))) : SolP l B T F (pairsTo A l.length) :=
  ⟨pairsTo_length A _, solF_congr (fun w hw => (at2_pairs A hw).symm) h⟩
end
end S
end Go.Fip
namespace Go.Fip.S
section
variable {l : List Pr} {B T F c : List Int}
variable (l B T F c)
noncomputable def play : List Pr × Int := if checkOrder l B T F ≠ 0 then ([], checkOrder l B T F) else if (playOf l B T F).isSome then ((playOf l B T F).getD [], 0) else ([], 13)
noncomputable def circleError : Int := if checkOrder l B T F ≠ 0 then checkOrder l B T F else if (playOf l B T F).isSome then 5 else 0
def prev (i : Nat) : Int := if i = 0 then nth c ((c.length : Int) - 1) else nth c ((i : Int) - 1)
def InC (n : Nat) (c : List Int) : Prop := ∀ i, i < c.length → 0 ≤ nth c (i : Int) ∧ nth c (i : Int) < 2 * (n : Int)
instance (n : Nat) (c : List Int) : Decidable (InC n c) := by unfold InC; infer_instance
def Circ : Prop := ∀ i, i < c.length → Waits B T F (nth c (i : Int)) (prev c i)
instance : Decidable (Circ B T F c) := by unfold Circ; infer_instance
def checkCircle : Int :=
  if checkOrder l B T F ≠ 0 then checkOrder l B T F else if c.length < 2 ∨ 2 * l.length < c.length then 6 else if ¬ InC l.length c then 2 else if ¬ Circ B T F c then 14 else 0
variable {l B T F c}
theorem pl1 (h : ¬ checkOrder l B T F = 0) : play l B T F = ([], checkOrder l B T F) := by unfold play; rw [if_pos h]
theorem pl2 (h : checkOrder l B T F = 0) (h2 : (!(playOf l B T F).isSome) = true) : play l B T F = ([], 13) := by
  unfold play; rw [if_neg (by omega), if_neg (by simpa using h2)]
theorem pl3 (h : checkOrder l B T F = 0) (h2 : ¬ (!(playOf l B T F).isSome) = true) : play l B T F = ((playOf l B T F).getD [], 0) := by
  unfold play; rw [if_neg (by omega), if_pos (by cases h3 : (playOf l B T F).isSome <;> simp [h3] at h2 ⊢)]
theorem ce1 (h : ¬ checkOrder l B T F = 0) : circleError l B T F = checkOrder l B T F := by unfold circleError; rw [if_pos h]
theorem ce2 (h : checkOrder l B T F = 0) (h2 : (playOf l B T F).isSome = true) : circleError l B T F = 5 := by
  unfold circleError; rw [if_neg (by omega), if_pos h2]
theorem ce3 (h : checkOrder l B T F = 0) (h2 : ¬ (playOf l B T F).isSome = true) : circleError l B T F = 0 := by
  unfold circleError; rw [if_neg (by omega), if_neg h2]
theorem cc1 (h : ¬ checkOrder l B T F = 0) : checkCircle l B T F c = checkOrder l B T F := by unfold checkCircle; rw [if_pos h]
theorem cc2 (h : checkOrder l B T F = 0) (h2 : c.length < 2 ∨ 2 * l.length < c.length) : checkCircle l B T F c = 6 := by unfold checkCircle; rw [if_neg (by omega), if_pos h2]
theorem cc3 (h : checkOrder l B T F = 0) (h2 : ¬ (c.length < 2 ∨ 2 * l.length < c.length)) (h3 : ¬ InC l.length c) : checkCircle l B T F c = 2 := by unfold checkCircle; rw [if_neg (by omega), if_neg h2, if_pos h3]
theorem cc4 (h : checkOrder l B T F = 0) (h2 : ¬ (c.length < 2 ∨ 2 * l.length < c.length)) (h3 : InC l.length c) (h4 : ¬ Circ B T F c) : checkCircle l B T F c = 14 := by
  unfold checkCircle; rw [if_neg (by omega), if_neg h2, if_neg (fun h => h h3), if_pos h4]
theorem cc5 (h : checkOrder l B T F = 0) (h2 : ¬ (c.length < 2 ∨ 2 * l.length < c.length)) (h3 : InC l.length c) (h4 : Circ B T F c) : checkCircle l B T F c = 0 := by
  unfold checkCircle; rw [if_neg (by omega), if_neg h2, if_neg (fun h => h h3), if_neg (fun h => h h4)]
theorem prev_in {n : Nat} (h : InC n c) (hc : 2 ≤ c.length) {i : Nat} (hi : i < c.length) : 0 ≤ prev c i ∧ prev c i < 2 * (n : Int) := by
  unfold prev
  split
  · have e : (((c.length - 1 : Nat)) : Int) = (c.length : Int) - 1 := by omega
    rw [← e]; exact h _ (by omega)
  · have e : (((i - 1 : Nat)) : Int) = (i : Int) - 1 := by omega
    rw [← e]; exact h _ (by omega)
theorem prev_succ {k : Nat} : prev c (k + 1) = nth c (k : Int) := by
  unfold prev; rw [if_neg (by omega)]; congr 1; omega
end
end Go.Fip.S
