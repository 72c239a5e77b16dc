/- The plans of orders: they are right; the least times; no right plan ends before a bound. -/
import Derived.Test.YtlekkopaeiblfaaSr
set_option linter.unusedVariables false
set_option linter.unusedSimpArgs false
set_option linter.unusedSectionVars false
set_option linter.unnecessarySimpa false
namespace Go.Fip.S
/-- The greatest of 0 and of those below k that are asked. -/
def maxOver (p : Nat → Bool) (h : Nat → Int) : Nat → Int
  | 0 => 0
  | k + 1 => if p k then max (maxOver p h k) (h k) else maxOver p h k
theorem maxOver_nonneg {p : Nat → Bool} {h : Nat → Int} : ∀ k, 0 ≤ maxOver p h k
  | 0 => Int.le_refl _
  | k + 1 => by
    have := maxOver_nonneg (p := p) (h := h) k
    rw [maxOver]; split <;> omega
theorem maxOver_ge {p : Nat → Bool} {h : Nat → Int} : ∀ k v, v < k → p v = true → h v ≤ maxOver p h k
  | k + 1, v, hv, hp => by
    rw [maxOver]
    rcases Nat.lt_or_eq_of_le (Nat.le_of_lt_succ hv) with h1 | rfl
    · have := maxOver_ge (h := h) k v h1 hp
      split <;> omega
    · rw [if_pos hp]; omega
theorem maxOver_is {p : Nat → Bool} {h : Nat → Int} : ∀ k, maxOver p h k = 0 ∨ ∃ v, v < k ∧ p v = true ∧ maxOver p h k = h v
  | 0 => .inl rfl
  | k + 1 => by
    have ih := maxOver_is (p := p) (h := h) k
    rw [maxOver]
    split
    · rename_i hp
      by_cases hle : maxOver p h k ≤ h k
      · right; exact ⟨k, by omega, hp, by omega⟩
      · rw [show max (maxOver p h k) (h k) = maxOver p h k by omega]
        rcases ih with ih | ⟨v, a, b, c⟩
        · exact .inl ih
        · exact .inr ⟨v, by omega, b, c⟩
    · rcases ih with ih | ⟨v, a, b, c⟩
      · exact .inl ih
      · exact .inr ⟨v, by omega, b, c⟩
theorem maxOver_congr {p : Nat → Bool} {h h' : Nat → Int} : ∀ k, (∀ v, v < k → p v = true → h v = h' v) → maxOver p h k = maxOver p h' k
  | 0, _ => rfl
  | k + 1, hh => by
    rw [maxOver, maxOver, maxOver_congr k (fun v hv hp => hh v (by omega) hp)]
    split
    · rename_i hp; rw [hh k (by omega) hp]
    · rfl
section
variable (l : List Pr) (B U F : List Int)
/-- Times at which no work begins before one for which it waits has ended. -/
def Feas (g : Nat → Int) : Prop := ∀ w, w < 2 * l.length → 0 ≤ g w ∧ ∀ v, v < 2 * l.length → Waits B U F (w : Int) (v : Int) → g v + at2 l (v : Int) ≤ g w
def early : Nat → Nat → Int
  | 0, _ => 0
  | k + 1, w => maxOver (fun v => decide (Waits B U F (w : Int) (v : Int))) (fun v => early k v + at2 l (v : Int)) (2 * l.length)
variable {l B U F}
theorem early_le {g : Nat → Int} (hg : Feas l B U F g) : ∀ k w, w < 2 * l.length → early l B U F k w ≤ g w
  | 0, w, hw => (hg w hw).1
  | k + 1, w, hw => by
    rw [early]
    rcases maxOver_is (p := fun v => decide (Waits B U F (w : Int) (v : Int))) (h := fun v => early l B U F k v + at2 l (v : Int)) (2 * l.length) with h | ⟨v, hv, hp, h⟩
    · rw [h]; exact (hg w hw).1
    · rw [h]
      have h1 := (hg w hw).2 v hv (of_decide_eq_true hp)
      have h2 := early_le hg k v hv
      omega
theorem early_stable (hj : Jobs l) {g : Nat → Int} (hg : Feas l B U F g) : ∀ k w, w < 2 * l.length → rank g (2 * l.length) w < k → early l B U F k w = early l B U F (k + 1) w
  | k + 1, w, hw, hr => by
    rw [early, early]
    refine maxOver_congr _ fun v hv hp => ?_
    have h1 := (hg w hw).2 v hv (of_decide_eq_true hp)
    have hm := hj.at2 (w := (v : Int)) (by omega) (by omega)
    have h2 := rank_mono (n := 2 * l.length) hv (show g v < g w by omega)
    show early l B U F k v + _ = early l B U F (k + 1) v + _
    rw [early_stable hj hg k v hv (by omega)]
/-- Where times respect an order, it can be played, and no work begins later than in these. -/
theorem sol_of_feas (hj : Jobs l) {g : Nat → Int} (hg : Feas l B U F g) : ∃ p, SolP l B U F p ∧ ∀ w, w < 2 * l.length → at2 p (w : Int) ≤ g w := by
  have hfix : ∀ w, w < 2 * l.length → early l B U F (2 * l.length) w = maxOver (fun v => decide (Waits B U F (w : Int) (v : Int))) (fun v => early l B U F (2 * l.length) v + at2 l (v : Int)) (2 * l.length) := fun w hw => by
    have := early_stable hj hg (2 * l.length) w hw (rank_lt hw)
    rw [early] at this
    exact this
  have hs : SolF l B U F (early l B U F (2 * l.length)) := fun w hw => by
    have e := hfix w hw
    refine ⟨by rw [e]; exact maxOver_nonneg _, fun v hv hW => ?_, ?_⟩
    · rw [e]
      exact maxOver_ge (p := fun v => decide (Waits B U F (w : Int) (v : Int))) (h := fun v => early l B U F (2 * l.length) v + at2 l (v : Int)) _ v hv (decide_eq_true hW)
    · rcases maxOver_is (p := fun v => decide (Waits B U F (w : Int) (v : Int))) (h := fun v => early l B U F (2 * l.length) v + at2 l (v : Int)) (2 * l.length) with h | ⟨v, hv, hp, h⟩
      · left; rw [e]; exact h
      · right; exact ⟨v, hv, of_decide_eq_true hp, by rw [e]; exact h⟩
  have hn : ∀ w, w < 2 * l.length → nth ((List.range (2 * l.length)).map (early l B U F (2 * l.length))) (w : Int) = early l B U F (2 * l.length) w := fun w hw => by
    rw [nth_nat (by simpa using hw)]; simp
  refine ⟨pairsTo ((List.range (2 * l.length)).map (early l B U F (2 * l.length))) l.length, solP_pairs (solF_congr (fun w hw => (hn w hw).symm) hs), fun w hw => ?_⟩
  rw [at2_pairs _ hw, hn w hw]
  exact early_le hg _ w hw
/-! ### Played plans are right -/
variable {p : List Pr}
theorem SolP.wait (h : SolP l B U F p) {w v : Int} (hw0 : 0 ≤ w) (hw1 : w < 2 * (l.length : Int)) (hv0 : 0 ≤ v) (hv1 : v < 2 * (l.length : Int)) (hW : Waits B U F w v) : at2 p v + at2 l v ≤ at2 p w := by
  have e1 : ((w.toNat : Nat) : Int) = w := by omega
  have e2 : ((v.toNat : Nat) : Int) = v := by omega
  have := (h.2 w.toNat (by omega)).2.1 v.toNat (by omega)
  rw [e1, e2] at this
  exact this hW
theorem waits_next {n : Nat} (hO : Ord n B U F) {b : Int} (hb : b = 0 ∨ b = 1) {i : Int} (h0 : 0 ≤ i) (h1 : i + 1 < (n : Int)) :
    Waits B U F (2 * nth (row B U b) (i + 1) + b) (2 * nth (row B U b) i + b) := by
  obtain ⟨r1, r2, r3, r4⟩ := hO.row b
  have a := r3 i h0 (by omega)
  have c := r3 (i + 1) (by omega) h1
  unfold Waits
  rw [if_neg (by omega), show (2 * nth (row B U b) (i + 1) + b) / 2 = nth (row B U b) (i + 1) by omega, show (2 * nth (row B U b) i + b) / 2 = nth (row B U b) i by omega, show (2 * nth (row B U b) (i + 1) + b) % 2 = b by omega]
  omega
theorem SolP.chain (hj : Jobs l) (hO : Ord l.length B U F) (h : SolP l B U F p) {b : Int} (hb : b = 0 ∨ b = 1) : ∀ (d : Nat) (i : Int), 0 ≤ i → i + (d : Int) + 1 < (l.length : Int) →
    at2 p (2 * nth (row B U b) i + b) + at2 l (2 * nth (row B U b) i + b) ≤ at2 p (2 * nth (row B U b) (i + (d : Int) + 1) + b)
  | 0, i, h0, h1 => by
    obtain ⟨r1, r2, r3, r4⟩ := hO.row b
    have a := r2 i h0 (by omega)
    have c := r2 (i + 1) (by omega) (by omega)
    have hW := waits_next hO hb h0 (by omega : i + 1 < (l.length : Int))
    rw [show i + ((0 : Nat) : Int) + 1 = i + 1 by omega]
    exact h.wait (by omega) (by omega) (by omega) (by omega) hW
  | d + 1, i, h0, h1 => by
    obtain ⟨r1, r2, r3, r4⟩ := hO.row b
    have ih := SolP.chain hj hO h hb d i h0 (by omega)
    have a := r2 (i + (d : Int) + 1) (by omega) (by omega)
    have c := r2 (i + (d : Int) + 1 + 1) (by omega) (by omega)
    have hW := waits_next hO hb (i := i + (d : Int) + 1) (by omega) (by omega)
    have h2 := h.wait (by omega) (by omega) (by omega) (by omega) hW
    have hm := hj.at2 (w := 2 * nth (row B U b) (i + (d : Int) + 1) + b) (by omega) (by omega)
    rw [show i + ((d + 1 : Nat) : Int) + 1 = i + (d : Int) + 1 + 1 by omega]
    omega
/-- Two works at one bench, or of one job: one ends before the other one begins. -/
theorem SolP.apart (hj : Jobs l) (hO : Ord l.length B U F) (h : SolP l B U F p) {v w : Int} (hv0 : 0 ≤ v) (hv1 : v < 2 * (l.length : Int)) (hw0 : 0 ≤ w) (hw1 : w < 2 * (l.length : Int)) (hne : v ≠ w)
    (hb : v % 2 = w % 2 ∨ v / 2 = w / 2) : at2 p v + at2 l v ≤ at2 p w ∨ at2 p w + at2 l w ≤ at2 p v := by
  by_cases hpar : v % 2 = w % 2
  · obtain ⟨r1, r2, r3, r4⟩ := hO.row (w % 2)
    have a := r4 (v / 2) (by omega) (by omega)
    have c := r4 (w / 2) (by omega) (by omega)
    have pv := (place_hit a.1).1
    have pw := (place_hit c.1).1
    have hbb : w % 2 = 0 ∨ w % 2 = 1 := by omega
    rcases Int.lt_trichotomy (place (row B U (w % 2)) (v / 2)) (place (row B U (w % 2)) (w / 2)) with hlt | heq | hlt
    · left
      have := h.chain hj hO hbb (place (row B U (w % 2)) (w / 2) - place (row B U (w % 2)) (v / 2) - 1).toNat (place (row B U (w % 2)) (v / 2)) a.1 (by omega)
      rw [show place (row B U (w % 2)) (v / 2) + (((place (row B U (w % 2)) (w / 2) - place (row B U (w % 2)) (v / 2) - 1).toNat : Nat) : Int) + 1 = place (row B U (w % 2)) (w / 2) by omega, pv, pw,
        show 2 * (v / 2) + w % 2 = v by omega, show 2 * (w / 2) + w % 2 = w by omega] at this
      exact this
    · rw [heq, pw] at pv; omega
    · right
      have := h.chain hj hO hbb (place (row B U (w % 2)) (v / 2) - place (row B U (w % 2)) (w / 2) - 1).toNat (place (row B U (w % 2)) (w / 2)) c.1 (by omega)
      rw [show place (row B U (w % 2)) (w / 2) + (((place (row B U (w % 2)) (v / 2) - place (row B U (w % 2)) (w / 2) - 1).toNat : Nat) : Int) + 1 = place (row B U (w % 2)) (v / 2) by omega, pv, pw,
        show 2 * (v / 2) + w % 2 = v by omega, show 2 * (w / 2) + w % 2 = w by omega] at this
      exact this
  · have e : v / 2 = w / 2 := by omega
    have hf := hO.first (i := w / 2) (by omega) (by omega)
    by_cases hfw : nth F (w / 2) = w % 2
    · right
      exact h.wait hv0 hv1 hw0 hw1 ((waits_ne (by omega)).2 ⟨by omega, by rw [e]; exact hfw⟩)
    · left
      exact h.wait hw0 hw1 hv0 hv1 ((waits_ne (by omega)).2 ⟨by omega, by omega⟩)
theorem SolP.le (hj : Jobs l) (h : SolP l B U F p) : ∀ (k w : Nat), w < 2 * l.length → rank (fun w => at2 p (w : Int)) (2 * l.length) w < k → at2 p (w : Int) ≤ 500 * (k : Int)
  | k + 1, w, hw, hr => by
    rcases (h.2 w hw).2.2 with e | ⟨v, hv, hW, e⟩
    · omega
    · have hm := hj.at2 (w := (v : Int)) (by omega) (by omega)
      have h2 := rank_mono (s := fun w => at2 p (w : Int)) (n := 2 * l.length) hv (show at2 p (v : Int) < at2 p (w : Int) by omega)
      have := SolP.le hj h k v hv (by omega)
      omega
theorem SolP.bd (hj : Jobs l) (h : SolP l B U F p) {w : Nat} (hw : w < 2 * l.length) : 0 ≤ at2 p (w : Int) ∧ at2 p (w : Int) ≤ 8000 := by
  have h1 := h.le hj (2 * l.length) w hw (rank_lt hw)
  have := hj.2.1
  exact ⟨(h.2 w hw).1, by omega⟩
theorem allT_of {p : List Pr} {c : Int} (hc : c ≤ 100000) (h : ∀ w : Nat, w < 2 * p.length → 0 ≤ at2 p (w : Int) ∧ at2 p (w : Int) ≤ c) : AllT p := fun i hi => by
  have h0 := h (2 * i) (by omega)
  have h1 := h (2 * i + 1) (by omega)
  unfold S.at2 at h0 h1
  rw [if_pos (by omega), show ((2 * i : Nat) : Int) / 2 = (i : Int) by omega] at h0
  rw [if_neg (by omega), show ((2 * i + 1 : Nat) : Int) / 2 = (i : Int) by omega] at h1
  unfold okTime
  omega
theorem SolP.allT (hj : Jobs l) (h : SolP l B U F p) : AllT p := allT_of (c := 8000) (by omega) (fun w hw => h.bd hj (by have := h.1; omega))
theorem SolP.right (hj : Jobs l) (hO : Ord l.length B U F) (h : SolP l B U F p) : Right l p := fun v hv w hw hc => by
  unfold clash at hc
  have := h.apart hj hO (v := (v : Int)) (w := (w : Int)) (by omega) (by omega) (by omega) (by omega) (by omega) hc.1
  omega
theorem SolP.check (hj : Jobs l) (hO : Ord l.length B U F) (h : SolP l B U F p) : checkPlan l p = (endOf l p, 0) :=
  cp5 (checkJobs_iff.2 hj) (by have := h.1; omega) (h.allT hj) (h.right hj hO)
/-! ### No right plan ends before a bound -/
theorem perm_sum {a b : List Int} (h : a.Perm b) : a.sum = b.sum := by
  induction h with
  | nil => rfl
  | cons x _ ih => simp [ih]
  | swap x y l => simp only [List.sum_cons]; omega
  | trans _ _ h1 h2 => exact h1.trans h2
theorem disj_sum : ∀ (n : Nat) (xs : List (Int × Int)), xs.length = n → ∀ E : Int, 0 ≤ E → (∀ x ∈ xs, 0 ≤ x.1 ∧ 1 ≤ x.2 ∧ x.1 + x.2 ≤ E) → xs.Pairwise (fun x y => x.1 + x.2 ≤ y.1 ∨ y.1 + y.2 ≤ x.1) → (xs.map Prod.snd).sum ≤ E
  | 0, xs, hl, E, hE, _, _ => by
    have : xs = [] := List.eq_nil_of_length_eq_zero hl
    subst this; simpa using hE
  | n + 1, xs, hl, E, hE, hb, hp => by
    have hmax : ∀ (ys : List (Int × Int)), ys ≠ [] → ∃ x ∈ ys, ∀ y ∈ ys, y.1 ≤ x.1 := by
      intro ys
      induction ys with
      | nil => intro h; exact absurd rfl h
      | cons a ys ih =>
        intro _
        by_cases h : ys = []
        · subst h; exact ⟨a, by simp, fun y hy => by simp at hy; subst hy; exact Int.le_refl _⟩
        · obtain ⟨x, hx, hm⟩ := ih h
          by_cases hax : a.1 ≤ x.1
          · exact ⟨x, List.mem_cons_of_mem _ hx, fun y hy => by
              rcases List.mem_cons.1 hy with rfl | hy
              · exact hax
              · exact hm y hy⟩
          · exact ⟨a, List.mem_cons_self, fun y hy => by
              rcases List.mem_cons.1 hy with rfl | hy
              · exact Int.le_refl _
              · have := hm y hy; omega⟩
    obtain ⟨x, hx, hm⟩ := hmax xs (fun h => by subst h; cases hl)
    have hperm := List.perm_cons_erase hx
    have hp2 := (hperm.pairwise_iff (fun {a b} h => h.symm)).1 hp
    have hx1 := hb x hx
    rw [List.pairwise_cons] at hp2
    have ih := disj_sum n (xs.erase x) (by rw [List.length_erase_of_mem hx, hl]; rfl) x.1 hx1.1 (fun y hy => by
      have hy2 := List.mem_of_mem_erase hy
      have h1 := hb y hy2
      have h2 := hm y hy2
      have h3 := hp2.1 y hy
      refine ⟨h1.1, h1.2.1, by omega⟩) hp2.2
    rw [perm_sum (hperm.map Prod.snd)]
    simp only [List.map_cons, List.sum_cons]
    omega
/-- The works at a bench, of the first k jobs. -/
def benchTo (l p : List Pr) (b : Int) (k : Nat) : List (Int × Int) := (List.range k).map fun i : Nat => (at2 p (2 * (i : Int) + b), at2 l (2 * (i : Int) + b))
theorem benchTo_sum {l p : List Pr} {b : Int} : ∀ k : Nat, ((benchTo l p b k).map Prod.snd).sum = sumTo l b k
  | 0 => rfl
  | k + 1 => by
    have ih := benchTo_sum (l := l) (p := p) (b := b) k
    unfold benchTo at *
    rw [List.range_succ, List.map_append, List.map_append, List.sum_append, ih]
    simp [sumTo]
theorem lastTo_ge {l p : List Pr} {b : Int} : ∀ k i : Nat, i < k → at2 p (2 * (i : Int) + b) + at2 l (2 * (i : Int) + b) ≤ lastTo l p b k
  | k + 1, i, hi => by
    rw [lastTo]
    rcases Nat.lt_or_eq_of_le (Nat.le_of_lt_succ hi) with h | rfl
    · have := lastTo_ge (l := l) (p := p) (b := b) k i h; omega
    · omega
theorem endTo_ge {l p : List Pr} : ∀ k i : Nat, i < k → at2 p (i : Int) + at2 l (i : Int) ≤ endTo l p k
  | k + 1, i, hi => by
    rw [endTo]
    rcases Nat.lt_or_eq_of_le (Nat.le_of_lt_succ hi) with h | rfl
    · have := endTo_ge (l := l) (p := p) k i h; omega
    · omega
theorem endTo_le {l p : List Pr} {c : Int} (hc : 0 ≤ c) : ∀ k : Nat, (∀ i, i < k → at2 p ((i : Nat) : Int) + at2 l (i : Int) ≤ c) → endTo l p k ≤ c
  | 0, _ => hc
  | k + 1, h => by
    rw [endTo]
    have := endTo_le hc k (fun i hi => h i (by omega))
    have := h k (by omega)
    omega
theorem lastTo_le {l p : List Pr} {b c : Int} (hc : 0 ≤ c) : ∀ k : Nat, (∀ i, i < k → at2 p (2 * ((i : Nat) : Int) + b) + at2 l (2 * (i : Int) + b) ≤ c) → lastTo l p b k ≤ c
  | 0, _ => hc
  | k + 1, h => by
    rw [lastTo]
    have := lastTo_le (l := l) (p := p) (b := b) hc k (fun i hi => h i (by omega))
    have := h k (by omega)
    omega
theorem last_le_end {l p : List Pr} {b : Int} (hb : b = 0 ∨ b = 1) (hE : 0 ≤ endOf l p) : lastOf l p b ≤ endOf l p := by
  refine lastTo_le hE _ fun i hi => ?_
  have := endTo_ge (l := l) (p := p) (2 * l.length) (2 * i + b.toNat) (by omega)
  rwa [show ((2 * i + b.toNat : Nat) : Int) = 2 * (i : Int) + b by omega] at this
theorem end_nonneg {l p : List Pr} : ∀ k, 0 ≤ endTo l p k
  | 0 => Int.le_refl _
  | k + 1 => by have := end_nonneg (l := l) (p := p) k; rw [endTo]; omega
theorem sum_le_last {l p : List Pr} (hj : Jobs l) (hT : AllT p) (hl : p.length = l.length) (hR : Right l p) {b : Int} (hb : b = 0 ∨ b = 1) : sumOf l b ≤ lastOf l p b := by
  have h := disj_sum _ (benchTo l p b l.length) rfl (lastOf l p b) (by have := hj.1; have h1 := lastTo_ge (l := l) (p := p) (b := b) l.length 0 (by omega); have h2 := hT.at2 (w := 2 * ((0 : Nat) : Int) + b) (by omega) (by omega); have h3 := hj.at2 (w := 2 * ((0 : Nat) : Int) + b) (by omega) (by omega); unfold lastOf; omega)
    (fun x hx => by
      unfold benchTo at hx
      rw [List.mem_map] at hx
      obtain ⟨i, hi, rfl⟩ := hx
      rw [List.mem_range] at hi
      have h1 := lastTo_ge (l := l) (p := p) (b := b) l.length i hi
      have h2 := hT.at2 (w := 2 * (i : Int) + b) (by omega) (by omega)
      have h3 := hj.at2 (w := 2 * (i : Int) + b) (by omega) (by omega)
      exact ⟨h2.1, h3.1, h1⟩)
    (by
      unfold benchTo
      rw [List.pairwise_map]
      refine List.Pairwise.imp_of_mem (R := fun a b => a < b) ?_ List.pairwise_lt_range
      intro i k hi hk hik
      rw [List.mem_range] at hi hk
      have := hR (2 * k + b.toNat) (by omega) (2 * i + b.toNat) (by omega)
      rw [show ((2 * k + b.toNat : Nat) : Int) = 2 * (k : Int) + b by omega, show ((2 * i + b.toNat : Nat) : Int) = 2 * (i : Int) + b by omega] at this
      unfold clash at this
      simp only
      omega)
  rw [benchTo_sum] at h
  exact h
theorem bound_le_end {l p : List Pr} (hj : Jobs l) (hT : AllT p) (hl : p.length = l.length) (hR : Right l p) {k i : Int} (hk : 0 ≤ k) (hk2 : k ≤ 2) (hi : 0 ≤ i) (hi2 : i < (l.length : Int)) : boundOf l k i ≤ endOf l p := by
  unfold boundOf
  split
  · have h1 := hR (2 * i.toNat + 1) (by omega) (2 * i.toNat) (by omega)
    have h2 := endTo_ge (l := l) (p := p) (2 * l.length) (2 * i.toNat) (by omega)
    have h3 := endTo_ge (l := l) (p := p) (2 * l.length) (2 * i.toNat + 1) (by omega)
    have t1 := hT.at2 (w := ((2 * i.toNat : Nat) : Int)) (by omega) (by omega)
    have t2 := hT.at2 (w := ((2 * i.toNat + 1 : Nat) : Int)) (by omega) (by omega)
    have m1 : at2 l ((2 * i.toNat : Nat) : Int) = (nth l i).1 := by unfold at2; rw [if_pos (by omega)]; congr 2; omega
    have m2 : at2 l ((2 * i.toNat + 1 : Nat) : Int) = (nth l i).2 := by unfold at2; rw [if_neg (by omega)]; congr 2; omega
    unfold clash at h1
    unfold endOf
    omega
  · have h1 := sum_le_last hj hT hl hR (b := k) (by omega)
    have h2 := last_le_end (l := l) (p := p) (b := k) (by omega) (end_nonneg _)
    omega
theorem shortest_le_end {l p : List Pr} (hj : Jobs l) (hT : AllT p) (hl : p.length = l.length) (hR : Right l p) : shortestOf l ≤ endOf l p := by
  have h := (tightest_spec (l := l)).2 hj
  rw [← h.2.1]
  exact bound_le_end hj hT hl hR (by omega) (by omega) (by omega) (by omega)
theorem bound_le_shortest {l : List Pr} (hj : Jobs l) {k i : Int} (hk : 0 ≤ k) (hk2 : k ≤ 2) (hi : 0 ≤ i) (hi2 : i < (l.length : Int)) : boundOf l k i ≤ shortestOf l := by
  have h := shortTo_ge l l.length
  unfold boundOf
  split
  · have := h.2.2 i.toNat (by omega)
    unfold alone at this
    rw [show ((i.toNat : Nat) : Int) = i by omega] at this
    exact this
  · rcases (by omega : k = 0 ∨ k = 1) with rfl | rfl
    · exact h.1
    · exact h.2.1
end
end Go.Fip.S
