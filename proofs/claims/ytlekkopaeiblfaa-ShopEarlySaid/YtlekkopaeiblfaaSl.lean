/- The order of a right plan: works as they begin. -/
import Derived.Test.YtlekkopaeiblfaaSx
set_option linter.unusedVariables false
set_option linter.unusedSimpArgs false
set_option linter.unusedSectionVars false
set_option linter.unnecessarySimpa false
namespace Go.Fip.S
/-- The element at k goes forward, as long as it comes before that ahead of it. -/
def putTo (f : Int → Int) : Nat → List Int → List Int
  | 0, L => L
  | k + 1, L => if f (nth L ((k + 1 : Nat) : Int)) < f (nth L (k : Int)) then putTo f k ((L.set (k + 1) (nth L (k : Int))).set k (nth L ((k + 1 : Nat) : Int))) else L
def putF (f : Int → Int) (row : List Int) (x : Int) : List Int := putTo f row.length (row ++ [x])
def rowOf (f : Int → Int) : Nat → List Int
  | 0 => []
  | k + 1 => putF f (rowOf f k) (k : Int)
theorem putTo_step {f : Int → Int} {k : Nat} {L : List Int} (h : 0 < k) (hlt : f (nth L (k : Int)) < f (nth L ((k : Int) - 1))) :
    putTo f (k - 1) ((L.set (k : Int).toNat (nth L ((k : Int) - 1))).set ((k : Int) - 1).toNat (nth L (k : Int))) = putTo f k L := by
  obtain ⟨m, rfl⟩ : ∃ m, k = m + 1 := ⟨k - 1, by omega⟩
  have e : ((m + 1 : Nat) : Int) - 1 = (m : Int) := by omega
  rw [e] at hlt ⊢
  rw [putTo, if_pos hlt]
  rfl
theorem putTo_stop {f : Int → Int} {k : Nat} {L : List Int} (h : ¬ 0 < k ∨ ¬ f (nth L (k : Int)) < f (nth L ((k : Int) - 1))) : putTo f k L = L := by
  cases k with
  | zero => rfl
  | succ m =>
    rcases h with h | h
    · omega
    · have e : ((m + 1 : Nat) : Int) - 1 = (m : Int) := by omega
      rw [e] at h
      rw [putTo, if_neg h]
section
variable {f : Int → Int}
theorem nth_swap {L : List Int} {k : Nat} (h : k + 1 < L.length) (i : Nat) : nth ((L.set (k + 1) (nth L (k : Int))).set k (nth L ((k + 1 : Nat) : Int))) (i : Int) = if i = k then nth L ((k + 1 : Nat) : Int) else if i = k + 1 then nth L (k : Int) else nth L (i : Int) := by
  by_cases h1 : i = k
  · subst h1; rw [if_pos rfl, nth_set_same (by rw [List.length_set]; omega)]
  · rw [if_neg h1, nth_set_ne (fun e => h1 e.symm)]
    by_cases h2 : i = k + 1
    · subst h2; rw [if_pos rfl, nth_set_same h]
    · rw [if_neg h2, nth_set_ne (fun e => h2 e.symm)]
theorem swap_mem {L : List Int} {k : Nat} (h : k + 1 < L.length) {x : Int} (hx : x ∈ L) : x ∈ (L.set (k + 1) (nth L (k : Int))).set k (nth L ((k + 1 : Nat) : Int)) := by
  obtain ⟨j, hj, rfl⟩ := List.getElem_of_mem hx
  rw [← nth_nat hj]
  have key := nth_swap h
  have hlen : ((L.set (k + 1) (nth L (k : Int))).set k (nth L ((k + 1 : Nat) : Int))).length = L.length := by simp only [List.length_set]
  by_cases h1 : j = k
  · have e := key (k + 1)
    rw [if_neg (by omega), if_pos rfl] at e
    have h5 := nth_mem (l := (L.set (k + 1) (nth L (k : Int))).set k (nth L ((k + 1 : Nat) : Int))) (i := k + 1) (by omega)
    rw [e] at h5
    rw [h1]; exact h5
  · by_cases h2 : j = k + 1
    · have e := key k
      rw [if_pos rfl] at e
      have h5 := nth_mem (l := (L.set (k + 1) (nth L (k : Int))).set k (nth L ((k + 1 : Nat) : Int))) (i := k) (by omega)
      rw [e] at h5
      rw [h2]; exact h5
    · have e := key j
      rw [if_neg h1, if_neg h2] at e
      have h5 := nth_mem (l := (L.set (k + 1) (nth L (k : Int))).set k (nth L ((k + 1 : Nat) : Int))) (i := j) (by omega)
      rw [e] at h5
      exact h5
theorem putTo_length : ∀ k L, (putTo f k L).length = L.length
  | 0, L => rfl
  | k + 1, L => by
    rw [putTo]
    split
    · rw [putTo_length k]; simp
    · rfl
theorem putTo_mem : ∀ k L, k < L.length → ∀ x ∈ L, x ∈ putTo f k L
  | 0, L, _, x, hx => hx
  | k + 1, L, hk, x, hx => by
    rw [putTo]
    split
    · exact putTo_mem k _ (by simp; omega) x (swap_mem hk hx)
    · exact hx
def Sorted (f : Int → Int) (L : List Int) : Prop := ∀ i j : Nat, i < j → j < L.length → f (nth L (i : Int)) ≤ f (nth L (j : Int))
/-- Sorted but for the element at k, which comes before all behind it. -/
def But (f : Int → Int) (L : List Int) (k : Nat) : Prop := (∀ i j : Nat, i < j → j < L.length → i ≠ k → j ≠ k → f (nth L (i : Int)) ≤ f (nth L (j : Int))) ∧ ∀ j : Nat, k < j → j < L.length → f (nth L (k : Int)) < f (nth L (j : Int))
theorem putTo_sorted : ∀ k L, k < L.length → But f L k → Sorted f (putTo f k L)
  | 0, L, hk, h => fun i j hij hj => by
    by_cases h0 : i = 0
    · subst h0; exact Int.le_of_lt (h.2 j hij hj)
    · exact h.1 i j hij hj h0 (by omega)
  | k + 1, L, hk, h => by
    rw [putTo]
    split
    · rename_i hlt
      have key := nth_swap hk
      refine putTo_sorted k _ (by simp; omega) ⟨fun i j hij hj hi hjk => ?_, fun j hkj hj => ?_⟩
      · simp only [List.length_set] at hj
        rw [key i, key j, if_neg hi, if_neg hjk]
        by_cases h1 : i = k + 1
        · rw [if_pos h1, if_neg (by omega)]; exact h.1 k j (by omega) hj (by omega) (by omega)
        · rw [if_neg h1]
          by_cases h2 : j = k + 1
          · rw [if_pos h2]; exact h.1 i k (by omega) (by omega) h1 (by omega)
          · rw [if_neg h2]; exact h.1 i j hij hj h1 h2
      · simp only [List.length_set] at hj
        rw [key k, key j, if_pos rfl, if_neg (by omega)]
        by_cases h2 : j = k + 1
        · rw [if_pos h2]; exact hlt
        · rw [if_neg h2]; exact h.2 j (by omega) hj
    · rename_i hnlt
      intro i j hij hj
      by_cases h1 : i = k + 1
      · subst h1; exact Int.le_of_lt (h.2 j hij hj)
      · by_cases h2 : j = k + 1
        · subst h2
          by_cases h3 : i = k
          · subst h3; omega
          · have := h.1 i k (by omega) (by omega) h1 (by omega); omega
        · exact h.1 i j hij hj h1 h2
theorem rowOf_ok : ∀ k, (rowOf f k).length = k ∧ Sorted f (rowOf f k) ∧ ∀ i, i < k → ((i : Nat) : Int) ∈ rowOf f k
  | 0 => ⟨rfl, fun i j _ hj => by simp [rowOf] at hj, fun i hi => absurd hi (Nat.not_lt_zero _)⟩
  | k + 1 => by
    obtain ⟨h1, h2, h3⟩ := rowOf_ok k
    have hl : (rowOf f k ++ [(k : Int)]).length = k + 1 := by simp [h1]
    refine ⟨by rw [rowOf, putF, putTo_length, hl], ?_, fun i hi => ?_⟩
    · rw [rowOf, putF]
      refine putTo_sorted _ _ (by rw [hl, h1]; omega) ⟨fun i j hij hj hi hjk => ?_, fun j hkj hj => ?_⟩
      · rw [h1] at hi hjk
        rw [hl] at hj
        rw [nth_append_l (by omega) (by omega), nth_append_l (by omega) (by omega)]
        exact h2 i j hij (by omega)
      · rw [hl] at hj; rw [h1] at hkj; omega
    · rw [rowOf, putF]
      refine putTo_mem _ _ (by rw [hl, h1]; omega) _ ?_
      rw [List.mem_append, List.mem_singleton]
      rcases Nat.lt_or_eq_of_le (Nat.le_of_lt_succ hi) with h | rfl
      · exact .inl (h3 i h)
      · exact .inr rfl
end
/-- The row of a bench, and where jobs come first, in the order of a plan. -/
def rowB (p : List Pr) (b : Int) (k : Nat) : List Int := rowOf (fun j => at2 p (2 * j + b)) k
def firstsOf (p : List Pr) : Nat → List Int
  | 0 => []
  | k + 1 => firstsOf p k ++ [if (nth p (k : Int)).2 < (nth p (k : Int)).1 then 1 else 0]
theorem firstsOf_length (p : List Pr) : ∀ k, (firstsOf p k).length = k
  | 0 => rfl
  | k + 1 => by rw [firstsOf, List.length_append, firstsOf_length p k]; rfl
theorem firstsOf_nth (p : List Pr) : ∀ k i : Nat, i < k → nth (firstsOf p k) (i : Int) = if (nth p (i : Int)).2 < (nth p (i : Int)).1 then 1 else 0
  | k + 1, i, h => by
    rw [firstsOf]
    rcases Nat.lt_or_eq_of_le (Nat.le_of_lt_succ h) with h1 | rfl
    · rw [nth_append_l (by omega) (by rw [firstsOf_length]; omega), firstsOf_nth p k i h1]
    · rw [nth_snoc (by rw [firstsOf_length])]
section
variable {l p g : List Pr}
theorem ordOf_ok (p : List Pr) (n : Nat) : Ord n (rowB p 0 n) (rowB p 1 n) (firstsOf p n) :=
  ord_of_mem (rowOf_ok n).1 (rowOf_ok n).1 (firstsOf_length p n) (rowOf_ok n).2.2 (rowOf_ok n).2.2 (fun i hi => by rw [firstsOf_nth p n i hi]; split <;> omega)
theorem row_ordOf {n : Nat} {b : Int} (hb : b = 0 ∨ b = 1) : row (rowB p 0 n) (rowB p 1 n) b = rowB p b n := by
  unfold row
  rcases hb with rfl | rfl
  · rw [if_neg (by omega)]
  · rw [if_pos rfl]
theorem at2_even {p : List Pr} {w : Int} (h : w % 2 = 0) : at2 p w = (nth p (w / 2)).1 := by unfold at2; rw [if_pos h]
theorem at2_odd {p : List Pr} {w : Int} (h : ¬ w % 2 = 0) : at2 p w = (nth p (w / 2)).2 := by unfold at2; rw [if_neg h]
/-- In a right plan works of one job, or at one bench, of which one begins no later, do not overlap. -/
theorem right_le (hj : Jobs l) (hR : Right l g) {v w : Nat} (hv : v < 2 * l.length) (hw : w < 2 * l.length) (hne : v ≠ w) (hb : (v : Int) % 2 = (w : Int) % 2 ∨ (v : Int) / 2 = (w : Int) / 2) (hle : at2 g (v : Int) ≤ at2 g (w : Int)) : at2 g (v : Int) + at2 l (v : Int) ≤ at2 g (w : Int) := by
  have m1 := hj.at2 (w := (v : Int)) (by omega) (by omega)
  have m2 := hj.at2 (w := (w : Int)) (by omega) (by omega)
  rcases Nat.lt_or_gt_of_ne hne with h | h
  · have := hR w hw v h
    unfold clash at this
    omega
  · have := hR v hv w h
    unfold clash at this
    omega
/-- Which works come first at a bench of the order of a plan. -/
theorem place_le {n : Nat} {b : Int} (hb : b = 0 ∨ b = 1) {x y : Int} (hx : 0 ≤ x ∧ x < (n : Int)) (hy : 0 ≤ y ∧ y < (n : Int)) (h : place (rowB p b n) x < place (rowB p b n) y) : at2 p (2 * x + b) ≤ at2 p (2 * y + b) := by
  obtain ⟨r1, r2, r3, r4⟩ := (ordOf_ok p n).row b
  rw [row_ordOf hb] at r1 r2 r3 r4
  have px := r4 x hx.1 hx.2
  have py := r4 y hy.1 hy.2
  have ex := (place_hit px.1).1
  have ey := (place_hit py.1).1
  have hs := (rowOf_ok (f := fun j => at2 p (2 * j + b)) n).2.1 (place (rowB p b n) x).toNat (place (rowB p b n) y).toNat (by omega) (by show _ < (rowB p b n).length; omega)
  have e1 : (((place (rowB p b n) x).toNat : Nat) : Int) = place (rowB p b n) x := by omega
  have e2 : (((place (rowB p b n) y).toNat : Nat) : Int) = place (rowB p b n) y := by omega
  have ex2 : nth (rowOf (fun j => at2 p (2 * j + b)) n) (place (rowB p b n) x) = x := ex
  have ey2 : nth (rowOf (fun j => at2 p (2 * j + b)) n) (place (rowB p b n) y) = y := ey
  rw [e1, e2, ex2, ey2] at hs
  exact hs
/-- A right plan respects its order. -/
theorem feas_ordOf (hj : Jobs l) (hT : AllT g) (hl : g.length = l.length) (hR : Right l g) : Feas l (rowB g 0 l.length) (rowB g 1 l.length) (firstsOf g l.length) (fun w => at2 g (w : Int)) := fun w hw => by
  refine ⟨(hT.at2 (by omega) (by omega)).1, fun v hv hW => ?_⟩
  by_cases hpar : (w : Int) % 2 = (v : Int) % 2
  · have hbb : (w : Int) % 2 = 0 ∨ (w : Int) % 2 = 1 := by omega
    unfold Waits at hW
    rw [if_neg (fun h => h hpar), row_ordOf hbb] at hW
    have hle := place_le (p := g) (n := l.length) hbb (x := (v : Int) / 2) (y := (w : Int) / 2) (by omega) (by omega) (by omega)
    rw [show 2 * ((v : Int) / 2) + (w : Int) % 2 = (v : Int) by omega, show 2 * ((w : Int) / 2) + (w : Int) % 2 = (w : Int) by omega] at hle
    refine right_le hj hR hv hw (fun e => ?_) (.inl hpar.symm) hle
    subst e; omega
  · unfold Waits at hW
    rw [if_pos hpar] at hW
    have hn := firstsOf_nth g l.length (w / 2) (by omega)
    rw [show ((w / 2 : Nat) : Int) = (w : Int) / 2 by omega, hW.2] at hn
    refine right_le hj hR hv hw (fun e => by subst e; omega) (.inr hW.1.symm) ?_
    by_cases h0 : (v : Int) % 2 = 0
    · rw [at2_even h0, at2_odd (show ¬ (w : Int) % 2 = 0 by omega), ← hW.1]
      split at hn <;> omega
    · rw [at2_odd h0, at2_even (show (w : Int) % 2 = 0 by omega), ← hW.1]
      split at hn <;> omega
/-- A right plan has an order: played, no work begins later. -/
theorem early_ok (hj : Jobs l) (hT : AllT g) (hl : g.length = l.length) (hR : Right l g) : ∃ p, SolP l (rowB g 0 l.length) (rowB g 1 l.length) (firstsOf g l.length) p ∧ ∀ w, w < 2 * l.length → at2 p ((w : Nat) : Int) ≤ at2 g (w : Int) :=
  sol_of_feas hj (feas_ordOf hj hT hl hR)
/-- Played once more it is the same. -/
theorem again_ok {B U F : List Int} (hj : Jobs l) (hO : Ord l.length B U F) (hs : SolP l B U F p) : SolP l (rowB p 0 l.length) (rowB p 1 l.length) (firstsOf p l.length) p := by
  have hR := hs.right hj hO
  have hf := feas_ordOf hj (hs.allT hj) hs.1 hR
  refine ⟨hs.1, fun w hw => ⟨(hf w hw).1, (hf w hw).2, ?_⟩⟩
  rcases (hs.2 w hw).2.2 with h0 | ⟨v, hv, hW, he⟩
  · exact .inl h0
  · right
    refine ⟨v, hv, ?_, he⟩
    have mv := hj.at2 (w := (v : Int)) (by omega) (by omega)
    by_cases hpar : (w : Int) % 2 = (v : Int) % 2
    · have hbb : (w : Int) % 2 = 0 ∨ (w : Int) % 2 = 1 := by omega
      unfold Waits
      rw [if_neg (fun h => h hpar), row_ordOf hbb]
      obtain ⟨r1, r2, r3, r4⟩ := (ordOf_ok p l.length).row ((w : Int) % 2)
      rw [row_ordOf hbb] at r1 r2 r3 r4
      have pv := r4 ((v : Int) / 2) (by omega) (by omega)
      have pw := r4 ((w : Int) / 2) (by omega) (by omega)
      have ev : 2 * ((v : Int) / 2) + (w : Int) % 2 = (v : Int) := by omega
      have ew : 2 * ((w : Int) / 2) + (w : Int) % 2 = (w : Int) := by omega
      have hvw : place (rowB p ((w : Int) % 2) l.length) ((v : Int) / 2) < place (rowB p ((w : Int) % 2) l.length) ((w : Int) / 2) := by
        rcases Int.lt_trichotomy (place (rowB p ((w : Int) % 2) l.length) ((v : Int) / 2)) (place (rowB p ((w : Int) % 2) l.length) ((w : Int) / 2)) with h | h | h
        · exact h
        · have h1 := (place_hit pv.1).1
          rw [h, (place_hit pw.1).1] at h1
          have e : (v : Int) = (w : Int) := by omega
          rw [e] at he mv; omega
        · have := place_le (p := p) (n := l.length) hbb (x := (w : Int) / 2) (y := (v : Int) / 2) (by omega) (by omega) h
          rw [ev, ew] at this
          omega
      rcases Int.lt_or_eq_of_le (show place (rowB p ((w : Int) % 2) l.length) ((v : Int) / 2) + 1 ≤ place (rowB p ((w : Int) % 2) l.length) ((w : Int) / 2) by omega) with h | h
      · exfalso
        have hu := r2 (place (rowB p ((w : Int) % 2) l.length) ((v : Int) / 2) + 1) (by omega) (by omega)
        have pu := r3 (place (rowB p ((w : Int) % 2) l.length) ((v : Int) / 2) + 1) (by omega) (by omega)
        have a1 := place_le (p := p) (n := l.length) hbb (x := (v : Int) / 2) (y := nth (rowB p ((w : Int) % 2) l.length) (place (rowB p ((w : Int) % 2) l.length) ((v : Int) / 2) + 1)) (by omega) hu (by omega)
        have a2 := place_le (p := p) (n := l.length) hbb (y := (w : Int) / 2) (x := nth (rowB p ((w : Int) % 2) l.length) (place (rowB p ((w : Int) % 2) l.length) ((v : Int) / 2) + 1)) hu (by omega) (by omega)
        rw [ev] at a1
        rw [ew] at a2
        generalize hq : nth (rowB p ((w : Int) % 2) l.length) (place (rowB p ((w : Int) % 2) l.length) ((v : Int) / 2) + 1) = q at *
        have eu : (((2 * q + (w : Int) % 2).toNat : Nat) : Int) = 2 * q + (w : Int) % 2 := by omega
        have n1 : v ≠ (2 * q + (w : Int) % 2).toNat := fun e => by
          have : (v : Int) / 2 = q := by omega
          rw [this] at pu; omega
        have n2 : (2 * q + (w : Int) % 2).toNat ≠ w := fun e => by
          have : (w : Int) / 2 = q := by omega
          rw [← this] at pu; omega
        have b1 := right_le hj hR hv (w := (2 * q + (w : Int) % 2).toNat) (by omega) n1 (.inl (by omega)) (by rw [eu]; exact a1)
        have b2 := right_le hj hR (v := (2 * q + (w : Int) % 2).toNat) (by omega) hw n2 (.inl (by omega)) (by rw [eu]; exact a2)
        have mu := hj.at2 (w := 2 * q + (w : Int) % 2) (by omega) (by omega)
        rw [eu] at b1 b2
        omega
      · exact h.symm
    · unfold Waits at hW ⊢
      rw [if_pos hpar] at hW ⊢
      refine ⟨hW.1, ?_⟩
      have hn := firstsOf_nth p l.length (w / 2) (by omega)
      rw [show ((w / 2 : Nat) : Int) = (w : Int) / 2 by omega] at hn
      rw [hn]
      by_cases h0 : (v : Int) % 2 = 0
      · rw [at2_even h0, at2_odd (show ¬ (w : Int) % 2 = 0 by omega), ← hW.1] at he
        rw [if_neg (by omega)]; omega
      · rw [at2_odd h0, at2_even (show (w : Int) % 2 = 0 by omega), ← hW.1] at he
        rw [if_pos (by omega)]; omega
end
end Go.Fip.S
