/- Turned round, in place; circles. -/
import Derived.Test.YtlekkopaeiblfaaSq
set_option linter.unusedVariables false
set_option linter.unusedSimpArgs false
set_option linter.unusedSectionVars false
set_option linter.unnecessarySimpa false
namespace Go.Fip
/-- i pairs have been exchanged. -/
def RevAt (D M : List Int) (i : Nat) : Prop := M.length = D.length ∧ ∀ p, p < D.length → nth M (p : Int) = if p < i ∨ D.length - 1 - p < i then nth D ((D.length - 1 - p : Nat) : Int) else nth D (p : Int)
theorem RevAt.start (D : List Int) : RevAt D D 0 := ⟨rfl, fun p _ => by rw [if_neg (by omega)]⟩
theorem RevAt.step {D M : List Int} {i : Nat} (h : RevAt D M i) (hi : i < D.length - 1 - i) : RevAt D ((M.set i (nth M ((D.length - 1 - i : Nat) : Int))).set (D.length - 1 - i) (nth M (i : Int))) (i + 1) := by
  obtain ⟨h1, h2⟩ := h
  refine ⟨by simpa using h1, fun p hp => ?_⟩
  by_cases e1 : p = D.length - 1 - i
  · subst e1
    rw [nth_set_same (by simp; omega), h2 i (by omega), if_neg (by omega), if_pos (by omega)]
    congr 1; omega
  · rw [nth_set_ne (fun e => e1 e.symm)]
    by_cases e2 : p = i
    · subst e2
      rw [nth_set_same (by omega), h2 _ (by omega), if_neg (by omega), if_pos (by omega)]
    · rw [nth_set_ne (fun e => e2 e.symm), h2 p hp]
      by_cases e3 : p < i ∨ D.length - 1 - p < i
      · rw [if_pos e3, if_pos (by omega)]
      · rw [if_neg e3, if_neg (by omega)]
theorem RevAt.done {D M : List Int} {i : Nat} (h : RevAt D M i) (hi : ¬ i < D.length - 1 - i) : M = D.reverse := by
  obtain ⟨h1, h2⟩ := h
  refine List.ext_getElem (by simpa using h1) fun p hp hp2 => ?_
  have hp' : p < D.length := by omega
  have := h2 p hp'
  rw [nth_nat hp] at this
  rw [this, List.getElem_reverse, ← nth_nat (by omega)]
  split
  · rfl
  · congr 1; omega
theorem set_drop {L : List Int} {off : Nat} {i : Int} {a : Int} (hi : 0 ≤ i) : (L.set ((off : Int) + i).toNat a).drop off = (L.drop off).set i.toNat a := by
  rw [List.drop_set, if_neg (by omega)]
  congr 1; omega
end Go.Fip
namespace Go.Fip
theorem rev_set {D L : List Int} {off i : Nat} {j : Int} (hj0 : 0 ≤ j) (hj : j = ((D.length - 1 - i : Nat) : Int)) (h : RevAt D (((L.drop off).set i (nth (L.drop off) ((D.length - 1 - i : Nat) : Int))).set (D.length - 1 - i) (nth (L.drop off) (i : Int))) (i + 1)) :
    RevAt D (((L.set ((off : Int) + (i : Int)).toNat (nth (L.drop off) j)).set ((off : Int) + j).toNat (nth (L.drop off) (i : Int))).drop off) (i + 1) := by
  rw [set_drop hj0, set_drop (Int.natCast_nonneg i)]
  subst hj
  exact h
end Go.Fip
namespace Go.Fip.S
section
variable {l : List Pr} {B T F : List Int} {E : Mm}
/-- The walk back: Q is what has been passed, x where it stands. -/
structure Walk (l : List Pr) (B T F : List Int) (E : Mm) (Q : List Int) (x : Int) : Prop where
  inn : ∀ y ∈ Q, 0 ≤ y ∧ y < 2 * (l.length : Int)
  nd : Q.Nodup
  at0 : 0 ≤ x
  at1 : x < 2 * (l.length : Int)
  no : find x E = none
  lnk : ∀ i, i + 1 < Q.length → Waits B T F (nth Q (i : Int)) (nth Q ((i + 1 : Nat) : Int))
  last : 0 < Q.length → Waits B T F (nth Q ((Q.length - 1 : Nat) : Int)) x
theorem Walk.len {Q : List Int} {x : Int} (h : Walk l B T F E Q x) : Q.length ≤ 2 * l.length :=
  nodup_len (2 * l.length) Q h.nd (fun y hy => by have := h.inn y hy; omega)
theorem Walk.push {Q : List Int} {x y : Int} (h : Walk l B T F E Q x) (hx : place Q x < 0) (hy0 : 0 ≤ y) (hy1 : y < 2 * (l.length : Int)) (hyn : find y E = none) (hW : Waits B T F x y) : Walk l B T F E (Q ++ [x]) y where
  inn := fun z hz => by
    rcases List.mem_append.1 hz with hz | hz
    · exact h.inn z hz
    · rw [List.mem_singleton] at hz; subst hz; exact ⟨h.at0, h.at1⟩
  nd := by
    rw [List.nodup_append]
    refine ⟨h.nd, by simp, fun a ha b hb => ?_⟩
    rw [List.mem_singleton] at hb
    subst hb
    intro e
    subst e
    have := place_iff.2 ha
    omega
  at0 := hy0
  at1 := hy1
  no := hyn
  lnk := fun i hi => by
    rw [List.length_append, List.length_singleton] at hi
    by_cases e : i + 1 < Q.length
    · rw [nth_append_l (by omega) (by omega), nth_append_l (by omega) (by omega)]; exact h.lnk i e
    · have e2 : i = Q.length - 1 := by omega
      rw [nth_append_l (by omega) (by omega), nth_snoc (by omega), e2]
      exact h.last (by omega)
  last := fun _ => by
    rw [nth_snoc (by rw [List.length_append, List.length_singleton]; omega)]
    exact hW
theorem waits_irrefl {x : Int} : ¬ Waits B T F x x := fun h => by
  unfold Waits at h
  rw [if_neg (by simp)] at h
  omega
/-- Come round: what was passed since, turned, is a circle. -/
theorem Walk.circle {Q : List Int} {x : Int} (h : Walk l B T F E Q x) {k : Nat} (hk : place Q x = (k : Int)) :
    2 ≤ (Q.drop k).reverse.length ∧ (Q.drop k).reverse.length ≤ 2 * l.length ∧ InC l.length (Q.drop k).reverse ∧ Circ B T F (Q.drop k).reverse := by
  obtain ⟨hx, hlt⟩ := place_hit (l := Q) (x := x) (by omega)
  rw [hk] at hx hlt
  have hlen : (Q.drop k).length = Q.length - k := List.length_drop
  have hlast := h.last (by omega)
  have h2 : k + 1 < Q.length := by
    rcases Nat.lt_or_ge (k + 1) Q.length with h3 | h3
    · exact h3
    · exfalso
      have e : Q.length - 1 = k := by omega
      rw [e, hx] at hlast
      exact waits_irrefl hlast
  have hd : ∀ i, i < Q.length - k → nth (Q.drop k).reverse (i : Int) = nth Q ((Q.length - 1 - i : Nat) : Int) := fun i hi => by
    rw [nth_nat (by rw [List.length_reverse, hlen]; exact hi), List.getElem_reverse, List.getElem_drop, nth_nat (by omega)]
    congr 1
    omega
  have hrl : (Q.drop k).reverse.length = Q.length - k := by rw [List.length_reverse, hlen]
  refine ⟨by omega, by have := h.len; omega, fun i hi => ?_, fun i hi => ?_⟩
  · rw [nth_nat hi]
    have hm := List.getElem_mem hi
    rw [List.mem_reverse] at hm
    exact h.inn _ (List.mem_of_mem_drop hm)
  · rw [hrl] at hi
    rw [hd i hi]
    unfold prev
    by_cases e : i = 0
    · subst e
      rw [if_pos rfl, hrl, show ((Q.length - k : Nat) : Int) - 1 = ((Q.length - k - 1 : Nat) : Int) by omega, hd _ (by omega), show Q.length - 1 - (Q.length - k - 1) = k by omega, hx]
      exact hlast
    · rw [if_neg e, show (i : Int) - 1 = ((i - 1 : Nat) : Int) by omega, hd _ (by omega)]
      have := h.lnk (Q.length - 1 - i) (by omega)
      rwa [show Q.length - 1 - i + 1 = Q.length - 1 - (i - 1) by omega] at this
end
end Go.Fip.S
namespace Go.Fip.S
section
variable {l : List Pr} {B T F c : List Int}
/-- What waits for itself, round a circle, is never played. -/
theorem circ_none (hj : Jobs l) (hc : 0 < c.length) (hin : InC l.length c) (hC : Circ B T F c) : ¬ ∃ s, SolF l B T F s := by
  rintro ⟨s, hs⟩
  have val : ∀ i, i < c.length → ∃ w : Nat, w < 2 * l.length ∧ nth c (i : Int) = (w : Int) := fun i hi => by
    have := hin i hi
    exact ⟨(nth c (i : Int)).toNat, by omega, by omega⟩
  have step : ∀ x y : Nat, x < 2 * l.length → y < 2 * l.length → Waits B T F (x : Int) (y : Int) → s y < s x := fun x y hx hy hW => by
    have h1 := (hs x hx).2.1 y hy hW
    have hm := hj.at2 (w := (y : Int)) (by omega) (by omega)
    omega
  have up : ∀ i, i < c.length → s (nth c ((0 : Nat) : Int)).toNat ≤ s (nth c (i : Int)).toNat := by
    intro i
    induction i with
    | zero => intro _; exact Int.le_refl _
    | succ i ih =>
      intro hi
      have h1 := ih (by omega)
      obtain ⟨a, ha, ea⟩ := val i (by omega)
      obtain ⟨b, hb, eb⟩ := val (i + 1) hi
      have hW := hC (i + 1) hi
      rw [prev_succ, ea, eb] at hW
      have h2 := step b a hb ha hW
      rw [ea] at h1
      rw [eb]
      simp only [Int.toNat_natCast] at h1 ⊢
      omega
  have hl := up (c.length - 1) (by omega)
  obtain ⟨a, ha, ea⟩ := val (c.length - 1) (by omega)
  obtain ⟨b, hb, eb⟩ := val 0 hc
  have hW := hC 0 hc
  unfold prev at hW
  rw [if_pos rfl, show (c.length : Int) - 1 = ((c.length - 1 : Nat) : Int) by omega, ea, eb] at hW
  have h2 := step b a hb ha hW
  rw [ea, eb] at hl
  simp only [Int.toNat_natCast] at hl
  omega
end
end Go.Fip.S
namespace Go.Fip.S
theorem Walk.stuck {l : List Pr} {B T F : List Int} {E : Mm} {Q : List Int} {x : Int} (h : Walk l B T F E Q x) (hOK : DayOK l B T F E) (hO : Ord l.length B T F)
    (hall : ∀ j, j < (pre B T F x).length → ¬ find (nth (pre B T F x) (j : Int)) E = none) : False := by
  have e : ((x.toNat : Nat) : Int) = x := by have := h.at0; omega
  obtain ⟨v, hv, hm, _, hn⟩ := hOK.back hO (w := x.toNat) (by have := h.at1; omega) (by rw [e]; exact h.no)
  rw [e] at hm
  obtain ⟨j, hj, ej⟩ := List.getElem_of_mem hm
  exact hall j hj (by rw [nth_nat hj, ej]; exact hn)
theorem Walk.next {l : List Pr} {B T F : List Int} {E : Mm} {Q : List Int} {x y : Int} (h : Walk l B T F E Q x) (hx : place Q x < 0) (hO : Ord l.length B T F) (hy : y ∈ pre B T F x) (hyn : find y E = none) : Walk l B T F E (Q ++ [x]) y := by
  obtain ⟨a, b, c⟩ := (mem_pre hO h.at0 h.at1).1 hy
  exact h.push hx a b hyn c
theorem nth_mem {l : List Int} {i : Nat} (h : i < l.length) : nth l (i : Int) ∈ l := by rw [nth_nat h]; exact List.getElem_mem h
theorem isnone {o : Option Int} (h : (!o.isSome) = true) : o = none := by cases o <;> simp at h ⊢
theorem notnone {o : Option Int} (h : ¬ (!o.isSome) = true) : ¬ o = none := by cases o <;> simp at h ⊢
end Go.Fip.S
