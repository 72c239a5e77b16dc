/- What the program's day says of the plan. -/
import Derived.Test.YtlekkopaeiblfaaSd
set_option linter.unusedVariables false
set_option linter.unusedSimpArgs false
set_option linter.unusedSectionVars false
set_option linter.unnecessarySimpa false
namespace Go.Fip.S
theorem nodup_len : ∀ (N : Nat) (l : List Int), l.Nodup → (∀ x ∈ l, 0 ≤ x ∧ x < (N : Int)) → l.length ≤ N
  | 0, l, _, h => by
    cases l with
    | nil => simp
    | cons x l => have := h x (List.mem_cons_self); omega
  | N + 1, l, hn, h => by
    by_cases hm : (N : Int) ∈ l
    · have h1 := nodup_len N (l.erase (N : Int)) (hn.erase _) (fun x hx => by
        have h2 := h x (List.mem_of_mem_erase hx)
        have h3 : x ≠ (N : Int) := ((List.Nodup.mem_erase_iff hn).1 hx).1
        omega)
      rw [List.length_erase_of_mem hm] at h1
      omega
    · have h1 := nodup_len N l hn (fun x hx => by
        have h2 := h x hx
        have h3 : x ≠ (N : Int) := fun e => hm (e ▸ hx)
        omega)
      omega
theorem all_len : ∀ (N : Nat) (l : List Int), (∀ i, i < N → ((i : Nat) : Int) ∈ l) → N ≤ l.length
  | 0, _, _ => Nat.zero_le _
  | N + 1, l, h => by
    have hm := h N (by omega)
    have h1 := all_len N (l.erase (N : Int)) (fun i hi => (List.mem_erase_of_ne (by omega)).2 (h i (by omega)))
    rw [List.length_erase_of_mem hm] at h1
    have := List.length_pos_of_mem hm
    omega
section
variable {l : List Pr} {B T F : List Int} {E : Mm}
theorem DayOK.full (h : DayOK l B T F E) (hf : 2 * l.length ≤ E.length) {w : Nat} (hw : w < 2 * l.length) : Done l B T F E w := by
  rcases h.st w hw with h1 | ⟨h1, _⟩
  · exact h1
  · exfalso
    have hn := find_none_iff.1 h1
    have := nodup_len (2 * l.length) ((w : Int) :: E.map Prod.fst) (List.nodup_cons.2 ⟨hn, h.nd⟩) (fun x hx => by
      rcases List.mem_cons.1 hx with rfl | hx
      · omega
      · obtain ⟨v, hv, e⟩ := h.keys x (fun e => find_none_iff.1 e hx)
        omega)
    simp at this
    omega
theorem DayOK.part (h : DayOK l B T F E) (hf : E.length < 2 * l.length) : ∃ w, w < 2 * l.length ∧ find ((w : Nat) : Int) E = none ∧ (ready E B T F (w : Int)).2 = false := by
  refine Classical.byContradiction fun hno => ?_
  have := all_len (2 * l.length) (E.map Prod.fst) (fun i hi => by
    rcases h.st i hi with ⟨e, h1, _⟩ | h1
    · refine Classical.byContradiction fun hm => ?_
      rw [find_none_iff.2 hm] at h1; cases h1
    · exact absurd ⟨i, hi, h1⟩ hno)
  simp at this
  omega
/-- A work that cannot be played waits for another one. -/
theorem DayOK.back (h : DayOK l B T F E) (hO : Ord l.length B T F) {w : Nat} (hw : w < 2 * l.length) (hn : find ((w : Nat) : Int) E = none) :
    ∃ v, v < 2 * l.length ∧ ((v : Nat) : Int) ∈ pre B T F (w : Int) ∧ Waits B T F (w : Int) (v : Int) ∧ find (v : Int) E = none := by
  rcases h.st w hw with ⟨e, h1, _⟩ | ⟨_, h1⟩
  · rw [hn] at h1; cases h1
  · obtain ⟨v, hv, h2⟩ := readyL_no _ _ h1
    obtain ⟨h3, h4, h5⟩ := (mem_pre hO (by omega) (by omega)).1 hv
    have e : ((v.toNat : Nat) : Int) = v := by omega
    refine ⟨v.toNat, by omega, ?_⟩
    rw [e]; exact ⟨hv, h5, h2⟩
theorem DayOK.none (h : DayOK l B T F E) (hj : Jobs l) (hO : Ord l.length B T F) (hf : E.length < 2 * l.length) : ¬ ∃ s, SolF l B T F s := by
  rintro ⟨s, hs⟩
  have key : ∀ (n w : Nat), w < 2 * l.length → (s w).toNat < n → find ((w : Nat) : Int) E ≠ Option.none := by
    intro n
    induction n with
    | zero => intro w _ h; omega
    | succ n ih =>
      intro w hw hn he
      obtain ⟨v, hv, _, hW, hE⟩ := h.back hO hw he
      have h1 := (hs w hw).2.1 v hv hW
      have hm := hj.at2 (w := (v : Int)) (by omega) (by omega)
      have h0 := (hs v hv).1
      exact ih v hv (by omega) hE
  obtain ⟨w, hw, he, _⟩ := h.part hf
  exact key _ w hw (Nat.lt_succ_self _) he
/-- All have been played: a plan of these times is the one of the order. -/
theorem DayOK.sol (h : DayOK l B T F E) (hO : Ord l.length B T F) (hf : 2 * l.length ≤ E.length) {p : List Pr} (hp : p.length = l.length)
    (ht : ∀ w, w < 2 * l.length → at2 p ((w : Nat) : Int) = (find (w : Int) E).getD 0 - at2 l (w : Int)) : SolP l B T F p := by
  have hr : ∀ w, w < 2 * l.length → (ready E B T F ((w : Nat) : Int)).2 = true ∧ at2 p (w : Int) = (ready E B T F (w : Int)).1 ∧ find (w : Int) E = some (at2 p (w : Int) + at2 l (w : Int)) := fun w hw => by
    obtain ⟨e, h1, h2, h3⟩ := h.full hf hw
    have := ht w hw
    rw [h1] at this ⊢
    have e2 : (some e).getD 0 = e := rfl
    rw [e2] at this
    exact ⟨h2, by omega, by congr 1; omega⟩
  refine ⟨hp, fun w hw => ?_⟩
  obtain ⟨h1, h2, h3⟩ := hr w hw
  obtain ⟨s1, s2, s3⟩ := readyL_spec (E := E) (pre B T F (w : Int)) 0 (Int.le_refl _) h1
  refine ⟨by rw [h2]; exact s1, fun v hv hW => ?_, ?_⟩
  · obtain ⟨e, he, hle⟩ := s2 (v : Int) ((mem_pre hO (by omega) (by omega)).2 ⟨by omega, by omega, hW⟩)
    have h4 := (hr v hv).2.2
    rw [he] at h4
    have := Option.some.inj h4
    rw [h2]
    unfold ready
    omega
  · rcases s3 with s3 | ⟨v, hv, s3⟩
    · left; rw [h2]; exact s3
    · right
      obtain ⟨v0, v1, hW⟩ := (mem_pre hO (by omega) (by omega)).1 hv
      have e : ((v.toNat : Nat) : Int) = v := by omega
      refine ⟨v.toNat, by omega, by rw [e]; exact hW, ?_⟩
      have h4 := (hr v.toNat (by omega)).2.2
      rw [e, s3] at h4
      have := Option.some.inj h4
      rw [h2, e]
      unfold ready
      omega
end
end Go.Fip.S
