/- The program's day: round after round. -/
import Derived.Test.YtlekkopaeiblfaaSz
set_option linter.unusedVariables false
set_option linter.unusedSimpArgs false
set_option linter.unusedSectionVars false
set_option linter.unnecessarySimpa false
namespace Go.Fip.S
abbrev Mm := List (Int × Int)
theorem readyL_ext {E E' : Mm} : ∀ (l : List Int) (a : Int), (∀ v ∈ l, ∀ e, find v E = some e → find v E' = some e) → (readyL E l a).2 = true → readyL E' l a = readyL E l a
  | [], a, _, _ => rfl
  | v :: l, a, h, h2 => by
    rw [readyL] at h2 ⊢
    cases hf : find v E with
    | none => rw [hf] at h2; cases h2
    | some e =>
      rw [hf] at h2
      have := h v (List.mem_cons_self) e hf
      simp only [readyL, this, hf]
      exact readyL_ext l _ (fun u hu => h u (List.mem_cons_of_mem _ hu)) h2
/-- What a ready work's beginning is. -/
theorem readyL_spec {E : Mm} : ∀ (l : List Int) (a : Int), 0 ≤ a → (readyL E l a).2 = true → (a ≤ (readyL E l a).1) ∧ (∀ v ∈ l, ∃ e, find v E = some e ∧ e ≤ (readyL E l a).1) ∧ ((readyL E l a).1 = a ∨ ∃ v ∈ l, find v E = some (readyL E l a).1)
  | [], a, _, _ => ⟨Int.le_refl _, fun v hv => (by cases hv), .inl rfl⟩
  | v :: l, a, h0, h => by
    rw [readyL] at h ⊢
    cases hf : find v E with
    | none => rw [hf] at h; cases h
    | some e =>
      rw [hf] at h
      obtain ⟨h1, h2, h3⟩ := readyL_spec l (max a e) (by omega) h
      refine ⟨by simp only; omega, fun u hu => ?_, ?_⟩
      · rcases List.mem_cons.1 hu with rfl | hu
        · exact ⟨e, hf, by simp only; omega⟩
        · exact h2 u hu
      · rcases h3 with h3 | ⟨u, hu, h3⟩
        · rcases (by omega : max a e = a ∨ max a e = e) with h4 | h4
          · left; simp only; omega
          · right; exact ⟨v, List.mem_cons_self, by simp only; rw [h3, h4]; exact hf⟩
        · right; exact ⟨u, List.mem_cons_of_mem _ hu, h3⟩
theorem readyL_no {E : Mm} : ∀ (l : List Int) (a : Int), (readyL E l a).2 = false → ∃ v ∈ l, find v E = none
  | [], a, h => by cases h
  | v :: l, a, h => by
    rw [readyL] at h
    cases hf : find v E with
    | none => exact ⟨v, List.mem_cons_self, hf⟩
    | some e =>
      rw [hf] at h
      obtain ⟨u, hu, h2⟩ := readyL_no l _ h
      exact ⟨u, List.mem_cons_of_mem _ hu, h2⟩
section
variable (l : List Pr) (B T F : List Int)
def Done (E : Mm) (w : Nat) : Prop := ∃ e, find (w : Int) E = some e ∧ (ready E B T F (w : Int)).2 = true ∧ e = (ready E B T F (w : Int)).1 + at2 l (w : Int)
/-- Within a round. -/
structure DI (E L : Mm) (a b : Int) : Prop where
  keys : ∀ k, find k E ≠ none → ∃ w, w < 2 * l.length ∧ k = ((w : Nat) : Int)
  ndE : (E.map Prod.fst).Nodup
  ndL : (L.map Prod.fst).Nodup
  st : ∀ w, w < 2 * l.length → (find ((w : Nat) : Int) L = some 1 ∧ find (w : Int) E = none) ∨ (find (w : Int) L = none ∧ Done l B T F E w)
  bd : ∀ k e, find k E = some e → 1 ≤ e ∧ e ≤ 500 * (E.length : Int)
  len : E.length + L.length = 2 * l.length
  tot : 0 ≤ a ∧ 0 ≤ b ∧ a + b ≤ 500 * (E.length : Int)
/-- All that can be played has been. -/
structure DayOK (E : Mm) : Prop where
  keys : ∀ k, find k E ≠ none → ∃ w, w < 2 * l.length ∧ k = ((w : Nat) : Int)
  nd : (E.map Prod.fst).Nodup
  st : ∀ w, w < 2 * l.length → Done l B T F E w ∨ (find ((w : Nat) : Int) E = none ∧ (ready E B T F (w : Int)).2 = false)
  bd : ∀ k e, find k E = some e → 1 ≤ e ∧ e ≤ 8000
  len : E.length ≤ 2 * l.length
def leftTo : Nat → Mm
  | 0 => []
  | k + 1 => upd (k : Int) 1 (leftTo k)
variable {l B T F}
theorem leftTo_find : ∀ k w : Nat, find (w : Int) (leftTo k) = if w < k then some 1 else none
  | 0, w => by simp [leftTo, find_nil]
  | k + 1, w => by
    rw [leftTo, find_upd, leftTo_find k w]
    by_cases h : w = k
    · subst h; rw [if_pos rfl, if_pos (by omega)]
    · rw [if_neg (by omega)]
      by_cases h2 : w < k
      · rw [if_pos h2, if_pos (by omega)]
      · rw [if_neg h2, if_neg (by omega)]
theorem leftTo_nd : ∀ k, ((leftTo k).map Prod.fst).Nodup
  | 0 => List.nodup_nil
  | k + 1 => nodup_upd (leftTo_nd k)
theorem leftTo_len : ∀ k, (leftTo k).length = k
  | 0 => rfl
  | k + 1 => by rw [leftTo, length_upd (by rw [leftTo_find, if_neg (by omega)]), leftTo_len k]
theorem DI.start : DI l B T F [] (leftTo (2 * l.length)) 0 0 where
  keys := fun k h => absurd (find_nil k) h
  ndE := List.nodup_nil
  ndL := leftTo_nd _
  st := fun w hw => .inl ⟨by rw [leftTo_find, if_pos hw], find_nil _⟩
  bd := fun k e h => by rw [find_nil] at h; cases h
  len := by simp [leftTo_len]
  tot := by simp
theorem DI.hE {E L : Mm} {a b : Int} (h : DI l B T F E L a b) (hj : Jobs l) : ∀ k e, find k E = some e → 0 ≤ e ∧ e ≤ 1000000 := fun k e he => by
  have := h.bd k e he
  have := h.len
  have := hj.2.1
  omega
theorem DayOK.hE {E : Mm} (h : DayOK l B T F E) : ∀ k e, find k E = some e → 0 ≤ e ∧ e ≤ 1000000 := fun k e he => by
  have := h.bd k e he
  omega
theorem ready_bd {E : Mm} {x : Int} {c : Int} (hc : 0 ≤ c) (hE : ∀ k e, find k E = some e → 1 ≤ e ∧ e ≤ c) : 0 ≤ (ready E B T F x).1 ∧ (ready E B T F x).1 ≤ c := by
  cases h : (ready E B T F x).2 with
  | true =>
    obtain ⟨h1, h2, h3⟩ := readyL_spec (E := E) (pre B T F x) 0 (Int.le_refl _) h
    refine ⟨h1, ?_⟩
    rcases h3 with h3 | ⟨v, _, h3⟩
    · show (readyL _ _ _).1 ≤ c; omega
    · exact (hE _ _ h3).2
  | false =>
    have : ∀ (l : List Int) (a : Int), (readyL E l a).2 = false → (readyL E l a).1 = 0 := by
      intro l
      induction l with
      | nil => intro a h; cases h
      | cons v l ih =>
        intro a h
        rw [readyL] at h ⊢
        cases hf : find v E with
        | none => rfl
        | some e => rw [hf] at h; exact ih _ h
    have e := this _ _ h
    unfold ready
    omega
/-- A work is played. -/
theorem DI.play {E L : Mm} {a b : Int} (h : DI l B T F E L a b) (hj : Jobs l) {w : Nat} (hw : w < 2 * l.length) (hl : ¬ (find (w : Int) L).getD 0 = 0) (hr : (ready E B T F (w : Int)).2 = true) {a' b' : Int}
    (hab : (a' = a + at2 l (w : Int) ∧ b' = b) ∨ (a' = a ∧ b' = b + at2 l (w : Int))) :
    DI l B T F (upd (w : Int) ((ready E B T F (w : Int)).1 + at2 l (w : Int)) E) (del (w : Int) L) a' b' ∧ (del (w : Int) L).length < L.length := by
  have hm := hj.at2 (w := (w : Int)) (by omega) (by omega)
  obtain ⟨hL, hE⟩ : find (w : Int) L = some 1 ∧ find (w : Int) E = none := by
    rcases h.st w hw with h1 | ⟨h1, _⟩
    · exact h1
    · rw [h1] at hl; exact absurd rfl hl
  have hlenE := length_upd (v := (ready E B T F (w : Int)).1 + at2 l (w : Int)) hE
  have hlenL := length_del (k := (w : Int)) (m := L) (by rw [hL]; simp)
  have hrb := ready_bd (B := B) (T := T) (F := F) (x := (w : Int)) (c := 500 * (E.length : Int)) (by omega) (fun k e he => h.bd k e he)
  have hlen := h.len
  have htot := h.tot
  have ext : ∀ (x : Nat), (ready E B T F (x : Int)).2 = true → ready (upd (w : Int) ((ready E B T F (w : Int)).1 + at2 l (w : Int)) E) B T F (x : Int) = ready E B T F (x : Int) := fun x hx => by
    refine readyL_ext _ _ (fun v _ e he => ?_) hx
    rw [find_upd, if_neg (fun e' => by rw [e', hE] at he; cases he), he]
  refine ⟨⟨fun k hk => ?_, nodup_upd h.ndE, nodup_del h.ndL, fun x hx => ?_, fun k e he => ?_, by omega, by rw [hlenE]; omega⟩, by omega⟩
  · rw [find_upd] at hk
    split at hk
    · exact ⟨w, hw, by assumption⟩
    · exact h.keys k hk
  · by_cases e : x = w
    · subst e
      right
      exact ⟨find_del h.ndL, _, by rw [find_upd, if_pos rfl], by rw [ext x hr]; exact hr, by rw [ext x hr]⟩
    · have hne : ((x : Nat) : Int) ≠ (w : Int) := by omega
      rcases h.st x hx with ⟨h1, h2⟩ | ⟨h1, e2, h2, h3, h4⟩
      · left; exact ⟨by rw [find_del_ne hne]; exact h1, by rw [find_upd, if_neg hne]; exact h2⟩
      · right; exact ⟨by rw [find_del_ne hne]; exact h1, e2, by rw [find_upd, if_neg hne]; exact h2, by rw [ext x h3]; exact h3, by rw [ext x h3]; exact h4⟩
  · rw [find_upd] at he
    rw [hlenE]
    split at he
    · cases he; omega
    · have := h.bd k e he; omega
theorem DI.stop {E L : Mm} {a b : Int} (h : DI l B T F E L a b) (hj : Jobs l) (hn : ∀ x, x < 2 * l.length → (find ((x : Nat) : Int) L).getD 0 = 0 ∨ (ready E B T F (x : Int)).2 = false) : DayOK l B T F E where
  keys := h.keys
  nd := h.ndE
  st := fun w hw => by
    rcases h.st w hw with ⟨h1, h2⟩ | ⟨_, h1⟩
    · right
      refine ⟨h2, ?_⟩
      rcases hn w hw with h3 | h3
      · rw [h1] at h3; cases h3
      · exact h3
    · exact .inl h1
  bd := fun k e he => by have := h.bd k e he; have := h.len; have := hj.2.1; omega
  len := by have := h.len; omega
end
end Go.Fip.S
namespace Go.Fip.S
/-- Since the round began: nothing, or something. -/
def Rnd (l : List Pr) (B T F : List Int) (E L : Mm) (a b : Int) (k : Nat) (E3 L3 : Mm) (a3 b3 : Int) : Prop :=
  (E3 = E ∧ L3 = L ∧ a3 = a ∧ b3 = b ∧ ∀ x, x < k → (find ((x : Nat) : Int) L3).getD 0 = 0 ∨ (ready E3 B T F (x : Int)).2 = false) ∨ (L3.length < L.length ∧ a + b < a3 + b3)
section
variable {l : List Pr} {B T F : List Int} {E L E3 L3 : Mm} {a b a3 b3 : Int} {k : Nat}
theorem keep_on (h : Rnd l B T F E L a b k E3 L3 a3 b3) (hk : (find ((k : Nat) : Int) L3).getD 0 = 0 ∨ (ready E3 B T F (k : Int)).2 = false) : Rnd l B T F E L a b (k + 1) E3 L3 a3 b3 := by
  rcases h with ⟨h1, h2, h3, h4, h5⟩ | h
  · exact .inl ⟨h1, h2, h3, h4, all_snoc h5 hk⟩
  · exact .inr h
theorem settled (h : Rnd l B T F E L a b k E3 L3 a3 b3) (hs : [a, b] = [a3, b3]) (hk : k = 2 * l.length) : ∀ x, x < 2 * l.length → (find ((x : Nat) : Int) L3).getD 0 = 0 ∨ (ready E3 B T F (x : Int)).2 = false := by
  simp only [List.cons.injEq, and_true] at hs
  rcases h with ⟨_, _, _, _, h5⟩ | h
  · subst hk; exact h5
  · omega
theorem moved (h : Rnd l B T F E L a b k E3 L3 a3 b3) (hs : ¬ [a, b] = [a3, b3]) : L3.length < L.length := by
  rcases h with ⟨_, _, h3, h4, _⟩ | h
  · exact absurd (by rw [h3, h4]) hs
  · exact h.1
theorem Rnd.le (h : Rnd l B T F E L a b k E3 L3 a3 b3) : L3.length ≤ L.length ∧ a + b ≤ a3 + b3 := by
  rcases h with ⟨_, h2, h3, h4, _⟩ | h
  · subst h2; omega
  · omega
end
end Go.Fip.S
