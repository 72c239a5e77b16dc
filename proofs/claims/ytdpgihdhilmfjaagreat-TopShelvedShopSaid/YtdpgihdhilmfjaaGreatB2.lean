/- Joined texts: what the statement needs, walks by program (wip/tools). -/
import Derived.Test.YtdpgihdhilmfjaaGreatB1
import Derived.Test.YtdpgihdhilmfjaaGreatRows
import Derived.Laws.Entries
import Derived.Test.YtdpgihdhilmfjaaGreatProg
import Derived.Shelf.Small.Bits
set_option linter.unusedVariables false
set_option linter.unusedSimpArgs false
set_option linter.unusedSectionVars false
set_option linter.unnecessarySimpa false
namespace Go.Fip.S
theorem qL {l : List Int} {x : Int} (h : 0 ≤ place l x) : nth l (place l x) = x ∧ place l x < (l.length : Int) := by
 rcases qP (fun y => decide (y = x)) l with ⟨h1, _⟩ | ⟨k, hk, h1, hp, _⟩
 ·unfold place at h; omega
 ·have e : place l x = (k : Int) := h1
  rw [e]; exact ⟨by simpa using hp, by omega⟩
theorem VT {l : List Int} {x : Int} (h : 0 ≤ place l x) : x ∈ l := by
 obtain ⟨h1, h2⟩ := qL h
 have e : ((place l x).toNat : Int) = place l x := by omega
 rw [← e, yG (by omega)] at h1
 rw [← h1]; exact List.getElem_mem _
theorem pigeon : ∀ (n : Nat) (l : List Int), l.length = n → (∀ i, i < n → (i : Int) ∈ l) → (∀ x ∈ l, 0 ≤ x ∧ x < (n : Int)) ∧ l.Nodup
 | 0, l, hl, _ => by
  have : l = [] := List.eq_nil_of_length_eq_zero hl
  subst this
  exact ⟨fun x hx => (by cases hx), List.nodup_nil⟩
 | n + 1, l, hl, h => by
  have hm := h n (by omega)
  obtain ⟨h1, h2⟩ := pigeon n (l.erase (n : Int)) (by rw [List.length_erase_of_mem hm, hl]; rfl) (fun i hi => (List.mem_erase_of_ne (by omega)).2 (h i (by omega)))
  refine ⟨fun x hx => ?_, ?_⟩
  ·by_cases e : x = (n : Int)
   ·omega
   ·have := h1 x ((List.mem_erase_of_ne e).2 hx); omega
  ·refine ((List.perm_cons_erase hm).nodup_iff).2 (List.nodup_cons.2 ⟨fun hx => ?_, h2⟩)
   have := h1 _ hx; omega
theorem row_ok {n : Nat} {l : List Int} (hl : l.length = n) (h : ∀ i, i < n → 0 ≤ place l (i : Int)) :
  (∀ i, 0 ≤ i → i < (n : Int) → 0 ≤ nth l i ∧ nth l i < (n : Int)) ∧ ∀ i, 0 ≤ i → i < (n : Int) → place l (nth l i) = i := by
 obtain ⟨h1, h2⟩ := pigeon n l hl (fun i hi => VT (h i hi))
 have hin : ∀ i, 0 ≤ i → i < (n : Int) → 0 ≤ nth l i ∧ nth l i < (n : Int) := fun i h0 hi => by
  have e : (i.toNat : Int) = i := by omega
  rw [← e, yG (by omega)]
  exact h1 _ (List.getElem_mem _)
 refine ⟨hin, fun i h0 hi => ?_⟩
 have hb := hin i h0 hi
 have hp : 0 ≤ place l (nth l i) := by
  have := h (nth l i).toNat (by omega)
  rwa [show (((nth l i).toNat : Nat) : Int) = nth l i by omega] at this
 obtain ⟨h3, h4⟩ := qL hp
 have e : (i.toNat : Int) = i := by omega
 have e2 : ((place l (nth l i)).toNat : Int) = place l (nth l i) := by omega
 have h5 : l[(place l (nth l i)).toNat]'(by omega) = l[i.toNat]'(by omega) := by
  rw [← yG (by omega), ← yG (by omega), e, e2]; exact h3
 have hp2 := List.pairwise_iff_getElem.1 h2
 rcases Nat.lt_trichotomy (place l (nth l i)).toNat i.toNat with hlt | heq | hlt
 ·exact absurd h5 (hp2 _ _ (by omega) (by omega) hlt)
 ·omega
 ·exact absurd h5.symm (hp2 _ _ (by omega) (by omega) hlt)
theorem Ord.row {n : Nat} {B T F : List Int} (h : Ord n B T F) (b : Int) : (row B T b).length = n ∧ (∀ i, 0 ≤ i → i < (n : Int) → 0 ≤ nth (row B T b) i ∧ nth (row B T b) i < (n : Int)) ∧
  (∀ i, 0 ≤ i → i < (n : Int) → place (row B T b) (nth (row B T b) i) = i) ∧ ∀ i, 0 ≤ i → i < (n : Int) → 0 ≤ place (row B T b) i ∧ place (row B T b) i < (n : Int) := by
 obtain ⟨h1, h2, h3, h4⟩ := h
 have hB := row_ok h1 (fun i hi => (h4 i hi).1)
 have hT := row_ok h2 (fun i hi => (h4 i hi).2.1)
 have pB : ∀ i, 0 ≤ i → i < (n : Int) → 0 ≤ place B i ∧ place B i < (n : Int) := fun i h0 hi => by
  have := (h4 i.toNat (by omega)).1
  rw [show (((i.toNat : Nat)) : Int) = i by omega] at this
  have := place_lt B i; omega
 have pT : ∀ i, 0 ≤ i → i < (n : Int) → 0 ≤ place T i ∧ place T i < (n : Int) := fun i h0 hi => by
  have := (h4 i.toNat (by omega)).2.1
  rw [show (((i.toNat : Nat)) : Int) = i by omega] at this
  have := place_lt T i; omega
 unfold S.row
 split
 ·exact ⟨h2, hT.1, hT.2, pT⟩
 ·exact ⟨h1, hB.1, hB.2, pB⟩
theorem Ord.first {n : Nat} {B T F : List Int} (h : Ord n B T F) {i : Int} (h0 : 0 ≤ i) (h1 : i < (n : Int)) : 0 ≤ nth F i ∧ nth F i ≤ 1 := by
 have := (h.2.2.2 i.toNat (by omega)).2.2
 rwa [show (((i.toNat : Nat)) : Int) = i by omega] at this
def preL (L F : List Int) (x : Int) : List Int :=
 (if 0 < place L (x / 2) then [2 * nth L (place L (x / 2) - 1) + x % 2] else []) ++ (if ¬ nth F (x / 2) = x % 2 then [if x % 2 = 0 then x + 1 else x - 1] else [])
def pre (B T F : List Int) (x : Int) : List Int := preL (row B T (x % 2)) F x
theorem Y9 {n : Nat} {B T F : List Int} (h : Ord n B T F) {w v : Int} (h0 : 0 ≤ w) (h1 : w < 2 * (n : Int)) : v ∈ pre B T F w ↔ 0 ≤ v ∧ v < 2 * (n : Int) ∧ Waits B T F w v := by
 obtain ⟨r1, r2, r3, r4⟩ := h.row (w % 2)
 have f1 := h.first (i := w / 2) (by omega) (by omega)
 have pw := r4 (w / 2) (by omega) (by omega)
 have hW : ∀ v, Waits B T F w v ↔ if w % 2 ≠ v % 2 then w / 2 = v / 2 ∧ nth F (w / 2) = v % 2 else place (row B T (w % 2)) (w / 2) = place (row B T (w % 2)) (v / 2) + 1 := fun v => Iff.rfl
 rw [hW]
 unfold pre preL
 generalize row B T (w % 2) = L at *
 rw [List.mem_append]
 constructor
 ·rintro (hm | hm)
  ·split at hm
   ·rename_i hk
    simp only [List.mem_singleton] at hm
    have a := r2 (place L (w / 2) - 1) (by omega) (by omega)
    have b := r3 (place L (w / 2) - 1) (by omega) (by omega)
    have e : v / 2 = nth L (place L (w / 2) - 1) := by omega
    refine ⟨by omega, by omega, ?_⟩
    rw [if_neg (by omega), e, b]; omega
   ·cases hm
  ·split at hm
   ·rename_i hk
    simp only [List.mem_singleton] at hm
    refine ⟨by split at hm <;> omega, by split at hm <;> omega, ?_⟩
    rw [if_pos (by split at hm <;> omega)]
    split at hm <;> omega
   ·cases hm
 ·rintro ⟨hv0, hv1, hw⟩
  split at hw
  ·right
   rw [if_pos (by omega), List.mem_singleton]
   split <;> omega
  ·left
   have pv := r4 (v / 2) (by omega) (by omega)
   have hv := (qL pv.1).1
   rw [if_pos (by omega), List.mem_singleton]
   have e : place L (w / 2) - 1 = place L (v / 2) := by omega
   rw [e, hv]; omega
theorem pre_length (B T F : List Int) (x : Int) : (pre B T F x).length ≤ 2 := by
 unfold pre preL
 split <;> split <;> simp
def readyL (E : List (Int × Int)) : List Int → Int → Int × Bool
 | [], a => (a, true)
 | v :: vs, a => match find v E with
  | none => (0, false)
  | some e => readyL E vs (max a e)
def ready (E : List (Int × Int)) (B T F : List Int) (x : Int) : Int × Bool := readyL E (pre B T F x) 0
end Go.Fip.S
namespace Go.Fip.S
theorem readyL_some {E : List (Int × Int)} {l : List Int} {i : Nat} {a : Int} (h : i < l.length) (hs : ¬ (!(find (nth l (i : Int)) E).isSome) = true) : readyL E (l.drop i) a = readyL E (l.drop (i + 1)) (max a ((find (nth l (i : Int)) E).getD 0)) := by
 rw [YU h, readyL]
 cases hf : find (nth l (i : Int)) E with
 | none => rw [hf] at hs; simp at hs
 | some e => rfl
theorem readyL_none {E : List (Int × Int)} {l : List Int} {i : Nat} {a : Int} (h : i < l.length) (hs : (!(find (nth l (i : Int)) E).isSome) = true) : readyL E (l.drop i) a = (0, false) := by
 rw [YU h, readyL]
 cases hf : find (nth l (i : Int)) E with
 | none => rfl
 | some e => rw [hf] at hs; simp at hs
theorem find_getD {E : List (Int × Int)} {k : Int} (hE : ∀ k e, find k E = some e → 0 ≤ e ∧ e ≤ 1000000) : 0 ≤ (find k E).getD 0 ∧ (find k E).getD 0 ≤ 1000000 := by
 cases h : find k E with
 | none => simp
 | some e => exact hE k e h
end Go.Fip.S
namespace Go.Fip.S
theorem vX {l : List Int} {x : Int} : 0 ≤ place l x ↔ x ∈ l := by
 constructor
 ·exact VT
 ·intro h
  obtain ⟨i, hi, rfl⟩ := List.getElem_of_mem h
  exact X5.2 ⟨i, hi, by rw [yG hi]; simp⟩
theorem pre_waits {n : Nat} {B T F : List Int} (h : Ord n B T F) {w v : Int} (h0 : 0 ≤ w) (h1 : w < 2 * (n : Int)) (v0 : 0 ≤ v) (v1 : v < 2 * (n : Int)) : 0 ≤ place (pre B T F w) v ↔ Waits B T F w v := by
 rw [vX, Y9 h h0 h1]
 exact ⟨fun h => h.2.2, fun h => ⟨v0, v1, h⟩⟩
end Go.Fip.S
namespace Go.Fip.S
abbrev Mm := List (Int × Int)
theorem XU {E E' : Mm} : ∀ (l : List Int) (a : Int), (∀ v ∈ l, ∀ e, find v E = some e → find v E' = some e) → (readyL E l a).2 = true → readyL E' l a = readyL E l a
 | [], a, _, _ => rfl
 | v :: l, a, h, h2 => by
  rw [readyL] at h2 ⊢
  cases hf : find v E with
  | none => rw [hf] at h2; cases h2
  | some e =>
   rw [hf] at h2
   have := h v (List.mem_cons_self) e hf
   simp only [readyL, this, hf]
   exact XU l _ (fun u hu => h u (List.mem_cons_of_mem _ hu)) h2
theorem kI {E : Mm} : ∀ (l : List Int) (a : Int), 0 ≤ a → (readyL E l a).2 = true → (a ≤ (readyL E l a).1) ∧ (∀ v ∈ l, ∃ e, find v E = some e ∧ e ≤ (readyL E l a).1) ∧ ((readyL E l a).1 = a ∨ ∃ v ∈ l, find v E = some (readyL E l a).1)
 | [], a, _, _ => ⟨Int.le_refl _, fun v hv => (by cases hv), .inl rfl⟩
 | v :: l, a, h0, h => by
  rw [readyL] at h ⊢
  cases hf : find v E with
  | none => rw [hf] at h; cases h
  | some e =>
   rw [hf] at h
   obtain ⟨h1, h2, h3⟩ := kI l (max a e) (by omega) h
   refine ⟨by simp only; omega, fun u hu => ?_, ?_⟩
   ·rcases List.mem_cons.1 hu with rfl | hu
    ·exact ⟨e, hf, by simp only; omega⟩
    ·exact h2 u hu
   ·rcases h3 with h3 | ⟨u, hu, h3⟩
    ·rcases (by omega : max a e = a ∨ max a e = e) with h4 | h4
     ·left; simp only; omega
     ·right; exact ⟨v, List.mem_cons_self, by simp only; rw [h3, h4]; exact hf⟩
    ·right; exact ⟨u, List.mem_cons_of_mem _ hu, h3⟩
theorem WB {E : Mm} : ∀ (l : List Int) (a : Int), (readyL E l a).2 = false → ∃ v ∈ l, find v E = none
 | [], a, h => by cases h
 | v :: l, a, h => by
  rw [readyL] at h
  cases hf : find v E with
  | none => exact ⟨v, List.mem_cons_self, hf⟩
  | some e =>
   rw [hf] at h
   obtain ⟨u, hu, h2⟩ := WB l _ h
   exact ⟨u, List.mem_cons_of_mem _ hu, h2⟩
section
variable (l : List Pr) (B T F : List Int)
def Done (E : Mm) (w : Nat) : Prop := ∃ e, find (w : Int) E = some e ∧ (ready E B T F (w : Int)).2 = true ∧ e = (ready E B T F (w : Int)).1 + at2 l (w : Int)
structure DI (E L : Mm) (a b : Int) : Prop where
 keys : ∀ k, find k E ≠ none → ∃ w, w < 2 * l.length ∧ k = ((w : Nat) : Int)
 ndE : (E.map Prod.fst).Nodup
 ndL : (L.map Prod.fst).Nodup
 st : ∀ w, w < 2 * l.length → (find ((w : Nat) : Int) L = some 1 ∧ find (w : Int) E = none) ∨ (find (w : Int) L = none ∧ Done l B T F E w)
 bd : ∀ k e, find k E = some e → 1 ≤ e ∧ e ≤ 500 * (E.length : Int)
 len : E.length + L.length = 2 * l.length
 tot : 0 ≤ a ∧ 0 ≤ b ∧ a + b ≤ 500 * (E.length : Int)
structure DayOK (E : Mm) : Prop where
 keys : ∀ k, find k E ≠ none → ∃ w, w < 2 * l.length ∧ k = ((w : Nat) : Int)
 nd : (E.map Prod.fst).Nodup
 st : ∀ w, w < 2 * l.length → Done l B T F E w ∨ (find ((w : Nat) : Int) E = none ∧ (ready E B T F (w : Int)).2 = false)
 bd : ∀ k e, find k E = some e → 1 ≤ e ∧ e ≤ 8000
 len : E.length ≤ 2 * l.length
def leftTo : Nat → Mm
 | 0 => []
 | k + 1 => upd (k : Int) 1 (leftTo k)
variable {l B T F}
theorem kG : ∀ k w : Nat, find (w : Int) (leftTo k) = if w < k then some 1 else none
  | 0, w => by simp [leftTo, uL]
  | k + 1, w => by
    rw [leftTo, vL, kG k w]
    by_cases h : w = k
    · subst h; rw [if_pos rfl, if_pos (by omega)]
    · rw [if_neg (by omega)]
      by_cases h2 : w < k
      · rw [if_pos h2, if_pos (by omega)]
      · rw [if_neg h2, if_neg (by omega)]
theorem V2 : ∀ k, ((leftTo k).map Prod.fst).Nodup
 | 0 => List.nodup_nil
 | k + 1 => V5 (V2 k)
theorem XQ : ∀ k, (leftTo k).length = k
 | 0 => rfl
 | k + 1 => by rw [leftTo, YL (by rw [kG, if_neg (by omega)]), XQ k]
theorem DI.start : DI l B T F [] (leftTo (2 * l.length)) 0 0 where
 keys := fun k h => absurd (uL k) h
 ndE := List.nodup_nil
 ndL := V2 _
 st := fun w hw => .inl ⟨by rw [kG, if_pos hw], uL _⟩
 bd := fun k e h => by rw [uL] at h; cases h
 len := by simp [XQ]
 tot := by simp
theorem DI.hE {E L : Mm} {a b : Int} (h : DI l B T F E L a b) (hj : Jobs l) : ∀ k e, find k E = some e → 0 ≤ e ∧ e ≤ 1000000 := fun k e he => by
 have := h.bd k e he
 have := h.len
 have := hj.2.1
 omega
theorem DayOK.hE {E : Mm} (h : DayOK l B T F E) : ∀ k e, find k E = some e → 0 ≤ e ∧ e ≤ 1000000 := fun k e he => by
 have := h.bd k e he
 omega
theorem ready_bd {E : Mm} {x : Int} {c : Int} (hc : 0 ≤ c) (hE : ∀ k e, find k E = some e → 1 ≤ e ∧ e ≤ c) : 0 ≤ (ready E B T F x).1 ∧ (ready E B T F x).1 ≤ c := by
 cases h : (ready E B T F x).2 with
 | true =>
  obtain ⟨h1, h2, h3⟩ := kI (E := E) (pre B T F x) 0 (Int.le_refl _) h
  refine ⟨h1, ?_⟩
  rcases h3 with h3 | ⟨v, _, h3⟩
  ·show (readyL _ _ _).1 ≤ c; omega
  ·exact (hE _ _ h3).2
 | false =>
  have : ∀ (l : List Int) (a : Int), (readyL E l a).2 = false → (readyL E l a).1 = 0 := by
   intro l
   induction l with
   | nil => intro a h; cases h
   | cons v l ih =>
    intro a h
    rw [readyL] at h ⊢
    cases hf : find v E with
    | none => rfl
    | some e => rw [hf] at h; exact ih _ h
  have e := this _ _ h
  unfold ready
  omega
theorem DI.play {E L : Mm} {a b : Int} (h : DI l B T F E L a b) (hj : Jobs l) {w : Nat} (hw : w < 2 * l.length) (hl : ¬ (find (w : Int) L).getD 0 = 0) (hr : (ready E B T F (w : Int)).2 = true) {a' b' : Int}
    (hab : (a' = a + at2 l (w : Int) ∧ b' = b) ∨ (a' = a ∧ b' = b + at2 l (w : Int))) :
    DI l B T F (upd (w : Int) ((ready E B T F (w : Int)).1 + at2 l (w : Int)) E) (del (w : Int) L) a' b' ∧ (del (w : Int) L).length < L.length := by
  have hm := hj.at2 (w := (w : Int)) (by omega) (by omega)
  obtain ⟨hL, hE⟩ : find (w : Int) L = some 1 ∧ find (w : Int) E = none := by
    rcases h.st w hw with h1 | ⟨h1, _⟩
    · exact h1
    · rw [h1] at hl; exact absurd rfl hl
  have hlenE := YL (v := (ready E B T F (w : Int)).1 + at2 l (w : Int)) hE
  have hlenL := VA (k := (w : Int)) (m := L) (by rw [hL]; simp)
  have hrb := ready_bd (B := B) (T := T) (F := F) (x := (w : Int)) (c := 500 * (E.length : Int)) (by omega) (fun k e he => h.bd k e he)
  have hlen := h.len
  have htot := h.tot
  have ext : ∀ (x : Nat), (ready E B T F (x : Int)).2 = true → ready (upd (w : Int) ((ready E B T F (w : Int)).1 + at2 l (w : Int)) E) B T F (x : Int) = ready E B T F (x : Int) := fun x hx => by
    refine XU _ _ (fun v _ e he => ?_) hx
    rw [vL, if_neg (fun e' => by rw [e', hE] at he; cases he), he]
  refine ⟨⟨fun k hk => ?_, V5 h.ndE, J0 h.ndL, fun x hx => ?_, fun k e he => ?_, by omega, by rw [hlenE]; omega⟩, by omega⟩
  · rw [vL] at hk
    split at hk
    · exact ⟨w, hw, by assumption⟩
    · exact h.keys k hk
  · by_cases e : x = w
    · subst e
      right
      exact ⟨YW h.ndL, _, by rw [vL, if_pos rfl], by rw [ext x hr]; exact hr, by rw [ext x hr]⟩
    · have hne : ((x : Nat) : Int) ≠ (w : Int) := by omega
      rcases h.st x hx with ⟨h1, h2⟩ | ⟨h1, e2, h2, h3, h4⟩
      · left; exact ⟨by rw [q6 hne]; exact h1, by rw [vL, if_neg hne]; exact h2⟩
      · right; exact ⟨by rw [q6 hne]; exact h1, e2, by rw [vL, if_neg hne]; exact h2, by rw [ext x h3]; exact h3, by rw [ext x h3]; exact h4⟩
  · rw [vL] at he
    rw [hlenE]
    split at he
    · cases he; omega
    · have := h.bd k e he; omega
theorem DI.stop {E L : Mm} {a b : Int} (h : DI l B T F E L a b) (hj : Jobs l) (hn : ∀ x, x < 2 * l.length → (find ((x : Nat) : Int) L).getD 0 = 0 ∨ (ready E B T F (x : Int)).2 = false) : DayOK l B T F E where
 keys := h.keys
 nd := h.ndE
 st := fun w hw => by
  rcases h.st w hw with ⟨h1, h2⟩ | ⟨_, h1⟩
  ·right
   refine ⟨h2, ?_⟩
   rcases hn w hw with h3 | h3
   ·rw [h1] at h3; cases h3
   ·exact h3
  ·exact .inl h1
 bd := fun k e he => by have := h.bd k e he; have := h.len; have := hj.2.1; omega
 len := by have := h.len; omega
end
end Go.Fip.S
namespace Go.Fip.S
def Rnd (l : List Pr) (B T F : List Int) (E L : Mm) (a b : Int) (k : Nat) (E3 L3 : Mm) (a3 b3 : Int) : Prop :=
 (E3 = E ∧ L3 = L ∧ a3 = a ∧ b3 = b ∧ ∀ x, x < k → (find ((x : Nat) : Int) L3).getD 0 = 0 ∨ (ready E3 B T F (x : Int)).2 = false) ∨ (L3.length < L.length ∧ a + b < a3 + b3)
section
variable {l : List Pr} {B T F : List Int} {E L E3 L3 : Mm} {a b a3 b3 : Int} {k : Nat}
theorem keep_on (h : Rnd l B T F E L a b k E3 L3 a3 b3) (hk : (find ((k : Nat) : Int) L3).getD 0 = 0 ∨ (ready E3 B T F (k : Int)).2 = false) : Rnd l B T F E L a b (k + 1) E3 L3 a3 b3 := by
 rcases h with ⟨h1, h2, h3, h4, h5⟩ | h
 ·exact .inl ⟨h1, h2, h3, h4, all_snoc h5 hk⟩
 ·exact .inr h
theorem settled (h : Rnd l B T F E L a b k E3 L3 a3 b3) (hs : [a, b] = [a3, b3]) (hk : k = 2 * l.length) : ∀ x, x < 2 * l.length → (find ((x : Nat) : Int) L3).getD 0 = 0 ∨ (ready E3 B T F (x : Int)).2 = false := by
 simp only [List.cons.injEq, and_true] at hs
 rcases h with ⟨_, _, _, _, h5⟩ | h
 ·subst hk; exact h5
 ·omega
theorem moved (h : Rnd l B T F E L a b k E3 L3 a3 b3) (hs : ¬ [a, b] = [a3, b3]) : L3.length < L.length := by
 rcases h with ⟨_, _, h3, h4, _⟩ | h
 ·exact absurd (by rw [h3, h4]) hs
 ·exact h.1
theorem Rnd.le (h : Rnd l B T F E L a b k E3 L3 a3 b3) : L3.length ≤ L.length ∧ a + b ≤ a3 + b3 := by
 rcases h with ⟨_, h2, h3, h4, _⟩ | h
 ·subst h2; omega
 ·omega
end
end Go.Fip.S
namespace Go.Fip.S
theorem jY : ∀ (N : Nat) (l : List Int), l.Nodup → (∀ x ∈ l, 0 ≤ x ∧ x < (N : Int)) → l.length ≤ N
  | 0, l, _, h => by
    cases l with
    | nil => simp
    | cons x l => have := h x (List.mem_cons_self); omega
  | N + 1, l, hn, h => by
    by_cases hm : (N : Int) ∈ l
    · have h1 := jY N (l.erase (N : Int)) (hn.erase _) (fun x hx => by
        have h2 := h x (List.mem_of_mem_erase hx)
        have h3 : x ≠ (N : Int) := ((List.Nodup.mem_erase_iff hn).1 hx).1
        omega)
      rw [List.length_erase_of_mem hm] at h1
      omega
    · have h1 := jY N l hn (fun x hx => by
        have h2 := h x hx
        have h3 : x ≠ (N : Int) := fun e => hm (e ▸ hx)
        omega)
      omega
theorem WP : ∀ (N : Nat) (l : List Int), (∀ i, i < N → ((i : Nat) : Int) ∈ l) → N ≤ l.length
 | 0, _, _ => Nat.zero_le _
 | N + 1, l, h => by
  have hm := h N (by omega)
  have h1 := WP N (l.erase (N : Int)) (fun i hi => (List.mem_erase_of_ne (by omega)).2 (h i (by omega)))
  rw [List.length_erase_of_mem hm] at h1
  have := List.length_pos_of_mem hm
  omega
section
variable {l : List Pr} {B T F : List Int} {E : Mm}
theorem DayOK.full (h : DayOK l B T F E) (hf : 2 * l.length ≤ E.length) {w : Nat} (hw : w < 2 * l.length) : Done l B T F E w := by
  rcases h.st w hw with h1 | ⟨h1, _⟩
  · exact h1
  · exfalso
    have hn := vV.1 h1
    have := jY (2 * l.length) ((w : Int) :: E.map Prod.fst) (List.nodup_cons.2 ⟨hn, h.nd⟩) (fun x hx => by
      rcases List.mem_cons.1 hx with rfl | hx
      · omega
      · obtain ⟨v, hv, e⟩ := h.keys x (fun e => vV.1 e hx)
        omega)
    simp at this
    omega
theorem DayOK.part (h : DayOK l B T F E) (hf : E.length < 2 * l.length) : ∃ w, w < 2 * l.length ∧ find ((w : Nat) : Int) E = none ∧ (ready E B T F (w : Int)).2 = false := by
  refine Classical.byContradiction fun hno => ?_
  have := WP (2 * l.length) (E.map Prod.fst) (fun i hi => by
    rcases h.st i hi with ⟨e, h1, _⟩ | h1
    · refine Classical.byContradiction fun hm => ?_
      rw [vV.2 hm] at h1; cases h1
    · exact absurd ⟨i, hi, h1⟩ hno)
  simp at this
  omega
theorem DayOK.back (h : DayOK l B T F E) (hO : Ord l.length B T F) {w : Nat} (hw : w < 2 * l.length) (hn : find ((w : Nat) : Int) E = none) :
  ∃ v, v < 2 * l.length ∧ ((v : Nat) : Int) ∈ pre B T F (w : Int) ∧ Waits B T F (w : Int) (v : Int) ∧ find (v : Int) E = none := by
 rcases h.st w hw with ⟨e, h1, _⟩ | ⟨_, h1⟩
 ·rw [hn] at h1; cases h1
 ·obtain ⟨v, hv, h2⟩ := WB _ _ h1
  obtain ⟨h3, h4, h5⟩ := (Y9 hO (by omega) (by omega)).1 hv
  have e : ((v.toNat : Nat) : Int) = v := by omega
  refine ⟨v.toNat, by omega, ?_⟩
  rw [e]; exact ⟨hv, h5, h2⟩
theorem DayOK.none (h : DayOK l B T F E) (hj : Jobs l) (hO : Ord l.length B T F) (hf : E.length < 2 * l.length) : ¬ ∃ s, SolF l B T F s := by
 rintro ⟨s, hs⟩
 have key : ∀ (n w : Nat), w < 2 * l.length → (s w).toNat < n → find ((w : Nat) : Int) E ≠ Option.none := by
  intro n
  induction n with
  | zero => intro w _ h; omega
  | succ n ih =>
   intro w hw hn he
   obtain ⟨v, hv, _, hW, hE⟩ := h.back hO hw he
   have h1 := (hs w hw).2.1 v hv hW
   have hm := hj.at2 (w := (v : Int)) (by omega) (by omega)
   have h0 := (hs v hv).1
   exact ih v hv (by omega) hE
 obtain ⟨w, hw, he, _⟩ := h.part hf
 exact key _ w hw (Nat.lt_succ_self _) he
theorem DayOK.sol (h : DayOK l B T F E) (hO : Ord l.length B T F) (hf : 2 * l.length ≤ E.length) {p : List Pr} (hp : p.length = l.length)
    (ht : ∀ w, w < 2 * l.length → at2 p ((w : Nat) : Int) = (find (w : Int) E).getD 0 - at2 l (w : Int)) : SolP l B T F p := by
  have hr : ∀ w, w < 2 * l.length → (ready E B T F ((w : Nat) : Int)).2 = true ∧ at2 p (w : Int) = (ready E B T F (w : Int)).1 ∧ find (w : Int) E = some (at2 p (w : Int) + at2 l (w : Int)) := fun w hw => by
    obtain ⟨e, h1, h2, h3⟩ := h.full hf hw
    have := ht w hw
    rw [h1] at this ⊢
    have e2 : (some e).getD 0 = e := rfl
    rw [e2] at this
    exact ⟨h2, by omega, by congr 1; omega⟩
  refine ⟨hp, fun w hw => ?_⟩
  obtain ⟨h1, h2, h3⟩ := hr w hw
  obtain ⟨s1, s2, s3⟩ := kI (E := E) (pre B T F (w : Int)) 0 (Int.le_refl _) h1
  refine ⟨by rw [h2]; exact s1, fun v hv hW => ?_, ?_⟩
  · obtain ⟨e, he, hle⟩ := s2 (v : Int) ((Y9 hO (by omega) (by omega)).2 ⟨by omega, by omega, hW⟩)
    have h4 := (hr v hv).2.2
    rw [he] at h4
    have := Option.some.inj h4
    rw [h2]
    unfold ready
    omega
  · rcases s3 with s3 | ⟨v, hv, s3⟩
    · left; rw [h2]; exact s3
    · right
      obtain ⟨v0, v1, hW⟩ := (Y9 hO (by omega) (by omega)).1 hv
      have e : ((v.toNat : Nat) : Int) = v := by omega
      refine ⟨v.toNat, by omega, by rw [e]; exact hW, ?_⟩
      have h4 := (hr v.toNat (by omega)).2.2
      rw [e, s3] at h4
      have := Option.some.inj h4
      rw [h2, e]
      unfold ready
      omega
end
end Go.Fip.S
namespace Go.Fip
theorem qS {α : Type} [Inhabited α] {p : α → α → Bool} {l : List α} {q : α → Prop} (h : ∀ i, i < l.length → q (nth l (i : Int))) : ∀ k, k < l.length → q (bestTo p l k)
 | 0, hk => h 0 hk
 | k + 1, hk => by
  rw [bestTo]
  split
  ·exact h (k + 1) hk
  ·exact qS h k (by omega)
namespace S
def longer1 (l : List Pr) (x y : Int) : Bool := decide ((nth l y).1 < (nth l x).1)
def longer2 (l : List Pr) (x y : Int) : Bool := decide ((nth l y).2 < (nth l x).2)
def firstsTo (one b : Int) : Nat → List Int
 | 0 => []
 | k + 1 => firstsTo one b k ++ [if (k : Int) = one then b else 1 - b]
theorem firstsTo_length (one b : Int) : ∀ k, (firstsTo one b k).length = k
 | 0 => rfl
 | k + 1 => by simp [firstsTo, firstsTo_length one b k]
theorem firsts_t {one b : Int} {k : Nat} (h : (k : Int) = one) : firstsTo one b k ++ [b] = firstsTo one b (k + 1) := by rw [firstsTo, if_pos h]
theorem firsts_f {one b : Int} {k : Nat} (h : ¬ (k : Int) = one) : firstsTo one b k ++ [1 - b] = firstsTo one b (k + 1) := by rw [firstsTo, if_neg h]
end S
end Go.Fip
namespace Go.Fip.S
def shortsTo (l : List Pr) : Nat → List Int
 | 0 => []
 | k + 1 => if (nth l (k : Int)).1 ≤ (nth l (k : Int)).2 then shortsTo l k ++ [(k : Int)] else shortsTo l k
def longsTo (l : List Pr) : Nat → List Int
 | 0 => []
 | k + 1 => if (nth l (k : Int)).1 ≤ (nth l (k : Int)).2 then longsTo l k else longsTo l k ++ [(k : Int)]
section
variable {l : List Pr}
theorem sh_t {k : Nat} (h : (nth l (k : Int)).1 ≤ (nth l (k : Int)).2) : shortsTo l (k + 1) = shortsTo l k ++ [(k : Int)] ∧ longsTo l (k + 1) = longsTo l k := by rw [shortsTo, longsTo, if_pos h, if_pos h]; exact ⟨rfl, rfl⟩
theorem sh_f {k : Nat} (h : ¬ (nth l (k : Int)).1 ≤ (nth l (k : Int)).2) : shortsTo l (k + 1) = shortsTo l k ∧ longsTo l (k + 1) = longsTo l k ++ [(k : Int)] := by rw [shortsTo, longsTo, if_neg h, if_neg h]; exact ⟨rfl, rfl⟩
theorem parts_length : ∀ k, (shortsTo l k).length + (longsTo l k).length = k
 | 0 => rfl
 | k + 1 => by
  have := parts_length k
  by_cases h : (nth l (k : Int)).1 ≤ (nth l (k : Int)).2
  ·rw [(sh_t h).1, (sh_t h).2]; simp; omega
  ·rw [(sh_f h).1, (sh_f h).2]; simp; omega
theorem vA : ∀ {k : Nat} {x : Int}, x ∈ shortsTo l k ↔ (0 ≤ x ∧ x < (k : Int)) ∧ (nth l x).1 ≤ (nth l x).2
 | 0, x => by simp [shortsTo]; omega
 | k + 1, x => by
  by_cases h : (nth l (k : Int)).1 ≤ (nth l (k : Int)).2
  ·rw [(sh_t h).1, List.mem_append, vA, List.mem_singleton]
   constructor
   ·rintro (⟨h1, h2⟩ | rfl)
    ·exact ⟨by omega, h2⟩
    ·exact ⟨by omega, h⟩
   ·rintro ⟨h1, h2⟩
    by_cases e : x = (k : Int)
    ·exact .inr e
    ·exact .inl ⟨by omega, h2⟩
  ·rw [(sh_f h).1, vA]
   constructor
   ·rintro ⟨h1, h2⟩; exact ⟨by omega, h2⟩
   ·rintro ⟨h1, h2⟩
    by_cases e : x = (k : Int)
    ·subst e; exact absurd h2 h
    ·exact ⟨by omega, h2⟩
theorem vM : ∀ {k : Nat} {x : Int}, x ∈ longsTo l k ↔ (0 ≤ x ∧ x < (k : Int)) ∧ ¬ (nth l x).1 ≤ (nth l x).2
 | 0, x => by simp [longsTo]; omega
 | k + 1, x => by
  by_cases h : (nth l (k : Int)).1 ≤ (nth l (k : Int)).2
  ·rw [(sh_t h).2, vM]
   constructor
   ·rintro ⟨h1, h2⟩; exact ⟨by omega, h2⟩
   ·rintro ⟨h1, h2⟩
    by_cases e : x = (k : Int)
    ·subst e; exact absurd h h2
    ·exact ⟨by omega, h2⟩
  ·rw [(sh_f h).2, List.mem_append, vM, List.mem_singleton]
   constructor
   ·rintro (⟨h1, h2⟩ | rfl)
    ·exact ⟨by omega, h2⟩
    ·exact ⟨by omega, h⟩
   ·rintro ⟨h1, h2⟩
    by_cases e : x = (k : Int)
    ·exact .inr e
    ·exact .inl ⟨by omega, h2⟩
theorem shorts_in {k : Nat} (i : Nat) (hi : i < (shortsTo l k).length) : 0 ≤ nth (shortsTo l k) (i : Int) ∧ nth (shortsTo l k) (i : Int) < (k : Int) := by
 rw [yG hi]; exact (vA.1 (List.getElem_mem hi)).1
theorem longs_in {k : Nat} (i : Nat) (hi : i < (longsTo l k).length) : 0 ≤ nth (longsTo l k) (i : Int) ∧ nth (longsTo l k) (i : Int) < (k : Int) := by
 rw [yG hi]; exact (vM.1 (List.getElem_mem hi)).1
variable (l)
def shortR (k : Nat) : Int := bestTo (longer1 l) (shortsTo l k) ((shortsTo l k).length - 1)
def longR (k : Nat) : Int := bestTo (longer2 l) (longsTo l k) ((longsTo l k).length - 1)
def useShort (k : Nat) : Prop := (longsTo l k).length = 0 ∨ (0 < (shortsTo l k).length ∧ (nth l (longR l k)).2 ≤ (nth l (shortR l k)).1)
instance (k : Nat) : Decidable (useShort l k) := by unfold useShort; infer_instance
def rowS (k : Nat) : List Int := ((shortsTo l k).filter fun y => !decide (y = shortR l k)) ++ longsTo l k
def rowL (k : Nat) : List Int := ((longsTo l k).filter fun y => !decide (y = longR l k)) ++ shortsTo l k
def planOrd : List Int × List Int × List Int :=
 if useShort l l.length then (rowS l l.length ++ [shortR l l.length], [shortR l l.length] ++ rowS l l.length, firstsTo (shortR l l.length) 1 l.length)
 else ([longR l l.length] ++ rowL l l.length, rowL l l.length ++ [longR l l.length], firstsTo (longR l l.length) 0 l.length)
variable {l}
theorem planOrd_t {k : Nat} (hk : k = l.length) (h : useShort l k) : planOrd l = (rowS l k ++ [shortR l k], [shortR l k] ++ rowS l k, firstsTo (shortR l k) 1 l.length) := by
 subst hk; unfold planOrd; rw [if_pos h]
theorem planOrd_f {k : Nat} (hk : k = l.length) (h : ¬ useShort l k) : planOrd l = ([longR l k] ++ rowL l k, rowL l k ++ [longR l k], firstsTo (longR l k) 0 l.length) := by
 subst hk; unfold planOrd; rw [if_neg h]
end
end Go.Fip.S
namespace Go.Fip.S
theorem shortR_in {l : List Pr} {k : Nat} (h : 0 < (shortsTo l k).length) : (0 ≤ shortR l k ∧ shortR l k < (k : Int)) :=
 qS (l := shortsTo l k) (q := fun x : Int => 0 ≤ x ∧ x < (k : Int)) (fun i hi => shorts_in i hi) _ (by omega)
theorem longR_in {l : List Pr} {k : Nat} (h : 0 < (longsTo l k).length) : (0 ≤ longR l k ∧ longR l k < (k : Int)) :=
 qS (l := longsTo l k) (q := fun x : Int => 0 ≤ x ∧ x < (k : Int)) (fun i hi => longs_in i hi) _ (by omega)
end Go.Fip.S
namespace Go.Fip.S
section
variable {l : List Pr}
theorem planOrd_len : (planOrd l).1.length ≤ 3 * l.length + 1 ∧ (planOrd l).2.1.length ≤ 3 * l.length + 1 ∧ (planOrd l).2.2.length ≤ 3 * l.length + 1 := by
 have hp := parts_length (l := l) l.length
 have h1 := List.length_filter_le (fun y : Int => !decide (y = shortR l l.length)) (shortsTo l l.length)
 have h2 := List.length_filter_le (fun y : Int => !decide (y = longR l l.length)) (longsTo l l.length)
 unfold planOrd rowS rowL
 split <;> simp only [List.length_append, List.length_cons, List.length_nil, firstsTo_length] <;> omega
variable (l)
noncomputable def plan : List Pr × Int := if checkJobs l ≠ 0 then ([], checkJobs l) else play l (planOrd l).1 (planOrd l).2.1 (planOrd l).2.2
variable {l}
theorem plan1 (h : ¬ checkJobs l = 0) : plan l = ([], checkJobs l) := by unfold plan; rw [if_pos h]
theorem plan2 (h : checkJobs l = 0) : plan l = play l (planOrd l).1 (planOrd l).2.1 (planOrd l).2.2 := by unfold plan; rw [if_neg (by omega)]
end
end Go.Fip.S
namespace Go.Fip.S
theorem of_pair {a b : Pr} (h : [a.1, a.2] = [b.1, b.2]) : a = b := by
 simp only [List.cons.injEq, and_true] at h
 exact Prod.ext h.1 h.2
theorem to_pair {a b : Pr} (h : a = b) : [a.1, a.2] = [b.1, b.2] := by rw [h]
theorem same_ext {a b : List Pr} (hl : a.length = b.length) (h : ∀ i, i < a.length → nth a (i : Int) = nth b (i : Int)) : a = b := by
 refine List.ext_getElem hl fun i h1 h2 => ?_
 have := h i h1
 rwa [yG h1, yG h2] at this
end Go.Fip.S
namespace Go.Fip
namespace Pt
abbrev Qd := Int × Int × Int × Int
section
variable (a b m : Int)
def n1 (p q r s : Int) : Int := min ((a * q - p * b) / (r * b - a * s)) ((m - q) / s)
def n2 (p q r s : Int) : Int := min ((r * b - a * s) / (a * q - p * b)) ((m - s) / q)
def st1 (x : Qd) : Qd := if x.2.2.2 = 0 then (a / b, x.2.1, x.2.2.1, x.2.2.2) else (x.1 + n1 a b m x.1 x.2.1 x.2.2.1 x.2.2.2 * x.2.2.1, x.2.1 + n1 a b m x.1 x.2.1 x.2.2.1 x.2.2.2 * x.2.2.2, x.2.2.1, x.2.2.2)
def st2 (x : Qd) : Qd := (x.1, x.2.1, x.2.2.1 + n2 a b m x.1 x.2.1 x.2.2.1 x.2.2.2 * x.1, x.2.2.2 + n2 a b m x.1 x.2.1 x.2.2.1 x.2.2.2 * x.2.1)
def it : Nat → Qd
 | 0 => (0, 1, 1, 0)
 | k + 1 => st2 a b m (st1 a b m (it k))
def bes : Qd := it a b m (2 * m.toNat + 2)
end
structure Good (a b m p q r s : Int) : Prop where
 q1 : 1 ≤ q
 qm : q ≤ m
 s0 : 0 ≤ s
 sm : s ≤ m
 p0 : 0 ≤ p
 r1 : 1 ≤ r
 lo : p * b < a * q
 hi : a * s < r * b
 det : r * q - p * s = 1
structure In (a b m : Int) : Prop where
 a1 : 1 ≤ a
 a2 : a ≤ 10000
 b1 : 1 ≤ b
 b2 : b ≤ 10000
 g : gcd a b = 1
 m1 : 1 ≤ m
 m2 : m ≤ 1000
 mb : m < b
section
variable {a b m p q r s : Int}
theorem copr (hi : In a b m) {x y : Int} (hx : 1 ≤ x) (hxm : x ≤ m) : a * x ≠ y * b := fun h => by
 have hd : b ∣ a * x := ⟨y, by rw [h, Int.mul_comm]⟩
 have hg : Nat.Coprime b.natAbs a.natAbs := by
  have := hi.g
  unfold gcd Int.gcd at this
  unfold Nat.Coprime
  rw [Nat.gcd_comm]
  omega
 have hd2 : b.natAbs ∣ a.natAbs * x.natAbs := by rw [← Int.natAbs_mul]; exact Int.natAbs_dvd_natAbs.2 hd
 have h1 : b ∣ x := Int.natAbs_dvd_natAbs.1 (hg.dvd_of_dvd_mul_left hd2)
 have h2 := Int.le_of_dvd (by omega) h1
 have := hi.mb
 omega
theorem Good.start (hi : In a b m) : Good a b m 0 1 1 0 := by
 have h1 := hi.a1
 have h2 := hi.b1
 have h3 := hi.m1
 exact ⟨by omega, by omega, by omega, by omega, by omega, by omega, by omega, by omega, by omega⟩
structure Bds (a b m p q r s : Int) : Prop where
 aq : 0 ≤ a * q ∧ a * q ≤ 10000000
 pb : 0 ≤ p * b ∧ p * b < a * q
 sa : 0 ≤ a * s ∧ a * s < r * b
 rb : r * b ≤ 100000000010000
 p : p ≤ 10000000
 r : r ≤ 10000000001
theorem Good.bds (h : Good a b m p q r s) (hi : In a b m) : Bds a b m p q r s := by
 have ha := mul_bd (a := a) (b := q) (A := 10000) (B := 1000) (by have := hi.a1; omega) hi.a2 (by have := h.q1; omega) (by have := h.qm; have := hi.m2; omega)
 have hs := mul_bd (a := a) (b := s) (A := 10000) (B := 1000) (by have := hi.a1; omega) hi.a2 h.s0 (by have := h.sm; have := hi.m2; omega)
 have hpb : 0 ≤ p * b := Int.mul_nonneg h.p0 (by have := hi.b1; omega)
 have hp : p ≤ p * b := by
  have := Int.mul_le_mul_of_nonneg_left hi.b1 h.p0
  omega
 have hlo := h.lo
 have hhi := h.hi
 have hp7 : p ≤ 10000000 := by omega
 have hps := mul_bd (a := p) (b := s) (A := 10000000) (B := 1000) h.p0 hp7 h.s0 (by have := h.sm; have := hi.m2; omega)
 have hd := h.det
 have hr : r ≤ r * q := by
  have := Int.mul_le_mul_of_nonneg_left h.q1 (show 0 ≤ r by have := h.r1; omega)
  omega
 have hr10 : r ≤ 10000000001 := by omega
 have hrb := mul_bd (a := r) (b := b) (A := 10000000001) (B := 10000) (by have := h.r1; omega) hr10 (by have := hi.b1; omega) hi.b2
 exact ⟨by omega, ⟨hpb, hlo⟩, ⟨hs.1, hhi⟩, by omega, hp7, hr10⟩
theorem n1_bd (h : Good a b m p q r s) (hs : ¬ s = 0) : 0 ≤ n1 a b m p q r s ∧ n1 a b m p q r s ≤ (m - q) / s ∧ n1 a b m p q r s ≤ m - q ∧ n1 a b m p q r s * s ≤ m - q ∧ n1 a b m p q r s * (r * b - a * s) ≤ a * q - p * b := by
 have h1 := h.lo
 have h2 := h.hi
 have h3 := h.s0
 have h4 := h.qm
 have hX : 0 ≤ (a * q - p * b) / (r * b - a * s) := Int.ediv_nonneg (by omega) (by omega)
 have hY : 0 ≤ (m - q) / s := Int.ediv_nonneg (by omega) (by omega)
 have hX2 := Int.ediv_mul_le (a * q - p * b) (show r * b - a * s ≠ 0 by omega)
 have hY2 := Int.ediv_mul_le (m - q) (show s ≠ 0 by omega)
 have hY3 : (m - q) / s ≤ (m - q) / s * s := by
  have := Int.mul_le_mul_of_nonneg_left (show 1 ≤ s by omega) hY
  omega
 have hm1 : n1 a b m p q r s ≤ (a * q - p * b) / (r * b - a * s) := Int.min_le_left _ _
 have hm2 : n1 a b m p q r s ≤ (m - q) / s := Int.min_le_right _ _
 have hm0 : 0 ≤ n1 a b m p q r s := by unfold n1; omega
 have k1 := Int.mul_le_mul_of_nonneg_right hm1 (show 0 ≤ r * b - a * s by omega)
 have k2 := Int.mul_le_mul_of_nonneg_right hm2 (show 0 ≤ s by omega)
 exact ⟨hm0, hm2, by omega, by omega, by omega⟩
theorem n2_bd (h : Good a b m p q r s) : 0 ≤ n2 a b m p q r s ∧ n2 a b m p q r s ≤ (m - s) / q ∧ n2 a b m p q r s ≤ m - s ∧ n2 a b m p q r s * q ≤ m - s ∧ n2 a b m p q r s * (a * q - p * b) ≤ r * b - a * s := by
 have h1 := h.lo
 have h2 := h.hi
 have h3 := h.q1
 have h4 := h.sm
 have hX : 0 ≤ (r * b - a * s) / (a * q - p * b) := Int.ediv_nonneg (by omega) (by omega)
 have hY : 0 ≤ (m - s) / q := Int.ediv_nonneg (by omega) (by omega)
 have hX2 := Int.ediv_mul_le (r * b - a * s) (show a * q - p * b ≠ 0 by omega)
 have hY2 := Int.ediv_mul_le (m - s) (show q ≠ 0 by omega)
 have hY3 : (m - s) / q ≤ (m - s) / q * q := by
  have := Int.mul_le_mul_of_nonneg_left h3 hY
  omega
 have hm1 : n2 a b m p q r s ≤ (r * b - a * s) / (a * q - p * b) := Int.min_le_left _ _
 have hm2 : n2 a b m p q r s ≤ (m - s) / q := Int.min_le_right _ _
 have hm0 : 0 ≤ n2 a b m p q r s := by unfold n2; omega
 have k1 := Int.mul_le_mul_of_nonneg_right hm1 (show 0 ≤ a * q - p * b by omega)
 have k2 := Int.mul_le_mul_of_nonneg_right hm2 (show 0 ≤ q by omega)
 exact ⟨hm0, hm2, by omega, by omega, by omega⟩
theorem Good.one0 (h : Good a b m p q r s) (hs : s = 0) (hi : In a b m) : Good a b m (a / b) q r s := by
 subst hs
 have hd := h.det
 have hq := h.q1
 have hr := h.r1
 have hq1 : q = 1 := by
  have h1 : r * q = 1 := by omega
  have : q ≤ r * q := by
   have := Int.mul_le_mul_of_nonneg_right hr (show 0 ≤ q by omega)
   omega
  omega
 subst hq1
 have h0 : 0 ≤ a / b := Int.ediv_nonneg (by have := hi.a1; omega) (by have := hi.b1; omega)
 have h1 := Int.ediv_mul_le a (show b ≠ 0 by have := hi.b1; omega)
 have h2 := copr hi (x := 1) (y := a / b) (by omega) h.qm
 exact ⟨hq, h.qm, h.s0, h.sm, h0, hr, by omega, h.hi, by omega⟩
theorem Good.one (h : Good a b m p q r s) (hs : ¬ s = 0) (hi : In a b m) : Good a b m (p + n1 a b m p q r s * r) (q + n1 a b m p q r s * s) r s := by
 have hn := n1_bd h hs
 generalize n1 a b m p q r s = n at hn
 obtain ⟨h0, h1, h1', h2, h3⟩ := hn
 have hns : 0 ≤ n * s := Int.mul_nonneg h0 h.s0
 have hnr : 0 ≤ n * r := Int.mul_nonneg h0 (by have := h.r1; omega)
 have hq := h.q1
 have hp := h.p0
 have hlo := h.lo
 have hd := h.det
 have e1 : (p + n * r) * b = p * b + n * (r * b) := by rw [Int.add_mul, Int.mul_assoc]
 have e2 : a * (q + n * s) = a * q + n * (a * s) := by rw [Int.mul_add, ← Int.mul_assoc, Int.mul_comm a n, Int.mul_assoc]
 have e3 : n * (r * b - a * s) = n * (r * b) - n * (a * s) := Int.mul_sub _ _ _
 have e4 : r * (q + n * s) = r * q + n * r * s := by rw [Int.mul_add, ← Int.mul_assoc, Int.mul_comm r n]
 have e5 : (p + n * r) * s = p * s + n * r * s := Int.add_mul _ _ _
 have hne := copr hi (x := q + n * s) (y := p + n * r) (by omega) (by omega)
 exact ⟨by omega, by omega, h.s0, h.sm, by omega, h.r1, by omega, h.hi, by omega⟩
theorem Good.two (h : Good a b m p q r s) (hi : In a b m) : Good a b m p q (r + n2 a b m p q r s * p) (s + n2 a b m p q r s * q) := by
 have hn := n2_bd h
 generalize n2 a b m p q r s = n at hn
 obtain ⟨h0, h1, h1', h2, h3⟩ := hn
 have hnq : 0 ≤ n * q := Int.mul_nonneg h0 (by have := h.q1; omega)
 have hnp : 0 ≤ n * p := Int.mul_nonneg h0 h.p0
 have hq := h.q1
 have hp := h.p0
 have hs := h.s0
 have hr := h.r1
 have hhi := h.hi
 have hd := h.det
 have e1 : (r + n * p) * b = r * b + n * (p * b) := by rw [Int.add_mul, Int.mul_assoc]
 have e2 : a * (s + n * q) = a * s + n * (a * q) := by rw [Int.mul_add, ← Int.mul_assoc, Int.mul_comm a n, Int.mul_assoc]
 have e3 : n * (a * q - p * b) = n * (a * q) - n * (p * b) := Int.mul_sub _ _ _
 have e4 : (r + n * p) * q = r * q + n * p * q := Int.add_mul _ _ _
 have e5 : p * (s + n * q) = p * s + n * p * q := by rw [Int.mul_add, ← Int.mul_assoc, Int.mul_comm p n]
 have hne : a * (s + n * q) ≠ (r + n * p) * b := by
  by_cases hz : s + n * q = 0
  ·rw [hz, Int.mul_zero]
   have := Int.mul_le_mul_of_nonneg_right (show 1 ≤ r + n * p by omega) (show 0 ≤ b by have := hi.b1; omega)
   have := hi.b1
   omega
  ·exact copr hi (by omega) (by omega)
 exact ⟨hq, h.qm, by omega, by omega, hp, by omega, h.lo, by omega, by omega⟩
def GoodQ (a b m : Int) (x : Qd) : Prop := Good a b m x.1 x.2.1 x.2.2.1 x.2.2.2
theorem GoodQ.st1 {x : Qd} (h : GoodQ a b m x) (hi : In a b m) : GoodQ a b m (st1 a b m x) := by
 unfold Pt.st1
 split
 ·rename_i hs; exact Good.one0 h hs hi
 ·rename_i hs; exact Good.one h hs hi
theorem GoodQ.st2 {x : Qd} (h : GoodQ a b m x) (hi : In a b m) : GoodQ a b m (st2 a b m x) := Good.two h hi
theorem it_good (hi : In a b m) : ∀ k, GoodQ a b m (it a b m k)
 | 0 => Good.start hi
 | k + 1 => ((it_good hi k).st1 hi).st2 hi
theorem st_more {x : Qd} (h : GoodQ a b m x) (hi : In a b m) (hne : st2 a b m (st1 a b m x) ≠ x) : x.2.1 + x.2.2.2 + 1 ≤ (st2 a b m (st1 a b m x)).2.1 + (st2 a b m (st1 a b m x)).2.2.2 := by
  obtain ⟨p, q, r, s⟩ := x
  have hg : Good a b m p q r s := h
  have hgo := GoodQ.st1 h hi
  by_cases hs : s = 0
  · -- at the beginning
    have e : st1 a b m (p, q, r, s) = (a / b, q, r, s) := if_pos hs
    rw [e] at hgo ⊢
    have hg1 : Good a b m (a / b) q r s := hgo
    show q + s + 1 ≤ q + (s + n2 a b m (a / b) q r s * q)
    have hX : 1 ≤ (r * b - a * s) / (a * q - a / b * b) := by
      have h1 := hg1.lo
      have hd := hg1.det
      have hr := hg1.r1
      have hq := hg1.q1
      subst hs
      have hq1 : q = 1 := by
        have h1 : r * q = 1 := by omega
        have : q ≤ r * q := by
          have := Int.mul_le_mul_of_nonneg_right hr (show 0 ≤ q by omega)
          omega
        omega
      subst hq1
      have hr1 : r = 1 := by omega
      subst hr1
      have hm := Int.emod_lt_of_pos a (show 0 < b by have := hi.b1; omega)
      have he := Int.emod_add_mul_ediv a b
      rw [Int.mul_comm] at he
      refine (Int.le_ediv_iff_mul_le (by omega)).2 ?_
      omega
    have hY : 1 ≤ (m - s) / q := by
      have hq := hg1.q1
      have hqm := hg1.qm
      refine (Int.le_ediv_iff_mul_le (by omega)).2 ?_
      omega
    have hn : 1 ≤ n2 a b m (a / b) q r s := by unfold n2; omega
    have := Int.mul_le_mul_of_nonneg_right hn (show 0 ≤ q by have := hg.q1; omega)
    have := hg.q1
    omega
  · have e : st1 a b m (p, q, r, s) = (p + n1 a b m p q r s * r, q + n1 a b m p q r s * s, r, s) := if_neg hs
    rw [e] at hgo hne ⊢
    have hg1 : Good a b m (p + n1 a b m p q r s * r) (q + n1 a b m p q r s * s) r s := hgo
    have hb1 := n1_bd hg hs
    have hb2 := n2_bd hg1
    simp only [st2] at hne ⊢
    generalize n1 a b m p q r s = n at *
    generalize n2 a b m (p + n * r) (q + n * s) r s = n' at *
    have h1 : 0 ≤ n * s := Int.mul_nonneg hb1.1 hg.s0
    have h2 : 0 ≤ n' * (q + n * s) := Int.mul_nonneg hb2.1 (by have := hg1.q1; omega)
    show q + s + 1 ≤ q + n * s + (s + n' * (q + n * s))
    by_cases hn : n = 0
    · subst hn
      by_cases hn' : n' = 0
      · subst hn'
        simp at hne
      · have := Int.mul_le_mul_of_nonneg_right (show 1 ≤ n' by omega) (show 0 ≤ q + 0 * s by have := hg1.q1; omega)
        have := hg1.q1
        omega
    · have := Int.mul_le_mul_of_nonneg_right (show 1 ≤ n by omega) hg.s0
      have := hg.s0
      omega
theorem JR {k : Nat} (h : it a b m (k + 1) = it a b m k) : ∀ j, it a b m (k + j) = it a b m k
 | 0 => rfl
 | j + 1 => by
  show st2 a b m (st1 a b m (it a b m (k + j))) = _
  rw [JR h j]
  exact h
theorem zCa {k : Nat} (h : it a b m (k + 1) = it a b m k) (hk : (k : Int) ≤ 2 * m + 2) (hm : 0 ≤ m) : bes a b m = it a b m k := by
 have h2 := JR h (2 * m.toNat + 2 - k)
 unfold bes
 rw [← h2]
 congr 1
 omega
theorem GQ (hi : In a b m) : (k : Nat) → 1 ≤ k → 1 ≤ (it a b m k).2.2.2
  | 0, h => by omega
  | 1, _ => by
    have h := st_more (x := (0, 1, 1, 0)) (Good.start hi) hi (fun he => by
      have h1 : (st2 a b m (st1 a b m (0, 1, 1, 0))).2.2.2 = 0 := by rw [he]
      have e : st1 a b m (0, 1, 1, 0) = (a / b, 1, 1, 0) := rfl
      rw [e] at h1
      have hg1 : Good a b m (a / b) 1 1 0 := GoodQ.st1 (x := (0, 1, 1, 0)) (Good.start hi) hi
      have hX : 1 ≤ (1 * b - a * 0) / (a * 1 - a / b * b) := by
        have hm := Int.emod_lt_of_pos a (show 0 < b by have := hi.b1; omega)
        have he := Int.emod_add_mul_ediv a b
        rw [Int.mul_comm] at he
        have hl := hg1.lo
        refine (Int.le_ediv_iff_mul_le (by omega)).2 ?_
        omega
      have hY : 1 ≤ (m - 0) / 1 := by have := hi.m1; omega
      have hn : 1 ≤ n2 a b m (a / b) 1 1 0 := by unfold n2; omega
      simp only [st2] at h1
      omega)
    have h2 : (it a b m 1).2.1 = 1 := rfl
    show 1 ≤ (st2 a b m (st1 a b m (0, 1, 1, 0))).2.2.2
    have h3 : (st2 a b m (st1 a b m (0, 1, 1, 0))).2.1 = 1 := rfl
    simp only at h
    omega
  | k + 2, _ => by
    have h1 := GQ hi (k + 1) (by omega)
    show 1 ≤ (st2 a b m (st1 a b m (it a b m (k + 1)))).2.2.2
    have hg := it_good hi (k + 1)
    generalize it a b m (k + 1) = x at *
    have hg1 := hg.st1 hi
    have e : (st1 a b m x).2.2.2 = x.2.2.2 := by unfold st1; split <;> rfl
    have hb := n2_bd (show Good a b m _ _ _ _ from hg1)
    have hq := (show Good a b m _ _ _ _ from hg1).q1
    have := Int.mul_nonneg hb.1 (show 0 ≤ (st1 a b m x).2.1 by omega)
    simp only [st2]
    omega
end
end Pt
end Go.Fip
namespace Go.Fip
namespace Pt
def beside (a b m : Int) : Qd := if b ≤ m then (a, b, a, b) else bes a b m
theorem In.of {a b m : Int} (hc : chk (a, b) = 0) (hm : 1 ≤ m ∧ m ≤ 1000) (h : m < b) : In a b m := by
 obtain ⟨⟨h1, h2⟩, h3⟩ := chk_iff.1 hc
 exact ⟨h1.1, h1.2, h2.1, h2.2, h3, hm.1, hm.2, h⟩
theorem beside_1 {a b m : Int} (h : b ≤ m) : beside a b m = (a, b, a, b) := if_pos h
theorem beside_2 {a b m p q r s : Int} {k : Nat} (h : ¬ b ≤ m) (hit : it a b m k = (p, q, r, s)) (hst : st2 a b m (st1 a b m (p, q, r, s)) = (p, q, r, s)) (hk : (k : Int) ≤ 2 * m + 2) (hm : 0 ≤ m) : beside a b m = (p, q, r, s) := by
 unfold beside
 rw [if_neg h, zCa (k := k) (by show st2 a b m (st1 a b m (it a b m k)) = _; rw [hit]; exact hst) hk hm, hit]
end Pt
end Go.Fip
namespace Go.Fip
namespace Pt
theorem q_of {p q r s p' q' r' s' : Int} (h : [p, q, r, s] = [p', q', r', s']) : ((p, q, r, s) : Qd) = (p', q', r', s') := by
 simp only [List.cons.injEq, and_true] at h
 obtain ⟨rfl, rfl, rfl, rfl⟩ := h
 rfl
theorem q_ne {p q r s p' q' r' s' : Int} (h : ¬ [p, q, r, s] = [p', q', r', s']) : ((p', q', r', s') : Qd) ≠ (p, q, r, s) := fun e => by
 simp only [Prod.mk.injEq] at e
 obtain ⟨rfl, rfl, rfl, rfl⟩ := e
 exact h rfl
end Pt
end Go.Fip
namespace Go.Fip
namespace Pt
def nearer (f x y : Pr) : Bool := decide (max (gap f x) (-(gap f x)) * y.2 < max (gap f y) (-(gap f y)) * x.2)
structure Nw (x : Pr) : Prop where
 n0 : 0 ≤ x.1
 n1 : x.1 ≤ 10000000001
 d0 : 0 ≤ x.2
 d1 : x.2 ≤ 1000
theorem gap_bd {f x : Pr} (h1 : 1 ≤ f.1 ∧ f.1 ≤ 10000) (h2 : 1 ≤ f.2 ∧ f.2 ≤ 10000) (hx : Nw x) : (0 ≤ x.1 * f.2 ∧ x.1 * f.2 ≤ 100000000010000) ∧ (0 ≤ f.1 * x.2 ∧ f.1 * x.2 ≤ 10000000) := by
 have a := mul_bd (a := x.1) (b := f.2) (A := 10000000001) (B := 10000) hx.n0 hx.n1 (by omega) h2.2
 have b := mul_bd (a := f.1) (b := x.2) (A := 10000) (B := 1000) (by omega) h1.2 hx.d0 hx.d1
 omega
theorem near_bd {f x y : Pr} (h1 : 1 ≤ f.1 ∧ f.1 ≤ 10000) (h2 : 1 ≤ f.2 ∧ f.2 ≤ 10000) (hx : Nw x) (hy : Nw y) : 0 ≤ max (gap f x) (-(gap f x)) * y.2 ∧ max (gap f x) (-(gap f x)) * y.2 ≤ 100000000010000000 := by
 have h := gap_bd h1 h2 hx
 have e : gap f x = x.1 * f.2 - f.1 * x.2 := rfl
 have a := mul_bd (a := max (gap f x) (-(gap f x))) (b := y.2) (A := 100000000010000) (B := 1000) (by omega) (by omega) hy.d0 hy.d1
 omega
def pair (a b m : Int) : List Pr := Ps.sorted (fun x y : Pr => decide (x.2 - y.2 < 0)) [((beside a b m).1, (beside a b m).2.1), ((beside a b m).2.2.1, (beside a b m).2.2.2)]
def near (a b m : Int) : Pr := bestTo (nearer (a, b)) (pair a b m) ((pair a b m).length - 1)
end Pt
end Go.Fip
namespace Go.Fip
namespace Pt
structure Besides (a b m : Int) (d : Qd) : Prop where
 nl : Nw (d.1, d.2.1)
 nu : Nw (d.2.2.1, d.2.2.2)
 q1 : 1 ≤ d.2.1
 qm : d.2.1 ≤ m
 s1 : 1 ≤ d.2.2.2
 sm : d.2.2.2 ≤ m
 lo : d.1 * b ≤ a * d.2.1
 hi : a * d.2.2.2 ≤ d.2.2.1 * b
 le : d.1 * d.2.2.2 ≤ d.2.2.1 * d.2.1
 wh : a ≤ 8 * b → d.1 ≤ 8 * d.2.1 ∧ d.2.2.1 ≤ 8 * d.2.2.2
theorem beside_prop {a b m : Int} (hc : chk (a, b) = 0) (hm : 1 ≤ m ∧ m ≤ 1000) : Besides a b m (beside a b m) := by
  obtain ⟨⟨h1, h2⟩, h3⟩ := chk_iff.1 hc
  have h11 := h1.1
  have h12 := h1.2
  have h21 := h2.1
  have h22 := h2.2
  by_cases hle : b ≤ m
  · rw [beside_1 hle]
    exact ⟨⟨by simp only at *; omega, by simp only at *; omega, by simp only at *; omega, by simp only at *; omega⟩, ⟨by simp only at *; omega, by simp only at *; omega, by simp only at *; omega, by simp only at *; omega⟩, h21, hle, h21, hle, Int.le_refl _, Int.le_refl _, Int.le_refl _, fun h => ⟨h, h⟩⟩
  · have hI := In.of hc hm (by omega)
    have e : beside a b m = it a b m (2 * m.toNat + 2) := if_neg hle
    rw [e]
    have hs := GQ hI (2 * m.toNat + 2) (by omega)
    have hg := it_good hI (2 * m.toNat + 2)
    generalize it a b m (2 * m.toNat + 2) = x at *
    obtain ⟨p, q, r, s⟩ := x
    have hg : Good a b m p q r s := hg
    have hs : 1 ≤ s := hs
    have hb := hg.bds hI
    have k1 := hg.lo
    have k2 := hg.hi
    have k3 := hg.det
    have k4 := hg.qm
    have k5 := hg.sm
    have k6 := hg.q1
    have k7 := hb.p
    have k8 := hb.r
    have k9 := hg.p0
    have k10 := hg.r1
    refine ⟨⟨k9, by simp only; omega, by simp only; omega, by simp only; omega⟩, ⟨by simp only; omega, by simp only; omega, by simp only; omega, by simp only; omega⟩, k6, k4, hs, k5, by simp only; omega, by simp only; omega, by simp only; omega, fun h8 => ?_⟩
    have hp : p < 8 * q := by
      refine Classical.byContradiction fun hn => ?_
      have hb0 : 0 ≤ b := by omega
      have i1 := Int.mul_le_mul_of_nonneg_right (show 8 * q ≤ p by omega) hb0
      have i2 := Int.mul_le_mul_of_nonneg_right h8 (show 0 ≤ q by omega)
      have i3 : 8 * b * q = 8 * q * b := by rw [Int.mul_assoc, Int.mul_comm b q, ← Int.mul_assoc]
      omega
    refine ⟨by simp only; omega, ?_⟩
    show r ≤ 8 * s
    refine Classical.byContradiction fun hn => ?_
    have i1 := Int.mul_le_mul_of_nonneg_right (show 1 ≤ r - 8 * s by omega) (show 0 ≤ q by omega)
    have i2 := Int.mul_le_mul_of_nonneg_right (show 1 ≤ 8 * q - p by omega) (show 0 ≤ s by omega)
    have i3 : (r - 8 * s) * q = r * q - 8 * s * q := Int.sub_mul _ _ _
    have i4 : (8 * q - p) * s = 8 * q * s - p * s := Int.sub_mul _ _ _
    have i5 : 8 * s * q = 8 * q * s := by rw [Int.mul_assoc, Int.mul_comm s q, ← Int.mul_assoc]
    omega
end Pt
end Go.Fip
namespace Go.Fip
namespace Pt
theorem pair_len {a b m : Int} : (pair a b m).length = 2 := Ps.sorted_len
theorem pair_nw {a b m : Int} (hc : chk (a, b) = 0) (hm : 1 ≤ m ∧ m ≤ 1000) : Ps.All Nw (pair a b m) := by
 have h := beside_prop hc hm
 refine Ps.All.srt (fun x hx => ?_) _ (by simp)
 simp only [List.mem_cons, List.not_mem_nil, or_false] at hx
 rcases hx with rfl | rfl
 ·exact h.nl
 ·exact h.nu
theorem near_nw {a b m : Int} (hc : chk (a, b) = 0) (hm : 1 ≤ m ∧ m ≤ 1000) : Nw (near a b m) :=
 qS (q := Nw) (fun i hi => (pair_nw hc hm).nth (by omega) (by omega)) _ (by rw [pair_len]; omega)
theorem chk_rg {a b : Int} (hc : chk (a, b) = 0) : (1 ≤ a ∧ a ≤ 10000) ∧ (1 ≤ b ∧ b ≤ 10000) := (chk_iff.1 hc).1
end Pt
end Go.Fip
namespace Go.Fip
def RevAt (D M : List Int) (i : Nat) : Prop := M.length = D.length ∧ ∀ p, p < D.length → nth M (p : Int) = if p < i ∨ D.length - 1 - p < i then nth D ((D.length - 1 - p : Nat) : Int) else nth D (p : Int)
theorem RevAt.start (D : List Int) : RevAt D D 0 := ⟨rfl, fun p _ => by rw [if_neg (by omega)]⟩
theorem RevAt.step {D M : List Int} {i : Nat} (h : RevAt D M i) (hi : i < D.length - 1 - i) : RevAt D ((M.set i (nth M ((D.length - 1 - i : Nat) : Int))).set (D.length - 1 - i) (nth M (i : Int))) (i + 1) := by
 obtain ⟨h1, h2⟩ := h
 refine ⟨by simpa using h1, fun p hp => ?_⟩
 by_cases e1 : p = D.length - 1 - i
 ·subst e1
  rw [qE (by simp; omega), h2 i (by omega), if_neg (by omega), if_pos (by omega)]
  congr 1; omega
 ·rw [jH (fun e => e1 e.symm)]
  by_cases e2 : p = i
  ·subst e2
   rw [qE (by omega), h2 _ (by omega), if_neg (by omega), if_pos (by omega)]
  ·rw [jH (fun e => e2 e.symm), h2 p hp]
   by_cases e3 : p < i ∨ D.length - 1 - p < i
   ·rw [if_pos e3, if_pos (by omega)]
   ·rw [if_neg e3, if_neg (by omega)]
theorem RevAt.done {D M : List Int} {i : Nat} (h : RevAt D M i) (hi : ¬ i < D.length - 1 - i) : M = D.reverse := by
 obtain ⟨h1, h2⟩ := h
 refine List.ext_getElem (by simpa using h1) fun p hp hp2 => ?_
 have hp' : p < D.length := by omega
 have := h2 p hp'
 rw [yG hp] at this
 rw [this, List.getElem_reverse, ← yG (by omega)]
 split
 ·rfl
 ·congr 1; omega
theorem W7 {L : List Int} {off : Nat} {i : Int} {a : Int} (hi : 0 ≤ i) : (L.set ((off : Int) + i).toNat a).drop off = (L.drop off).set i.toNat a := by
 rw [List.drop_set, if_neg (by omega)]
 congr 1; omega
end Go.Fip
namespace Go.Fip
theorem zBk {D L : List Int} {off i : Nat} {j : Int} (hj0 : 0 ≤ j) (hj : j = ((D.length - 1 - i : Nat) : Int)) (h : RevAt D (((L.drop off).set i (nth (L.drop off) ((D.length - 1 - i : Nat) : Int))).set (D.length - 1 - i) (nth (L.drop off) (i : Int))) (i + 1)) :
  RevAt D (((L.set ((off : Int) + (i : Int)).toNat (nth (L.drop off) j)).set ((off : Int) + j).toNat (nth (L.drop off) (i : Int))).drop off) (i + 1) := by
 rw [W7 hj0, W7 (Int.natCast_nonneg i)]
 subst hj
 exact h
end Go.Fip
namespace Go.Fip.S
section
variable {l : List Pr} {B T F : List Int} {E : Mm}
structure Walk (l : List Pr) (B T F : List Int) (E : Mm) (Q : List Int) (x : Int) : Prop where
 inn : ∀ y ∈ Q, 0 ≤ y ∧ y < 2 * (l.length : Int)
 nd : Q.Nodup
 at0 : 0 ≤ x
 at1 : x < 2 * (l.length : Int)
 no : find x E = none
 lnk : ∀ i, i + 1 < Q.length → Waits B T F (nth Q (i : Int)) (nth Q ((i + 1 : Nat) : Int))
 last : 0 < Q.length → Waits B T F (nth Q ((Q.length - 1 : Nat) : Int)) x
theorem Walk.len {Q : List Int} {x : Int} (h : Walk l B T F E Q x) : Q.length ≤ 2 * l.length :=
 jY (2 * l.length) Q h.nd (fun y hy => by have := h.inn y hy; omega)
theorem Walk.push {Q : List Int} {x y : Int} (h : Walk l B T F E Q x) (hx : place Q x < 0) (hy0 : 0 ≤ y) (hy1 : y < 2 * (l.length : Int)) (hyn : find y E = none) (hW : Waits B T F x y) : Walk l B T F E (Q ++ [x]) y where
  inn := fun z hz => by
    rcases List.mem_append.1 hz with hz | hz
    · exact h.inn z hz
    · rw [List.mem_singleton] at hz; subst hz; exact ⟨h.at0, h.at1⟩
  nd := by
    rw [List.nodup_append]
    refine ⟨h.nd, by simp, fun a ha b hb => ?_⟩
    rw [List.mem_singleton] at hb
    subst hb
    intro e
    subst e
    have := vX.2 ha
    omega
  at0 := hy0
  at1 := hy1
  no := hyn
  lnk := fun i hi => by
    rw [List.length_append, List.length_singleton] at hi
    by_cases e : i + 1 < Q.length
    · rw [xS (by omega) (by omega), xS (by omega) (by omega)]; exact h.lnk i e
    · have e2 : i = Q.length - 1 := by omega
      rw [xS (by omega) (by omega), q7 (by omega), e2]
      exact h.last (by omega)
  last := fun _ => by
    rw [q7 (by rw [List.length_append, List.length_singleton]; omega)]
    exact hW
theorem WF {x : Int} : ¬ Waits B T F x x := fun h => by
 unfold Waits at h
 rw [if_neg (by simp)] at h
 omega
theorem Walk.circle {Q : List Int} {x : Int} (h : Walk l B T F E Q x) {k : Nat} (hk : place Q x = (k : Int)) :
    2 ≤ (Q.drop k).reverse.length ∧ (Q.drop k).reverse.length ≤ 2 * l.length ∧ InC l.length (Q.drop k).reverse ∧ Circ B T F (Q.drop k).reverse := by
  obtain ⟨hx, hlt⟩ := qL (l := Q) (x := x) (by omega)
  rw [hk] at hx hlt
  have hlen : (Q.drop k).length = Q.length - k := List.length_drop
  have hlast := h.last (by omega)
  have h2 : k + 1 < Q.length := by
    rcases Nat.lt_or_ge (k + 1) Q.length with h3 | h3
    · exact h3
    · exfalso
      have e : Q.length - 1 = k := by omega
      rw [e, hx] at hlast
      exact WF hlast
  have hd : ∀ i, i < Q.length - k → nth (Q.drop k).reverse (i : Int) = nth Q ((Q.length - 1 - i : Nat) : Int) := fun i hi => by
    rw [yG (by rw [List.length_reverse, hlen]; exact hi), List.getElem_reverse, List.getElem_drop, yG (by omega)]
    congr 1
    omega
  have hrl : (Q.drop k).reverse.length = Q.length - k := by rw [List.length_reverse, hlen]
  refine ⟨by omega, by have := h.len; omega, fun i hi => ?_, fun i hi => ?_⟩
  · rw [yG hi]
    have hm := List.getElem_mem hi
    rw [List.mem_reverse] at hm
    exact h.inn _ (List.mem_of_mem_drop hm)
  · rw [hrl] at hi
    rw [hd i hi]
    unfold prev
    by_cases e : i = 0
    · subst e
      rw [if_pos rfl, hrl, show ((Q.length - k : Nat) : Int) - 1 = ((Q.length - k - 1 : Nat) : Int) by omega, hd _ (by omega), show Q.length - 1 - (Q.length - k - 1) = k by omega, hx]
      exact hlast
    · rw [if_neg e, show (i : Int) - 1 = ((i - 1 : Nat) : Int) by omega, hd _ (by omega)]
      have := h.lnk (Q.length - 1 - i) (by omega)
      rwa [show Q.length - 1 - i + 1 = Q.length - 1 - (i - 1) by omega] at this
end
end Go.Fip.S
namespace Go.Fip.S
section
variable {l : List Pr} {B T F c : List Int}
theorem circ_none (hj : Jobs l) (hc : 0 < c.length) (hin : InC l.length c) (hC : Circ B T F c) : ¬ ∃ s, SolF l B T F s := by
 rintro ⟨s, hs⟩
 have val : ∀ i, i < c.length → ∃ w : Nat, w < 2 * l.length ∧ nth c (i : Int) = (w : Int) := fun i hi => by
  have := hin i hi
  exact ⟨(nth c (i : Int)).toNat, by omega, by omega⟩
 have step : ∀ x y : Nat, x < 2 * l.length → y < 2 * l.length → Waits B T F (x : Int) (y : Int) → s y < s x := fun x y hx hy hW => by
  have h1 := (hs x hx).2.1 y hy hW
  have hm := hj.at2 (w := (y : Int)) (by omega) (by omega)
  omega
 have up : ∀ i, i < c.length → s (nth c ((0 : Nat) : Int)).toNat ≤ s (nth c (i : Int)).toNat := by
  intro i
  induction i with
  | zero => intro _; exact Int.le_refl _
  | succ i ih =>
   intro hi
   have h1 := ih (by omega)
   obtain ⟨a, ha, ea⟩ := val i (by omega)
   obtain ⟨b, hb, eb⟩ := val (i + 1) hi
   have hW := hC (i + 1) hi
   rw [prev_succ, ea, eb] at hW
   have h2 := step b a hb ha hW
   rw [ea] at h1
   rw [eb]
   simp only [Int.toNat_natCast] at h1 ⊢
   omega
 have hl := up (c.length - 1) (by omega)
 obtain ⟨a, ha, ea⟩ := val (c.length - 1) (by omega)
 obtain ⟨b, hb, eb⟩ := val 0 hc
 have hW := hC 0 hc
 unfold prev at hW
 rw [if_pos rfl, show (c.length : Int) - 1 = ((c.length - 1 : Nat) : Int) by omega, ea, eb] at hW
 have h2 := step b a hb ha hW
 rw [ea, eb] at hl
 simp only [Int.toNat_natCast] at hl
 omega
end
end Go.Fip.S
namespace Go.Fip.S
theorem Walk.stuck {l : List Pr} {B T F : List Int} {E : Mm} {Q : List Int} {x : Int} (h : Walk l B T F E Q x) (hOK : DayOK l B T F E) (hO : Ord l.length B T F)
  (hall : ∀ j, j < (pre B T F x).length → ¬ find (nth (pre B T F x) (j : Int)) E = none) : False := by
 have e : ((x.toNat : Nat) : Int) = x := by have := h.at0; omega
 obtain ⟨v, hv, hm, _, hn⟩ := hOK.back hO (w := x.toNat) (by have := h.at1; omega) (by rw [e]; exact h.no)
 rw [e] at hm
 obtain ⟨j, hj, ej⟩ := List.getElem_of_mem hm
 exact hall j hj (by rw [yG hj, ej]; exact hn)
theorem Walk.next {l : List Pr} {B T F : List Int} {E : Mm} {Q : List Int} {x y : Int} (h : Walk l B T F E Q x) (hx : place Q x < 0) (hO : Ord l.length B T F) (hy : y ∈ pre B T F x) (hyn : find y E = none) : Walk l B T F E (Q ++ [x]) y := by
 obtain ⟨a, b, c⟩ := (Y9 hO h.at0 h.at1).1 hy
 exact h.push hx a b hyn c
theorem nth_mem {l : List Int} {i : Nat} (h : i < l.length) : nth l (i : Int) ∈ l := by rw [yG h]; exact List.getElem_mem h
theorem isnone {o : Option Int} (h : (!o.isSome) = true) : o = none := by cases o <;> simp at h ⊢
theorem notnone {o : Option Int} (h : ¬ (!o.isSome) = true) : ¬ o = none := by cases o <;> simp at h ⊢
end Go.Fip.S
namespace Go.Fip.S
def maxOver (p : Nat → Bool) (h : Nat → Int) : Nat → Int
 | 0 => 0
 | k + 1 => if p k then max (maxOver p h k) (h k) else maxOver p h k
theorem kH {p : Nat → Bool} {h : Nat → Int} : ∀ k, 0 ≤ maxOver p h k
 | 0 => Int.le_refl _
 | k + 1 => by
  have := kH (p := p) (h := h) k
  rw [maxOver]; split <;> omega
theorem XR {p : Nat → Bool} {h : Nat → Int} : ∀ k v, v < k → p v = true → h v ≤ maxOver p h k
 | k + 1, v, hv, hp => by
  rw [maxOver]
  rcases Nat.lt_or_eq_of_le (Nat.le_of_lt_succ hv) with h1 | rfl
  ·have := XR (h := h) k v h1 hp
   split <;> omega
  ·rw [if_pos hp]; omega
theorem YH {p : Nat → Bool} {h : Nat → Int} : ∀ k, maxOver p h k = 0 ∨ ∃ v, v < k ∧ p v = true ∧ maxOver p h k = h v
  | 0 => .inl rfl
  | k + 1 => by
    have ih := YH (p := p) (h := h) k
    rw [maxOver]
    split
    · rename_i hp
      by_cases hle : maxOver p h k ≤ h k
      · right; exact ⟨k, by omega, hp, by omega⟩
      · rw [show max (maxOver p h k) (h k) = maxOver p h k by omega]
        rcases ih with ih | ⟨v, a, b, c⟩
        · exact .inl ih
        · exact .inr ⟨v, by omega, b, c⟩
    · rcases ih with ih | ⟨v, a, b, c⟩
      · exact .inl ih
      · exact .inr ⟨v, by omega, b, c⟩
theorem kW {p : Nat → Bool} {h h' : Nat → Int} : ∀ k, (∀ v, v < k → p v = true → h v = h' v) → maxOver p h k = maxOver p h' k
 | 0, _ => rfl
 | k + 1, hh => by
  rw [maxOver, maxOver, kW k (fun v hv hp => hh v (by omega) hp)]
  split
  ·rename_i hp; rw [hh k (by omega) hp]
  ·rfl
section
variable (l : List Pr) (B U F : List Int)
def Feas (g : Nat → Int) : Prop := ∀ w, w < 2 * l.length → 0 ≤ g w ∧ ∀ v, v < 2 * l.length → Waits B U F (w : Int) (v : Int) → g v + at2 l (v : Int) ≤ g w
def early : Nat → Nat → Int
 | 0, _ => 0
 | k + 1, w => maxOver (fun v => decide (Waits B U F (w : Int) (v : Int))) (fun v => early k v + at2 l (v : Int)) (2 * l.length)
variable {l B U F}
theorem WZ {g : Nat → Int} (hg : Feas l B U F g) : ∀ k w, w < 2 * l.length → early l B U F k w ≤ g w
 | 0, w, hw => (hg w hw).1
 | k + 1, w, hw => by
  rw [early]
  rcases YH (p := fun v => decide (Waits B U F (w : Int) (v : Int))) (h := fun v => early l B U F k v + at2 l (v : Int)) (2 * l.length) with h | ⟨v, hv, hp, h⟩
  ·rw [h]; exact (hg w hw).1
  ·rw [h]
   have h1 := (hg w hw).2 v hv (of_decide_eq_true hp)
   have h2 := WZ hg k v hv
   omega
theorem Y7 (hj : Jobs l) {g : Nat → Int} (hg : Feas l B U F g) : ∀ k w, w < 2 * l.length → rank g (2 * l.length) w < k → early l B U F k w = early l B U F (k + 1) w
 | k + 1, w, hw, hr => by
  rw [early, early]
  refine kW _ fun v hv hp => ?_
  have h1 := (hg w hw).2 v hv (of_decide_eq_true hp)
  have hm := hj.at2 (w := (v : Int)) (by omega) (by omega)
  have h2 := ZF (n := 2 * l.length) hv (show g v < g w by omega)
  show early l B U F k v + _ = early l B U F (k + 1) v + _
  rw [Y7 hj hg k v hv (by omega)]
theorem W5 (hj : Jobs l) {g : Nat → Int} (hg : Feas l B U F g) : ∃ p, SolP l B U F p ∧ ∀ w, w < 2 * l.length → at2 p (w : Int) ≤ g w := by
 have hfix : ∀ w, w < 2 * l.length → early l B U F (2 * l.length) w = maxOver (fun v => decide (Waits B U F (w : Int) (v : Int))) (fun v => early l B U F (2 * l.length) v + at2 l (v : Int)) (2 * l.length) := fun w hw => by
  have := Y7 hj hg (2 * l.length) w hw (WG hw)
  rw [early] at this
  exact this
 have hs : SolF l B U F (early l B U F (2 * l.length)) := fun w hw => by
  have e := hfix w hw
  refine ⟨by rw [e]; exact kH _, fun v hv hW => ?_, ?_⟩
  ·rw [e]
   exact XR (p := fun v => decide (Waits B U F (w : Int) (v : Int))) (h := fun v => early l B U F (2 * l.length) v + at2 l (v : Int)) _ v hv (decide_eq_true hW)
  ·rcases YH (p := fun v => decide (Waits B U F (w : Int) (v : Int))) (h := fun v => early l B U F (2 * l.length) v + at2 l (v : Int)) (2 * l.length) with h | ⟨v, hv, hp, h⟩
   ·left; rw [e]; exact h
   ·right; exact ⟨v, hv, of_decide_eq_true hp, by rw [e]; exact h⟩
 have hn : ∀ w, w < 2 * l.length → nth ((List.range (2 * l.length)).map (early l B U F (2 * l.length))) (w : Int) = early l B U F (2 * l.length) w := fun w hw => by
  rw [yG (by simpa using hw)]; simp
 refine ⟨pairsTo ((List.range (2 * l.length)).map (early l B U F (2 * l.length))) l.length, XP (YB (fun w hw => (hn w hw).symm) hs), fun w hw => ?_⟩
 rw [ZP _ hw, hn w hw]
 exact WZ hg _ w hw
variable {p : List Pr}
theorem SolP.wait (h : SolP l B U F p) {w v : Int} (hw0 : 0 ≤ w) (hw1 : w < 2 * (l.length : Int)) (hv0 : 0 ≤ v) (hv1 : v < 2 * (l.length : Int)) (hW : Waits B U F w v) : at2 p v + at2 l v ≤ at2 p w := by
 have e1 : ((w.toNat : Nat) : Int) = w := by omega
 have e2 : ((v.toNat : Nat) : Int) = v := by omega
 have := (h.2 w.toNat (by omega)).2.1 v.toNat (by omega)
 rw [e1, e2] at this
 exact this hW
theorem VE {n : Nat} (hO : Ord n B U F) {b : Int} (hb : b = 0 ∨ b = 1) {i : Int} (h0 : 0 ≤ i) (h1 : i + 1 < (n : Int)) :
  Waits B U F (2 * nth (row B U b) (i + 1) + b) (2 * nth (row B U b) i + b) := by
 obtain ⟨r1, r2, r3, r4⟩ := hO.row b
 have a := r3 i h0 (by omega)
 have c := r3 (i + 1) (by omega) h1
 unfold Waits
 rw [if_neg (by omega), show (2 * nth (row B U b) (i + 1) + b) / 2 = nth (row B U b) (i + 1) by omega, show (2 * nth (row B U b) i + b) / 2 = nth (row B U b) i by omega, show (2 * nth (row B U b) (i + 1) + b) % 2 = b by omega]
 omega
theorem SolP.chain (hj : Jobs l) (hO : Ord l.length B U F) (h : SolP l B U F p) {b : Int} (hb : b = 0 ∨ b = 1) : ∀ (d : Nat) (i : Int), 0 ≤ i → i + (d : Int) + 1 < (l.length : Int) →
  at2 p (2 * nth (row B U b) i + b) + at2 l (2 * nth (row B U b) i + b) ≤ at2 p (2 * nth (row B U b) (i + (d : Int) + 1) + b)
 | 0, i, h0, h1 => by
  obtain ⟨r1, r2, r3, r4⟩ := hO.row b
  have a := r2 i h0 (by omega)
  have c := r2 (i + 1) (by omega) (by omega)
  have hW := VE hO hb h0 (by omega : i + 1 < (l.length : Int))
  rw [show i + ((0 : Nat) : Int) + 1 = i + 1 by omega]
  exact h.wait (by omega) (by omega) (by omega) (by omega) hW
 | d + 1, i, h0, h1 => by
  obtain ⟨r1, r2, r3, r4⟩ := hO.row b
  have ih := SolP.chain hj hO h hb d i h0 (by omega)
  have a := r2 (i + (d : Int) + 1) (by omega) (by omega)
  have c := r2 (i + (d : Int) + 1 + 1) (by omega) (by omega)
  have hW := VE hO hb (i := i + (d : Int) + 1) (by omega) (by omega)
  have h2 := h.wait (by omega) (by omega) (by omega) (by omega) hW
  have hm := hj.at2 (w := 2 * nth (row B U b) (i + (d : Int) + 1) + b) (by omega) (by omega)
  rw [show i + ((d + 1 : Nat) : Int) + 1 = i + (d : Int) + 1 + 1 by omega]
  omega
theorem SolP.apart (hj : Jobs l) (hO : Ord l.length B U F) (h : SolP l B U F p) {v w : Int} (hv0 : 0 ≤ v) (hv1 : v < 2 * (l.length : Int)) (hw0 : 0 ≤ w) (hw1 : w < 2 * (l.length : Int)) (hne : v ≠ w)
    (hb : v % 2 = w % 2 ∨ v / 2 = w / 2) : at2 p v + at2 l v ≤ at2 p w ∨ at2 p w + at2 l w ≤ at2 p v := by
  by_cases hpar : v % 2 = w % 2
  · obtain ⟨r1, r2, r3, r4⟩ := hO.row (w % 2)
    have a := r4 (v / 2) (by omega) (by omega)
    have c := r4 (w / 2) (by omega) (by omega)
    have pv := (qL a.1).1
    have pw := (qL c.1).1
    have hbb : w % 2 = 0 ∨ w % 2 = 1 := by omega
    rcases Int.lt_trichotomy (place (row B U (w % 2)) (v / 2)) (place (row B U (w % 2)) (w / 2)) with hlt | heq | hlt
    · left
      have := h.chain hj hO hbb (place (row B U (w % 2)) (w / 2) - place (row B U (w % 2)) (v / 2) - 1).toNat (place (row B U (w % 2)) (v / 2)) a.1 (by omega)
      rw [show place (row B U (w % 2)) (v / 2) + (((place (row B U (w % 2)) (w / 2) - place (row B U (w % 2)) (v / 2) - 1).toNat : Nat) : Int) + 1 = place (row B U (w % 2)) (w / 2) by omega, pv, pw,
        show 2 * (v / 2) + w % 2 = v by omega, show 2 * (w / 2) + w % 2 = w by omega] at this
      exact this
    · rw [heq, pw] at pv; omega
    · right
      have := h.chain hj hO hbb (place (row B U (w % 2)) (v / 2) - place (row B U (w % 2)) (w / 2) - 1).toNat (place (row B U (w % 2)) (w / 2)) c.1 (by omega)
      rw [show place (row B U (w % 2)) (w / 2) + (((place (row B U (w % 2)) (v / 2) - place (row B U (w % 2)) (w / 2) - 1).toNat : Nat) : Int) + 1 = place (row B U (w % 2)) (v / 2) by omega, pv, pw,
        show 2 * (v / 2) + w % 2 = v by omega, show 2 * (w / 2) + w % 2 = w by omega] at this
      exact this
  · have e : v / 2 = w / 2 := by omega
    have hf := hO.first (i := w / 2) (by omega) (by omega)
    by_cases hfw : nth F (w / 2) = w % 2
    · right
      exact h.wait hv0 hv1 hw0 hw1 ((waits_ne (by omega)).2 ⟨by omega, by rw [e]; exact hfw⟩)
    · left
      exact h.wait hw0 hw1 hv0 hv1 ((waits_ne (by omega)).2 ⟨by omega, by omega⟩)
theorem SolP.le (hj : Jobs l) (h : SolP l B U F p) : ∀ (k w : Nat), w < 2 * l.length → rank (fun w => at2 p (w : Int)) (2 * l.length) w < k → at2 p (w : Int) ≤ 500 * (k : Int)
  | k + 1, w, hw, hr => by
    rcases (h.2 w hw).2.2 with e | ⟨v, hv, hW, e⟩
    · omega
    · have hm := hj.at2 (w := (v : Int)) (by omega) (by omega)
      have h2 := ZF (s := fun w => at2 p (w : Int)) (n := 2 * l.length) hv (show at2 p (v : Int) < at2 p (w : Int) by omega)
      have := SolP.le hj h k v hv (by omega)
      omega
theorem SolP.bd (hj : Jobs l) (h : SolP l B U F p) {w : Nat} (hw : w < 2 * l.length) : 0 ≤ at2 p (w : Int) ∧ at2 p (w : Int) ≤ 8000 := by
 have h1 := h.le hj (2 * l.length) w hw (WG hw)
 have := hj.2.1
 exact ⟨(h.2 w hw).1, by omega⟩
theorem zBq {p : List Pr} {c : Int} (hc : c ≤ 100000) (h : ∀ w : Nat, w < 2 * p.length → 0 ≤ at2 p (w : Int) ∧ at2 p (w : Int) ≤ c) : AllT p := fun i hi => by
 have h0 := h (2 * i) (by omega)
 have h1 := h (2 * i + 1) (by omega)
 unfold S.at2 at h0 h1
 rw [if_pos (by omega), show ((2 * i : Nat) : Int) / 2 = (i : Int) by omega] at h0
 rw [if_neg (by omega), show ((2 * i + 1 : Nat) : Int) / 2 = (i : Int) by omega] at h1
 unfold okTime
 omega
theorem SolP.allT (hj : Jobs l) (h : SolP l B U F p) : AllT p := zBq (c := 8000) (by omega) (fun w hw => h.bd hj (by have := h.1; omega))
theorem SolP.right (hj : Jobs l) (hO : Ord l.length B U F) (h : SolP l B U F p) : Right l p := fun v hv w hw hc => by
 unfold clash at hc
 have := h.apart hj hO (v := (v : Int)) (w := (w : Int)) (by omega) (by omega) (by omega) (by omega) (by omega) hc.1
 omega
theorem SolP.check (hj : Jobs l) (hO : Ord l.length B U F) (h : SolP l B U F p) : checkPlan l p = (endOf l p, 0) :=
 cp5 (checkJobs_iff.2 hj) (by have := h.1; omega) (h.allT hj) (h.right hj hO)
theorem GO {a b : List Int} (h : a.Perm b) : a.sum = b.sum := by
 induction h with
 | nil => rfl
 | cons x _ ih => simp [ih]
 | swap x y l => simp only [List.sum_cons]; omega
 | trans _ _ h1 h2 => exact h1.trans h2
theorem G9 : ∀ (n : Nat) (xs : List (Int × Int)), xs.length = n → ∀ E : Int, 0 ≤ E → (∀ x ∈ xs, 0 ≤ x.1 ∧ 1 ≤ x.2 ∧ x.1 + x.2 ≤ E) → xs.Pairwise (fun x y => x.1 + x.2 ≤ y.1 ∨ y.1 + y.2 ≤ x.1) → (xs.map Prod.snd).sum ≤ E
  | 0, xs, hl, E, hE, _, _ => by
    have : xs = [] := List.eq_nil_of_length_eq_zero hl
    subst this; simpa using hE
  | n + 1, xs, hl, E, hE, hb, hp => by
    have hmax : ∀ (ys : List (Int × Int)), ys ≠ [] → ∃ x ∈ ys, ∀ y ∈ ys, y.1 ≤ x.1 := by
      intro ys
      induction ys with
      | nil => intro h; exact absurd rfl h
      | cons a ys ih =>
        intro _
        by_cases h : ys = []
        · subst h; exact ⟨a, by simp, fun y hy => by simp at hy; subst hy; exact Int.le_refl _⟩
        · obtain ⟨x, hx, hm⟩ := ih h
          by_cases hax : a.1 ≤ x.1
          · exact ⟨x, List.mem_cons_of_mem _ hx, fun y hy => by
              rcases List.mem_cons.1 hy with rfl | hy
              · exact hax
              · exact hm y hy⟩
          · exact ⟨a, List.mem_cons_self, fun y hy => by
              rcases List.mem_cons.1 hy with rfl | hy
              · exact Int.le_refl _
              · have := hm y hy; omega⟩
    obtain ⟨x, hx, hm⟩ := hmax xs (fun h => by subst h; cases hl)
    have hperm := List.perm_cons_erase hx
    have hp2 := (hperm.pairwise_iff (fun {a b} h => h.symm)).1 hp
    have hx1 := hb x hx
    rw [List.pairwise_cons] at hp2
    have ih := G9 n (xs.erase x) (by rw [List.length_erase_of_mem hx, hl]; rfl) x.1 hx1.1 (fun y hy => by
      have hy2 := List.mem_of_mem_erase hy
      have h1 := hb y hy2
      have h2 := hm y hy2
      have h3 := hp2.1 y hy
      refine ⟨h1.1, h1.2.1, by omega⟩) hp2.2
    rw [GO (hperm.map Prod.snd)]
    simp only [List.map_cons, List.sum_cons]
    omega
def benchTo (l p : List Pr) (b : Int) (k : Nat) : List (Int × Int) := (List.range k).map fun i : Nat => (at2 p (2 * (i : Int) + b), at2 l (2 * (i : Int) + b))
theorem ZY {l p : List Pr} {b : Int} : ∀ k : Nat, ((benchTo l p b k).map Prod.snd).sum = sumTo l b k
 | 0 => rfl
 | k + 1 => by
  have ih := ZY (l := l) (p := p) (b := b) k
  unfold benchTo at *
  rw [List.range_succ, List.map_append, List.map_append, List.sum_append, ih]
  simp [sumTo]
theorem ZN {l p : List Pr} {b : Int} : ∀ k i : Nat, i < k → at2 p (2 * (i : Int) + b) + at2 l (2 * (i : Int) + b) ≤ lastTo l p b k
 | k + 1, i, hi => by
  rw [lastTo]
  rcases Nat.lt_or_eq_of_le (Nat.le_of_lt_succ hi) with h | rfl
  ·have := ZN (l := l) (p := p) (b := b) k i h; omega
  ·omega
theorem kQ {l p : List Pr} : ∀ k i : Nat, i < k → at2 p (i : Int) + at2 l (i : Int) ≤ endTo l p k
 | k + 1, i, hi => by
  rw [endTo]
  rcases Nat.lt_or_eq_of_le (Nat.le_of_lt_succ hi) with h | rfl
  ·have := kQ (l := l) (p := p) k i h; omega
  ·omega
theorem XY {l p : List Pr} {c : Int} (hc : 0 ≤ c) : ∀ k : Nat, (∀ i, i < k → at2 p ((i : Nat) : Int) + at2 l (i : Int) ≤ c) → endTo l p k ≤ c
 | 0, _ => hc
 | k + 1, h => by
  rw [endTo]
  have := XY hc k (fun i hi => h i (by omega))
  have := h k (by omega)
  omega
theorem V6 {l p : List Pr} {b c : Int} (hc : 0 ≤ c) : ∀ k : Nat, (∀ i, i < k → at2 p (2 * ((i : Nat) : Int) + b) + at2 l (2 * (i : Int) + b) ≤ c) → lastTo l p b k ≤ c
 | 0, _ => hc
 | k + 1, h => by
  rw [lastTo]
  have := V6 (l := l) (p := p) (b := b) hc k (fun i hi => h i (by omega))
  have := h k (by omega)
  omega
theorem W4 {l p : List Pr} {b : Int} (hb : b = 0 ∨ b = 1) (hE : 0 ≤ endOf l p) : lastOf l p b ≤ endOf l p := by
 refine V6 hE _ fun i hi => ?_
 have := kQ (l := l) (p := p) (2 * l.length) (2 * i + b.toNat) (by omega)
 rwa [show ((2 * i + b.toNat : Nat) : Int) = 2 * (i : Int) + b by omega] at this
theorem YJ {l p : List Pr} : ∀ k, 0 ≤ endTo l p k
 | 0 => Int.le_refl _
 | k + 1 => by have := YJ (l := l) (p := p) k; rw [endTo]; omega
theorem GK {l p : List Pr} (hj : Jobs l) (hT : AllT p) (hl : p.length = l.length) (hR : Right l p) {b : Int} (hb : b = 0 ∨ b = 1) : sumOf l b ≤ lastOf l p b := by
  have h := G9 _ (benchTo l p b l.length) rfl (lastOf l p b) (by have := hj.1; have h1 := ZN (l := l) (p := p) (b := b) l.length 0 (by omega); have h2 := hT.at2 (w := 2 * ((0 : Nat) : Int) + b) (by omega) (by omega); have h3 := hj.at2 (w := 2 * ((0 : Nat) : Int) + b) (by omega) (by omega); unfold lastOf; omega)
    (fun x hx => by
      unfold benchTo at hx
      rw [List.mem_map] at hx
      obtain ⟨i, hi, rfl⟩ := hx
      rw [List.mem_range] at hi
      have h1 := ZN (l := l) (p := p) (b := b) l.length i hi
      have h2 := hT.at2 (w := 2 * (i : Int) + b) (by omega) (by omega)
      have h3 := hj.at2 (w := 2 * (i : Int) + b) (by omega) (by omega)
      exact ⟨h2.1, h3.1, h1⟩)
    (by
      unfold benchTo
      rw [List.pairwise_map]
      refine List.Pairwise.imp_of_mem (R := fun a b => a < b) ?_ List.pairwise_lt_range
      intro i k hi hk hik
      rw [List.mem_range] at hi hk
      have := hR (2 * k + b.toNat) (by omega) (2 * i + b.toNat) (by omega)
      rw [show ((2 * k + b.toNat : Nat) : Int) = 2 * (k : Int) + b by omega, show ((2 * i + b.toNat : Nat) : Int) = 2 * (i : Int) + b by omega] at this
      unfold clash at this
      simp only
      omega)
  rw [ZY] at h
  exact h
theorem WM {l p : List Pr} (hj : Jobs l) (hT : AllT p) (hl : p.length = l.length) (hR : Right l p) {k i : Int} (hk : 0 ≤ k) (hk2 : k ≤ 2) (hi : 0 ≤ i) (hi2 : i < (l.length : Int)) : boundOf l k i ≤ endOf l p := by
  unfold boundOf
  split
  · have h1 := hR (2 * i.toNat + 1) (by omega) (2 * i.toNat) (by omega)
    have h2 := kQ (l := l) (p := p) (2 * l.length) (2 * i.toNat) (by omega)
    have h3 := kQ (l := l) (p := p) (2 * l.length) (2 * i.toNat + 1) (by omega)
    have t1 := hT.at2 (w := ((2 * i.toNat : Nat) : Int)) (by omega) (by omega)
    have t2 := hT.at2 (w := ((2 * i.toNat + 1 : Nat) : Int)) (by omega) (by omega)
    have m1 : at2 l ((2 * i.toNat : Nat) : Int) = (nth l i).1 := by unfold at2; rw [if_pos (by omega)]; congr 2; omega
    have m2 : at2 l ((2 * i.toNat + 1 : Nat) : Int) = (nth l i).2 := by unfold at2; rw [if_neg (by omega)]; congr 2; omega
    unfold clash at h1
    unfold endOf
    omega
  · have h1 := GK hj hT hl hR (b := k) (by omega)
    have h2 := W4 (l := l) (p := p) (b := k) (by omega) (YJ _)
    omega
theorem shortest_le_end {l p : List Pr} (hj : Jobs l) (hT : AllT p) (hl : p.length = l.length) (hR : Right l p) : shortestOf l ≤ endOf l p := by
 have h := (tightest_spec (l := l)).2 hj
 rw [← h.2.1]
 exact WM hj hT hl hR (by omega) (by omega) (by omega) (by omega)
end
end Go.Fip.S
namespace Go.Fip.S
def psum (f : Int → Int) (R : List Int) : Nat → Int
 | 0 => 0
 | k + 1 => psum f R k + f (nth R (k : Int))
def usum (f : Int → Int) : Nat → Int
 | 0 => 0
 | k + 1 => usum f k + f (k : Int)
theorem VP (f : Int → Int) (R : List Int) : ∀ k, k ≤ R.length → psum f R k = ((R.take k).map f).sum
 | 0, _ => rfl
 | k + 1, h => by
  rw [psum, VP f R k (by omega), ← qJ (show k < R.length by omega), List.map_append, List.sum_append]
  simp
theorem GF (f : Int → Int) (R : List Int) : psum f R R.length = (R.map f).sum := by
 rw [VP f R _ (Nat.le_refl _), List.take_length]
theorem ZD (f : Int → Int) : ∀ (n : Nat) (L : List Int), L.length = n → (∀ i, i < n → ((i : Nat) : Int) ∈ L) → (L.map f).sum = usum f n
 | 0, L, hl, _ => by
  have : L = [] := List.eq_nil_of_length_eq_zero hl
  subst this; rfl
 | n + 1, L, hl, h => by
  have hm := h n (by omega)
  rw [GO ((List.perm_cons_erase hm).map f), List.map_cons, List.sum_cons, ZD f n (L.erase (n : Int)) (by rw [List.length_erase_of_mem hm, hl]; rfl) (fun i hi => (List.mem_erase_of_ne (by omega)).2 (h i (by omega))), usum]
  omega
theorem zB7 (l : List Pr) : ∀ k, usum (fun i => (nth l i).1) k = sumTo l 0 k
 | 0 => rfl
 | k + 1 => by rw [usum, zB7 l k, sum0]
theorem zB0 (l : List Pr) : ∀ k, usum (fun i => (nth l i).2) k = sumTo l 1 k
 | 0 => rfl
 | k + 1 => by rw [usum, zB0 l k, sum1]
theorem uP (one b : Int) : ∀ k i : Nat, i < k → nth (firstsTo one b k) (i : Int) = if (i : Int) = one then b else 1 - b
 | k + 1, i, h => by
  show nth (_ ++ _) _ = _
  rcases Nat.lt_or_eq_of_le (Nat.le_of_lt_succ h) with h1 | rfl
  ·rw [xS (by omega) (by rw [firstsTo_length]; omega), uP one b k i h1]
  ·rw [q7 (by rw [firstsTo_length])]
section
variable {l : List Pr} {R : List Int} {r : Int}
theorem XN {n : Nat} {B U F : List Int} (hB : B.length = n) (hU : U.length = n) (hF : F.length = n) (mB : ∀ i, i < n → ((i : Nat) : Int) ∈ B) (mU : ∀ i, i < n → ((i : Nat) : Int) ∈ U) (mF : ∀ i, i < n → 0 ≤ nth F ((i : Nat) : Int) ∧ nth F (i : Int) ≤ 1) : Ord n B U F :=
 ⟨hB, hU, hF, fun i hi => ⟨vX.2 (mB i hi), vX.2 (mU i hi), (mF i hi).1, (mF i hi).2⟩⟩
variable (l R r)
def turnEnd : Nat → Int
 | 0 => (nth l r).2
 | k + 1 => max (psum (fun i => (nth l i).1) R (k + 1)) (turnEnd k) + (nth l (nth R (k : Int))).2
variable {l R r}
theorem opt (hj : Jobs l) (hn : R.length + 1 = l.length) (hr0 : 0 ≤ r ∧ r < (l.length : Int)) (hin : ∀ i, i < l.length → ((i : Nat) : Int) ∈ R ++ [r]) (k0 : Nat)
    (hs : ∀ k, k < k0 → k < R.length → (nth l (nth R (k : Int))).1 ≤ (nth l (nth R (k : Int))).2 ∧ (nth l (nth R (k : Int))).1 ≤ (nth l r).2)
    (hl : ∀ k, k0 ≤ k → k < R.length → (nth l (nth R (k : Int))).2 ≤ (nth l (nth R (k : Int))).1 ∧ (nth l (nth R (k : Int))).2 ≤ (nth l r).1) :
    Ord l.length (R ++ [r]) ([r] ++ R) (firstsTo r 1 l.length) ∧ ∃ p, SolP l (R ++ [r]) ([r] ++ R) (firstsTo r 1 l.length) p ∧ endOf l p ≤ shortestOf l := by
  have hO : Ord l.length (R ++ [r]) ([r] ++ R) (firstsTo r 1 l.length) := XN (by simp; omega) (by simp; omega) (firstsTo_length _ _ _) hin
    (fun i hi => by have := hin i hi; simp only [List.mem_append, List.mem_singleton] at this ⊢; exact this.symm) (fun i hi => by rw [uP _ _ _ _ hi]; split <;> omega)
  refine ⟨hO, ?_⟩
  have rB := hO.row 0
  have rU := hO.row 1
  have eB : row (R ++ [r]) ([r] ++ R) 0 = R ++ [r] := by unfold S.row; rw [if_neg (by omega)]
  have eU : row (R ++ [r]) ([r] ++ R) 1 = [r] ++ R := by unfold S.row; rw [if_pos rfl]
  rw [eB] at rB
  rw [eU] at rU
  obtain ⟨b1, b2, b3, b4⟩ := rB
  obtain ⟨u1, u2, u3, u4⟩ := rU
  have uR : ∀ k : Nat, k < R.length → nth ([r] ++ R) ((k + 1 : Nat) : Int) = nth R (k : Int) := fun k hk => by
    rw [jC (by simp; omega)]
    congr 1
    simp
  have hRr : ∀ k : Nat, k < R.length → nth R (k : Int) ≠ r := fun k hk e => by
    have h1 := b3 (k : Int) (by omega) (by omega)
    have h2 := b3 (R.length : Int) (by omega) (by omega)
    rw [xS (by omega) (by omega), e] at h1
    rw [q7 rfl] at h2
    omega
  have job : ∀ j : Int, 0 ≤ j → j < (l.length : Int) → (j = r ∧ place (R ++ [r]) j = (R.length : Int) ∧ place ([r] ++ R) j = 0 ∧ nth (firstsTo r 1 l.length) j = 1) ∨
      ∃ k : Nat, k < R.length ∧ nth R (k : Int) = j ∧ place (R ++ [r]) j = (k : Int) ∧ place ([r] ++ R) j = (k : Int) + 1 ∧ nth (firstsTo r 1 l.length) j = 0 := fun j h0 h1 => by
    have hp := b4 j h0 h1
    have hh := (qL hp.1).1
    have hF := uP r 1 l.length j.toNat (by omega)
    rw [show ((j.toNat : Nat) : Int) = j by omega] at hF
    by_cases e : place (R ++ [r]) j = (R.length : Int)
    · left
      rw [e, q7 rfl] at hh
      subst hh
      refine ⟨rfl, e, ?_, by rw [hF, if_pos rfl]⟩
      have := u3 0 (by omega) (by omega)
      exact this
    · right
      have hk : (place (R ++ [r]) j).toNat < R.length := by omega
      have ek : (((place (R ++ [r]) j).toNat : Nat) : Int) = place (R ++ [r]) j := by omega
      rw [xS hp.1 (by omega), ← ek] at hh
      refine ⟨(place (R ++ [r]) j).toNat, hk, hh, ek.symm, ?_, ?_⟩
      · have := u3 (((place (R ++ [r]) j).toNat + 1 : Nat) : Int) (by omega) (by omega)
        rw [uR _ hk, hh] at this
        rw [this]; omega
      · rw [hF, if_neg (fun e2 => hRr _ hk (hh.trans e2))]; omega
  let A := psum (fun i => (nth l i).1) R
  let T := psum (fun i => (nth l i).2) R
  have A1 : ∀ k, A (k + 1) = A k + (nth l (nth R (k : Int))).1 := fun k => rfl
  have T1 : ∀ k, T (k + 1) = T k + (nth l (nth R (k : Int))).2 := fun k => rfl
  have A0 : A 0 = 0 := rfl
  have T0 : T 0 = 0 := rfl
  have S0 : turnEnd l R r 0 = (nth l r).2 := rfl
  have S1 : ∀ k, turnEnd l R r (k + 1) = max (A (k + 1)) (turnEnd l R r k) + (nth l (nth R (k : Int))).2 := fun k => rfl
  have inR : ∀ k : Nat, k < R.length → 0 ≤ nth R (k : Int) ∧ nth R (k : Int) < (l.length : Int) := fun k hk => by
    have := b2 (k : Int) (by omega) (by omega)
    rwa [xS (by omega) (by omega)] at this
  have okR : ∀ k : Nat, k < R.length → okJob (nth l (nth R (k : Int))) := fun k hk => hj.nth (inR k hk).1 (inR k hk).2
  have okr := hj.nth hr0.1 hr0.2
  have sumB : A R.length + (nth l r).1 = sumOf l 0 := by
    have h := ZD (fun i => (nth l i).1) l.length (R ++ [r]) b1 hin
    rw [List.map_append, List.sum_append, ← GF, zB7] at h
    show psum _ R R.length + _ = sumTo l 0 l.length
    simpa using h
  have sumT : T R.length + (nth l r).2 = sumOf l 1 := by
    have h := ZD (fun i => (nth l i).2) l.length (R ++ [r]) b1 hin
    rw [List.map_append, List.sum_append, ← GF, zB0] at h
    show psum _ R R.length + _ = sumTo l 1 l.length
    simpa using h
  have geB := (qO l l.length).1
  have geT := (qO l l.length).2.1
  have geA := (qO l l.length).2.2 r.toNat (by omega)
  have eM : shortTo l l.length = shortestOf l := rfl
  unfold alone at geA
  rw [show ((r.toNat : Nat) : Int) = r by omega] at geA
  rw [eM] at geB geT geA
  have Anon : ∀ k, k ≤ R.length → 0 ≤ A k := by
    intro k
    induction k with
    | zero => intro _; rw [A0]; exact Int.le_refl _
    | succ k ih =>
      intro hk
      have h1 := okR k (by omega)
      unfold okJob at h1
      have := ih (by omega)
      rw [A1]; omega
  have Amon : ∀ k, k ≤ R.length → A k ≤ A R.length := by
    have : ∀ d k, k + d = R.length → A k ≤ A R.length := by
      intro d
      induction d with
      | zero => intro k hk; rw [show k = R.length by omega]; exact Int.le_refl _
      | succ d ih =>
        intro k hk
        have h1 := okR k (by omega)
        unfold okJob at h1
        have := ih (k + 1) (by omega)
        rw [A1] at this; omega
    exact fun k hk => this (R.length - k) k (by omega)
  have Tmon : ∀ k, k ≤ R.length → T k ≤ T R.length := by
    have : ∀ d k, k + d = R.length → T k ≤ T R.length := by
      intro d
      induction d with
      | zero => intro k hk; rw [show k = R.length by omega]; exact Int.le_refl _
      | succ d ih =>
        intro k hk
        have h1 := okR k (by omega)
        unfold okJob at h1
        have := ih (k + 1) (by omega)
        rw [T1] at this; omega
    exact fun k hk => this (R.length - k) k (by omega)
  have front : ∀ k, k ≤ k0 → k ≤ R.length → A k ≤ T k := by
    intro k
    induction k with
    | zero => intro _ _; rw [A0, T0]; exact Int.le_refl _
    | succ k ih =>
      intro h1 h2
      have := hs k (by omega) (by omega)
      have := ih (by omega) (by omega)
      rw [A1, T1]; omega
  have back : ∀ d k, k + d = R.length → k0 ≤ k → T R.length - T k ≤ A R.length - A k := by
    intro d
    induction d with
    | zero => intro k hk _; rw [show k = R.length by omega]; omega
    | succ d ih =>
      intro k hk hk0
      have h1 := hl k hk0 (by omega)
      have := ih (k + 1) (by omega) (by omega)
      rw [A1, T1] at this; omega
  have claim : ∀ k, k < R.length → A (k + 1) + (T R.length - T k) ≤ shortestOf l := fun k hk => by
    by_cases h : k < k0
    · have h1 := hs k h hk
      have h2 := front k (by omega) (by omega)
      rw [A1]; omega
    · have h1 := hl k (by omega) hk
      have h2 := back (R.length - (k + 1)) (k + 1) (by omega) (by omega)
      rw [T1] at h2
      omega
  have turn : ∀ k, k ≤ R.length → turnEnd l R r k + (T R.length - T k) ≤ shortestOf l := by
    intro k
    induction k with
    | zero => intro _; rw [S0, T0]; omega
    | succ k ih =>
      intro hk
      have h1 := ih (by omega)
      have h2 := claim k (by omega)
      rw [S1, T1]; omega
  have Snon : ∀ k, k ≤ R.length → 0 ≤ turnEnd l R r k := by
    intro k
    cases k with
    | zero => intro _; rw [S0]; unfold okJob at okr; omega
    | succ k =>
      intro hk
      have h1 := okR k (by omega)
      have h2 := Anon (k + 1) hk
      unfold okJob at h1
      rw [S1]; omega
  -- the times
  let g : Nat → Int := fun w => if (w : Int) % 2 = 0 then (if place (R ++ [r]) ((w : Int) / 2) = (R.length : Int) then max (A R.length) (nth l r).2 else A (place (R ++ [r]) ((w : Int) / 2)).toNat)
    else (if place (R ++ [r]) ((w : Int) / 2) = (R.length : Int) then 0 else max (A ((place (R ++ [r]) ((w : Int) / 2)).toNat + 1)) (turnEnd l R r (place (R ++ [r]) ((w : Int) / 2)).toNat))
  have gv : ∀ w : Nat, w < 2 * l.length → ((w : Int) / 2 = r ∧ place (R ++ [r]) ((w : Int) / 2) = (R.length : Int) ∧ place ([r] ++ R) ((w : Int) / 2) = 0 ∧ nth (firstsTo r 1 l.length) ((w : Int) / 2) = 1 ∧ (((w : Int) % 2 = 0 ∧ g w = max (A R.length) (nth l r).2 ∧ at2 l (w : Int) = (nth l r).1) ∨ ((w : Int) % 2 = 1 ∧ g w = 0 ∧ at2 l (w : Int) = (nth l r).2))) ∨
      ∃ k : Nat, k < R.length ∧ nth R (k : Int) = (w : Int) / 2 ∧ place (R ++ [r]) ((w : Int) / 2) = (k : Int) ∧ place ([r] ++ R) ((w : Int) / 2) = (k : Int) + 1 ∧ nth (firstsTo r 1 l.length) ((w : Int) / 2) = 0 ∧
        (((w : Int) % 2 = 0 ∧ g w = A k ∧ at2 l (w : Int) = (nth l (nth R (k : Int))).1) ∨ ((w : Int) % 2 = 1 ∧ g w = max (A (k + 1)) (turnEnd l R r k) ∧ at2 l (w : Int) = (nth l (nth R (k : Int))).2)) := fun w hw => by
    rcases job ((w : Int) / 2) (by omega) (by omega) with ⟨h1, h2, h3, h4⟩ | ⟨k, h1, h2, h3, h4, h5⟩
    · left
      refine ⟨h1, h2, h3, h4, ?_⟩
      by_cases e : (w : Int) % 2 = 0
      · left; refine ⟨e, ?_, ?_⟩
        · show (if _ then _ else _) = _; rw [if_pos e, if_pos h2]
        · unfold at2; rw [if_pos e, h1]
      · right; refine ⟨by omega, ?_, ?_⟩
        · show (if _ then _ else _) = _; rw [if_neg e, if_pos h2]
        · unfold at2; rw [if_neg e, h1]
    · right
      refine ⟨k, h1, h2, h3, h4, h5, ?_⟩
      by_cases e : (w : Int) % 2 = 0
      · left; refine ⟨e, ?_, ?_⟩
        · show (if _ then _ else _) = _; rw [if_pos e, if_neg (by omega), h3]; rfl
        · unfold at2; rw [if_pos e, h2]
      · right; refine ⟨by omega, ?_, ?_⟩
        · show (if _ then _ else _) = _; rw [if_neg e, if_neg (by omega), h3]; rfl
        · unfold at2; rw [if_neg e, h2]
  have hfeas : Feas l (R ++ [r]) ([r] ++ R) (firstsTo r 1 l.length) g := fun w hw => by
    constructor
    · rcases gv w hw with ⟨h1, h2, h3, h4, ⟨h5, h6, _⟩ | ⟨h5, h6, _⟩⟩ | ⟨k, h1, h2, h3, h4, h5, ⟨h6, h7, _⟩ | ⟨h6, h7, _⟩⟩
      · rw [h6]; have := Anon R.length (Nat.le_refl _); omega
      · rw [h6]; omega
      · rw [h7]; exact Anon k (by omega)
      · rw [h7]; have := Anon (k + 1) (by omega); omega
    · intro v hv hW
      unfold Waits S.row at hW
      rcases gv w hw with ⟨h1, h2, h3, h4, ⟨h5, h6, h7⟩ | ⟨h5, h6, h7⟩⟩ | ⟨k, h1, h2, h3, h4, h5, ⟨h6, h7, h8⟩ | ⟨h6, h7, h8⟩⟩ <;>
      rcases gv v hv with ⟨i1, i2, i3, i4, ⟨i5, i6, i7⟩ | ⟨i5, i6, i7⟩⟩ | ⟨q, i1, i2, i3, i4, i5, ⟨i6, i7, i8⟩ | ⟨i6, i7, i8⟩⟩ <;>
      first
      | (rw [if_pos (by omega)] at hW; omega)
      | (rw [if_neg (by omega), if_neg (by omega)] at hW; omega)
      | (rw [if_neg (by omega), if_pos (by omega)] at hW; omega)
      | (rw [if_neg (by omega), if_neg (by omega)] at hW; have e : q + 1 = R.length := by omega
         have := A1 q; rw [e] at this; omega)
      | (rw [if_neg (by omega), if_neg (by omega)] at hW; have e : k = q + 1 := by omega
         subst e; have := A1 q; omega)
      | (rw [if_neg (by omega), if_pos (by omega)] at hW; have e : k = 0 := by omega
         subst e; rw [h7, S0]; omega)
      | (rw [if_neg (by omega), if_pos (by omega)] at hW; have e : k = q + 1 := by omega
         subst e; have := S1 q; rw [h7, i7, i8]; omega)
      | (rw [if_pos (by omega)] at hW; exact absurd (h2.trans (hW.1.trans i1)) (hRr k h1))
      | (rw [if_pos (by omega)] at hW; exact absurd (i2.trans (hW.1.symm.trans h1)) (hRr q i1))
      | (rw [if_pos (by omega)] at hW; have e : k = q := by
           have h10 : (k : Int) = (q : Int) := by rw [← h3, ← i3, hW.1]
           omega
         subst e; have := A1 k; omega)
  obtain ⟨p, hp, hle⟩ := W5 hj hfeas
  refine ⟨p, hp, XY (by unfold okJob at okr; omega) _ fun w hw => ?_⟩
  have h9 := hle w hw
  rcases gv w hw with ⟨h1, h2, h3, h4, ⟨h5, h6, h7⟩ | ⟨h5, h6, h7⟩⟩ | ⟨k, h1, h2, h3, h4, h5, ⟨h6, h7, h8⟩ | ⟨h6, h7, h8⟩⟩
  · omega
  · unfold okJob at okr; omega
  · have := Amon (k + 1) (by omega)
    rw [A1] at this
    unfold okJob at okr; omega
  · have := turn (k + 1) (by omega)
    have := Tmon (k + 1) (by omega)
    rw [S1] at *
    omega
end
end Go.Fip.S
namespace Go.Fip.S
def sw (l : List Pr) : List Pr := l.map fun p => (p.2, p.1)
theorem vE (l : List Pr) : (sw l).length = l.length := by simp [sw]
theorem YP (l : List Pr) (i : Int) : nth (sw l) i = ((nth l i).2, (nth l i).1) := by
 unfold nth sw
 rw [List.getD_eq_getElem?_getD, List.getD_eq_getElem?_getD, List.getElem?_map]
 cases l[i.toNat]? <;> rfl
theorem K9 (l : List Pr) : sw (sw l) = l := by simp [sw, Function.comp_def]
def flip (w : Int) : Int := if w % 2 = 0 then w + 1 else w - 1
theorem qG (w : Int) : flip w / 2 = w / 2 := by unfold flip; split <;> omega
theorem qH (w : Int) : flip w % 2 = 1 - w % 2 := by unfold flip; split <;> omega
theorem kR (w : Int) : flip (flip w) = w := by have := qG w; have := qH w; have := qG (flip w); have := qH (flip w); omega
theorem kM (l : List Pr) (w : Int) : at2 (sw l) w = at2 l (flip w) := by
 have h1 := qG w
 have h2 := qH w
 unfold at2
 rw [YP, h1, h2]
 by_cases h : w % 2 = 0
 ·rw [if_pos h, if_neg (by omega)]
 ·rw [if_neg h, if_pos (by omega)]
theorem Jobs.sw {l : List Pr} (h : Jobs l) : Jobs (sw l) := by
 refine ⟨by rw [vE]; exact h.1, by rw [vE]; exact h.2.1, fun i hi => ?_⟩
 rw [vE] at hi
 have := h.2.2 i hi
 rw [YP]
 unfold okJob at *
 simp only
 omega
theorem X6 (l : List Pr) {b : Int} (hb : b = 0 ∨ b = 1) : ∀ k, sumTo (sw l) b k = sumTo l (1 - b) k
 | 0 => rfl
 | k + 1 => by
  rw [sumTo, sumTo, X6 l hb k, kM]
  congr 2
  unfold flip
  rcases hb with rfl | rfl
  ·rw [if_pos (by omega)]; omega
  ·rw [if_neg (by omega)]; omega
theorem X3 (l : List Pr) : ∀ k, shortTo (sw l) k = shortTo l k
 | 0 => by
  rw [shortTo, shortTo]
  unfold sumOf
  rw [vE, X6 l (.inl rfl), X6 l (.inr rfl)]
  show max (sumTo l 1 _) (sumTo l 0 _) = _
  omega
 | k + 1 => by rw [shortTo, shortTo, X3 l k, YP]; simp only; omega
theorem VJ (l : List Pr) : shortestOf (sw l) = shortestOf l := by unfold shortestOf; rw [vE, X3]
theorem GG {n : Nat} {B U F F' : List Int} (hF : ∀ i : Int, 0 ≤ i → i < (n : Int) → nth F' i = 1 - nth F i) {w v : Int} (h0 : 0 ≤ w) (h1 : w < 2 * (n : Int)) : Waits U B F' (flip w) (flip v) ↔ Waits B U F w v := by
  have a := qG w
  have b := qH w
  have c := qG v
  have d := qH v
  unfold Waits row
  rw [a, b, c, d]
  by_cases h : w % 2 = v % 2
  · rw [if_neg (show ¬ (1 - w % 2 ≠ 1 - v % 2) by omega), if_neg (show ¬ (w % 2 ≠ v % 2) by omega)]
    by_cases h2 : w % 2 = 1
    · rw [if_neg (show ¬ 1 - w % 2 = 1 by omega), if_pos h2]
    · rw [if_pos (show 1 - w % 2 = 1 by omega), if_neg h2]
  · rw [if_pos (show 1 - w % 2 ≠ 1 - v % 2 by omega), if_pos (show w % 2 ≠ v % 2 by omega), hF (w / 2) (by omega) (by omega)]
    constructor <;> intro h3 <;> exact ⟨h3.1, by omega⟩
theorem SolP.sw {l p : List Pr} {B U F F' : List Int} (hF : ∀ i : Int, 0 ≤ i → i < (l.length : Int) → nth F' i = 1 - nth F i) (h : SolP l B U F p) : SolP (sw l) U B F' (sw p) := by
 refine ⟨by rw [vE, vE]; exact h.1, fun w hw => ?_⟩
 rw [vE] at hw
 have fd := qG (w : Int)
 have fm := qH (w : Int)
 have e : (((flip (w : Int)).toNat : Nat) : Int) = flip (w : Int) := by omega
 have key := h.2 (flip (w : Int)).toNat (by omega)
 rw [e] at key
 rw [kM]
 refine ⟨key.1, fun v hv hW => ?_, ?_⟩
 ·rw [vE] at hv
  have gd := qG (v : Int)
  have gm := qH (v : Int)
  have e2 : (((flip (v : Int)).toNat : Nat) : Int) = flip (v : Int) := by omega
  have := key.2.1 (flip (v : Int)).toNat (by omega)
  rw [e2] at this
  rw [kM, kM]
  refine this ((GG hF (by omega) (by omega)).1 ?_)
  rw [kR, kR]; exact hW
 ·rcases key.2.2 with k0 | ⟨v, hv, hW, k1⟩
  ·exact .inl k0
  ·right
   have gd := qG (v : Int)
   have gm := qH (v : Int)
   have e2 : (((flip (v : Int)).toNat : Nat) : Int) = flip (v : Int) := by omega
   refine ⟨(flip (v : Int)).toNat, by rw [vE]; omega, ?_, ?_⟩
   ·rw [e2]
    have := (GG hF (v := (v : Int)) (w := flip (w : Int)) (by omega) (by omega)).2 hW
    rwa [kR] at this
   ·rw [e2, kM, kM, kR]; exact k1
theorem ZW (l p : List Pr) : endOf (sw l) (sw p) ≤ endOf l p := by
 refine XY (YJ _) _ fun i hi => ?_
 rw [vE] at hi
 have fd := qG (i : Int)
 have fm := qH (i : Int)
 have := kQ (l := l) (p := p) (2 * l.length) (flip (i : Int)).toNat (by omega)
 rw [show (((flip (i : Int)).toNat : Nat) : Int) = flip (i : Int) by omega] at this
 rw [kM, kM]
 exact this
theorem zBb (l p : List Pr) : endOf (sw l) (sw p) = endOf l p := by
 have h1 := ZW l p
 have h2 := ZW (sw l) (sw p)
 rw [K9, K9] at h2
 omega
section
variable {l : List Pr}
theorem jB : ∀ k, (shortsTo l k).Nodup
 | 0 => List.nodup_nil
 | k + 1 => by
  by_cases h : (nth l (k : Int)).1 ≤ (nth l (k : Int)).2
  ·rw [(sh_t h).1, List.nodup_append]
   refine ⟨jB k, by simp, fun a ha b hb e => ?_⟩
   rw [List.mem_singleton] at hb
   have := (vA.1 ha).1
   omega
  ·rw [(sh_f h).1]; exact jB k
theorem jM : ∀ k, (longsTo l k).Nodup
 | 0 => List.nodup_nil
 | k + 1 => by
  by_cases h : (nth l (k : Int)).1 ≤ (nth l (k : Int)).2
  ·rw [(sh_t h).2]; exact jM k
  ·rw [(sh_f h).2, List.nodup_append]
   refine ⟨jM k, by simp, fun a ha b hb e => ?_⟩
   rw [List.mem_singleton] at hb
   have := (vM.1 ha).1
   omega
theorem ZU {n : Nat} {X Y : List Int} {r : Int} (hX : X.Nodup) (hY : Y.Nodup) (hd : ∀ x ∈ X, x ∉ Y) (hall : ∀ i : Int, (0 ≤ i ∧ i < (n : Int)) ↔ i ∈ X ∨ i ∈ Y) (hr : r ∈ X) :
    (∀ i, i < n → ((i : Nat) : Int) ∈ ((X.filter fun y => !decide (y = r)) ++ Y) ++ [r]) ∧ ((X.filter fun y => !decide (y = r)) ++ Y).length + 1 = n := by
  have hm : ∀ i, i < n → ((i : Nat) : Int) ∈ ((X.filter fun y => !decide (y = r)) ++ Y) ++ [r] := fun i hi => by
    rw [List.mem_append, List.mem_append, List.mem_singleton, List.mem_filter]
    rcases (hall (i : Int)).1 ⟨by omega, by omega⟩ with h | h
    · by_cases e : (i : Int) = r
      · exact .inr e
      · exact .inl (.inl ⟨h, by simpa using e⟩)
    · exact .inl (.inr h)
  refine ⟨hm, ?_⟩
  have h1 := WP n _ hm
  have h2 := jY n (((X.filter fun y => !decide (y = r)) ++ Y) ++ [r]) (by
    rw [List.nodup_append, List.nodup_append]
    refine ⟨⟨hX.sublist List.filter_sublist, hY, fun a ha b hb e => ?_⟩, by simp, fun a ha b hb e => ?_⟩
    · subst e; exact hd a (List.mem_filter.1 ha).1 hb
    · rw [List.mem_singleton] at hb
      subst hb
      subst e
      rcases List.mem_append.1 ha with h | h
      · have := (List.mem_filter.1 h).2
        simp at this
      · exact hd a hr h) (fun x hx => by
    rcases List.mem_append.1 hx with h | h
    · rcases List.mem_append.1 h with h | h
      · exact (hall x).2 (.inl (List.mem_filter.1 h).1)
      · exact (hall x).2 (.inr h)
    · rw [List.mem_singleton] at h; subst h; exact (hall x).2 (.inl hr))
  rw [List.length_append, List.length_singleton] at h1 h2
  omega
theorem ZR (h : 0 < (shortsTo l l.length).length) : shortR l l.length ∈ shortsTo l l.length ∧ ∀ x ∈ shortsTo l l.length, (nth l x).1 ≤ (nth l (shortR l l.length)).1 := by
 obtain ⟨i, hi, he, hm, _⟩ := jR (p := longer1 l) (l := shortsTo l l.length) (fun x => (nth l x).1) (fun x y => by simp [longer1]) ((shortsTo l l.length).length - 1)
 have e : shortR l l.length = nth (shortsTo l l.length) (i : Int) := he
 rw [e]
 refine ⟨nth_mem (by omega), fun x hx => ?_⟩
 obtain ⟨j, hj, rfl⟩ := List.getElem_of_mem hx
 rw [← yG hj]
 exact hm j (by omega)
theorem X7 (h : 0 < (longsTo l l.length).length) : longR l l.length ∈ longsTo l l.length ∧ ∀ x ∈ longsTo l l.length, (nth l x).2 ≤ (nth l (longR l l.length)).2 := by
 obtain ⟨i, hi, he, hm, _⟩ := jR (p := longer2 l) (l := longsTo l l.length) (fun x => (nth l x).2) (fun x y => by simp [longer2]) ((longsTo l l.length).length - 1)
 have e : longR l l.length = nth (longsTo l l.length) (i : Int) := he
 rw [e]
 refine ⟨nth_mem (by omega), fun x hx => ?_⟩
 obtain ⟨j, hj, rfl⟩ := List.getElem_of_mem hx
 rw [← yG hj]
 exact hm j (by omega)
theorem KI (hj : Jobs l) : Ord l.length (planOrd l).1 (planOrd l).2.1 (planOrd l).2.2 ∧ ∃ p, SolP l (planOrd l).1 (planOrd l).2.1 (planOrd l).2.2 p ∧ endOf l p ≤ shortestOf l := by
  have hp := parts_length (l := l) l.length
  have hl1 := hj.1
  by_cases hu : useShort l l.length
  · rw [planOrd_t rfl hu]
    have hS : 0 < (shortsTo l l.length).length := by unfold useShort at hu; omega
    obtain ⟨hr, hb⟩ := ZR hS
    have hrm := (vA.1 hr).2
    obtain ⟨hall, hlen⟩ := ZU (n := l.length) (jB l.length) (jM l.length) (fun x hx hy => (vM.1 hy).2 (vA.1 hx).2)
      (fun i => ⟨fun hi => by by_cases h : (nth l i).1 ≤ (nth l i).2
                              · exact .inl (vA.2 ⟨hi, h⟩)
                              · exact .inr (vM.2 ⟨hi, h⟩), fun h => h.elim (fun h => (vA.1 h).1) (fun h => (vM.1 h).1)⟩) hr
    refine opt hj hlen (vA.1 hr).1 hall ((shortsTo l l.length).filter fun y => !decide (y = shortR l l.length)).length (fun k hk hk2 => ?_) (fun k hk hk2 => ?_)
    · have hmem : nth (rowS l l.length) (k : Int) ∈ shortsTo l l.length := by
        unfold rowS
        rw [xS (by omega) (by omega)]
        exact (List.mem_filter.1 (nth_mem hk)).1
      have h1 := (vA.1 hmem).2
      have h2 := hb _ hmem
      exact ⟨h1, Int.le_trans h2 hrm⟩
    · have hk3 : k - ((shortsTo l l.length).filter fun y => !decide (y = shortR l l.length)).length < (longsTo l l.length).length := by
        unfold rowS at hk2; rw [List.length_append] at hk2; omega
      have hmem : nth (rowS l l.length) (k : Int) ∈ longsTo l l.length := by
        unfold rowS
        rw [jC (by omega), show (k : Int) - (((shortsTo l l.length).filter fun y => !decide (y = shortR l l.length)).length : Int) = ((k - ((shortsTo l l.length).filter fun y => !decide (y = shortR l l.length)).length : Nat) : Int) by omega]
        exact nth_mem hk3
      have h1 := (vM.1 hmem).2
      have h2 := (X7 (l := l) (by omega)).2 _ hmem
      unfold useShort at hu
      have h3 : (nth l (longR l l.length)).2 ≤ (nth l (shortR l l.length)).1 := by omega
      exact ⟨by show (nth l (nth (rowS l l.length) (k : Int))).2 ≤ (nth l (nth (rowS l l.length) (k : Int))).1; omega, by show (nth l (nth (rowS l l.length) (k : Int))).2 ≤ _; omega⟩
  · rw [planOrd_f rfl hu]
    have hL : 0 < (longsTo l l.length).length := by unfold useShort at hu; omega
    obtain ⟨hr, hb⟩ := X7 hL
    have hrm := (vM.1 hr).2
    obtain ⟨hall, hlen⟩ := ZU (n := l.length) (jM l.length) (jB l.length) (fun x hx hy => (vM.1 hx).2 (vA.1 hy).2)
      (fun i => ⟨fun hi => by by_cases h : (nth l i).1 ≤ (nth l i).2
                              · exact .inr (vA.2 ⟨hi, h⟩)
                              · exact .inl (vM.2 ⟨hi, h⟩), fun h => h.elim (fun h => (vM.1 h).1) (fun h => (vA.1 h).1)⟩) hr
    obtain ⟨hO, p, hp, he⟩ := opt hj.sw (R := rowL l l.length) (r := longR l l.length) (by rw [vE]; exact hlen) (by rw [vE]; exact (vM.1 hr).1) (by rw [vE]; exact hall)
      ((longsTo l l.length).filter fun y => !decide (y = longR l l.length)).length (fun k hk hk2 => by
        have hmem : nth (rowL l l.length) (k : Int) ∈ longsTo l l.length := by
          unfold rowL
          rw [xS (by omega) (by omega)]
          exact (List.mem_filter.1 (nth_mem hk)).1
        have h1 := (vM.1 hmem).2
        have h2 := hb _ hmem
        rw [YP, YP]
        simp only
        omega) (fun k hk hk2 => by
        have hk3 : k - ((longsTo l l.length).filter fun y => !decide (y = longR l l.length)).length < (shortsTo l l.length).length := by
          unfold rowL at hk2; rw [List.length_append] at hk2; omega
        have hmem : nth (rowL l l.length) (k : Int) ∈ shortsTo l l.length := by
          unfold rowL
          rw [jC (by omega), show (k : Int) - (((longsTo l l.length).filter fun y => !decide (y = longR l l.length)).length : Int) = ((k - ((longsTo l l.length).filter fun y => !decide (y = longR l l.length)).length : Nat) : Int) by omega]
          exact nth_mem hk3
        have h1 := (vA.1 hmem).2
        have h2 := (ZR (l := l) (by omega)).2 _ hmem
        unfold useShort at hu
        rw [YP, YP]
        simp only
        omega)
    rw [vE] at hO hp
    have hF : ∀ i : Int, 0 ≤ i → i < ((sw l).length : Int) → nth (firstsTo (longR l l.length) 0 l.length) i = 1 - nth (firstsTo (longR l l.length) 1 l.length) i := fun i h0 h1 => by
      rw [vE] at h1
      have a := uP (longR l l.length) 0 l.length i.toNat (by omega)
      have b := uP (longR l l.length) 1 l.length i.toNat (by omega)
      rw [show ((i.toNat : Nat) : Int) = i by omega] at a b
      rw [a, b]; split <;> omega
    refine ⟨⟨hO.2.1, hO.1, firstsTo_length _ _ _, fun i hi => ?_⟩, sw p, ?_, ?_⟩
    · have := hO.2.2.2 i hi
      unfold okFor at *
      rw [uP _ _ _ _ hi]
      exact ⟨this.2.1, this.1, by split <;> omega, by split <;> omega⟩
    · have := hp.sw hF
      rw [K9] at this
      exact this
    · have h1 := zBb l (sw p)
      rw [K9] at h1
      rw [VJ] at he
      omega
theorem plan_ok (hj : Jobs l) : ∃ p, plan l = (p, 0) ∧ SolP l (planOrd l).1 (planOrd l).2.1 (planOrd l).2.2 p ∧ checkPlan l p = (shortestOf l, 0) := by
 obtain ⟨hO, p, hp, he⟩ := KI hj
 have hc : checkOrder l (planOrd l).1 (planOrd l).2.1 (planOrd l).2.2 = 0 := checkOrder_iff.2 ⟨hj, hO⟩
 have hs := playOf_some hj hp
 refine ⟨p, ?_, hp, ?_⟩
 ·rw [plan2 (checkJobs_iff.2 hj), pl3 hc (by rw [hs]; simp), hs]; rfl
 ·rw [hp.check hj hO]
  have := shortest_le_end hj (hp.allT hj) hp.1 (hp.right hj hO)
  rw [show endOf l p = shortestOf l by omega]
end
end Go.Fip.S
namespace Go.Fip.S
theorem Walk.start {l : List Pr} {B U F : List Int} {E : Mm} (hOK : DayOK l B U F E) {a : Nat} (ha : a < 2 * l.length) (hn : (ready E B U F (a : Int)).2 = false) : Walk l B U F E [] (a : Int) where
 inn := fun y hy => by cases hy
 nd := List.nodup_nil
 at0 := by omega
 at1 := by omega
 no := by
  rcases hOK.st a ha with ⟨_, _, h, _⟩ | ⟨h, _⟩
  ·rw [hn] at h; cases h
  ·exact h
 lnk := fun i hi => by simp at hi
 last := fun h => by simp at h
theorem place_nat {Q : List Int} {x : Int} (h : 0 ≤ place Q x) : ∃ k : Nat, k < Q.length ∧ place Q x = (k : Int) :=
 ⟨(place Q x).toNat, by have := place_lt Q x; omega, by omega⟩
end Go.Fip.S
namespace Go.Fip
namespace Tf
open S (Pr Jobs at2 clash Right endTo endOf okJob AllJ shortestOf checkPlan)
def okX (p q : Int) : Prop := 1 ≤ q ∧ q ≤ 5 ∧ 0 ≤ p ∧ p ≤ 8 * q
instance (p q : Int) : Decidable (okX p q) := by unfold okX; infer_instance
def sx (p q : Int) : Int := max 1 (p * (60 / q))
def lowM (m : Int) (x : Pr) : Int := sx (Pt.beside x.1 x.2 m).1 (Pt.beside x.1 x.2 m).2.1
def highM (m : Int) (x : Pr) : Int := sx (Pt.beside x.1 x.2 m).2.2.1 (Pt.beside x.1 x.2 m).2.2.2
structure Bs (m : Int) (x : Pr) : Prop where
 lo : okX (Pt.beside x.1 x.2 m).1 (Pt.beside x.1 x.2 m).2.1
 hi : okX (Pt.beside x.1 x.2 m).2.2.1 (Pt.beside x.1 x.2 m).2.2.2
 l1 : 1 ≤ lowM m x
 le : lowM m x ≤ highM m x
 h2 : highM m x ≤ 480
 eq : x.2 ≤ m → lowM m x = highM m x
structure Less (l h : List Pr) : Prop where
 len : l.length = h.length
 at2 : ∀ v : Nat, v < 2 * l.length → S.at2 l (v : Int) ≤ S.at2 h (v : Int)
theorem Less.right {l h p : List Pr} (hl : Less l h) (hr : Right h p) : Right l p := fun v hv w hw hc => by
 refine hr v (by rw [← hl.len]; exact hv) w hw ⟨hc.1, ?_, ?_⟩
 ·have := hl.at2 w (by omega); have := hc.2.1; omega
 ·have := hl.at2 v hv; have := hc.2.2; omega
theorem Less.endTo {l h p : List Pr} (hl : Less l h) : ∀ k, k ≤ 2 * l.length → S.endTo l p k ≤ S.endTo h p k
 | 0, _ => Int.le_refl _
 | k + 1, hk => by
  have ih := Less.endTo (p := p) hl k (by omega)
  have h2 := hl.at2 k (by omega)
  show max (S.endTo l p k) (S.at2 p (k : Int) + S.at2 l (k : Int)) ≤ max (S.endTo h p k) (S.at2 p (k : Int) + S.at2 h (k : Int))
  omega
theorem Less.end {l h p : List Pr} (hl : Less l h) : endOf l p ≤ endOf h p := by
 unfold endOf
 rw [← hl.len]
 exact hl.endTo _ (Nat.le_refl _)
end Tf
end Go.Fip
namespace Go.Fip
end Go.Fip
namespace Go.Proofs.YtdpgihdhilmfjaaGreat
open Go.ChangeShapes Go.WideShapes Go.ChangeAt Go.RowKit Go.Fip
theorem own : ownKnob Tryz.prog.godebug = none := by kernel_rfl
theorem laid : laidOutB Tryz.prog = true := by kernel_rfl
section
variable {H : Type} {enc : TypeId × Value → H} {W : World} {b : Nat} {v : Value} {d : DataW H} {ps : List MemPlace}
set_option maxRecDepth 100000 in
theorem argJ (hok : Value.okWide Tryz.prog W .any b 24 v) (h : DataW.Trod enc Tryz.prog W 0 (fun _ => true) true 24 v d ps) : ∃ xs : List (Int × Int), Rd Go.Fip.encP 2 v xs W := by
 obtain ⟨xs, hx, _⟩ := JW Tryz.underlying24 Tryz.underlying36 (by kernel_rfl) rfl rfl (by kernel_rfl) (by kernel_rfl) (by kernel_rfl) (by kernel_rfl) hok h
 exact ⟨xs, hx⟩
set_option maxRecDepth 100000 in
theorem argB (hok : Value.okWide Tryz.prog W .any b 44 v) (h : DataW.Trod enc Tryz.prog W 0 (fun _ => true) true 44 v d ps) : ∃ xs : List Int, Rd Go.Fip.encB 1 v xs W ∧ ∀ n ∈ xs, 0 ≤ n ∧ n ≤ 255 := by
 obtain ⟨xs, hx, hw⟩ := zBc Tryz.underlying44 Tryz.underlying5 (by kernel_rfl) hok h
 exact ⟨xs, hx, fun n hn => bounds_u8 (hw n hn)⟩
end
end Go.Proofs.YtdpgihdhilmfjaaGreat
namespace Go.Proofs.YtdpgihdhilmfjaaGreat
open Go.ChangeShapes Go.RowKit
section
variable {H : Type} {enc : TypeId × Value → H} {P : Program} {w : World} {base : Nat} {spare : Nat → Bool} {held : Bool}
theorem WO {t t' t'' t3 t4 : TypeId} {args : Array Value} {ds : List (DataW H)} {ps : List MemPlace} (h : DataW.TrodAll enc P w base spare held [t, t', t'', t3, t4] args.toList ds ps) :
  ∃ v v' v'' v3 v4 d d' d'' d3 d4 p p' p'' p3 p4, args = #[v, v', v'', v3, v4] ∧ ds = [d, d', d'', d3, d4] ∧ ps = p ++ p' ++ p'' ++ p3 ++ p4 ∧ DataW.Trod enc P w base spare held t v d p ∧ DataW.Trod enc P w base spare held t' v' d' p' ∧ DataW.Trod enc P w base spare held t'' v'' d'' p'' ∧ DataW.Trod enc P w base spare held t3 v3 d3 p3 ∧ DataW.Trod enc P w base spare held t4 v4 d4 p4 := by
 obtain ⟨v, vs, d, ds', p, q, hargs, rfl, rfl, hd, hrest⟩ := trodAll_cons h
 obtain ⟨v', vs', d', ds'', p', q', rfl, rfl, rfl, hd', hrest'⟩ := trodAll_cons hrest
 obtain ⟨v'', vs'', d'', ds''', p'', q'', rfl, rfl, rfl, hd'', hrest''⟩ := trodAll_cons hrest'
 obtain ⟨v3, vs3, d3, ds3, p3, q3, rfl, rfl, rfl, hd3, hrest3⟩ := trodAll_cons hrest''
 obtain ⟨v4, vs4, d4, ds4, p4, q4, rfl, rfl, rfl, hd4, hrest4⟩ := trodAll_cons hrest3
 obtain ⟨rfl, rfl, rfl⟩ := trodAll_nil hrest4
 exact ⟨v, v', v'', v3, v4, d, d', d'', d3, d4, p, p', p'', p3, p4, by cases args; simp_all, rfl, by simp, hd, hd', hd'', hd3, hd4⟩
end
end Go.Proofs.YtdpgihdhilmfjaaGreat
namespace Go.Fip
open Go.RowKit
def evp (env : Env) : List (Nat × Operand) → Option (List (Nat × Value))
 | [] => some []
 | p :: ps => match ev env p.2 with
  | some v => match evp env ps with
   | some vs => some ((p.1, v) :: vs)
   | none => none
  | none => none
theorem XJ {N : Nat} {a : Act} {ds : List Deferred} {env : Env} (h : Fits N a ds env) : ∀ {ps : List (Nat × Operand)} {us : List (Nat × Value)}, evp env ps = some us → (ps.map fun (i, x) => (i, a.eval x)) = us
 | [], us, e => by cases e; rfl
 | p :: ps, us, e => by
  unfold evp at e
  cases h1 : ev env p.2 with
  | none => rw [h1] at e; cases e
  | some v =>
   rw [h1] at e
   cases h2 : evp env ps with
   | none => rw [h2] at e; cases e
   | some vs =>
    rw [h2] at e
    cases e
    simp only [List.map_cons, h.ev h1, XJ h h2]
section
variable {r : Option Nat} {P : Program} {N : Nat} {ds : List Deferred} {env : Env} {w : World} {Q : Post} {all : Array Oper} {rest : List Oper} {H : List Item} {d : Nat} {ty : TypeId} {pos : String} {after : Array Edge}
theorem z2 {α : Type} {T E sz n : Nat} {enc : α → List Value} {ps : List (Nat × Operand)} {us : List (Nat × Value)} (hE : El P T E sz enc) (xs : List α) (hx : evp env ps = some us)
  (hr : ∀ w, (Instr.buildSlice T n us.toArray).run P w = .ok (.slice (some ⟨w.heap.size, 0, none⟩) n n) (w.alloc (.cells (xs.flatMap enc).toArray E)))
  (hH : Heap H w)
  (h : ∀ v lo hi w', Heap (ow lo hi E sz enc v xs :: H) w' → Ops r P N all rest ds ((d, v) :: env) w' Q) (hl : xs.length = n := by rfl) (hd : Nat.blt d N = true := by rfl) (hn : n ≤ 1000000 := by decide) :
  Ops r P N all (⟨some d, .buildSlice T n ps.toArray, ty, pos, after, none⟩ :: rest) ds env w Q :=
 zCo hE xs hl hn hd (fun a ha => by rw [← XJ ha hx]; simp) hr hH h
theorem yR {T : TypeId} {S : World → Prop} {v : Value} {ps : List (Nat × Operand)} {us : List (Nat × Value)} (hx : evp env ps = some us) (hr : ∀ w, (Instr.build T us.toArray).run P w = .ok v w) : Yv P N ds env (.build T ps.toArray) v S :=
 XS (us := us) (fun a ha => by rw [← XJ ha hx]; simp) hr
end
section
variable {r : Option Nat} {P : Program} {N : Nat} {S : World → Prop} {ops : Array Oper} {fuel f0 : Nat} {listed l0 : Array Bool} {ds : List Deferred} {env0 : Env} {w0 : World} {Q : Post}
theorem AnyE.sub {env env' : Env} {w : World} (h : AnyE r P N S ops fuel listed ds env' w Q) (hs : Sub env' env) : AnyE r P N S ops fuel listed ds env w Q := fun a ha => h a (ha.sub hs)
theorem Y5 {Z : Type} (E : Z → Env) (R : Z → World → Prop) (fuel : Nat) (listed : Array Bool) (hM : ∀ s w, R s w → AnyE r P N S ops fuel listed ds (E s) w Q)
  (h : (∀ s env w, Sub (E s) env → R s w → AnyE r P N S ops fuel listed ds env w Q) → AnyE r P N S ops f0 l0 ds env0 w0 Q) : AnyE r P N S ops f0 l0 ds env0 w0 Q :=
 h (fun s env w hs hr => (hM s w hr).sub hs)
end
end Go.Fip
namespace Go.Fip
open Go.RowKit
theorem zBe {P : Program} {N : Nat} {ds : List Deferred} {env : Env} {S : World → Prop} {x : Operand} {T n E sz b : Nat} (hT : TArr P T n E sz) (hx : ev env x = some (.pointer (some ⟨b, 0, none⟩))) : Yv P N ds env (.slice T x none none none) (.slice (some ⟨b, 0, none⟩) n n) S := fun a ha w _ _ _ _ _ _ => by
 have e : (⟨b, 0, none⟩ : Addr).add 0 = ⟨b, 0, none⟩ := by unfold Addr.add; split <;> rfl
 simp [execOp, ha.ev hx, Instr.sliceAt, run_underlying hT.1, Instr.sliceBounds, vP hT.2, Result.andThen, Instr.sureAddr, asAddr, e]
theorem Bx.rdI {b t : Nat} {xs : List Int} {w : World} (h : Bx b t (xs.map (Value.int .i64)) w) : Rd encI 1 (.slice (some ⟨b, 0, none⟩) xs.length xs.length) xs w := by
 refine ⟨⟨_, _, rfl, Nat.le_refl _, .inr ⟨_, _, rfl⟩⟩, fun i x hi j u hj => ?_⟩
 match j, hj with
 | 0, hj =>
  simp [encI] at hj
  subst hj
  have hlt := (List.getElem?_eq_some_iff.1 hi).1
  simp only [eb, eo, Nat.mul_one, Nat.add_zero, Nat.zero_add]
  exact yM h (by rw [List.getElem?_map, hi]; rfl)
 | j + 1, hj => simp [encI] at hj
def ints (C : List Int) : List Value := C.map (Value.int .i64)
theorem XH {C : List Int} {i : Int} (h : 0 ≤ i ∧ i < (C.length : Int)) : (ints C)[i.toNat]? = some (.int .i64 (nth C i)) := by
 unfold ints
 rw [List.getElem?_map, XD h]; rfl
theorem vG {C : List Int} : (ints C).length = C.length := List.length_map ..
theorem Z2 {C : List Int} {i x : Int} (h : 0 ≤ i ∧ i < (C.length : Int)) : splice (ints C) i.toNat [.int .i64 x] = ints (C.set i.toNat x) := by
 unfold splice ints
 rw [List.map_set, List.set_eq_take_append_cons_drop, if_pos (by rw [List.length_map]; omega)]
 simp
theorem KU {cs us : List Value} (h : us.length = cs.length) : splice cs 0 us = us := by
 unfold splice
 simp [h]
theorem GD {C : List Int} : (ints C).all (·.oneCell') = true := by
 unfold ints
 rw [List.all_eq_true]
 intro x hx
 obtain ⟨y, _, rfl⟩ := List.mem_map.1 hx
 rfl
theorem K5 {P : Program} {N : Nat} {ds : List Deferred} {env : Env} {S : World → Prop} {x y : Operand} {T n E : Nat} {k : IntKind} {C : List Int} {i : Int} (hT : TArr P T n E 1) (hE : TOne P E) (hx : ev env x = some (ag C)) (hy : ev env y = some (.int k i)) (hn : C.length = n) (hi : 0 ≤ i ∧ i < (n : Int)) :
  Yv P N ds env (.index T x y) (.int .i64 (nth C i)) S := fun act hact w _ _ _ _ _ _ => by
 have h2 := hE w
 have h3 : (C.map (Value.int .i64))[i.toNat]? = some (.int .i64 (nth C i)) := XH (by omega)
 simp [execOp, hact.ev hx, hact.ev hy, Instr.index, asIntOf, run_underlying hT.1, vP hT.2, part, h2, Result.andThen, ag, hi]
 rw [List.getElem?_map] at h3
 obtain ⟨z, hz, he⟩ := Option.map_eq_some_iff.1 h3
 cases he
 rw [hz]
 rfl
theorem GV {P : Program} {E : Nat} {d : Nat} {w : World} (hi : ∀ w, (isAgg E).run P w = .ok false w) (hE2 : P.underlying E = some (.int .i64)) {a b : List Int} : ∀ is : List Nat, (∀ i ∈ is, i < a.length ∧ i < b.length) →
  (Op.eqItems (d + 1) E 1 (a.map (Value.int .i64)).toArray (b.map (Value.int .i64)).toArray is).run P w = .ok (decide (∀ i ∈ is, nth a (i : Int) = nth b (i : Int))) w := by
 intro is
 induction is with
 | nil => intro _; simp [Op.eqItems]
 | cons j is ih =>
  intro h
  have hj := h j List.mem_cons_self
  have e1 := fun x y => run_equalIn_int (P := P) w d E .i64 .i64 x y hE2
  have hp : ∀ c : List Int, j < c.length → (part E (c.map (Value.int .i64)).toArray j).run P w = .ok (.int .i64 (nth c (j : Int))) w := fun c hc => by
   have := XH (C := c) (i := (j : Int)) (by omega)
   unfold ints at this
   simp only [Int.toNat_natCast] at this
   simp [part, hi w, Result.andThen]
   rw [List.getElem?_map] at this
   obtain ⟨z, hz, he⟩ := Option.map_eq_some_iff.1 this
   cases he
   rw [hz]
   rfl
  have ih2 := ih (fun i hi => h i (List.mem_cons_of_mem _ hi))
  simp only [Op.eqItems, Sem.run_bind, Nat.mul_one, hp a hj.1, hp b hj.2, Result.andThen, e1]
  by_cases h0 : nth a (j : Int) = nth b (j : Int)
  ·simp [h0, ih2]
  ·simp [h0]
theorem zBj {P : Program} {T E n : Nat} {i : TypeInfo} (hu : P.underlying T = some (.array n E)) (hE : P.info? E = some i) (hc : P.cellsOf E = 1) (hi : ∀ w, (isAgg E).run P w = .ok false w) (hE2 : P.underlying E = some (.int .i64)) (hg : P.eqGuardType P.depth T = false) : EqI P T n := by
 refine ⟨fun a b w ha hb => ?_, hg⟩
 have h := run_equalIn_array (P := P) (w := w) (9998 + 1) (a.map (Value.int .i64)).toArray (b.map (Value.int .i64)).toArray hu hE
 rw [hc, GV hi hE2 (List.range n) (fun i hi => by rw [List.mem_range] at hi; omega)] at h
 refine (show (Op.equal T (ag a) (ag b)).run P w = _ from h).trans ?_
 congr 1
 refine decide_eq_decide.2 ⟨fun h => ?_, fun h => by subst h; exact fun _ _ => rfl⟩
 refine List.ext_getElem (by omega) fun k h1 h2 => ?_
 have := h k (List.mem_range.2 (by omega))
 rwa [yG h1, yG h2] at this
section symops
variable {r : Option Nat} {P : Program} {N : Nat} {ds : List Deferred} {env : Env} {w : World} {Q : Post} {all : Array Oper} {rest : List Oper} {H : List Item} {x y : Operand} {ty : TypeId} {pos : String} {after : Array Edge}
theorem zBu {T b n t : Nat} {C : List Int} {i z : Int} (hp : ev env x = some (.pointer (some ⟨b, 0 + i.toNat * 1, none⟩))) (hx : ev env y = some (.int .i64 z)) (hH : Heap H w) (hn : H[n]? = some (bx b t (ints C))) (hsz : (P.info? T).map (·.size) = some 1) (hi : 0 ≤ i ∧ i < (C.length : Int))
  (h : ∀ w', Heap (H.set n (bx b t (ints (C.set i.toNat z)))) w' → Ops r P N all rest ds env w' Q) : Ops r P N all (⟨none, .store T x y, ty, pos, after, none⟩ :: rest) ds env w Q :=
 zS (j := i.toNat) (us := [.int .i64 z]) (by rw [hp]; simp) hx hH hn hsz rfl rfl (by rw [Nat.ble_eq, vG]; simp; omega) rfl (fun w' hw => h w' (by rwa [Z2 hi] at hw))
theorem YY {T b n t m : Nat} {cs : List Value} {C : List Int} (hp : ev env x = some (.pointer (some ⟨b, 0, none⟩))) (hx : ev env y = some (ag C)) (hH : Heap H w) (hn : H[n]? = some (bx b t cs)) (hsz : (P.info? T).map (·.size) = some m) (hm : C.length = m) (hl : cs.length = m)
  (h : ∀ w', Heap (H.set n (bx b t (ints C))) w' → Ops r P N all rest ds env w' Q) : Ops r P N all (⟨none, .store T x y, ty, pos, after, none⟩ :: rest) ds env w Q :=
 zS (j := 0) (us := ints C) hp hx hH hn hsz rfl (by rw [vG]; exact hm) (by rw [Nat.ble_eq, vG]; omega) GD (fun w' hw => h w' (by rwa [KU (by rw [vG]; omega)] at hw))
theorem W6 {S : World → Prop} {T b t : Nat} {C : List Int} {i : Int} (hT : TOne P T) (hx : ev env x = some (.pointer (some ⟨b, 0 + i.toNat * 1, none⟩))) (hi : 0 ≤ i ∧ i < (C.length : Int)) (hb : ∀ w, S w → Bx b t (ints C) w) : Yv P N ds env (.load T x) (.int .i64 (nth C i)) S :=
 zE (o := i.toNat) hT (by rw [hx]; simp) (fun w hw => yM (hb w hw) (XH hi))
theorem uD {S : World → Prop} {T n b t : Nat} {C : List Int} (hT : TAgg P T n) (hn : C.length = n) (hx : ev env x = some (.pointer (some ⟨b, 0, none⟩))) (hb : ∀ w, S w → Bx b t (ints C) w) : Yv P N ds env (.load T x) (ag C) S :=
 zW (cs := ints C) hT (by rw [vG]; exact hn) hx (fun w hw j u hj => by rw [Nat.zero_add]; exact yM (hb w hw) hj)
end symops
section kinds
variable {P : Program} {N : Nat} {ds : List Deferred} {env : Env} {S : World → Prop} {x y : Operand} {k : IntKind} {m n : Int} {T T' : TypeId}
theorem G4 {m : Int} (h : 0 ≤ m ∧ m ≤ 18446744073709551615) : IntKind.u64.wrap m = m := IntWalk.u64_in m h
end kinds
theorem yJ {P : Program} {N : Nat} {ds : List Deferred} {env : Env} {op : Op} {a b : Bool} {S : World → Prop} (h : a = b) (hy : Yv P N ds env op (.bool a) S) : Yv P N ds env op (.bool b) S := h ▸ hy
end Go.Fip
namespace Go.Fip
open Go.RowKit
def seg (pre : List Value) (C : List Int) (post : List Value) : List Value := pre ++ (ints C ++ post)
section
variable {pre post : List Value} {C : List Int}
theorem JS : (seg pre C post).length = pre.length + (C.length + post.length) := by simp [seg, ints]
theorem JH {j : Nat} {v : Value} (h : pre[j]? = some v) : (seg pre C post)[j]? = some v := by
 have hlt := (List.getElem?_eq_some_iff.1 h).1
 unfold seg
 rw [List.getElem?_append_left hlt]; exact h
theorem zCd {i : Int} (h : 0 ≤ i ∧ i < (C.length : Int)) : (seg pre C post)[pre.length + i.toNat]? = some (.int .i64 (nth C i)) := by
 unfold seg
 rw [List.getElem?_append_right (by omega), Nat.add_sub_cancel_left, List.getElem?_append_left (by rw [vG]; omega)]
 exact XH h
theorem zAe {n j : Nat} {v : Value} (hn : C.length = n) (h : post[j]? = some v) : (seg pre C post)[pre.length + (n + j)]? = some v := by
 unfold seg
 rw [List.getElem?_append_right (by omega), Nat.add_sub_cancel_left, List.getElem?_append_right (by rw [vG]; omega), vG, hn, Nat.add_sub_cancel_left]
 exact h
theorem zA0 {j : Nat} {u : Value} (h : (ints C)[j]? = some u) : (seg pre C post)[pre.length + j]? = some u := by
 have hlt := (List.getElem?_eq_some_iff.1 h).1
 unfold seg
 rw [List.getElem?_append_right (by omega), Nat.add_sub_cancel_left, List.getElem?_append_left hlt]; exact h
theorem K3 {i x : Int} (h : 0 ≤ i ∧ i < (C.length : Int)) : splice (seg pre C post) (pre.length + i.toNat) [.int .i64 x] = seg pre (C.set i.toNat x) post := by
 unfold seg
 rw [YI _ _ _ _ _ (by rw [vG]; simp only [List.length_cons, List.length_nil]; omega), Z2 h]
end
section
variable {r : Option Nat} {P : Program} {N : Nat} {ds : List Deferred} {env : Env} {w : World} {Q : Post} {all : Array Oper} {rest : List Oper} {H : List Item} {x y : Operand} {ty : TypeId} {pos : String} {after : Array Edge} {S : World → Prop}
variable {pre post : List Value} {C : List Int} {T b o t n : Nat} {i z : Int} {v : Value}
theorem zBg (hT : TOne P T) (hx : ev env x = some (.pointer (some ⟨b, o, none⟩))) (ho : o = pre.length + i.toNat) (hi : 0 ≤ i ∧ i < (C.length : Int)) (hb : ∀ w, S w → Bx b t (seg pre C post) w) : Yv P N ds env (.load T x) (.int .i64 (nth C i)) S := by
 subst ho
 exact zE hT hx (fun w hw => yM (hb w hw) (zCd hi))
theorem xW {j : Nat} (hT : TOne P T) (hx : ev env x = some (.pointer (some ⟨b, o, none⟩))) (ho : o = j) (h : pre[j]? = some v) (hb : ∀ w, S w → Bx b t (seg pre C post) w) : Yv P N ds env (.load T x) v S := by
 subst ho
 exact zE hT hx (fun w hw => yM (hb w hw) (JH h))
theorem qQ {j m : Nat} (hT : TOne P T) (hx : ev env x = some (.pointer (some ⟨b, o, none⟩))) (hC : C.length = m) (ho : o = pre.length + (m + j)) (h : post[j]? = some v) (hb : ∀ w, S w → Bx b t (seg pre C post) w) : Yv P N ds env (.load T x) v S := by
 subst ho
 exact zE hT hx (fun w hw => yM (hb w hw) (zAe hC h))
theorem uG {m : Nat} (hT : TAgg P T m) (hx : ev env x = some (.pointer (some ⟨b, o, none⟩))) (hC : C.length = m) (ho : o = pre.length) (hb : ∀ w, S w → Bx b t (seg pre C post) w) : Yv P N ds env (.load T x) (ag C) S := by
 subst ho
 exact zW (cs := ints C) hT (by rw [vG]; exact hC) hx (fun w hw j u hj => yM (hb w hw) (zA0 hj))
theorem KN {m : Nat} {us : List Value} (hT : TAgg P T m) (hm : us.length = m) (hx : ev env x = some (.pointer (some ⟨b, 0, none⟩))) (hu : us = pre) (hb : ∀ w, S w → Bx b t (seg pre C post) w) : Yv P N ds env (.load T x) (.agg us.toArray) S := by
 subst hu
 exact zW (cs := us) hT hm hx (fun w hw j u hj => by rw [Nat.zero_add]; exact yM (hb w hw) (JH hj))
theorem V8 (hp : ev env x = some (.pointer (some ⟨b, o, none⟩))) (hx : ev env y = some (.int .i64 z)) (ho : o = pre.length + i.toNat) (hH : Heap H w) (hn : H[n]? = some (bx b t (seg pre C post))) (hsz : (P.info? T).map (·.size) = some 1) (hi : 0 ≤ i ∧ i < (C.length : Int))
  (h : ∀ w', Heap (H.set n (bx b t (seg pre (C.set i.toNat z) post))) w' → Ops r P N all rest ds env w' Q) : Ops r P N all (⟨none, .store T x y, ty, pos, after, none⟩ :: rest) ds env w Q := by
 subst ho
 exact zS (us := [.int .i64 z]) hp hx hH hn hsz rfl rfl (by rw [Nat.ble_eq, JS]; simp only [List.length_cons, List.length_nil]; omega) rfl (fun w' hw => h w' (by rwa [K3 hi] at hw))
end
abbrev Arr (n : Nat) := { l : List Int // l.length = n }
abbrev kvA {n : Nat} (a : Arr n) : Value := ag a.1
theorem uY {n : Nat} : ∀ a b : Arr n, kvA a = kvA b → a = b := fun a b h => by
 apply Subtype.ext
 simp only [kvA, ag, Value.agg.injEq, Array.mk.injEq] at h
 exact (List.map_inj_right (fun x y e => by cases e; rfl)).1 h
theorem ZJ {P : Program} {KT E n : Nat} {i : TypeInfo} {a : List Int} (hk : P.underlying KT = some (.array n E)) (hE : P.info? E = some i) (hc : P.cellsOf E = 1) (hi : ∀ w, (isAgg E).run P w = .ok false w) (hE2 : P.underlying E = some (.int .i64)) (ha : a.length = n) (e : Bool) (d : Nat) (w : World) : (Instr.checkKey e (d + 2) KT (ag a)).run P w = .ok () w := by
  have h1 : ∀ j, j < n → (part E (a.map (Value.int .i64)).toArray (j * 1)).run P w = .ok (.int .i64 (nth a (j : Int))) w := fun j hj => by
    have hj' : j < a.length := by omega
    simp [part, hi w, Result.andThen, yG hj', hj']
  have h2 : ∀ x : Int, (Instr.checkKey e (d + 1) E (.int .i64 x)).run P w = .ok () w := fun x => by simp [Instr.checkKey, run_underlying hE2, Result.andThen]
  have h3 : (sizeOf E).run P w = .ok 1 w := by rw [run_sizeOf w hE, hc]
  unfold ag
  rw [Instr.checkKey]
  simp only [Sem.run_bind, run_underlying hk, Result.andThen_ok]
  simp only [Std.Legacy.Range.forIn_eq_forIn_range', Std.Legacy.Range.size, Nat.sub_zero, Nat.add_one_sub_one, Nat.div_one]
  have key : ∀ is : List Nat, (∀ j, j ∈ is → j < n) → (forIn is PUnit.unit (fun j _ => do
      let s ← sizeOf E
      let p ← part E (a.map (Value.int .i64)).toArray (j * s)
      Instr.checkKey e (d + 1) E p
      pure (ForInStep.yield PUnit.unit)) : Sem PUnit).run P w = .ok PUnit.unit w := fun is => by
    induction is with
    | nil => intro _; simp
    | cons j is ih =>
      intro hj
      simp only [List.forIn_cons, Sem.run_bind, h3, Result.andThen_ok, h1 j (hj j (by simp)), h2, Sem.run_pure]
      exact ih (fun k hk => hj k (by simp [hk]))
  have h5 := key (List.range' 0 n) (fun j hj => by simpa using hj)
  rw [h5]
  rfl
theorem zA4 {P : Program} {MT KT ET E n : Nat} {i : TypeInfo} {V : Type} {vv : V → Value} {z : V} (hu : P.underlying MT = some (.map KT ET)) (hk : P.underlying KT = some (.array n E)) (hE : P.info? E = some i) (hc : P.cellsOf E = 1) (hi : ∀ w, (isAgg E).run P w = .ok false w) (hE2 : P.underlying E = some (.int .i64)) (hg : P.eqGuardType P.depth KT = false) (hz : ∀ w, (zeroValue ET).run P w = .ok (vv z) w) : MapT P MT KT ET (kvA (n := n)) vv z := by
  refine ⟨hu, ⟨_, hk, fun _ _ => rfl⟩, fun a b w => ?_, fun a w e => ZJ hk hE hc hi hE2 a.2 e 9998 w, hz, fun a => ?_⟩
  · have := (zBj hk hE hc hi hE2 hg).eq a.1 b.1 w a.2 b.2
    exact this.trans (congrArg (fun q => Result.ok q w) (decide_eq_decide.2 Subtype.ext_iff.symm))
  · have key : ∀ d, Instr.sameBits (d + 1) (kvA a) (kvA a) = true := fun d => by
      have hz : ∀ (l : List Int) (p : Value × Value), p ∈ (l.map (Value.int .i64)).zip (l.map (Value.int .i64)) → Instr.sameBits d p.1 p.2 = true := fun l => by
        induction l with
        | nil => intro p hp; simp at hp
        | cons x l ih =>
          intro p hp
          simp only [List.map_cons, List.zip_cons_cons, List.mem_cons] at hp
          rcases hp with rfl | hp
          · cases d <;> simp [Instr.sameBits]
          · exact ih p hp
      simp [Instr.sameBits, kvA, ag]
      exact fun x y h => hz a.1 (x, y) h
    exact key 9999
end Go.Fip
namespace Go.Fip
theorem J2 {P : Program} {MT KT ET : Nat} {f g : Field} {V : Type} {vv : V → Value} {z : V} (hu : P.underlying MT = some (.map KT ET)) (hk : P.underlying KT = some (.struct #[f, g])) (hf' : intField P 0 f = true) (hg2 : intField P 1 g = true) (hs : P.stoodInHeld KT = false)
    (hg : P.eqGuardType P.depth KT = false) (hz : ∀ w, (zeroValue ET).run P w = .ok (vv z) w) : MapT P MT KT ET (fun n : Int × Int => .agg #[.int .i64 n.1, .int .i64 n.2]) vv z := by
  have hf := jQ hf'
  have hgi := jQ hg2
  have hfo : P.fieldsOf KT = #[f, g] := by simp [Program.fieldsOf, hk]
  refine ⟨hu, ⟨_, hk, fun _ _ => rfl⟩, fun a b w => ?_, fun a w e => ?_, hz, fun a => ?_⟩
  · have := (YA (n := 2) (fs := [f, g]) (by rw [hfo]; exact hk) (by rw [hfo]) hs hg rfl (fun i f' hi => by
      match i with
      | 0 => simp at hi; subst hi; exact hf
      | 1 => simp at hi; subst hi; exact hgi
      | i + 2 => simp at hi)).eq [a.1, a.2] [b.1, b.2] w rfl rfl
    simpa [ag, Prod.ext_iff] using this
  · obtain ⟨h1, h2, h3, h4⟩ := hf
    obtain ⟨k1, k2, k3, k4⟩ := hgi
    have e1 : (part f.type #[Value.int .i64 a.1, Value.int .i64 a.2] 0).run P w = .ok (.int .i64 a.1) w := by simp [part, h3 w, Result.andThen]
    have e1' : (part g.type #[Value.int .i64 a.1, Value.int .i64 a.2] 1).run P w = .ok (.int .i64 a.2) w := by simp [part, k3 w, Result.andThen]
    have key : ∀ d, (Instr.checkKey e (d + 2) KT (.agg #[.int .i64 a.1, .int .i64 a.2])).run P w = .ok () w := fun d => by
      have e2 : (Instr.checkKey e (d + 1) f.type (.int .i64 a.1)).run P w = .ok () w := by simp [Instr.checkKey, run_underlying h4, Result.andThen]
      have e3 : (Instr.checkKey e (d + 1) g.type (.int .i64 a.2)).run P w = .ok () w := by simp [Instr.checkKey, run_underlying k4, Result.andThen]
      rw [Instr.checkKey]
      simp [run_underlying hk, Result.andThen, h1, h2, e1, e2, k1, k2, e1', e3]
    exact key 9998
  · have key : ∀ d, Instr.sameBits (d + 1) (.agg #[.int .i64 a.1, .int .i64 a.2]) (.agg #[.int .i64 a.1, .int .i64 a.2]) = true := fun d => by simp [Instr.sameBits]
    exact key 9999
end Go.Fip
namespace Go.Fip
open Go.RowKit
section
variable {P : Program}
theorem V4 {E : Nat} (hi : ∀ w, (isAgg E).run P w = .ok false w) (a : List Int) (j : Nat) (h : j < a.length) (w : World) : (part E (a.map (Value.int .i64)).toArray j).run P w = .ok (.int .i64 a[j]) w := by
 simp [part, hi w, Result.andThen, h]
theorem YX {E : Nat} (hi : ∀ w, (isAgg E).run P w = .ok false w) (hE2 : P.underlying E = some (.int .i64)) (d : Nat) (a b : List Int) (n : Nat) (ha : a.length = n) (hb : b.length = n) (w : World) : ∀ (is : List Nat), (∀ j, j ∈ is → j < n) →
    (Op.eqItems (d + 1) E 1 (a.map (Value.int .i64)).toArray (b.map (Value.int .i64)).toArray is).run P w = .ok (decide (∀ j, j ∈ is → a[j]? = b[j]?)) w
  | [], _ => by simp [Op.eqItems]
  | j :: is, h => by
    have hj := h j (by simp)
    have ih := YX hi hE2 d a b n ha hb w is (fun k hk => h k (by simp [hk]))
    have e1 := V4 (P := P) hi a j (by omega) w
    have e2 := V4 (P := P) hi b j (by omega) w
    have e3 := run_equalIn_int (P := P) w d E .i64 .i64 a[j] b[j] hE2
    simp only [Op.eqItems, Sem.run_bind, Nat.mul_one, e1, e2, e3, Result.andThen]
    have ga : a[j]? = some a[j] := List.getElem?_eq_getElem (by omega)
    have gb : b[j]? = some b[j] := List.getElem?_eq_getElem (by omega)
    by_cases hx : a[j] = b[j]
    · simp only [hx, decide_true, beq_self_eq_true, if_true, Bool.not_true, Bool.false_eq_true, if_false]
      rw [ih]
      congr 1
      refine decide_eq_decide.2 ⟨fun k l hl => ?_, fun k l hl => k l (by simp [hl])⟩
      rcases List.mem_cons.1 hl with rfl | hl
      · rw [ga, gb, hx]
      · exact k l hl
    · have : ¬ ∀ k, k ∈ j :: is → a[k]? = b[k]? := fun k => hx (by have := k j (by simp); rw [ga, gb] at this; exact Option.some.inj this)
      rw [decide_eq_false this]
      simp [hx]
theorem GT {T E n : Nat} {i : TypeInfo} (hu : P.underlying T = some (.array n E)) (hE : P.info? E = some i) (hc : P.cellsOf E = 1) (hi : ∀ w, (isAgg E).run P w = .ok false w) (hE2 : P.underlying E = some (.int .i64)) (hg : P.eqGuardType P.depth T = false) : EqI P T n := by
 refine ⟨fun a b w ha hb => ?_, hg⟩
 have key : ∀ d, (Op.equalIn (d + 2) T (ag a) (ag b)).run P w = .ok (decide (a = b)) w := fun d => by
  have h := run_equalIn_array (P := P) (w := w) (d + 1) (a.map (Value.int .i64)).toArray (b.map (Value.int .i64)).toArray hu hE
  rw [hc, YX hi hE2 d a b n ha hb w (List.range n) (fun j hj => by simpa using hj)] at h
  refine h.trans ?_
  congr 1
  refine decide_eq_decide.2 ⟨fun k => List.ext_getElem? (fun j => ?_), fun k => by rw [k]; exact fun _ _ => rfl⟩
  by_cases hj : j < n
  ·exact k j (by simpa using hj)
  ·rw [List.getElem?_eq_none (by omega), List.getElem?_eq_none (by omega)]
 exact key 9998
end
end Go.Fip
namespace Go.Fip
open Go.Proofs
namespace T
theorem mixed : Tryz.prog.follows .mixedOrders = true := by kernel_rfl
theorem sz2 : (Tryz.prog.info? 2).map (·.size) = some 1 := by kernel_rfl
theorem yT : TOne Tryz.prog 2 := fun _ => by kernel_rfl
theorem sz3 : (Tryz.prog.info? 3).map (·.size) = some 1 := by kernel_rfl
theorem yU : TOne Tryz.prog 3 := fun _ => by kernel_rfl
theorem sz4 : (Tryz.prog.info? 4).map (·.size) = some 1 := by kernel_rfl
theorem zDo : TOne Tryz.prog 4 := fun _ => by kernel_rfl
theorem zBr : TOne Tryz.prog 5 := fun _ => by kernel_rfl
theorem xX : TSlice Tryz.prog 24 36 2 := ⟨by kernel_rfl, by kernel_rfl⟩
theorem jD : TOne Tryz.prog 24 := fun _ => by kernel_rfl
theorem x9 : (Tryz.prog.info? 27).map (·.size) = some 2 := by kernel_rfl
theorem y4 : TAgg Tryz.prog 27 2 := ⟨fun _ => by kernel_rfl, by kernel_rfl⟩
theorem uI : TField Tryz.prog 27 0 0 := xN Tryz.underlying27 rfl rfl ⟨0, by kernel_rfl⟩
theorem vR : TField Tryz.prog 27 1 1 := xN Tryz.underlying27 rfl rfl ⟨0, by kernel_rfl⟩
theorem zDd : (Tryz.prog.info? 36).map (·.size) = some 2 := by kernel_rfl
theorem zA2 : TAgg Tryz.prog 36 2 := ⟨fun _ => by kernel_rfl, by kernel_rfl⟩
theorem uW : TField Tryz.prog 36 0 0 := xN Tryz.underlying36 rfl rfl ⟨0, by kernel_rfl⟩
theorem kL : TField Tryz.prog 36 1 1 := xN Tryz.underlying36 rfl rfl ⟨0, by kernel_rfl⟩
theorem j0 : TSlice Tryz.prog 39 69 2 := ⟨by kernel_rfl, by kernel_rfl⟩
theorem Z4 : TSlice Tryz.prog 44 5 1 := ⟨by kernel_rfl, by kernel_rfl⟩
theorem ZK : (Tryz.prog.info? 46).map (·.size) = some 1 := by kernel_rfl
theorem yS : TSlice Tryz.prog 46 3 1 := ⟨by kernel_rfl, by kernel_rfl⟩
theorem xB : TOne Tryz.prog 46 := fun _ => by kernel_rfl
theorem VL : (Tryz.prog.info? 48).map (·.size) = some 3 := by kernel_rfl
theorem uF : TAgg Tryz.prog 48 3 := ⟨fun _ => by kernel_rfl, by kernel_rfl⟩
theorem q9 : TField Tryz.prog 48 0 0 := xN Tryz.underlying48 rfl rfl ⟨0, by kernel_rfl⟩
theorem kX : TField Tryz.prog 48 1 1 := xN Tryz.underlying48 rfl rfl ⟨0, by kernel_rfl⟩
theorem qI : TField Tryz.prog 48 2 2 := xN Tryz.underlying48 rfl rfl ⟨0, by kernel_rfl⟩
theorem zAs : (Tryz.prog.info? 51).map (·.size) = some 2 := by kernel_rfl
theorem x3 : TAgg Tryz.prog 51 2 := ⟨fun _ => by kernel_rfl, by kernel_rfl⟩
theorem YS : TField Tryz.prog 51 0 0 := xN Tryz.underlying51 rfl rfl ⟨0, by kernel_rfl⟩
theorem vJ : TField Tryz.prog 51 1 1 := xN Tryz.underlying51 rfl rfl ⟨0, by kernel_rfl⟩
theorem zFo : (Tryz.prog.info? 60).map (·.size) = some 1 := by kernel_rfl
theorem zDj : TOne Tryz.prog 60 := fun _ => by kernel_rfl
theorem zAd : TAgg Tryz.prog 69 2 := ⟨fun _ => by kernel_rfl, by kernel_rfl⟩
theorem VR : TField Tryz.prog 69 0 0 := xN Tryz.underlying69 rfl rfl ⟨0, by kernel_rfl⟩
theorem VX : TField Tryz.prog 69 1 1 := xN Tryz.underlying69 rfl rfl ⟨0, by kernel_rfl⟩
theorem GY : TOne Tryz.prog 76 := fun _ => by kernel_rfl
theorem kN : TOne Tryz.prog 81 := fun _ => by kernel_rfl
theorem XW : TOne Tryz.prog 84 := fun _ => by kernel_rfl
theorem V9 : TField Tryz.prog 86 0 0 := xN Tryz.underlying86 rfl rfl ⟨2, by kernel_rfl⟩
theorem VZ : TField Tryz.prog 86 1 3 := xN Tryz.underlying86 rfl rfl ⟨0, by kernel_rfl⟩
theorem zE5 : (Tryz.prog.info? 88).map (·.size) = some 1 := by kernel_rfl
theorem JO : TField Tryz.prog 88 0 0 := xN Tryz.underlying88 rfl rfl ⟨0, by kernel_rfl⟩
theorem xR : TSlice Tryz.prog 96 2 1 := ⟨by kernel_rfl, by kernel_rfl⟩
theorem vW : TField Tryz.prog 119 0 0 := xN Tryz.underlying119 rfl rfl ⟨1, by kernel_rfl⟩
theorem JJ : (Tryz.prog.info? 120).map (·.size) = some 4 := by kernel_rfl
theorem y7 : TArr Tryz.prog 120 4 2 1 := ⟨by kernel_rfl, by kernel_rfl⟩
theorem ZL : TAgg Tryz.prog 120 4 := ⟨fun _ => by kernel_rfl, by kernel_rfl⟩
theorem JU : TSlice Tryz.prog 122 125 3 := ⟨by kernel_rfl, by kernel_rfl⟩
theorem W9 : (Tryz.prog.info? 125).map (·.size) = some 3 := by kernel_rfl
theorem YF : TAgg Tryz.prog 125 3 := ⟨fun _ => by kernel_rfl, by kernel_rfl⟩
theorem zCh : TField Tryz.prog 125 0 0 := xN Tryz.underlying125 rfl rfl ⟨0, by kernel_rfl⟩
theorem zB9 : TField Tryz.prog 125 1 1 := xN Tryz.underlying125 rfl rfl ⟨0, by kernel_rfl⟩
theorem zAm : TField Tryz.prog 125 2 2 := xN Tryz.underlying125 rfl rfl ⟨0, by kernel_rfl⟩
theorem zAh : TArr Tryz.prog 128 2 2 1 := ⟨by kernel_rfl, by kernel_rfl⟩
theorem zAz : (Tryz.prog.info? 129).map (·.size) = some 2 := by kernel_rfl
theorem uH : TArr Tryz.prog 129 2 2 1 := ⟨by kernel_rfl, by kernel_rfl⟩
theorem XX : TAgg Tryz.prog 129 2 := ⟨fun _ => by kernel_rfl, by kernel_rfl⟩
theorem zAl : TOne Tryz.prog 143 := fun _ => by kernel_rfl
theorem zDa : (Tryz.prog.info? 143).map (·.size) = some 1 := by kernel_rfl
theorem W8 : (Tryz.prog.info? 145).map (·.size) = some 9 := by kernel_rfl
theorem j8 : TArr Tryz.prog 145 9 3 1 := ⟨by kernel_rfl, by kernel_rfl⟩
theorem vS : TAgg Tryz.prog 145 9 := ⟨fun _ => by kernel_rfl, by kernel_rfl⟩
theorem ZE : TOne Tryz.prog 146 := fun _ => by kernel_rfl
theorem vZ : TField Tryz.prog 148 0 0 := xN Tryz.underlying148 rfl rfl ⟨1, by kernel_rfl⟩
theorem qB : TField Tryz.prog 148 1 2 := xN Tryz.underlying148 rfl rfl ⟨8, by kernel_rfl⟩
theorem X8 : TField Tryz.prog 148 2 11 := xN Tryz.underlying148 rfl rfl ⟨0, by kernel_rfl⟩
theorem zCg : TOne Tryz.prog 157 := fun _ => by kernel_rfl
theorem zDl : (Tryz.prog.info? 157).map (·.size) = some 1 := by kernel_rfl
theorem zAn : TSlice Tryz.prog 179 181 2 := ⟨by kernel_rfl, by kernel_rfl⟩
theorem zD8 : (Tryz.prog.info? 181).map (·.size) = some 2 := by kernel_rfl
theorem jV : TArr Tryz.prog 181 2 3 1 := ⟨by kernel_rfl, by kernel_rfl⟩
theorem jO : TSlice Tryz.prog 190 27 2 := ⟨by kernel_rfl, by kernel_rfl⟩
theorem zDw : (Tryz.prog.info? 206).map (·.size) = some 1 := by kernel_rfl
theorem zCx : TField Tryz.prog 206 0 0 := xN Tryz.underlying206 rfl rfl ⟨0, by kernel_rfl⟩
theorem GN : (Tryz.prog.info? 212).map (·.size) = some 2 := by kernel_rfl
theorem YE : TAgg Tryz.prog 212 2 := ⟨fun _ => by kernel_rfl, by kernel_rfl⟩
theorem X2 : TField Tryz.prog 212 0 0 := xN Tryz.underlying212 rfl rfl ⟨0, by kernel_rfl⟩
theorem ZH : TField Tryz.prog 212 1 1 := xN Tryz.underlying212 rfl rfl ⟨0, by kernel_rfl⟩
theorem zB1 : (Tryz.prog.info? 213).map (·.size) = some 1 := by kernel_rfl
theorem XZ : TOne Tryz.prog 213 := fun _ => by kernel_rfl
theorem yW : El Tryz.prog 24 36 2 encP := VC (z := (.agg #[(.int .i64 0), (.int .i64 0)])) (bytes := 16) (by kernel_rfl) (by kernel_rfl) rfl rfl rfl (fun _ => rfl) (by simp [encP, Value.oneCell'])
theorem xT : El Tryz.prog 39 69 2 encP := VC (z := (.agg #[(.int .i64 0), (.int .i64 0)])) (bytes := 16) (by kernel_rfl) (by kernel_rfl) rfl rfl rfl (fun _ => rfl) (by simp [encP, Value.oneCell'])
theorem zA : El Tryz.prog 46 3 1 encI := VC (z := (.int .i64 0)) (bytes := 8) (by kernel_rfl) (by kernel_rfl) rfl rfl rfl (fun _ => rfl) (by simp [encI, Value.oneCell'])
theorem zR : El Tryz.prog 96 2 1 encI := VC (z := (.int .i64 0)) (bytes := 8) (by kernel_rfl) (by kernel_rfl) rfl rfl rfl (fun _ => rfl) (by simp [encI, Value.oneCell'])
theorem jE : El Tryz.prog 122 125 3 encN := VC (z := (.agg #[(.int .i64 0), (.int .i64 0), (.int .i64 0)])) (bytes := 24) (by kernel_rfl) (by kernel_rfl) rfl rfl rfl (fun _ => rfl) (by simp [encN, Value.oneCell'])
theorem xG : El Tryz.prog 190 27 2 encP := VC (z := (.agg #[(.int .i64 0), (.int .i64 0)])) (bytes := 16) (by kernel_rfl) (by kernel_rfl) rfl rfl rfl (fun _ => rfl) (by simp [encP, Value.oneCell'])
theorem zD0 : EqI Tryz.prog 69 2 := Z3 (by kernel_rfl) (by kernel_rfl) (by kernel_rfl) (by kernel_rfl) (by kernel_rfl)
theorem zCu : EqI Tryz.prog 129 2 := zA9 (i := Tryz.t2) Tryz.underlying129 (by kernel_rfl) (by kernel_rfl) (fun _ => by kernel_rfl) (by kernel_rfl) (by kernel_rfl)
theorem GW : EqI Tryz.prog 27 2 := Z3 (by kernel_rfl) (by kernel_rfl) (by kernel_rfl) (by kernel_rfl) (by kernel_rfl)
theorem zAv : EqI Tryz.prog 120 4 := GT (i := Tryz.t2) Tryz.underlying120 (by kernel_rfl) (by kernel_rfl) (fun _ => by kernel_rfl) (by kernel_rfl) (by kernel_rfl)
theorem KG : EqI Tryz.prog 145 9 := GT (i := Tryz.t3) Tryz.underlying145 (by kernel_rfl) (by kernel_rfl) (fun _ => by kernel_rfl) (by kernel_rfl) (by kernel_rfl)
theorem m84 : MapT Tryz.prog 84 88 2 (fun n : Int => .agg #[.int .i64 n]) (fun n : Int => .int .i64 n) 0 := ZI (by kernel_rfl) Tryz.underlying88 (by kernel_rfl) (by kernel_rfl) (by kernel_rfl) (fun _ => by kernel_rfl)
theorem zCe : MapT Tryz.prog 198 88 3 (fun n : Int => .agg #[.int .i64 n]) (fun n : Int => .int .i64 n) 0 := ZI (by kernel_rfl) Tryz.underlying88 (by kernel_rfl) (by kernel_rfl) (by kernel_rfl) (fun _ => by kernel_rfl)
theorem zCk : MapT Tryz.prog 204 206 3 (fun n : Int => .agg #[.int .i64 n]) (fun n : Int => .int .i64 n) 0 := ZI (by kernel_rfl) Tryz.underlying206 (by kernel_rfl) (by kernel_rfl) (by kernel_rfl) (fun _ => by kernel_rfl)
theorem GH : ∀ i, Tryz.prog.info? 69 = some i → i.zero.map (·.cells.toList) = some (encP (0, 0)) := zCn (z := (.agg #[(.int .i64 0), (.int .i64 0)])) (by kernel_rfl) rfl
theorem uU : ∀ i, Tryz.prog.info? 3 = some i → i.zero.map (·.cells.toList) = some (encI 0) := zCn (z := (.int .i64 0)) (by kernel_rfl) rfl
theorem YZ : ∀ i, Tryz.prog.info? 2 = some i → i.zero.map (·.cells.toList) = some (encI 0) := zCn (z := (.int .i64 0)) (by kernel_rfl) rfl
theorem JZ : MapT Tryz.prog 146 212 3 (fun n : Int × Int => .agg #[.int .i64 n.1, .int .i64 n.2]) (fun n : Int => .int .i64 n) 0 := J2 (by kernel_rfl) Tryz.underlying212 (by kernel_rfl) (by kernel_rfl) (by kernel_rfl) (by kernel_rfl) (fun _ => by kernel_rfl)
theorem XI : MapT Tryz.prog 213 145 3 (kvA (n := 9)) (fun n : Int => .int .i64 n) 0 := zA4 (i := Tryz.t3) (E := 3) (by kernel_rfl) (by kernel_rfl) (by kernel_rfl) (by kernel_rfl) (fun _ => by kernel_rfl) (by kernel_rfl) (by kernel_rfl) (fun _ => by kernel_rfl)
end T
end Go.Fip
namespace Go.Fip
open Go.Proofs Go.RowKit
theorem c12 {v : Value} {js : List S.Pr} {w : World} (h0 : Rd encP 2 v js w) (hn : js.length ≤ 1000000)  :
  Fn Tryz.prog 12 [v].toArray w (fun u _ => u = .int .i64 (S.checkJobs js)) := by
 refine fz Tryz.func12 Z kz Z Z (fun hH => (zr (oA hH Z (zt (seq (zr (oM hH Z (oY hH (z8 T.xX Z (h0.now hH (n := 0) Z).is) (oY hH (yL Z Z) (oM hH Z ?_))))))))))
 by_cases hc1 : (js.length : Int) < 1
 ·refine zD Z Z (dT hc1) Z (zD Z Z (dT hc1) Z (zD Z Z (dT hc1) Z (oY hH (zU Z (dT hc1) Z) (zt (zO Z Z (zr (oA hH Z (zt (ret (z6 (fin hH (fun w' hf => (yN Z (rt Z))) (fun w' hf => ?_))))))))))))
  first | (show _ = _; unfold S.checkJobs; rw [if_pos (by omega)]; done) | (show _ = _; unfold S.checkJobs; rw [if_neg (by omega), if_pos (show S.AllJ js from fun i hi => hall i (by omega))]; done) | (show _ = _; unfold S.checkJobs; rw [if_neg (by omega), if_neg (fun h => hno (h k (by omega)))])
 refine zB Z Z (dF hc1) (oM hH Z (zB Z Z (dF hc1) (oY hH (z8 T.xX Z (h0.now hH (n := 0) Z).is) (zB Z Z (dF hc1) (oY hH (xJ Z Z) (oY hH (zT Z (dF hc1) Z) (zt ?_)))))))
 by_cases hc2 : 8 < (js.length : Int)
 ·refine zO Z (dT hc2) (zr (oA hH Z (zt (ret (z6 (fin hH (fun w' hf => (yN Z (rt Z))) (fun w' hf => ?_)))))))
  first | (show _ = _; unfold S.checkJobs; rw [if_pos (by omega)]; done) | (show _ = _; unfold S.checkJobs; rw [if_neg (by omega), if_pos (show S.AllJ js from fun i hi => hall i (by omega))]; done) | (show _ = _; unfold S.checkJobs; rw [if_neg (by omega), if_neg (fun h => hno (h k (by omega)))])
 refine zL Z (dF hc2) (skip (zN (seq (zr (oA hH Z (zt (block (loop (S := Nat) (fun k => [(3, (.int .i64 (k : Int))), (0, v)]) (fun k w1 => Heap [base w] w1 ∧ k ≤ js.length ∧ ∀ i, i < k → S.okJob (nth js (i : Int))) (fun k => js.length - k) (0) (uC Z (uC Z (Sub.nil _))) ?_ ?_))))))))
 ·exact ⟨hH, om, S.all_zero⟩
 rintro k w3 ⟨hH4, hk, hall⟩
 refine seq (zr (oM hH4 Z (oM hH4 Z (oY hH4 (z8 T.xX Z (h0.now hH4 (n := 0) Z).is) (oY hH4 (yL Z Z) (zt ?_))))))
 by_cases hc5 : (k : Int) < (js.length : Int)
 ·refine zO Z (dT hc5) (skip (zN (seq (block (zr (oM hH4 Z (oM hH4 Z (oY hH4 (zP T.xX Z Z (h0.now hH4 (n := 0) Z).is om) (oY hH4 (zI T.uW Z) (oY hH4 (zE T.yT Z (fun _ hw => Rd.at (h0.now hw (n := 0) Z) (i := (k : Int)) om (j := 0) Z)) (oY hH4 (yL Z Z) (oM hH4 Z ?_))))))))))))
  by_cases hc6 : ((nth js (k : Int)).1) < 1
  ·have hno : ¬ S.okJob (nth js (k : Int)) := by unfold S.okJob; omega
   refine zD Z Z (dT hc6) Z (zD Z Z (dT hc6) Z (zD Z Z (dT hc6) Z (zD Z Z (dT hc6) Z (zD Z Z (dT hc6) Z (zD Z Z (dT hc6) Z (oY hH4 (zU Z (dT hc6) Z) (oM hH4 Z (zD Z Z Z Z (zD Z Z Z Z (zD Z Z Z Z (zD Z Z Z Z (zD Z Z Z Z (zD Z Z Z Z (oY hH4 (zU Z Z Z) (oM hH4 Z (zD Z Z Z Z (zD Z Z Z Z (zD Z Z Z Z (zD Z Z Z Z (zD Z Z Z Z (zD Z Z Z Z ?_)))))))))))))))))))))
   refine oY hH4 (zU Z Z Z) (zt (zO Z Z (zr (oA hH4 Z (zt (ret (yE (z6 (xY (yE (z6 (fin hH4 (fun w' hf => (yN Z (rt Z))) (fun w' hf => ?_)))))))))))))
   first | (show _ = _; unfold S.checkJobs; rw [if_pos (by omega)]; done) | (show _ = _; unfold S.checkJobs; rw [if_neg (by omega), if_pos (show S.AllJ js from fun i hi => hall i (by omega))]; done) | (show _ = _; unfold S.checkJobs; rw [if_neg (by omega), if_neg (fun h => hno (h k (by omega)))])
  refine zB Z Z (dF hc6) (oM hH4 Z (zB Z Z (dF hc6) (oM hH4 Z (zB Z Z (dF hc6) (oY hH4 (zP T.xX Z Z (h0.now hH4 (n := 0) Z).is om) (zB Z Z (dF hc6) (oY hH4 (zI T.uW Z) (zB Z Z (dF hc6) (oY hH4 (zE T.yT Z (fun _ hw => Rd.at (h0.now hw (n := 0) Z) (i := (k : Int)) om (j := 0) Z)) (zB Z Z (dF hc6) (oY hH4 (xJ Z Z) (oY hH4 (zT Z (dF hc6) Z) (oM hH4 Z ?_)))))))))))))
  by_cases hc7 : 500 < ((nth js (k : Int)).1)
  ·have hno : ¬ S.okJob (nth js (k : Int)) := by unfold S.okJob; omega
   refine zD Z Z (dT hc7) Z (zD Z Z (dT hc7) Z (zD Z Z (dT hc7) Z (zD Z Z (dT hc7) Z (zD Z Z (dT hc7) Z (zD Z Z (dT hc7) Z (oY hH4 (zU Z (dT hc7) Z) (oM hH4 Z (zD Z Z Z Z (zD Z Z Z Z (zD Z Z Z Z (zD Z Z Z Z (zD Z Z Z Z (zD Z Z Z Z (oY hH4 (zU Z Z Z) (zt (zO Z Z (zr (oA hH4 Z (zC ?_)))))))))))))))))))
   refine zN (ret (yE (z6 (xY (yE (z6 (fin hH4 (fun w' hf => (yN Z (rt Z))) (fun w' hf => ?_))))))))
   first | (show _ = _; unfold S.checkJobs; rw [if_pos (by omega)]; done) | (show _ = _; unfold S.checkJobs; rw [if_neg (by omega), if_pos (show S.AllJ js from fun i hi => hall i (by omega))]; done) | (show _ = _; unfold S.checkJobs; rw [if_neg (by omega), if_neg (fun h => hno (h k (by omega)))])
  refine zB Z Z (dF hc7) (oM hH4 Z (zB Z Z (dF hc7) (oM hH4 Z (zB Z Z (dF hc7) (oY hH4 (zP T.xX Z Z (h0.now hH4 (n := 0) Z).is om) (zB Z Z (dF hc7) (oY hH4 (zI T.kL Z) (zB Z Z (dF hc7) (oY hH4 (zE T.yT Z (fun _ hw => Rd.at (h0.now hw (n := 0) Z) (i := (k : Int)) om (j := 1) Z)) (zB Z Z (dF hc7) (oY hH4 (yL Z Z) (oY hH4 (zT Z (dF hc7) Z) (oM hH4 Z ?_)))))))))))))
  by_cases hc8 : ((nth js (k : Int)).2) < 1
  ·have hno : ¬ S.okJob (nth js (k : Int)) := by unfold S.okJob; omega
   refine zD Z Z (dT hc8) Z (zD Z Z (dT hc8) Z (zD Z Z (dT hc8) Z (zD Z Z (dT hc8) Z (zD Z Z (dT hc8) Z (zD Z Z (dT hc8) Z (oY hH4 (zU Z (dT hc8) Z) (zt (zO Z Z (zr (oA hH4 Z (zt (ret (yE (z6 (xY (yE (z6 (fin hH4 (fun w' hf => (yN Z (rt Z))) (fun w' hf => ?_)))))))))))))))))))
   first | (show _ = _; unfold S.checkJobs; rw [if_pos (by omega)]; done) | (show _ = _; unfold S.checkJobs; rw [if_neg (by omega), if_pos (show S.AllJ js from fun i hi => hall i (by omega))]; done) | (show _ = _; unfold S.checkJobs; rw [if_neg (by omega), if_neg (fun h => hno (h k (by omega)))])
  refine zB Z Z (dF hc8) (oM hH4 Z (zB Z Z (dF hc8) (oM hH4 Z (zB Z Z (dF hc8) (oY hH4 (zP T.xX Z Z (h0.now hH4 (n := 0) Z).is om) (zB Z Z (dF hc8) (oY hH4 (zI T.kL Z) (zB Z Z (dF hc8) (oY hH4 (zE T.yT Z (fun _ hw => Rd.at (h0.now hw (n := 0) Z) (i := (k : Int)) om (j := 1) Z)) (zB Z Z (dF hc8) (oY hH4 (xJ Z Z) (oY hH4 (zT Z (dF hc8) Z) (zt ?_)))))))))))))
  by_cases hc9 : 500 < ((nth js (k : Int)).2)
  ·have hno : ¬ S.okJob (nth js (k : Int)) := by unfold S.okJob; omega
   refine zO Z (dT hc9) (zr (oA hH4 Z (zt (ret (yE (z6 (xY (yE (z6 (fin hH4 (fun w' hf => (yN Z (rt Z))) (fun w' hf => ?_)))))))))))
   first | (show _ = _; unfold S.checkJobs; rw [if_pos (by omega)]; done) | (show _ = _; unfold S.checkJobs; rw [if_neg (by omega), if_pos (show S.AllJ js from fun i hi => hall i (by omega))]; done) | (show _ = _; unfold S.checkJobs; rw [if_neg (by omega), if_neg (fun h => hno (h k (by omega)))])
  refine zL Z (dF hc9) (skip (yC (zN (region (oM hH4 Z (oY hH4 (zV Z Z om) (oA hH4 Z (zC (y0 (k + 1) (uC Z (uC Z (Sub.nil _))) (⟨hH4, om, S.all_snoc hall (by unfold S.okJob; omega)⟩) om3)))))))))
 refine zL Z (dF hc5) (exit (yZ (xF (z7 (zu (oA hH4 Z (zt (ret (fin hH4 (fun w' hf => (yN Z (rt Z))) (fun w' hf => ?_))))))))))
 first | (show _ = _; unfold S.checkJobs; rw [if_pos (by omega)]; done) | (show _ = _; unfold S.checkJobs; rw [if_neg (by omega), if_pos (show S.AllJ js from fun i hi => hall i (by omega))]; done) | (show _ = _; unfold S.checkJobs; rw [if_neg (by omega), if_neg (fun h => hno (h k (by omega)))])
theorem zAr {v : Value} {js : List S.Pr} {x : Int} {w : World} (h0 : Rd encP 2 v js w) (hx : 0 ≤ x) (hx2 : x < 2 * (js.length : Int)) (hx3 : x ≤ 1000000)  :
  Fn Tryz.prog 134 [v, (.int .i64 x)].toArray w (fun u _ => u = .int .i64 (S.at2 js x)) := by
 refine fz Tryz.func134 Z kz Z Z (fun hH => (zr (oA hH Z (zt (seq (zr (oM hH Z (oY hH (xO Z Z om om) (oY hH (y5 Z Z) (zt ?_))))))))))
 by_cases hc1 : (x % 2) = 0
 ·refine zO Z (dT hc1) (zr (oM hH Z (oM hH Z (oY hH (xU Z Z om om om) (oY hH (zP T.xX Z Z (h0.now hH (n := 0) Z).is om) (oY hH (zI T.uW Z) (oY hH (zE T.yT Z (fun _ hw => Rd.at (h0.now hw (n := 0) Z) (i := x / 2) om (j := 0) Z)) (oA hH Z (zt (ret (z6 (fin hH (fun w' hf => (yN Z (rt Z))) (fun w' hf => ?_)))))))))))))
  show _ = _; unfold S.at2; first | rw [if_pos ‹_›] | rw [if_neg ‹_›]
 refine zL Z (dF hc1) (skip (zu (oM hH Z (oM hH Z (oY hH (xU Z Z om om om) (oY hH (zP T.xX Z Z (h0.now hH (n := 0) Z).is om) (oY hH (zI T.kL Z) (oY hH (zE T.yT Z (fun _ hw => Rd.at (h0.now hw (n := 0) Z) (i := x / 2) om (j := 1) Z)) (oA hH Z (zt (ret (fin hH (fun w' hf => (yN Z (rt Z))) (fun w' hf => ?_)))))))))))))
 show _ = _; unfold S.at2; first | rw [if_pos ‹_›] | rw [if_neg ‹_›]
theorem WX {v : Value} {js : List S.Pr} {x : Int} {w : World} (h0 : Rd encP 2 v js w) (hx : 0 ≤ x) (hx2 : x < 2 * (js.length : Int)) (hx3 : x ≤ 1000000)  :
  Fn Tryz.prog 133 [v, (.int .i64 x)].toArray w (fun u _ => u = .int .i64 (S.at2 js x)) := by
 refine fz Tryz.func133 Z kz Z Z (fun hH => (zr (oA hH Z (zt (seq (zr (oM hH Z (oY hH (xO Z Z om om) (oY hH (y5 Z Z) (zt ?_))))))))))
 by_cases hc1 : (x % 2) = 0
 ·refine zO Z (dT hc1) (zr (oM hH Z (oM hH Z (oY hH (xU Z Z om om om) (oY hH (zP T.j0 Z Z (h0.now hH (n := 0) Z).is om) (oY hH (zI T.VR Z) (oY hH (zE T.yT Z (fun _ hw => Rd.at (h0.now hw (n := 0) Z) (i := x / 2) om (j := 0) Z)) (oA hH Z (zt (ret (z6 (fin hH (fun w' hf => (yN Z (rt Z))) (fun w' hf => ?_)))))))))))))
  show _ = _; unfold S.at2; first | rw [if_pos ‹_›] | rw [if_neg ‹_›]
 refine zL Z (dF hc1) (skip (zu (oM hH Z (oM hH Z (oY hH (xU Z Z om om om) (oY hH (zP T.j0 Z Z (h0.now hH (n := 0) Z).is om) (oY hH (zI T.VX Z) (oY hH (zE T.yT Z (fun _ hw => Rd.at (h0.now hw (n := 0) Z) (i := x / 2) om (j := 1) Z)) (oA hH Z (zt (ret (fin hH (fun w' hf => (yN Z (rt Z))) (fun w' hf => ?_)))))))))))))
 show _ = _; unfold S.at2; first | rw [if_pos ‹_›] | rw [if_neg ‹_›]
theorem zEq {v u : Value} {js ps : List S.Pr} {w : World} (h0 : Rd encP 2 v js w) (h1 : Rd encP 2 u ps w) (hj : S.Jobs js) (hp : S.AllT ps) (he : ps.length = js.length)  :
  Fn Tryz.prog 135 [v, u].toArray w (fun u _ => u = .int .i64 (S.endOf js ps)) := by
 refine fz Tryz.func135 Z kz Z Z (fun hH => ?_)
 have hl8 := hj.2.1
 refine zr (oA hH Z (zs (oA hH Z (zt (seq (zr (oA hH Z (zt (block (loop (S := Nat) (fun k => [(5, (.int .i64 (S.endTo js ps k))), (6, (.int .i64 (k : Int))), (0, v), (1, u), (4, (.int .i64 0))]) (fun k w1 => Heap [base w] w1 ∧ k ≤ 2 * js.length) (fun k => 2 * js.length - k) (0) (uC Z (uC Z (uC Z (uC Z (uC Z (Sub.nil _)))))) ?_ ?_))))))))))
 ·exact ⟨hH, om⟩
 rintro k w1 ⟨hH2, hk⟩
 refine seq (zr (oM hH2 Z (oM hH2 Z (oY hH2 (z8 T.xX Z (h0.now hH2 (n := 0) Z).is) (oY hH2 (xA Z Z om) (oY hH2 (yL Z Z) (zt ?_)))))))
 by_cases hc3 : (k : Int) < (2 * (js.length : Int))
 ·refine zO Z (dT hc3) (skip (zN (seq (block ?_))))
  have hb1 := hj.at2 (w := (k : Int)) (by omega) (by omega)
  have hb2 := hp.at2 (w := (k : Int)) (by omega) (by omega)
  refine region (oM hH2 Z (oM hH2 Z (oM hH2 Z (zM Z Z Z hH2 (WX (h1.now hH2 (n := 0) Z) om om om) (fun w4 hH5 => (oM hH5 Z (oM hH5 Z (zM Z Z Z hH5 (zAr (h0.now hH5 (n := 0) Z) om om om) (fun w6 hH7 => (oY hH7 (zV Z Z om) (oY hH7 (YG Z Z) (oA hH7 Z (zC (yC (zN (region (oM hH7 Z (oY hH7 (zV Z Z om) (oA hH7 Z (zC (y0 (k + 1) (uC Z (uC Z (uC Z (uC Z (uC Z (Sub.nil _)))))) (⟨hH7, om⟩) om3)))))))))))))))))))))
 refine zL Z (dF hc3) (exit (yZ (xF (z7 (zu (oM hH2 Z (oA hH2 Z (zt (ret (fin hH2 (fun w' hf => (yN Z (rt Z))) (fun w' hf => ?_)))))))))))
 have hk2 : k = 2 * js.length := by omega
 subst hk2; rfl
end Go.Fip
namespace Go.Fip
open Go.Proofs Go.RowKit
theorem YO {l : List Int} {lo hi : Int} : (∀ i, i < l.length → (fun x : Int => decide (x < lo ∨ hi < x)) (nth l (i : Int)) = false) ↔ ∀ x ∈ l, lo ≤ x ∧ x ≤ hi := by
 constructor
 ·intro h x hx
  obtain ⟨i, hi', rfl⟩ := List.getElem_of_mem hx
  have := h i hi'
  rw [yG hi'] at this
  simp at this
  omega
 ·intro h i hi'
  have := h (nth l (i : Int)) (by rw [yG hi']; exact List.getElem_mem hi')
  simp
  omega
theorem WW {l : List S.Pr} (h : has (fun x => !decide (S.okJob x)) l = true) : ¬ S.AllJ l := by
 obtain ⟨i, hi, hp⟩ := YQ.1 h
 intro h2
 have := h2 i hi
 simp [this] at hp
theorem kK {l : List S.Pr} (h : ¬ has (fun x => !decide (S.okJob x)) l = true) : S.AllJ l := by
 have h := kS.1 (Bool.eq_false_iff.2 h)
 intro i hi
 simpa using h i hi
theorem zAw {l : List S.Pr} (h : has (fun x => !decide (S.okTime x)) l = true) : ¬ S.AllT l := by
 obtain ⟨i, hi, hp⟩ := YQ.1 h
 intro h2
 have := h2 i hi
 simp [this] at hp
theorem WU {l : List S.Pr} (h : ¬ has (fun x => !decide (S.okTime x)) l = true) : S.AllT l := by
 have h := kS.1 (Bool.eq_false_iff.2 h)
 intro i hi
 simpa using h i hi
theorem c88 {n : Int} {lo hi : Int} {b1 b2 : Nat} {w : World} (k1 : Bx b1 2 [.int .i64 lo] w) (k2 : Bx b2 2 [.int .i64 hi] w)  :
  Fn Tryz.prog 88 [(.int .i64 n), (.pointer (some ⟨b1, 0, none⟩)), (.pointer (some ⟨b2, 0, none⟩))].toArray w (fun u _ => u = .bool (decide (n < lo ∨ hi < n))) := by
 refine fz Tryz.func88 Z kz Z Z (fun hH => (zr (oA hH Z (zs (oM hH Z (oY hH (zE T.yT Z (fun _ hw => yM (k1.now hw (n := 0) Z) Z)) (oY hH (yL Z Z) (oM hH Z ?_))))))))
 by_cases hc1 : n < lo
 ·refine zD Z Z (dT hc1) Z (zD Z Z (dT hc1) Z (zD Z Z (dT hc1) Z (oY hH (zU Z (dT hc1) Z) (oA hH Z (zt (ret (fin hH (fun w' hf => (yN Z (rt Z))) (fun w' hf => ?_))))))))
  first | (show Value.bool _ = Value.bool _; congr 1; rw [Bool.eq_iff_iff]; simp; done) | (show Value.bool _ = Value.bool _; congr 1; rw [Bool.eq_iff_iff]; simp; omega)
 refine zB Z Z (dF hc1) (oM hH Z (zB Z Z (dF hc1) (oY hH (zE T.yT Z (fun _ hw => yM (k2.now hw (n := 0) Z) Z)) (zB Z Z (dF hc1) (oY hH (xJ Z Z) (oY hH (zT Z (dF hc1) Z) (oA hH Z (zt (ret (fin hH (fun w' hf => (yN Z (rt Z))) (fun w' hf => ?_)))))))))))
 first | (show Value.bool _ = Value.bool _; congr 1; rw [Bool.eq_iff_iff]; simp; done) | (show Value.bool _ = Value.bool _; congr 1; rw [Bool.eq_iff_iff]; simp; omega)
theorem zFu {v : Value} {l : List Int} {lo hi : Int} {b1 b2 : Nat} {w : World} (h0 : Rd encI 1 v l w) (k1 : Bx b1 2 [.int .i64 lo] w) (k2 : Bx b2 2 [.int .i64 hi] w) (hn : l.length ≤ 1000000)  :
  Fn Tryz.prog 142 [v, (.func (.func 88) #[] #[(.pointer (some ⟨b1, 0, none⟩)), (.pointer (some ⟨b2, 0, none⟩))])].toArray w (fun u _ => u = .int .i64 (idx (fun x : Int => decide (x < lo ∨ hi < x)) l)) := by
 refine fz Tryz.func142 Z kz Z Z (fun hH => (zr (oA hH Z (zt (seq (zr (oM hH Z (oY hH (z8 T.xR Z (h0.now hH (n := 0) Z).is) (oM hH Z (zt (block (loop (S := Nat) (fun k => [(8, (.int .i64 (k : Int))), (0, v), (1, (.func (.func 88) #[] #[(.pointer (some ⟨b1, 0, none⟩)), (.pointer (some ⟨b2, 0, none⟩))])), (7, (.int .i64 (l.length : Int)))]) (fun k w1 => Heap [base w] w1 ∧ k ≤ l.length ∧ ∀ i, i < k → (fun x : Int => decide (x < lo ∨ hi < x)) (nth l (i : Int)) = false) (fun k => l.length - k) (0) (uC Z (uC Z (uC Z (uC Z (Sub.nil _))))) ?_ ?_))))))))))))
 ·exact ⟨hH, om, S.all_zero⟩
 rintro k w1 ⟨hH2, hk, hall⟩
 refine zr (oY hH2 (yL Z Z) (zt (seq ?_)))
 by_cases hc3 : (k : Int) < (l.length : Int)
 ·refine zO Z (dT hc3) (skip (zN (seq (block (zr (oM hH2 Z (oA hH2 Z (zs (oM hH2 Z (oM hH2 Z (oM hH2 Z (oY hH2 (zP T.xR Z Z (h0.now hH2 (n := 0) Z).is om) (oY hH2 (zE T.yT Z (fun _ hw => Rd.at (h0.now hw (n := 0) Z) (i := (k : Int)) om (j := 0) Z)) (zM Z Z Z hH2 (c88 (k1.now hH2 (n := 0) Z) (k2.now hH2 (n := 0) Z)) (fun w4 hH5 => (zt ?_))))))))))))))))
  by_cases hc6 : nth l (k : Int) < lo ∨ hi < nth l (k : Int)
  ·have hp : (fun x : Int => decide (x < lo ∨ hi < x)) (nth l (k : Int)) = true := (decide_eq_true hc6)
   refine zO Z (dT hc6) (zr (oM hH5 Z (oA hH5 Z (zt (ret (yE (z6 (xY (yE (z6 (fin hH5 (fun w' hf => (yN Z (rt Z))) (fun w' hf => ?_))))))))))))
   first | exact congrArg (Value.int .i64) (x5 (k := k) (by omega) hall hp).symm | exact congrArg (Value.int .i64) (xP (fun i hi => hall i (by omega))).symm
  have hp : (fun x : Int => decide (x < lo ∨ hi < x)) (nth l (k : Int)) = false := (decide_eq_false hc6)
  refine zL Z (dF hc6) (skip (yC (zN (region (oY hH5 (zV Z Z om) (oM hH5 Z (zC (y0 (k + 1) (uC Z (uC Z (uC Z (uC Z (Sub.nil _))))) (⟨hH5, om, S.all_snoc hall hp⟩) om3))))))))
 refine zL Z (dF hc3) (exit (yZ (xF (z7 (zu (oA hH2 Z (zt (ret (fin hH2 (fun w' hf => (yN Z (rt Z))) (fun w' hf => ?_))))))))))
 first | exact congrArg (Value.int .i64) (x5 (k := k) (by omega) hall hp).symm | exact congrArg (Value.int .i64) (xP (fun i hi => hall i (by omega))).symm
theorem c87 {v : Value} {l : List Int} {lo hi : Int} {b1 b2 : Nat} {w : World} (h0 : Rd encI 1 v l w) (k1 : Bx b1 2 [.int .i64 lo] w) (k2 : Bx b2 2 [.int .i64 hi] w) (hn : l.length ≤ 1000000)  :
  Fn Tryz.prog 87 [v, (.func (.func 88) #[] #[(.pointer (some ⟨b1, 0, none⟩)), (.pointer (some ⟨b2, 0, none⟩))])].toArray w (fun u _ => u = .bool (has (fun x : Int => decide (x < lo ∨ hi < x)) l)) := by
 refine fz Tryz.func87 Z kz Z Z (fun hH => (zr (oA hH Z (zs (oM hH Z (oM hH Z (zM Z Z Z hH (zFu (h0.now hH (n := 0) Z) (k1.now hH (n := 0) Z) (k2.now hH (n := 0) Z) om) (fun w1 hH2 => (oY hH2 (vH Z Z) (oA hH2 Z (zt (ret (fin hH2 (fun w' hf => (yN Z (rt Z))) (fun w' hf => Z))))))))))))))
theorem c29 {v : Value} {l : List Int} {lo hi : Int} {w : World} (h0 : Rd encI 1 v l w) (hn : l.length ≤ 1000000)  :
  Fn Tryz.prog 29 [(.int .i64 lo), (.int .i64 hi), v].toArray w (fun u _ => u = .bool (decide (∀ x ∈ l, lo ≤ x ∧ x ≤ hi))) := by
 refine fz Tryz.func29 Z kz Z Z (fun hH => (zr (yY Z Z Z hH (fun b1 w2 hH3 => (yY Z Z Z hH3 (fun b4 w5 hH6 => (oA hH6 Z (zs (oM hH6 Z (oY hH6 (vF Z Z) (zM Z Z Z hH6 (c87 (h0.now hH6 (n := 2) Z) (Heap.xV hH6 (n := 1) Z) (Heap.xV hH6 (n := 0) Z) hn) (fun w7 hH8 => (oY hH8 (y6 Z) (oA hH8 Z (zt (ret (fin (hH8.sub (sC (sC sR))) (fun w' hf => (yN Z (rt Z))) (fun w' hf => ?_))))))))))))))))))
 refine congrArg Value.bool ?_; rw [Bool.eq_iff_iff, Bool.not_eq_true', kS, decide_eq_true_eq]; exact YO
theorem X9 {v : Value} {a lo hi : Int} {w : World} (h0 : Rd encI 1 v [a] w) : Fn Tryz.prog 29 [.int .i64 lo, .int .i64 hi, v].toArray w (fun u _ => u = .bool (decide (lo ≤ a ∧ a ≤ hi))) := by
 have h := c29 (lo := lo) (hi := hi) h0 (by simp)
 rwa [show decide (∀ x ∈ [a], lo ≤ x ∧ x ≤ hi) = decide (lo ≤ a ∧ a ≤ hi) from decide_eq_decide.2 (by simp)] at h
theorem zB5 {v : Value} {a b lo hi : Int} {w : World} (h0 : Rd encI 1 v [a, b] w) : Fn Tryz.prog 29 [.int .i64 lo, .int .i64 hi, v].toArray w (fun u _ => u = .bool (decide ((lo ≤ a ∧ a ≤ hi) ∧ (lo ≤ b ∧ b ≤ hi)))) := by
 have h := c29 (lo := lo) (hi := hi) h0 (by simp)
 rwa [show decide (∀ x ∈ [a, b], lo ≤ x ∧ x ≤ hi) = decide ((lo ≤ a ∧ a ≤ hi) ∧ (lo ≤ b ∧ b ≤ hi)) from decide_eq_decide.2 (by simp)] at h
theorem c79 {a b : Int} {w : World}  :
  Fn Tryz.prog 79 [(.agg #[(.int .i64 a), (.int .i64 b)])].toArray w (fun u _ => u = .bool (!decide (S.okJob (a, b)))) := by
 refine fz Tryz.func79 Z kz Z Z (fun hH => (zr (yY Z Z Z hH (fun b1 w2 hH3 => (oA hH3 Z (zs (oY hH3 (zI T.uW Z) (oY hH3 (zE T.yT Z (cw (n := 0) Z Z)) (oY hH3 (zI T.kL Z) (oY hH3 (zE T.yT Z (cw (n := 0) Z Z)) (z2 T.zR [a, b] Z (fun w => by kernel_rfl) hH3 (fun u4 lo6 hi7 w5 hH8 => (zM Z Z Z hH8 (zB5 (Heap.yI T.zR hH8 (n := 0) Z)) (fun w9 hH10 => (oY hH10 (y6 Z) (oA hH10 Z (zt (ret (fin (hH10.sub (sC (sC sR))) (fun w' hf => (yN Z (rt Z))) (fun w' hf => ?_))))))))))))))))))))
 refine congrArg (fun x => Value.bool (!x)) (decide_eq_decide.2 ?_); unfold S.okJob; omega
theorem zFa {v : Value} {l : List S.Pr} {w : World} (h0 : Rd encP 2 v l w) (hn : l.length ≤ 1000000)  :
  Fn Tryz.prog 140 [v, (.func (.func 79) #[] #[])].toArray w (fun u _ => u = .int .i64 (idx (fun x : S.Pr => !decide (S.okJob x)) l)) := by
 refine fz Tryz.func140 Z kz Z Z (fun hH => (zr (oA hH Z (zt (seq (zr (oM hH Z (oY hH (z8 T.xX Z (h0.now hH (n := 0) Z).is) (oM hH Z (zt (block (loop (S := Nat) (fun k => [(8, (.int .i64 (k : Int))), (0, v), (1, (.func (.func 79) #[] #[])), (7, (.int .i64 (l.length : Int)))]) (fun k w1 => Heap [base w] w1 ∧ k ≤ l.length ∧ ∀ i, i < k → (fun x : S.Pr => !decide (S.okJob x)) (nth l (i : Int)) = false) (fun k => l.length - k) (0) (uC Z (uC Z (uC Z (uC Z (Sub.nil _))))) ?_ ?_))))))))))))
 ·exact ⟨hH, om, S.all_zero⟩
 rintro k w1 ⟨hH2, hk, hall⟩
 refine zr (oY hH2 (yL Z Z) (zt (seq ?_)))
 by_cases hc3 : (k : Int) < (l.length : Int)
 ·refine zO Z (dT hc3) (skip (zN (seq (block (zr (oM hH2 Z (oA hH2 Z (zs (oM hH2 Z (oM hH2 Z (oM hH2 Z (oY hH2 (zP T.xX Z Z (h0.now hH2 (n := 0) Z).is om) (oY hH2 (zW (cs := [(.int .i64 ((nth l (k : Int)).1)), (.int .i64 ((nth l (k : Int)).2))]) T.zA2 Z Z (fun _ hw => Rd.KB (h0.now hw (n := 0) Z) (i := (k : Int)) om)) (zM Z Z Z hH2 (c79) (fun w4 hH5 => (zt ?_))))))))))))))))
  by_cases hc6 : S.okJob ((nth l (k : Int)).1, (nth l (k : Int)).2)
  ·have hp : (fun x : S.Pr => !decide (S.okJob x)) (nth l (k : Int)) = false := (zG hc6)
   refine zL Z (zG hc6) (skip (yC (zN (region (oY hH5 (zV Z Z om) (oM hH5 Z (zC (y0 (k + 1) (uC Z (uC Z (uC Z (uC Z (Sub.nil _))))) (⟨hH5, om, S.all_snoc hall hp⟩) om3))))))))
  have hp : (fun x : S.Pr => !decide (S.okJob x)) (nth l (k : Int)) = true := (zF hc6)
  refine zO Z (zF hc6) (zr (oM hH5 Z (oA hH5 Z (zt (ret (yE (z6 (xY (yE (z6 (fin hH5 (fun w' hf => (yN Z (rt Z))) (fun w' hf => ?_))))))))))))
  first | exact congrArg (Value.int .i64) (x5 (k := k) (by omega) hall hp).symm | exact congrArg (Value.int .i64) (xP (fun i hi => hall i (by omega))).symm
 refine zL Z (dF hc3) (exit (yZ (xF (z7 (zu (oA hH2 Z (zt (ret (fin hH2 (fun w' hf => (yN Z (rt Z))) (fun w' hf => ?_))))))))))
 first | exact congrArg (Value.int .i64) (x5 (k := k) (by omega) hall hp).symm | exact congrArg (Value.int .i64) (xP (fun i hi => hall i (by omega))).symm
theorem c80 {v : Value} {l : List S.Pr} {w : World} (h0 : Rd encP 2 v l w) (hn : l.length ≤ 1000000)  :
  Fn Tryz.prog 80 [v, (.func (.func 79) #[] #[])].toArray w (fun u _ => u = .bool (has (fun x : S.Pr => !decide (S.okJob x)) l)) := by
 refine fz Tryz.func80 Z kz Z Z (fun hH => (zr (oA hH Z (zs (oM hH Z (oM hH Z (zM Z Z Z hH (zFa (h0.now hH (n := 0) Z) hn) (fun w1 hH2 => (oY hH2 (vH Z Z) (oA hH2 Z (zt (ret (fin hH2 (fun w' hf => (yN Z (rt Z))) (fun w' hf => Z))))))))))))))
theorem c28 {a b : Int} {w : World}  :
  Fn Tryz.prog 28 [(.agg #[(.int .i64 a), (.int .i64 b)])].toArray w (fun u _ => u = .bool (!decide (S.okTime (a, b)))) := by
 refine fz Tryz.func28 Z kz Z Z (fun hH => (zr (yY Z Z Z hH (fun b1 w2 hH3 => (oA hH3 Z (zs (oY hH3 (zI T.VR Z) (oY hH3 (zE T.yT Z (cw (n := 0) Z Z)) (oY hH3 (zI T.VX Z) (oY hH3 (zE T.yT Z (cw (n := 0) Z Z)) (z2 T.zR [a, b] Z (fun w => by kernel_rfl) hH3 (fun u4 lo6 hi7 w5 hH8 => (zM Z Z Z hH8 (zB5 (Heap.yI T.zR hH8 (n := 0) Z)) (fun w9 hH10 => (oY hH10 (y6 Z) (oA hH10 Z (zt (ret (fin (hH10.sub (sC (sC sR))) (fun w' hf => (yN Z (rt Z))) (fun w' hf => ?_))))))))))))))))))))
 refine congrArg (fun x => Value.bool (!x)) (decide_eq_decide.2 ?_); unfold S.okTime; omega
theorem c89 {v : Value} {l : List S.Pr} {w : World} (h0 : Rd encP 2 v l w) (hn : l.length ≤ 1000000)  :
  Fn Tryz.prog 89 [v, (.func (.func 28) #[] #[])].toArray w (fun u _ => u = .int .i64 (idx (fun x : S.Pr => !decide (S.okTime x)) l)) := by
 refine fz Tryz.func89 Z kz Z Z (fun hH => (zr (oA hH Z (zt (seq (zr (oM hH Z (oY hH (z8 T.j0 Z (h0.now hH (n := 0) Z).is) (oM hH Z (zt (block (loop (S := Nat) (fun k => [(8, (.int .i64 (k : Int))), (0, v), (1, (.func (.func 28) #[] #[])), (7, (.int .i64 (l.length : Int)))]) (fun k w1 => Heap [base w] w1 ∧ k ≤ l.length ∧ ∀ i, i < k → (fun x : S.Pr => !decide (S.okTime x)) (nth l (i : Int)) = false) (fun k => l.length - k) (0) (uC Z (uC Z (uC Z (uC Z (Sub.nil _))))) ?_ ?_))))))))))))
 ·exact ⟨hH, om, S.all_zero⟩
 rintro k w1 ⟨hH2, hk, hall⟩
 refine zr (oY hH2 (yL Z Z) (zt (seq ?_)))
 by_cases hc3 : (k : Int) < (l.length : Int)
 ·refine zO Z (dT hc3) (skip (zN (seq (block (zr (oM hH2 Z (oA hH2 Z (zs (oM hH2 Z (oM hH2 Z (oM hH2 Z (oY hH2 (zP T.j0 Z Z (h0.now hH2 (n := 0) Z).is om) (oY hH2 (zW (cs := [(.int .i64 ((nth l (k : Int)).1)), (.int .i64 ((nth l (k : Int)).2))]) T.zAd Z Z (fun _ hw => Rd.KB (h0.now hw (n := 0) Z) (i := (k : Int)) om)) (zM Z Z Z hH2 (c28) (fun w4 hH5 => (zt ?_))))))))))))))))
  by_cases hc6 : S.okTime ((nth l (k : Int)).1, (nth l (k : Int)).2)
  ·have hp : (fun x : S.Pr => !decide (S.okTime x)) (nth l (k : Int)) = false := (zG hc6)
   refine zL Z (zG hc6) (skip (yC (zN (region (oY hH5 (zV Z Z om) (oM hH5 Z (zC (y0 (k + 1) (uC Z (uC Z (uC Z (uC Z (Sub.nil _))))) (⟨hH5, om, S.all_snoc hall hp⟩) om3))))))))
  have hp : (fun x : S.Pr => !decide (S.okTime x)) (nth l (k : Int)) = true := (zF hc6)
  refine zO Z (zF hc6) (zr (oM hH5 Z (oA hH5 Z (zt (ret (yE (z6 (xY (yE (z6 (fin hH5 (fun w' hf => (yN Z (rt Z))) (fun w' hf => ?_))))))))))))
  first | exact congrArg (Value.int .i64) (x5 (k := k) (by omega) hall hp).symm | exact congrArg (Value.int .i64) (xP (fun i hi => hall i (by omega))).symm
 refine zL Z (dF hc3) (exit (yZ (xF (z7 (zu (oA hH2 Z (zt (ret (fin hH2 (fun w' hf => (yN Z (rt Z))) (fun w' hf => ?_))))))))))
 first | exact congrArg (Value.int .i64) (x5 (k := k) (by omega) hall hp).symm | exact congrArg (Value.int .i64) (xP (fun i hi => hall i (by omega))).symm
theorem c30 {v : Value} {l : List S.Pr} {w : World} (h0 : Rd encP 2 v l w) (hn : l.length ≤ 1000000)  :
  Fn Tryz.prog 30 [v, (.func (.func 28) #[] #[])].toArray w (fun u _ => u = .bool (has (fun x : S.Pr => !decide (S.okTime x)) l)) := by
 refine fz Tryz.func30 Z kz Z Z (fun hH => (zr (oA hH Z (zs (oM hH Z (oM hH Z (zM Z Z Z hH (c89 (h0.now hH (n := 0) Z) hn) (fun w1 hH2 => (oY hH2 (vH Z Z) (oA hH2 Z (zt (ret (fin hH2 (fun w' hf => (yN Z (rt Z))) (fun w' hf => Z))))))))))))))
theorem c26 {v : Value} {l : List S.Pr} {w : World} (h0 : Rd encP 2 v l w) (hn : l.length ≤ 1000000)  :
  Fn Tryz.prog 26 [v].toArray w (fun u _ => u = .int .i64 (S.checkJobs l)) := by
 refine fz Tryz.func26 Z kz Z Z (fun hH => (zr (oA hH Z (zs (oA hH Z (zt (seq (block (zr (oM hH Z (oY hH (z8 T.xX Z (h0.now hH (n := 0) Z).is) (z2 T.zR [(l.length : Int)] Z (fun w => by kernel_rfl) hH (fun u1 lo3 hi4 w2 hH5 => (zM Z Z Z hH5 (X9 (Heap.yI T.zR hH5 (n := 0) Z)) (fun w6 hH7 => (oY hH7 (y6 Z) (oA hH7 Z (zC ?_))))))))))))))))))
 refine zN ?_
 by_cases hc8 : 1 ≤ (l.length : Int) ∧ (l.length : Int) ≤ 8
 ·refine zL Z (zG hc8) (zr (oM hH7 Z (oM hH7 Z (zM Z Z Z hH7 (c80 (h0.now hH7 (n := 1) Z) hn) (fun w9 hH10 => (oA hH10 Z (zt ?_)))))))
  by_cases hc11 : has (fun x : S.Pr => !decide (S.okJob x)) l = true
  ·refine zO Z hc11 (zr (oA hH10 Z (zt (ret (yE (z6 (fin (hH10.sub (sC sR)) (fun w' hf => (yN Z (rt Z))) (fun w' hf => ?_))))))))
   show _ = _; unfold S.checkJobs; first | (rw [if_pos (by omega)]; done) | (rw [if_neg (by omega), if_neg (WW ‹_›)]; done) | (rw [if_neg (by omega), if_pos (kK ‹_›)])
  refine zL Z (Bool.eq_false_iff.2 hc11) (skip (yC (zu (oA hH10 Z (zt (ret (fin (hH10.sub (sC sR)) (fun w' hf => (yN Z (rt Z))) (fun w' hf => ?_))))))))
  show _ = _; unfold S.checkJobs; first | (rw [if_pos (by omega)]; done) | (rw [if_neg (by omega), if_neg (WW ‹_›)]; done) | (rw [if_neg (by omega), if_pos (kK ‹_›)])
 refine zO Z (zF hc8) (zr (oA hH7 Z (zt (ret (yE (z6 (fin (hH7.sub (sC sR)) (fun w' hf => (yN Z (rt Z))) (fun w' hf => ?_))))))))
 show _ = _; unfold S.checkJobs; first | (rw [if_pos (by omega)]; done) | (rw [if_neg (by omega), if_neg (WW ‹_›)]; done) | (rw [if_neg (by omega), if_pos (kK ‹_›)])
end Go.Fip
namespace Go.Fip
open Go.Proofs Go.RowKit
theorem zFe {n : Int} {lo hi : Int} {b1 b2 : Nat} {w : World} (k1 : Bx b1 2 [.int .i64 lo] w) (k2 : Bx b2 2 [.int .i64 hi] w)  :
  Fn Tryz.prog 139 [(.int .i64 n), (.pointer (some ⟨b1, 0, none⟩)), (.pointer (some ⟨b2, 0, none⟩))].toArray w (fun u _ => u = .bool (decide (n < lo ∨ hi < n))) := by
 refine fz Tryz.func139 Z kz Z Z (fun hH => (zr (oA hH Z (zs (oM hH Z (oY hH (zE T.yT Z (fun _ hw => yM (k1.now hw (n := 0) Z) Z)) (oY hH (yL Z Z) (oM hH Z ?_))))))))
 by_cases hc1 : n < lo
 ·refine zD Z Z (dT hc1) Z (zD Z Z (dT hc1) Z (zD Z Z (dT hc1) Z (oY hH (zU Z (dT hc1) Z) (oA hH Z (zt (ret (fin hH (fun w' hf => (yN Z (rt Z))) (fun w' hf => ?_))))))))
  first | (show Value.bool _ = Value.bool _; congr 1; rw [Bool.eq_iff_iff]; simp; done) | (show Value.bool _ = Value.bool _; congr 1; rw [Bool.eq_iff_iff]; simp; omega)
 refine zB Z Z (dF hc1) (oM hH Z (zB Z Z (dF hc1) (oY hH (zE T.yT Z (fun _ hw => yM (k2.now hw (n := 0) Z) Z)) (zB Z Z (dF hc1) (oY hH (xJ Z Z) (oY hH (zT Z (dF hc1) Z) (oA hH Z (zt (ret (fin hH (fun w' hf => (yN Z (rt Z))) (fun w' hf => ?_)))))))))))
 first | (show Value.bool _ = Value.bool _; congr 1; rw [Bool.eq_iff_iff]; simp; done) | (show Value.bool _ = Value.bool _; congr 1; rw [Bool.eq_iff_iff]; simp; omega)
theorem zC6 {v : Value} {l : List Int} {lo hi : Int} {b1 b2 : Nat} {w : World} (h0 : Rd encI 1 v l w) (k1 : Bx b1 2 [.int .i64 lo] w) (k2 : Bx b2 2 [.int .i64 hi] w) (hn : l.length ≤ 1000000)  :
  Fn Tryz.prog 142 [v, (.func (.func 139) #[] #[(.pointer (some ⟨b1, 0, none⟩)), (.pointer (some ⟨b2, 0, none⟩))])].toArray w (fun u _ => u = .int .i64 (idx (fun x : Int => decide (x < lo ∨ hi < x)) l)) := by
 refine fz Tryz.func142 Z kz Z Z (fun hH => (zr (oA hH Z (zt (seq (zr (oM hH Z (oY hH (z8 T.xR Z (h0.now hH (n := 0) Z).is) (oM hH Z (zt (block (loop (S := Nat) (fun k => [(8, (.int .i64 (k : Int))), (0, v), (1, (.func (.func 139) #[] #[(.pointer (some ⟨b1, 0, none⟩)), (.pointer (some ⟨b2, 0, none⟩))])), (7, (.int .i64 (l.length : Int)))]) (fun k w1 => Heap [base w] w1 ∧ k ≤ l.length ∧ ∀ i, i < k → (fun x : Int => decide (x < lo ∨ hi < x)) (nth l (i : Int)) = false) (fun k => l.length - k) (0) (uC Z (uC Z (uC Z (uC Z (Sub.nil _))))) ?_ ?_))))))))))))
 ·exact ⟨hH, om, S.all_zero⟩
 rintro k w1 ⟨hH2, hk, hall⟩
 refine zr (oY hH2 (yL Z Z) (zt (seq ?_)))
 by_cases hc3 : (k : Int) < (l.length : Int)
 ·refine zO Z (dT hc3) (skip (zN (seq (block (zr (oM hH2 Z (oA hH2 Z (zs (oM hH2 Z (oM hH2 Z (oM hH2 Z (oY hH2 (zP T.xR Z Z (h0.now hH2 (n := 0) Z).is om) (oY hH2 (zE T.yT Z (fun _ hw => Rd.at (h0.now hw (n := 0) Z) (i := (k : Int)) om (j := 0) Z)) (zM Z Z Z hH2 (zFe (k1.now hH2 (n := 0) Z) (k2.now hH2 (n := 0) Z)) (fun w4 hH5 => (zt ?_))))))))))))))))
  by_cases hc6 : nth l (k : Int) < lo ∨ hi < nth l (k : Int)
  ·have hp : (fun x : Int => decide (x < lo ∨ hi < x)) (nth l (k : Int)) = true := (decide_eq_true hc6)
   refine zO Z (dT hc6) (zr (oM hH5 Z (oA hH5 Z (zt (ret (yE (z6 (xY (yE (z6 (fin hH5 (fun w' hf => (yN Z (rt Z))) (fun w' hf => ?_))))))))))))
   first | exact congrArg (Value.int .i64) (x5 (k := k) (by omega) hall hp).symm | exact congrArg (Value.int .i64) (xP (fun i hi => hall i (by omega))).symm
  have hp : (fun x : Int => decide (x < lo ∨ hi < x)) (nth l (k : Int)) = false := (decide_eq_false hc6)
  refine zL Z (dF hc6) (skip (yC (zN (region (oY hH5 (zV Z Z om) (oM hH5 Z (zC (y0 (k + 1) (uC Z (uC Z (uC Z (uC Z (Sub.nil _))))) (⟨hH5, om, S.all_snoc hall hp⟩) om3))))))))
 refine zL Z (dF hc3) (exit (yZ (xF (z7 (zu (oA hH2 Z (zt (ret (fin hH2 (fun w' hf => (yN Z (rt Z))) (fun w' hf => ?_))))))))))
 first | exact congrArg (Value.int .i64) (x5 (k := k) (by omega) hall hp).symm | exact congrArg (Value.int .i64) (xP (fun i hi => hall i (by omega))).symm
theorem zEu {v : Value} {l : List Int} {lo hi : Int} {b1 b2 : Nat} {w : World} (h0 : Rd encI 1 v l w) (k1 : Bx b1 2 [.int .i64 lo] w) (k2 : Bx b2 2 [.int .i64 hi] w) (hn : l.length ≤ 1000000)  :
  Fn Tryz.prog 87 [v, (.func (.func 139) #[] #[(.pointer (some ⟨b1, 0, none⟩)), (.pointer (some ⟨b2, 0, none⟩))])].toArray w (fun u _ => u = .bool (has (fun x : Int => decide (x < lo ∨ hi < x)) l)) := by
 refine fz Tryz.func87 Z kz Z Z (fun hH => (zr (oA hH Z (zs (oM hH Z (oM hH Z (zM Z Z Z hH (zC6 (h0.now hH (n := 0) Z) (k1.now hH (n := 0) Z) (k2.now hH (n := 0) Z) om) (fun w1 hH2 => (oY hH2 (vH Z Z) (oA hH2 Z (zt (ret (fin hH2 (fun w' hf => (yN Z (rt Z))) (fun w' hf => Z))))))))))))))
theorem c73 {v : Value} {l : List Int} {lo hi : Int} {w : World} (h0 : Rd encI 1 v l w) (hn : l.length ≤ 1000000)  :
  Fn Tryz.prog 73 [(.int .i64 lo), (.int .i64 hi), v].toArray w (fun u _ => u = .bool (decide (∀ x ∈ l, lo ≤ x ∧ x ≤ hi))) := by
 refine fz Tryz.func73 Z kz Z Z (fun hH => (zr (yY Z Z Z hH (fun b1 w2 hH3 => (yY Z Z Z hH3 (fun b4 w5 hH6 => (oA hH6 Z (zs (oM hH6 Z (oY hH6 (vF Z Z) (zM Z Z Z hH6 (zEu (h0.now hH6 (n := 2) Z) (Heap.xV hH6 (n := 1) Z) (Heap.xV hH6 (n := 0) Z) hn) (fun w7 hH8 => (oY hH8 (y6 Z) (oA hH8 Z (zt (ret (fin (hH8.sub (sC (sC sR))) (fun w' hf => (yN Z (rt Z))) (fun w' hf => ?_))))))))))))))))))
 refine congrArg Value.bool ?_; rw [Bool.eq_iff_iff, Bool.not_eq_true', kS, decide_eq_true_eq]; exact YO
theorem ZS {v : Value} {a lo hi : Int} {w : World} (h0 : Rd encI 1 v [a] w) : Fn Tryz.prog 73 [.int .i64 lo, .int .i64 hi, v].toArray w (fun u _ => u = .bool (decide (lo ≤ a ∧ a ≤ hi))) := by
 have h := c73 (lo := lo) (hi := hi) h0 (by simp)
 rwa [show decide (∀ x ∈ [a], lo ≤ x ∧ x ≤ hi) = decide (lo ≤ a ∧ a ≤ hi) from decide_eq_decide.2 (by simp)] at h
theorem JE {v : Value} {a b lo hi : Int} {w : World} (h0 : Rd encI 1 v [a, b] w) : Fn Tryz.prog 73 [.int .i64 lo, .int .i64 hi, v].toArray w (fun u _ => u = .bool (decide ((lo ≤ a ∧ a ≤ hi) ∧ (lo ≤ b ∧ b ≤ hi)))) := by
 have h := c73 (lo := lo) (hi := hi) h0 (by simp)
 rwa [show decide (∀ x ∈ [a, b], lo ≤ x ∧ x ≤ hi) = decide ((lo ≤ a ∧ a ≤ hi) ∧ (lo ≤ b ∧ b ≤ hi)) from decide_eq_decide.2 (by simp)] at h
theorem zDg {a b : Int} {w : World} (ha : 0 ≤ a) (hb : 0 ≤ b) (ih : ∀ {a1 b1 : Int} {w1 : World}, 0 ≤ a1 → 0 ≤ b1 → b1 < b → Fn Tryz.prog 155 #[.int .i64 a1, .int .i64 b1] w1 (fun u _ => u = .int .i64 (Pt.gcd a1 b1)))  :
  Fn Tryz.prog 155 [(.int .i64 a), (.int .i64 b)].toArray w (fun u _ => u = .int .i64 (Pt.gcd a b)) := by
 refine fz Tryz.func155 Z kz Z Z (fun hH => (zr (oA hH Z (zt (seq (zr (oM hH Z (oY hH (y5 Z Z) (zt ?_)))))))))
 by_cases hc1 : b = 0
 ·refine zO Z (dT hc1) (zr (oM hH Z (oA hH Z (zt (ret (z6 (fin hH (fun w' hf => (yN Z (rt Z))) (fun w' hf => ?_))))))))
  first | exact congrArg (Value.int .i64) (Pt.gcd_0 ha ‹_›) | exact congrArg (Value.int .i64) (Pt.gcd_s ha hb)
 have hm := Pt.mod_lt (a := a) (b := b) (by omega)
 refine zL Z (dF hc1) (skip (zu (oM hH Z (oM hH Z (oM hH Z (oY hH (xO Z Z om om) (zM Z Z Z hH (ih om om om) (fun w2 hH3 => (oA hH3 Z (zt (ret (fin hH3 (fun w' hf => (yN Z (rt Z))) (fun w' hf => ?_)))))))))))))
 first | exact congrArg (Value.int .i64) (Pt.gcd_0 ha ‹_›) | exact congrArg (Value.int .i64) (Pt.gcd_s ha hb)
theorem zD2 {a b : Int} {w : World} (ha : 0 ≤ a) (hb : 0 ≤ b) : Fn Tryz.prog 155 #[.int .i64 a, .int .i64 b] w (fun u _ => u = .int .i64 (Pt.gcd a b)) := by
 induction hn : b.toNat using Nat.strongRecOn generalizing a b w with
 | _ m ih => exact zDg ha hb (fun h1 h2 h3 => ih _ (by omega) h1 h2 rfl)
theorem zEm {a b : Int} {w : World}  :
  Fn Tryz.prog 138 [(.agg #[(.int .i64 a), (.int .i64 b)])].toArray w (fun u _ => u = .int .i64 (Pt.chk (a, b))) := by
 refine fz Tryz.func138 Z kz Z Z (fun hH => (zr (yY Z Z Z hH (fun b1 w2 hH3 => (oA hH3 Z (zt (seq (block (zr (oY hH3 (zI T.uI Z) (oY hH3 (zE T.yT Z (cw (n := 0) Z Z)) (oY hH3 (zI T.vR Z) (oY hH3 (zE T.yT Z (cw (n := 0) Z Z)) (z2 T.zR [a, b] Z (fun w => by kernel_rfl) hH3 (fun u4 lo6 hi7 w5 hH8 => (zM Z Z Z hH8 (JE (Heap.yI T.zR hH8 (n := 0) Z)) (fun w9 hH10 => (oY hH10 (y6 Z) (oA hH10 Z (zt ?_))))))))))))))))))))
 by_cases hc11 : (1 ≤ a ∧ a ≤ 10000) ∧ (1 ≤ b ∧ b ≤ 10000)
 ·refine zL Z (zG hc11) (zr (oY hH10 (zI T.uI Z) (oY hH10 (zE T.yT Z (cw (n := 1) Z Z)) (oY hH10 (zI T.vR Z) (oY hH10 (zE T.yT Z (cw (n := 1) Z Z)) (zM Z Z Z hH10 (zD2 om om) (fun w12 hH13 => (oY hH13 (yF Z Z) (oA hH13 Z (zt ?_))))))))))
  by_cases hc14 : (Pt.gcd a b) = 1
  ·refine zL Z (zG hc14) (skip (yC (zu (oA hH13 Z (zt (ret (fin (hH13.sub (sC (sC sR))) (fun w' hf => (yN Z (rt Z))) (fun w' hf => ?_))))))))
   first | exact congrArg (Value.int .i64) (Pt.chk1 (x := (a, b)) ‹_›) | exact congrArg (Value.int .i64) (Pt.chk2 (x := (a, b)) (by first | assumption | omega) ‹_›) | exact congrArg (Value.int .i64) (Pt.chk3 (x := (a, b)) (by first | assumption | omega) (by first | assumption | omega))
  refine zO Z (zF hc14) (zr (oA hH13 Z (zt (ret (yE (z6 (fin (hH13.sub (sC (sC sR))) (fun w' hf => (yN Z (rt Z))) (fun w' hf => ?_))))))))
  first | exact congrArg (Value.int .i64) (Pt.chk1 (x := (a, b)) ‹_›) | exact congrArg (Value.int .i64) (Pt.chk2 (x := (a, b)) (by first | assumption | omega) ‹_›) | exact congrArg (Value.int .i64) (Pt.chk3 (x := (a, b)) (by first | assumption | omega) (by first | assumption | omega))
 refine zO Z (zF hc11) (zr (oA hH10 Z (zt (ret (yE (z6 (fin (hH10.sub (sC (sC sR))) (fun w' hf => (yN Z (rt Z))) (fun w' hf => ?_))))))))
 first | exact congrArg (Value.int .i64) (Pt.chk1 (x := (a, b)) ‹_›) | exact congrArg (Value.int .i64) (Pt.chk2 (x := (a, b)) (by first | assumption | omega) ‹_›) | exact congrArg (Value.int .i64) (Pt.chk3 (x := (a, b)) (by first | assumption | omega) (by first | assumption | omega))
end Go.Fip
namespace Go.Fip
open Go.Proofs Go.RowKit
theorem zFf {v : Value} {l : List Pt.Pr} {w : World} (h0 : Rd encP 2 v l w) (hn : 1 ≤ l.length) (hn2 : l.length ≤ 1000000)  :
  Fn Tryz.prog 72 [v].toArray w (fun u w => (Pt.chkL l = 0 → (∃ b, u = .tuple #[.pointer (some ⟨b, 0, none⟩), .int .i64 0] ∧ Bx b 119 [.int .i64 (nth l 0).1, .int .i64 (nth l 0).2] w)) ∧ (¬ Pt.chkL l = 0 → u = .tuple #[.pointer none, .int .i64 (Pt.chkL l)])) := by
 refine fz Tryz.func72 Z kz Z Z (fun hH => (zr (oA hH Z (oA hH Z (zt (seq (zr (oM hH Z (oY hH (z8 T.jO Z (h0.now hH (n := 0) Z).is) (oM hH Z (zt (block (loop (S := Nat) (fun k => [(9, (.int .i64 (k : Int))), (0, v), (7, v), (8, (.int .i64 (l.length : Int)))]) (fun k w1 => Heap [base w] w1 ∧ k ≤ l.length ∧ ∀ i, i < k → Pt.chk (nth l (i : Int)) = 0) (fun k => l.length - k) (0) (uC Z (uC Z (uC Z (uC Z (Sub.nil _))))) ?_ ?_)))))))))))))
 ·exact ⟨hH, om, S.all_zero⟩
 rintro k w1 ⟨hH2, hk, hall⟩
 refine zr (oY hH2 (yL Z Z) (zt (seq ?_)))
 by_cases hc3 : (k : Int) < (l.length : Int)
 ·refine zO Z (dT hc3) (skip (zN (seq (block (zr (oY hH2 (zP T.jO Z Z (h0.now hH2 (n := 0) Z).is om) (oY hH2 (zW (cs := [(.int .i64 ((nth l (k : Int)).1)), (.int .i64 ((nth l (k : Int)).2))]) T.y4 Z Z (fun _ hw => Rd.KB (h0.now hw (n := 0) Z) (i := (k : Int)) om)) (yD (z := (.agg #[(.int .i64 0), (.int .i64 0)])) (fun _ => by kernel_rfl) Z Z hH2 (fun b4 w5 hH6 => (zS (n := 0) (j := 0) Z Z hH6 Z T.x9 Z Z Z (by rfl) (fun w7 hH8 => (zs (oY hH8 (zW (cs := [(.int .i64 ((nth l (k : Int)).1)), (.int .i64 ((nth l (k : Int)).2))]) T.y4 Z Z (fun _ hw => Heap.yH hw (n := 0) Z (k := 0) Z)) (zM Z Z Z hH8 (zEm) (fun w9 hH10 => (oA hH10 Z (zs ?_)))))))))))))))))
  refine oM hH10 Z (oY hH10 (yF Z Z) (zt ?_))
  by_cases hc11 : (Pt.chk ((nth l (k : Int)).1, (nth l (k : Int)).2)) = 0
  ·have hok : Pt.chk (nth l (k : Int)) = 0 := by have hq := (zG hc11); simpa using hq
   refine zL Z (zG hc11) (skip (yC (zN (region (oY hH10 (zV Z Z om) (oM hH10 Z (zC (y0 (k + 1) (uC Z (uC Z (uC Z (uC Z (Sub.nil _))))) (⟨(hH10.sub (sC sR)), om, S.all_snoc hall hok⟩) om3))))))))
  have hbad : ¬ Pt.chk (nth l (k : Int)) = 0 := by have hq := (zF hc11); simpa using hq
  refine zO Z (zF hc11) (zr (oM hH10 Z (oA hH10 Z (oA hH10 Z (zt (ret (yE (z6 (xY (yE (z6 (fin (hH10.sub (sC sR)) (fun w' hf => (xI Z (rt Z) (rt Z))) (fun w' hf => ?_)))))))))))))
  exact ⟨fun h => absurd (Pt.chkL_all h k om) hbad, fun _ => by rw [Pt.chkL_at om hall hbad]⟩
 refine zL Z (dF hc3) (exit (yZ (xF (z7 (zu (oM hH2 Z (oY hH2 (zP T.jO Z Z (h0.now hH2 (n := 0) Z).is om) (oY hH2 (zW (cs := [(.int .i64 ((nth l 0).1)), (.int .i64 ((nth l 0).2))]) T.y4 Z Z (fun _ hw => Rd.KB (h0.now hw (n := 0) Z) (i := 0) om)) (oY hH2 (yR (v := (.agg #[(.int .i64 ((nth l 0).1)), (.int .i64 ((nth l 0).2))])) Z (fun w => by kernel_rfl)) (yY Z Z Z hH2 (fun b14 w15 hH16 => (oA hH16 Z (oA hH16 Z (zt (ret (fin (hH16.front (n := 1) Z) (fun w' hf => (xI Z (rt Z) (rt Z))) (fun w' hf => ?_)))))))))))))))))
 exact ⟨fun _ => ⟨_, Z, Heap.xV hf (n := 0) Z⟩, fun h => absurd (Pt.chkL_none (fun i hi => hall i om)) h⟩
theorem c72 {v : Value} {l : List Pt.Pr} {w : World} (h0 : Rd encP 2 v l w) (hn : 1 ≤ l.length) (hn2 : l.length ≤ 1000000) (hc : Pt.chkL l = 0) : Fn Tryz.prog 72 [v].toArray w (fun u w => ∃ b, u = .tuple #[.pointer (some ⟨b, 0, none⟩), .int .i64 0] ∧ Bx b 119 [.int .i64 (nth l 0).1, .int .i64 (nth l 0).2] w) := (zFf h0 hn hn2).mono fun u w h => h.1 hc
theorem KY {bf : Nat} {a b c d : Int} {w : World} (kf : Bx bf 119 [.int .i64 a, .int .i64 b] w) (h1 : 0 ≤ c * b ∧ c * b ≤ 4611686018427387904) (h2 : 0 ≤ a * d ∧ a * d ≤ 4611686018427387904)  :
  Fn Tryz.prog 102 [(.pointer (some ⟨bf, 0, none⟩)), (.agg #[(.int .i64 c), (.int .i64 d)])].toArray w (fun u _ => u = .int .i64 (Pt.gap (a, b) (c, d))) := by
 refine fz Tryz.func102 Z kz Z Z (fun hH => (zr (yY Z Z Z hH (fun b1 w2 hH3 => (oA hH3 Z (zt (seq (zY (fun w' => Heap [bx b1 27 [(.int .i64 c), (.int .i64 d)], base w] w') T.mixed (fun w4 hr5 => ?_)))))))))
 have hH6 := hH3.redrawn hr5
 refine zK [0, 1, 2, 3, 4, 5, 6, 7, 8, 9, 10, 11, 12, 13, 14, 15, 16, 17] kz hH6 _ _ _ kz (zJ Z Z (zI T.uI Z) (zJ Z Z (zE T.yT Z (cw (n := 0) Z Z)) (qM Z Z Z (zJ Z Z (yQ Z) (zJ Z Z (zI T.vW Z) (zJ Z Z (zI T.vR Z) (zJ Z Z (zE T.yT Z (fun _ hw => yM (kf.now hw (n := 1) Z) Z)) (zJ Z Z (xA Z Z om) (qM Z Z Z (zJ Z Z (yQ Z) (zJ Z Z (zI T.vW Z) (zJ Z Z (zI T.uI Z) (zJ Z Z (zE T.yT Z (fun _ hw => yM (kf.now hw (n := 1) Z) Z)) (zJ Z Z (zI T.vR Z) (zJ Z Z (zE T.yT Z (cw (n := 0) Z Z)) (zJ Z Z (xA Z Z om) (zJ Z Z (y8 Z Z om) (zJ Z Z (yK Z) (zQ (zX kz (zN ?_)))))))))))))))))))))
 refine ret (fin (hH6.sub (sC sR)) (fun w' hf => (yN Z (rt Z))) (fun w' hf => Z))
theorem c22 {a b m : Int} {w : World} (hck : Pt.chk (a, b) = 0) (hm : 1 ≤ m ∧ m ≤ 1000)  :
  Fn Tryz.prog 22 [(.agg #[(.int .i64 a), (.int .i64 b)]), (.int .i64 m)].toArray w (fun u w => ∃ bf, u = .tuple #[.pointer (some ⟨bf, 0, none⟩), .int .i64 0] ∧ Bx bf 119 [.int .i64 a, .int .i64 b] w) := by
 refine fz Tryz.func22 Z kz Z Z (fun hH => (zr (yY Z Z Z hH (fun b1 w2 hH3 => (oA hH3 Z (oA hH3 Z (zt (seq ?_))))))))
 have hck : Pt.chk (a, b) = 0 := hck
 refine region (oY hH3 (zW (cs := [(.int .i64 a), (.int .i64 b)]) T.y4 Z Z (fun _ hw => Heap.yH hw (n := 0) Z (k := 0) Z)) (z2 T.xG [(a, b)] Z (fun w => by kernel_rfl) hH3 (fun u4 lo6 hi7 w5 hH8 => (yV Z Z Z hH8 (c72 (Heap.yI T.xG hH8 (n := 0) Z) (by simp) (by simp) (by rw [Pt.chkL_1]; exact hck)) (fun u11 w9 lo12 hi13 hH10 hv14 => ?_)))))
 obtain ⟨b15, hu, hb16⟩ := hv14
 subst hu
 have hH17 := Heap.weaken hH10 (n := 0) (φ := Bx b15 119 [.int .i64 a, .int .i64 b]) Z (fun w' h => by obtain ⟨b', e, h⟩ := h; cases e; exact h)
 refine oM hH17 Z (oY hH17 (zH Z Z) (oY hH17 (zH Z Z) (oA hH17 Z (oA hH17 Z (zt (seq (block (zr (oM hH17 Z (oY hH17 (yF Z Z) (oA hH17 Z (zt (zL Z Z (zr (oM hH17 Z (z2 T.zR [m] Z (fun w => by kernel_rfl) hH17 (fun u18 lo20 hi21 w19 hH22 => (zM Z Z Z hH22 (ZS (Heap.yI T.zR hH22 (n := 0) Z)) (fun w23 hH24 => ?_)))))))))))))))))))
 refine oY hH24 (y6 Z) (oA hH24 Z (zt ?_))
 have hc25 : ¬ (¬ (1 ≤ m ∧ m ≤ 1000)) := fun h => h hm
 refine zL Z (vC hc25) (skip (yC (zu (oM hH24 Z (oA hH24 Z (oA hH24 Z (zt (ret (fin ((hH24.sub (sC (sK (sC (sC sR))))).front (n := 1) Z) (fun w' hf => (xI Z (rt Z) (rt Z))) (fun w' hf => ?_))))))))))
 exact ⟨_, Z, hf.get (n := 0) Z⟩
end Go.Fip
namespace Go.Fip
open Go.RowKit
section drawY
variable {r : Option Nat} {P : Program} {ops : Array Oper} {S : World → Prop} {X : List Nat}
def AnyY (r : Option Nat) (P : Program) (S : World → Prop) (X : List Nat) (ops : Array Oper) (K0 : Act → World → Prop) : Nat → Array Bool → Act → World → Prop
 | 0, listed, a, w => Region.ready .any ops listed = [] ∧ K0 a w
 | fuel + 1, listed, a, w => (Region.ready .any ops listed = [] → K0 a w) ∧
  ∀ i ∈ Region.ready .any ops listed, wpOpIn (Fr r) 0 P ops (only K0) i (fun a' w' => (X.contains i = false → S w → S w') ∧ AnyY r P S X ops K0 fuel (listed.setIfInBounds i true) a' w') a w
theorem VQ {K0 : Act → World → Prop} : ∀ (fuel : Nat) (listed : Array Bool) (a : Act) (w : World), AnyY r P S X ops K0 fuel listed a w → wpAnyIn (Fr r) 0 P .any ops (only K0) fuel listed a w
 | 0, _, _, _, h => h
 | fuel + 1, _, _, _, h => ⟨h.1, fun i hi => wpOpIn_mono (fun a' w' h' => VQ fuel _ a' w' h'.2) (h.2 i hi)⟩
def behindY (ops : Array Oper) : Nat → Nat → Nat → Bool
 | 0, _, _ => false
 | f + 1, i, j => match ops[j]? with
  | some o => o.after.any fun e => Region.binds .any e && (Nat.beq e.on i || behindY ops f i e.on)
  | none => false
def ClosedY (ops : Array Oper) (listed : Array Bool) : Prop := ∀ k ok, ops[k]? = some ok → listed.getD k false = true → ∀ e ∈ ok.after, Region.binds .any e = true → listed.getD e.on false = true
theorem WL {listed : Array Bool} (hc : ClosedY ops listed) {i : Nat} (f : Nat) : ∀ j oj, behindY ops f i j = true → ops[j]? = some oj → (∀ e ∈ oj.after, Region.binds .any e = true → listed.getD e.on false = true) → listed.getD i false = true := by
 induction f with
 | zero => intro j oj h; cases h
 | succ f ih =>
  intro j oj h hj ha
  unfold behindY at h
  simp only [hj] at h
  obtain ⟨k, hk, h2⟩ := Array.any_eq_true.1 h
  rw [Bool.and_eq_true, Bool.or_eq_true] at h2
  have hl := ha _ (Array.getElem_mem hk) h2.1
  rcases h2.2 with h3 | h3
  ·rw [← Nat.eq_of_beq_eq_true h3]; exact hl
  ·cases ho : ops[(oj.after[k]).on]? with
   | some o => exact ih _ o h3 ho (hc _ o ho hl)
   | none =>
    cases f with
    | zero => cases h3
    | succ f => unfold behindY at h3; simp only [ho] at h3; cases h3
theorem ClosedY.set {listed : Array Bool} (hc : ClosedY ops listed) {j : Nat} (hj : j ∈ Region.ready .any ops listed) : ClosedY ops (listed.setIfInBounds j true) := fun k ok hk hl e he hb => by
 obtain ⟨_, oj, hoj, hall⟩ := mem_ready.1 hj
 by_cases hjk : j = k
 ·subst hjk
  rw [hk] at hoj
  cases hoj
  exact getD_set_true (hall e he hb)
 ·rw [getD_set_ne false hjk] at hl
  exact getD_set_true (hc k ok hk hl e he hb)
theorem KK {K0 : Act → World → Prop} {i : Nat} {oi : Oper} {v : Value} (hi : ops[i]? = some oi) (hnd : noDefer ops = true)
    (hX : ∀ j, X.contains j = true → behindY ops ops.size i j = true) :
    ∀ (fuel : Nat) (listed : Array Bool) (a : Act) (w : World), ClosedY ops listed →
      (∀ j oj, ops[j]? = some oj → j ≠ i → listed.getD j true = false → (∀ e ∈ oj.after, Region.binds .any e = true → e.on ≠ i) → oi.apart ops oj = true) →
      i ∈ Region.ready .any ops listed → YieldsS P ops S oi v a → S w →
      AnyY r P S X ops K0 fuel (listed.setIfInBounds i true) (a.put oi.dst v) w → AnyY r P S X ops K0 (fuel + 1) listed a w := by
  intro fuel
  induction fuel with
  | zero =>
    intro listed a w _ _ hr hy hS H
    refine ⟨fun h => (by rw [h] at hr; cases hr), fun j hj => ?_⟩
    by_cases hji : j = i
    · subst hji; exact hy.wpOp hi (vK hnd hi).1 hS ⟨fun _ _ => hS, H⟩
    · have := ready_mono hj hji
      rw [H.1] at this
      cases this
  | succ fuel ih =>
    intro listed a w hc hfree hr hy hS H
    refine ⟨fun h => (by rw [h] at hr; cases hr), fun j hj => ?_⟩
    by_cases hji : j = i
    · subst hji; exact hy.wpOp hi (vK hnd hi).1 hS ⟨fun _ _ => hS, H⟩
    · have h1 := H.2 j (ready_mono hj hji)
      obtain ⟨hjun, oj, hoj, hall⟩ := mem_ready.1 hj
      have hnot : ∀ e ∈ oj.after, Region.binds .any e = true → e.on ≠ i := fun e he hb heq => by
        have h1 := hall e he hb
        have h0 := (mem_ready.1 hr).1
        rw [heq] at h1
        rcases Nat.lt_or_ge i listed.size with h' | h'
        · simp [h'] at h0 h1; rw [h0] at h1; cases h1
        · simp [Array.getElem?_eq_none h'] at h1
      have hjX : X.contains j = false := by
        cases hcj : X.contains j with
        | false => rfl
        | true =>
          have h3 := WL hc _ j oj (hX j hcj) hoj hall
          have h0 := (mem_ready.1 hr).1
          rcases Nat.lt_or_ge i listed.size with h' | h'
          · simp [h'] at h0 h3; rw [h0] at h3; cases h3
          · simp [Array.getElem?_eq_none h'] at h3
      have h2 := ZM hoj (hfree j oj hoj hji hjun hnot) hnd (vK hnd hi).2 hy h1
      have hfree' : ∀ k ok, ops[k]? = some ok → k ≠ i → (listed.setIfInBounds j true).getD k true = false →
          (∀ e ∈ ok.after, Region.binds .any e = true → e.on ≠ i) → oi.apart ops ok = true := fun k ok hk hki hun hno => by
        refine hfree k ok hk hki ?_ hno
        by_cases hjk : j = k
        · subst hjk; exact hjun
        · rw [getD_set_ne true hjk] at hun; exact hun
      refine wpOpIn_mono (fun a' w' h3 => ⟨h3.2.1, ih (listed.setIfInBounds j true) a' w' (hc.set hj) hfree' (ready_mono hr (Ne.symm hji)) h3.1 (h3.2.1 hjX hS) ?_⟩) h2
      rw [Array.setIfInBounds_comm _ _ hji]
      exact h3.2.2
theorem GZ {K0 : Act → World → Prop} {i : Nat} {oi : Oper} {v : Value} (hi : ops[i]? = some oi) (hnd : noDefer ops = true) :
    ∀ (fuel : Nat) (listed : Array Bool) (a : Act) (w : World),
      (∀ j oj, ops[j]? = some oj → j ≠ i → listed.getD j true = false → (∀ e ∈ oj.after, Region.binds .any e = true → e.on ≠ i) → oi.apart ops oj = true) →
      i ∈ Region.ready .any ops listed → YieldsS P ops (fun _ => True) oi v a →
      AnyY r P S X ops K0 fuel (listed.setIfInBounds i true) (a.put oi.dst v) w → AnyY r P S X ops K0 (fuel + 1) listed a w := by
  intro fuel
  induction fuel with
  | zero =>
    intro listed a w _ hr hy H
    refine ⟨fun h => (by rw [h] at hr; cases hr), fun j hj => ?_⟩
    by_cases hji : j = i
    · subst hji; exact hy.wpOp hi (vK hnd hi).1 trivial ⟨fun _ h => h, H⟩
    · have := ready_mono hj hji
      rw [H.1] at this
      cases this
  | succ fuel ih =>
    intro listed a w hfree hr hy H
    refine ⟨fun h => (by rw [h] at hr; cases hr), fun j hj => ?_⟩
    by_cases hji : j = i
    · subst hji; exact hy.wpOp hi (vK hnd hi).1 trivial ⟨fun _ h => h, H⟩
    · have h1 := H.2 j (ready_mono hj hji)
      obtain ⟨hjun, oj, hoj, hall⟩ := mem_ready.1 hj
      have hnot : ∀ e ∈ oj.after, Region.binds .any e = true → e.on ≠ i := fun e he hb heq => by
        have h1 := hall e he hb
        have h0 := (mem_ready.1 hr).1
        rw [heq] at h1
        rcases Nat.lt_or_ge i listed.size with h' | h'
        · simp [h'] at h0 h1; rw [h0] at h1; cases h1
        · simp [Array.getElem?_eq_none h'] at h1
      have h2 := ZM hoj (hfree j oj hoj hji hjun hnot) hnd (vK hnd hi).2 hy h1
      have hfree' : ∀ k ok, ops[k]? = some ok → k ≠ i → (listed.setIfInBounds j true).getD k true = false →
          (∀ e ∈ ok.after, Region.binds .any e = true → e.on ≠ i) → oi.apart ops ok = true := fun k ok hk hki hun hno => by
        refine hfree k ok hk hki ?_ hno
        by_cases hjk : j = k
        · subst hjk; exact hjun
        · rw [getD_set_ne true hjk] at hun; exact hun
      refine wpOpIn_mono (fun a' w' h3 => ⟨h3.2.1, ih (listed.setIfInBounds j true) a' w' hfree' (ready_mono hr (Ne.symm hji)) h3.1 ?_⟩) h2
      rw [Array.setIfInBounds_comm _ _ hji]
      exact h3.2.2
end drawY
section drawEY
variable {r : Option Nat} {P : Program} {N : Nat} {S : World → Prop} {X : List Nat} {ops : Array Oper} {ds : List Deferred} {env : Env} {w : World} {Q : Post} {listed : Array Bool} {fuel : Nat}
def AnyEY (r : Option Nat) (P : Program) (N : Nat) (S : World → Prop) (X : List Nat) (ops : Array Oper) (fuel : Nat) (listed : Array Bool) (ds : List Deferred) (env : Env) (w : World) (Q : Post) : Prop :=
 ∀ a, Fits N a ds env → AnyY r P S X ops (fun a w => lift N Q .normal a w) fuel listed a w
def takesOKY (X : List Nat) (ops : Array Oper) (fuel : Nat) (listed : Array Bool) : List Nat → Bool
 | [] => true
 | i :: is => match fuel with
  | 0 => false
  | fuel + 1 => Region.free .any ops listed i && (Region.ready .any ops listed).contains i && X.all (behindY ops ops.size i) && takesOKY X ops fuel (listed.setIfInBounds i true) is
def closedYB (ops : Array Oper) (listed : Array Bool) : Bool := (List.range ops.size).all fun k => !(listed.getD k false) || (match ops[k]? with
  | some o => o.after.all fun e => !(Region.binds .any e) || listed.getD e.on false
  | none => true)
theorem VM (h : closedYB ops listed = true) : ClosedY ops listed := fun k ok hk hl e he hb => by
 have h1 := List.all_eq_true.1 h k (List.mem_range.2 (Array.getElem?_eq_some_iff.1 hk).1)
 rw [hk, hl] at h1
 simp only [Bool.not_true, Bool.false_or] at h1
 obtain ⟨q, hq, rfl⟩ := Array.getElem_of_mem he
 have h2 := Array.all_eq_true.1 h1 q hq
 rw [hb] at h2
 simpa using h2
theorem GE (is : List Nat) (hnd : noDefer ops = true) (hs : S w)
  : ∀ (fuel : Nat) (listed : Array Bool) (env : Env), ClosedY ops listed → takesOKY X ops fuel listed is = true →
   Qs P N S ops ds (fun env => AnyEY r P N S X ops (fuel - is.length) (setAll listed is) ds env w Q) is env → AnyEY r P N S X ops fuel listed ds env w Q := by
 induction is with
 | nil => intro fuel listed env _ _ h; exact h
 | cons i is ih =>
  intro fuel listed env hc hok h
  obtain ⟨o, d, v, ho, hd, hN, hy, h⟩ := h
  cases fuel with
  | zero => simp [takesOKY] at hok
  | succ fuel =>
   simp only [takesOKY, Bool.and_eq_true] at hok
   obtain ⟨⟨⟨hf, hr⟩, hx⟩, hok⟩ := hok
   intro a ha
   refine KK ho hnd (fun j hj => List.all_eq_true.1 hx j (by simpa using hj)) fuel listed a w hc (Region.free_spec ho hf) (by simpa using hr) (hy a ha) hs ?_
   have e : fuel + 1 - (i :: is).length = fuel - is.length := by simp
   rw [e] at h
   exact ih fuel _ _ (hc.set (by simpa using hr)) hok h _ (by rw [hd]; exact ha.put hN v)
theorem xQ (is : List Nat) (hnd : noDefer ops = true) (hs : S w)
  : ∀ (fuel : Nat) (listed : Array Bool) (env : Env), (closedYB ops listed && takesOKY X ops fuel listed is) = true →
   Qs P N S ops ds (fun env => AnyEY r P N S X ops (fuel - is.length) (setAll listed is) ds env w Q) is env → AnyEY r P N S X ops fuel listed ds env w Q := by
 intro fuel listed env hok h
 rw [Bool.and_eq_true] at hok
 exact GE is hnd hs fuel listed env (VM hok.1) hok.2 h
theorem y2 (is : List Nat) (hnd : noDefer ops = true)
  : ∀ (fuel : Nat) (listed : Array Bool) (env : Env), takesOK ops fuel listed is = true →
   Qs P N (fun _ => True) ops ds (fun env => AnyEY r P N S X ops (fuel - is.length) (setAll listed is) ds env w Q) is env → AnyEY r P N S X ops fuel listed ds env w Q := by
 induction is with
 | nil => intro fuel listed env _ h; exact h
 | cons i is ih =>
  intro fuel listed env hok h
  obtain ⟨o, d, v, ho, hd, hN, hy, h⟩ := h
  cases fuel with
  | zero => simp [takesOK] at hok
  | succ fuel =>
   simp only [takesOK, Bool.and_eq_true] at hok
   obtain ⟨⟨hf, hr⟩, hok⟩ := hok
   intro a ha
   refine GZ ho hnd fuel listed a w (Region.free_spec ho hf) (by simpa using hr) (hy a ha) ?_
   have e : fuel + 1 - (i :: is).length = fuel - is.length := by simp
   rw [e] at h
   exact ih fuel _ _ hok h _ (by rw [hd]; exact ha.put hN v)
theorem vY (hr : Region.ready .any ops listed = []) (h : Q .normal ds env w) : AnyEY r P N S X ops fuel listed ds env w Q := fun a ha => by
 cases fuel with
 | zero => exact ⟨hr, ds, env, ha, h⟩
 | succ fuel => exact ⟨fun _ => ⟨ds, env, ha, h⟩, by rw [hr]; simp⟩
def stepPostY (r : Option Nat) (P : Program) (N : Nat) (S : World → Prop) (X : List Nat) (w0 : World) (i : Nat) (ops : Array Oper) (fuel : Nat) (listed : Array Bool) (Q : Post) : Post
 | .normal, ds, env, w => (X.contains i = false → S w0 → S w) ∧ AnyEY r P N S X ops fuel listed ds env w Q
 | _, _, _, _ => False
def AllRY (r : Option Nat) (P : Program) (N : Nat) (S : World → Prop) (X : List Nat) (ops : Array Oper) (fuel : Nat) (listed : Array Bool) (ds : List Deferred) (env : Env) (w : World) (Q : Post) : List Nat → Prop
 | [] => True
 | i :: is => (∃ o, ops[i]? = some o ∧ Ops r P N ops [o] ds env w (stepPostY r P N S X w i ops fuel (listed.setIfInBounds i true) Q)) ∧ AllRY r P N S X ops fuel listed ds env w Q is
theorem AllRY.mem {is : List Nat} (h : AllRY r P N S X ops fuel listed ds env w Q is) {i : Nat} (hi : i ∈ is) : ∃ o, ops[i]? = some o ∧ Ops r P N ops [o] ds env w (stepPostY r P N S X w i ops fuel (listed.setIfInBounds i true) Q) := by
 induction is with
 | nil => cases hi
 | cons j is ih =>
  rcases List.mem_cons.1 hi with rfl | hi
  ·exact h.1
  ·exact ih h.2 hi
theorem xE (rs : List Nat) (hr : Region.ready .any ops listed = rs) (hne : rs.isEmpty = false) (h : AllRY r P N S X ops fuel listed ds env w Q rs) : AnyEY r P N S X ops (fuel + 1) listed ds env w Q := by
  intro a ha
  refine ⟨fun h0 => (by rw [hr] at h0; subst h0; cases hne), fun i hi => ?_⟩
  rw [hr] at hi
  obtain ⟨o, ho, hop⟩ := h.mem hi
  have h1 := hop a ha
  unfold wpOpIn
  simp only [ho]
  simp only [wpListIn] at h1
  split
  · rename_i hw
    rw [if_pos hw] at h1
    refine ⟨h1.1, ?_⟩
    have h2 := h1.2
    generalize (o.semAt (Fr r).round a.eval).run P w = res at *
    have fin : ∀ a' w', lift N (stepPostY r P N S X w i ops fuel (listed.setIfInBounds i true) Q) .normal a' w' →
        (X.contains i = false → S w → S w') ∧ AnyY r P S X ops (fun a w => lift N Q .normal a w) fuel (listed.setIfInBounds i true) a' w' := fun a' w' ⟨ds', env', hf, hs, hA⟩ => ⟨hs, hA a' hf⟩
    cases res with
    | ok x w' =>
      cases x <;> simp only [Oper.uponIn] at h2 ⊢
      case value u => exact fin _ _ h2
      case skip => exact fin _ _ h2
      case defer d => exact fin _ _ h2
      case enter f args =>
        refine ⟨h2.1, CallsIn.mono h2.2 fun e w'' he => ?_⟩
        cases e with
        | returned u => exact fin _ _ he
        | panicked c => obtain ⟨_, _, _, hx⟩ := he; exact hx.elim
        | outgrown => obtain ⟨_, _, _, _, _, hx⟩ := he; exact hx.elim
      case row row args => exact ⟨h2.1, RowsIn.mono h2.2 fun u w'' he => fin _ _ he⟩
      case round l f tmps assign body =>
        refine ⟨h2.1, RoundIn.mono h2.2 fun e w'' he => ?_⟩
        cases e with
        | returned u => exact fin _ _ he
        | panicked c => obtain ⟨_, _, _, hx⟩ := he; exact hx.elim
        | outgrown => obtain ⟨_, _, _, _, _, hx⟩ := he; exact hx.elim
    | halt x w' =>
      cases x <;> simp only [Oper.uponIn] at h2 ⊢
      case panic u => obtain ⟨_, _, _, hx⟩ := h2; exact hx.elim
  · rename_i hw
    rw [if_neg hw] at h1
    obtain ⟨ds', env', hf, hs, hA⟩ := h1.2
    exact ⟨h1.1, hs, hA _ hf⟩
theorem vD {id : Nat} {l : List Oper} (S : World → Prop) (X : List Nat) (hm : P.follows .mixedOrders = true)
  (h : ∀ w1, Redrawn w w1 → AnyEY r P N S X l.toArray l.length (Array.replicate l.length false) ds env w1 Q) : Holds r P N (.region id l.toArray true) ds env w Q := by
 intro a ha
 refine Go.wpIn_mono (Q := only fun a w => lift N Q .normal a w) ?_ ?_
 ·refine wpIn_region_any hm (VQ (S := S) (X := X) _ _ _ _ ?_)
  have := h { w with drawn := w.drawn + 1 } ⟨rfl, rfl, rfl, rfl⟩ a ha
  simpa using this
 ·intro e a' w' hq
  cases e with
  | normal => exact hq
  | _ => exact hq.elim
end drawEY
end Go.Fip
namespace Go.Fip
open Go.Proofs Go.RowKit
theorem c74 {w : World}  :
  Fn Tryz.prog 74 [].toArray w (fun u _ => u = .agg #[.int .i64 0, .int .i64 1, .int .i64 1, .int .i64 0]) := by
 refine fz Tryz.func74 Z kz Z Z (fun hH => (zr (yD (z := (.agg #[(.int .i64 0), (.int .i64 0), (.int .i64 0), (.int .i64 0)])) (fun _ => by kernel_rfl) Z Z hH (fun b1 w2 hH3 => (zs (oY hH3 (yR (v := (.agg #[(.int .i64 0), (.int .i64 1), (.int .i64 1), (.int .i64 0)])) Z (fun w => by kernel_rfl)) (zS (n := 0) (j := 0) Z Z hH3 Z T.JJ Z Z Z (by rfl) (fun w4 hH5 => (zt (ret (fin (hH5.front (n := 1) Z) (fun w' hf => (yN Z (rvA (cs := [(.int .i64 0), (.int .i64 1), (.int .i64 1), (.int .i64 0)]) Z T.ZL Z (y3 (Heap.xV hf (n := 1) Z) (k := 0) Z)))) (fun w' hf => Z))))))))))))
theorem c23 {bf : Nat} {a b m : Int} {w : World} (kf : Bx bf 119 [.int .i64 a, .int .i64 b] w) (hc : Pt.chk (a, b) = 0) (hm : 1 ≤ m ∧ m ≤ 1000)  :
  Fn Tryz.prog 23 [(.pointer (some ⟨bf, 0, none⟩)), (.int .i64 m)].toArray w (fun u _ => u = .tuple #[.agg #[.int .i64 (Pt.beside a b m).1, .int .i64 (Pt.beside a b m).2.1], .agg #[.int .i64 (Pt.beside a b m).2.2.1, .int .i64 (Pt.beside a b m).2.2.2]]) := by
 refine fz Tryz.func23 Z kz Z Z (fun hH => ?_)
 obtain ⟨⟨hab1, hab2⟩, hgc⟩ := Pt.chk_iff.1 hc
 have hab3 := hab1.1
 have hab4 := hab1.2
 have hab5 := hab2.1
 have hab6 := hab2.2
 refine zr (yD (z := (.agg #[(.int .i64 0), (.int .i64 0)])) (fun _ => by kernel_rfl) Z Z hH (fun b1 w2 hH3 => (yD (z := (.agg #[(.int .i64 0), (.int .i64 0)])) (fun _ => by kernel_rfl) Z Z hH3 (fun b4 w5 hH6 => (zt (seq (zr (oM hH6 Z (oY hH6 (yQ Z) (oY hH6 (zI T.vW Z) (oY hH6 (zI T.vR Z) (oY hH6 (zE T.yT Z (fun _ hw => yM (kf.now hw (n := 2) Z) Z)) (oM hH6 Z (oY hH6 (uS Z Z) (zt ?_)))))))))))))))
 by_cases hc7 : b ≤ m
 ·have hle : b ≤ m := by omega
  refine zO Z (dT hc7) (seq (zY (fun w' => Heap [base w] w') T.mixed (fun w8 hr9 => ?_)))
  have hH10 := hH6.redrawn hr9
  refine zK [0, 1, 2, 3, 4, 5, 6, 7] kz (hH10.sub (sC (sC sR))) _ _ _ kz (qM Z Z Z (zJ Z Z (yQ Z) (zJ Z Z (zI T.vW Z) (zJ Z Z (zW (cs := [(.int .i64 a), (.int .i64 b)]) T.y4 Z Z (fun _ hw => y3 (kf.now hw (n := 0) Z) (k := 0) Z)) (qM Z Z Z (zJ Z Z (yQ Z) (zJ Z Z (zI T.vW Z) (zJ Z Z (zW (cs := [(.int .i64 a), (.int .i64 b)]) T.y4 Z Z (fun _ hw => y3 (kf.now hw (n := 0) Z) (k := 0) Z)) (zQ (z1 8 kz Z (zS (n := 1) (j := 0) Z Z hH10 Z T.x9 Z Z Z (by rfl) (fun w11 hH12 => (zC (⟨(hH12.sub (sC (sC sR))), (z1 9 kz Z (zS (n := 0) (j := 0) Z Z hH12 Z T.x9 Z Z Z (by rfl) (fun w13 hH14 => (zC (⟨(hH14.sub (sC (sC sR))), (zX kz (zN ?_))⟩)))))⟩))))))))))))))
  refine ret (z6 (fin (hH14.front (n := 2) Z) (fun w' hf => (xI Z (rvA (cs := [(.int .i64 a), (.int .i64 b)]) Z T.y4 Z (y3 (Heap.xV hf (n := 2) Z) (k := 0) Z)) (rvA (cs := [(.int .i64 a), (.int .i64 b)]) Z T.y4 Z (y3 (Heap.xV hf (n := 1) Z) (k := 0) Z)))) (fun w' hf => ?_)))
  rw [Pt.beside_1 hle]
 have hle : ¬ b ≤ m := by omega
 have hI : Pt.In a b m := Pt.In.of hc hm (by omega)
 refine zL Z (dF hc7) (skip (zu (zM Z Z Z hH6 (c74) (fun w15 hH16 => (yD (z := (.agg #[(.int .i64 0), (.int .i64 0), (.int .i64 0), (.int .i64 0)])) (fun _ => by kernel_rfl) Z Z hH16 (fun b17 w18 hH19 => (zS (n := 0) (j := 0) Z Z hH19 Z T.JJ Z Z Z (by rfl) (fun w20 hH21 => (zt (block (loop (S := Nat × Int × Int × Int × Int) (fun (k, p, q, r, s) => [(0, (.pointer (some ⟨bf, 0, none⟩))), (1, (.int .i64 m)), (4, (.pointer (some ⟨b1, 0, none⟩))), (5, (.pointer (some ⟨b4, 0, none⟩))), (6, (.pointer (some ⟨b17, 0, none⟩)))]) (fun (k, p, q, r, s) w1 => Heap [bx b17 120 [(.int .i64 p), (.int .i64 q), (.int .i64 r), (.int .i64 s)], bx b4 27 [(.int .i64 0), (.int .i64 0)], bx b1 27 [(.int .i64 0), (.int .i64 0)], base w] w1 ∧ Pt.it a b m k = (p, q, r, s) ∧ (k : Int) ≤ q + s) (fun (k, p, q, r, s) => (2 * m + 2 - (q + s)).toNat) (0, 0, 1, 1, 0) (uC Z (uC Z (uC Z (uC Z (uC Z (Sub.nil _)))))) ?_ ?_)))))))))))
 ·exact ⟨hH21, Z, om⟩
 rintro ⟨k, p, q, r, s⟩ w22 ⟨hH23, hit, hkq⟩
 have hg : Pt.Good a b m p q r s := by have h := Pt.it_good hI k; rw [hit] at h; exact h
 obtain ⟨⟨haq0, haq1⟩, ⟨hpb0, hpb1⟩, ⟨has0, has1⟩, hrb, hp7, hr7⟩ := hg.bds hI
 have hq1 := hg.q1
 have hqm := hg.qm
 have hs0 := hg.s0
 have hsm := hg.sm
 have hp0 := hg.p0
 have hr1 := hg.r1
 refine block (zr (oY hH23 (zW (cs := [(.int .i64 p), (.int .i64 q), (.int .i64 r), (.int .i64 s)]) T.ZL Z Z (fun _ hw => Heap.yH hw (n := 0) Z (k := 0) Z)) (yD (z := (.agg #[(.int .i64 0), (.int .i64 0), (.int .i64 0), (.int .i64 0)])) (fun _ => by kernel_rfl) Z Z hH23 (fun b24 w25 hH26 => (zS (n := 0) (j := 0) Z Z hH26 Z T.JJ Z Z Z (by rfl) (fun w27 hH28 => (zt (seq (zr (oY hH28 (yA T.y7 Z Z om) (oY hH28 (zE T.yT Z (cw (n := 1) Z Z)) (oY hH28 (y5 Z Z) (zt ?_)))))))))))))
 by_cases hc29 : s = 0
 ·have hsz : s = 0 := by omega
  refine zO Z (dT hc29) (vD (fun w' => Heap [bx b24 120 [(.int .i64 p), (.int .i64 q), (.int .i64 r), (.int .i64 s)], bx b17 120 [(.int .i64 p), (.int .i64 q), (.int .i64 r), (.int .i64 s)], bx b4 27 [(.int .i64 0), (.int .i64 0)], bx b1 27 [(.int .i64 0), (.int .i64 0)], base w] w') [12] T.mixed (fun w30 hr31 => ?_))
  have hH32 := hH28.redrawn hr31
  refine y2 [0, 1, 2, 3, 5, 6, 7, 8] kz  _ _ _ kz (qM Z Z Z (zJ Z Z (yQ Z) (zJ Z Z (zI T.vW Z) (zJ Z Z (zI T.uI Z) (qM Z Z Z (zJ Z Z (yQ Z) (zJ Z Z (zI T.vW Z) (zJ Z Z (zI T.vR Z) (zQ (xQ [4, 9] kz hH32 _ _ _ kz (zJ Z Z (zE T.yT Z (fun _ hw => yM (kf.now hw (n := 4) Z) Z)) (zJ Z Z (zE T.yT Z (fun _ hw => yM (kf.now hw (n := 4) Z) Z)) (zQ (y2 [10, 11] kz  _ _ _ kz (zJ Z Z (xU Z Z om om om) (zJ Z Z (yA T.y7 Z Z om) (zQ (xE [12] kz Z (⟨⟨_, Z, (zS (n := 1) (j := 0) Z Z hH32 Z T.sz2 Z Z Z (by rfl) (fun w33 hH34 => (zC ?_)))⟩, trivial⟩)))))))))))))))))))
  refine ⟨(fun h => by cases h), (vY kz (zN (seq ?_)))⟩
  have hg1 : Pt.Good a b m (a / b) q r s := hg.one0 hsz hI
  obtain ⟨⟨gaq0, gaq1⟩, ⟨gpb0, gpb1⟩, ⟨gas0, gas1⟩, grb, gp7, gr7⟩ := hg1.bds hI
  have gq1 := hg1.q1
  have gqm := hg1.qm
  have gs0 := hg1.s0
  have gsm := hg1.sm
  have gp0 := hg1.p0
  have gr1 := hg1.r1
  refine zY (fun w' => Heap [bx b24 120 [(.int .i64 p), (.int .i64 q), (.int .i64 r), (.int .i64 s)], bx b17 120 [(.int .i64 (a / b)), (.int .i64 q), (.int .i64 r), (.int .i64 s)], bx b4 27 [(.int .i64 0), (.int .i64 0)], bx b1 27 [(.int .i64 0), (.int .i64 0)], base w] w') T.mixed (fun w35 hr36 => ?_)
  have hH37 := hH34.redrawn hr36
  refine zK [0, 1, 2, 3, 4, 5, 6, 7, 8, 9, 10, 11, 12, 13, 14, 15, 16, 17, 18, 19, 20, 21, 22, 23, 24, 25, 26, 27, 28, 29, 30, 31, 32, 33, 34, 35, 36, 37, 38, 39, 40, 41, 42, 43] kz hH37 _ _ _ kz (zJ Z Z (yA T.y7 Z Z om) (zJ Z Z (zE T.yT Z (cw (n := 1) Z Z)) (qM Z Z Z (zJ Z Z (yQ Z) (zJ Z Z (zI T.vW Z) (zJ Z Z (zI T.vR Z) (zJ Z Z (zE T.yT Z (fun _ hw => yM (kf.now hw (n := 4) Z) Z)) (zJ Z Z (xA Z Z om) (qM Z Z Z (zJ Z Z (yQ Z) (zJ Z Z (zI T.vW Z) (zJ Z Z (zI T.uI Z) (zJ Z Z (zE T.yT Z (fun _ hw => yM (kf.now hw (n := 4) Z) Z)) (zJ Z Z (yA T.y7 Z Z om) (zJ Z Z (zE T.yT Z (cw (n := 1) Z Z)) (zJ Z Z (xA Z Z om) (zJ Z Z (y8 Z Z om) (qM Z Z Z (zJ Z Z (yQ Z) (zJ Z Z (zI T.vW Z) (zJ Z Z (zI T.uI Z) ?_)))))))))))))))))))))
  refine zJ Z Z (zE T.yT Z (fun _ hw => yM (kf.now hw (n := 4) Z) Z)) (zJ Z Z (yA T.y7 Z Z om) (zJ Z Z (zE T.yT Z (cw (n := 1) Z Z)) (zJ Z Z (xA Z Z om) (zJ Z Z (yA T.y7 Z Z om) (zJ Z Z (zE T.yT Z (cw (n := 1) Z Z)) (qM Z Z Z (zJ Z Z (yQ Z) (zJ Z Z (zI T.vW Z) (zJ Z Z (zI T.vR Z) (zJ Z Z (zE T.yT Z (fun _ hw => yM (kf.now hw (n := 4) Z) Z)) (zJ Z Z (xA Z Z om) (zJ Z Z (y8 Z Z om) (zJ Z Z (xU Z Z om om om) (qM Z Z Z (zJ Z Z (yA T.y7 Z Z om) (zJ Z Z (zE T.yT Z (cw (n := 1) Z Z)) (zJ Z Z (y8 Z Z om) (zJ Z Z (yA T.y7 Z Z om) (zJ Z Z (zE T.yT Z (cw (n := 1) Z Z)) (zJ Z Z (xU Z Z om om om) (zJ Z Z (vN (show min (((r * b) - (a * s)) / ((a * q) - ((a / b) * b))) ((m - s) / q) = Pt.n2 a b m (a / b) q r s from Z) (j5 Z Z)) ?_)))))))))))))))))))))
  refine zJ Z Z (yK Z) (zQ (zX kz (zN (seq ?_))))
  obtain ⟨u0, u1, u2, u3, u4⟩ := Pt.n2_bd hg1
  have u5 := Pt.mul_bd (a := Pt.n2 a b m (a / b) q r s) (b := (a / b)) (A := 1000) (B := 10000000) u0 (by omega) gp0 gp7
  have u6 := Pt.mul_bd (a := Pt.n2 a b m (a / b) q r s) (b := q) (A := 1000) (B := 1000) u0 (by omega) (by omega) (by omega)
  refine region (oY hH37 (yA T.y7 Z Z om) (oY hH37 (zE T.yT Z (cw (n := 1) Z Z)) (oM hH37 Z (oY hH37 (yA T.y7 Z Z om) (oY hH37 (zE T.yT Z (cw (n := 1) Z Z)) (oY hH37 (xA Z Z om) (oY hH37 (zV Z Z om) (oY hH37 (yA T.y7 Z Z om) (oY hH37 (zE T.yT Z (cw (n := 1) Z Z)) (oM hH37 Z (oY hH37 (yA T.y7 Z Z om) (oY hH37 (zE T.yT Z (cw (n := 1) Z Z)) (oY hH37 (xA Z Z om) (oY hH37 (zV Z Z om) (oY hH37 (yA T.y7 Z Z om) (zS (n := 1) (j := 2) Z Z hH37 Z T.sz2 Z Z Z (by rfl) (fun w38 hH39 => (oY hH39 (yA T.y7 Z Z om) (zS (n := 1) (j := 3) Z Z hH39 Z T.sz2 Z Z Z (by rfl) (fun w40 hH41 => (zt (seq ?_))))))))))))))))))))))
  refine region (oY hH41 (zW (cs := [(.int .i64 p), (.int .i64 q), (.int .i64 r), (.int .i64 s)]) T.ZL Z Z (fun _ hw => Heap.yH hw (n := 0) Z (k := 0) Z)) (oY hH41 (zW (cs := [(.int .i64 (a / b)), (.int .i64 q), (.int .i64 (r + ((Pt.n2 a b m (a / b) q r s) * (a / b)))), (.int .i64 (s + ((Pt.n2 a b m (a / b) q r s) * q)))]) T.ZL Z Z (fun _ hw => Heap.yH hw (n := 1) Z (k := 0) Z)) (oY hH41 (kP (a := [p, q, r, s]) (b := [a / b, q, r + ((Pt.n2 a b m (a / b) q r s) * (a / b)), s + ((Pt.n2 a b m (a / b) q r s) * q)]) T.zAv Z Z Z Z) (zt ?_))))
  by_cases hc42 : [p, q, r, s] = [a / b, q, r + ((Pt.n2 a b m (a / b) q r s) * (a / b)), s + ((Pt.n2 a b m (a / b) q r s) * q)]
  ·have hst : Pt.st2 a b m (Pt.st1 a b m (p, q, r, s)) = (a / b, q, r + ((Pt.n2 a b m (a / b) q r s) * (a / b)), s + ((Pt.n2 a b m (a / b) q r s) * q)) := by rw [show Pt.st1 a b m (p, q, r, s) = _ from if_pos (show (p, q, r, s).2.2.2 = 0 from hsz)]; rfl
   have hsame : [p, q, r, s] = [a / b, q, r + ((Pt.n2 a b m (a / b) q r s) * (a / b)), s + ((Pt.n2 a b m (a / b) q r s) * q)] := of_decide_eq_true (decide_eq_true hc42)
   have hfin := (Pt.beside_2 hle hit (by rw [hst]; exact (Pt.q_of hsame).symm) (by omega) (by omega)).trans (Pt.q_of hsame)
   refine zO Z (dT hc42) (seq (zY (fun w' => Heap [bx b24 120 [(.int .i64 p), (.int .i64 q), (.int .i64 r), (.int .i64 s)], bx b17 120 [(.int .i64 (a / b)), (.int .i64 q), (.int .i64 (r + ((Pt.n2 a b m (a / b) q r s) * (a / b)))), (.int .i64 (s + ((Pt.n2 a b m (a / b) q r s) * q)))], base w] w') T.mixed (fun w43 hr44 => ?_)))
   have hH45 := hH41.redrawn hr44
   refine zK [0, 1, 2, 3, 4, 5, 6, 7, 8, 9] kz (hH45.sub (sK (sK (sC (sC sR))))) _ _ _ kz (zJ Z Z (yA T.y7 Z Z om) (zJ Z Z (zE T.yT Z (cw (n := 1) Z Z)) (zJ Z Z (yA T.y7 Z Z om) (zJ Z Z (zE T.yT Z (cw (n := 1) Z Z)) (zJ Z Z (yR (v := (.agg #[(.int .i64 (a / b)), (.int .i64 q)])) Z (fun w => by kernel_rfl)) (zJ Z Z (yA T.y7 Z Z om) (zJ Z Z (zE T.yT Z (cw (n := 1) Z Z)) (zJ Z Z (yA T.y7 Z Z om) (zJ Z Z (zE T.yT Z (cw (n := 1) Z Z)) (zJ Z Z (yR (v := (.agg #[(.int .i64 (r + ((Pt.n2 a b m (a / b) q r s) * (a / b)))), (.int .i64 (s + ((Pt.n2 a b m (a / b) q r s) * q)))])) Z (fun w => by kernel_rfl)) (zQ (z1 10 kz Z (zS (n := 3) (j := 0) Z Z hH45 Z T.x9 Z Z Z (by rfl) (fun w46 hH47 => (zC (⟨(hH47.sub (sK (sK (sC (sC sR))))), (z1 11 kz Z (zS (n := 2) (j := 0) Z Z hH47 Z T.x9 Z Z Z (by rfl) (fun w48 hH49 => (zC (⟨(hH49.sub (sK (sK (sC (sC sR))))), ?_⟩)))))⟩))))))))))))))))
   refine zX kz (zN (ret (yE (xY (yE (fin ((hH49.sub (sC (sC sR))).front (n := 2) Z) (fun w' hf => (xI Z (rvA (cs := [(.int .i64 (a / b)), (.int .i64 q)]) Z T.y4 Z (y3 (Heap.xV hf (n := 2) Z) (k := 0) Z)) (rvA (cs := [(.int .i64 (r + ((Pt.n2 a b m (a / b) q r s) * (a / b)))), (.int .i64 (s + ((Pt.n2 a b m (a / b) q r s) * q)))]) Z T.y4 Z (y3 (Heap.xV hf (n := 1) Z) (k := 0) Z)))) (fun w' hf => ?_)))))))
   rw [hfin]
  have hst : Pt.st2 a b m (Pt.st1 a b m (p, q, r, s)) = (a / b, q, r + ((Pt.n2 a b m (a / b) q r s) * (a / b)), s + ((Pt.n2 a b m (a / b) q r s) * q)) := by rw [show Pt.st1 a b m (p, q, r, s) = _ from if_pos (show (p, q, r, s).2.2.2 = 0 from hsz)]; rfl
  have hdiff : ¬ [p, q, r, s] = [a / b, q, r + ((Pt.n2 a b m (a / b) q r s) * (a / b)), s + ((Pt.n2 a b m (a / b) q r s) * q)] := of_decide_eq_false (decide_eq_false hc42)
  have hnx : Pt.it a b m (k + 1) = (a / b, q, r + ((Pt.n2 a b m (a / b) q r s) * (a / b)), s + ((Pt.n2 a b m (a / b) q r s) * q)) := by show Pt.st2 a b m (Pt.st1 a b m (Pt.it a b m k)) = _; rw [hit]; exact hst
  have hmore := Pt.st_more (x := (p, q, r, s)) hg hI (by rw [hst]; exact Pt.q_ne hdiff)
  rw [hst] at hmore
  simp only at hmore
  refine zL Z (dF hc42) (skip (yC ?_))
  have hH51 := (hH41.sub (sC sR))
  refine y0 (k + 1, a / b, q, r + ((Pt.n2 a b m (a / b) q r s) * (a / b)), s + ((Pt.n2 a b m (a / b) q r s) * q)) (uC Z (uC Z (uC Z (uC Z (uC Z (Sub.nil _)))))) ?_ ?_
  ·exact ⟨hH51, hnx, om⟩
  ·(simp only; omega)
 have hsn : ¬ s = 0 := by omega
 refine zL Z (dF hc29) (seq (zY (fun w' => Heap [bx b24 120 [(.int .i64 p), (.int .i64 q), (.int .i64 r), (.int .i64 s)], bx b17 120 [(.int .i64 p), (.int .i64 q), (.int .i64 r), (.int .i64 s)], bx b4 27 [(.int .i64 0), (.int .i64 0)], bx b1 27 [(.int .i64 0), (.int .i64 0)], base w] w') T.mixed (fun w52 hr53 => ?_)))
 have hH54 := hH28.redrawn hr53
 refine zK [0, 1, 2, 3, 4, 5, 6, 7, 8, 9, 10, 11, 12, 13, 14, 15, 16, 17, 18, 19, 20, 21, 22, 23, 24, 25, 26, 27, 28, 29, 30, 31, 32, 33, 34, 35, 36, 37, 38, 39, 40, 41, 42, 43] kz hH54 _ _ _ kz (qM Z Z Z (zJ Z Z (yQ Z) (zJ Z Z (zI T.vW Z) (zJ Z Z (zI T.uI Z) (zJ Z Z (zE T.yT Z (fun _ hw => yM (kf.now hw (n := 4) Z) Z)) (zJ Z Z (yA T.y7 Z Z om) (zJ Z Z (zE T.yT Z (cw (n := 1) Z Z)) (zJ Z Z (xA Z Z om) (zJ Z Z (yA T.y7 Z Z om) (zJ Z Z (zE T.yT Z (cw (n := 1) Z Z)) (qM Z Z Z (zJ Z Z (yQ Z) (zJ Z Z (zI T.vW Z) (zJ Z Z (zI T.vR Z) (zJ Z Z (zE T.yT Z (fun _ hw => yM (kf.now hw (n := 4) Z) Z)) (zJ Z Z (xA Z Z om) (zJ Z Z (y8 Z Z om) (zJ Z Z (yA T.y7 Z Z om) (zJ Z Z (zE T.yT Z (cw (n := 1) Z Z)) (qM Z Z Z (zJ Z Z (yQ Z) ?_)))))))))))))))))))))
 refine zJ Z Z (zI T.vW Z) (zJ Z Z (zI T.vR Z) (zJ Z Z (zE T.yT Z (fun _ hw => yM (kf.now hw (n := 4) Z) Z)) (zJ Z Z (xA Z Z om) (qM Z Z Z (zJ Z Z (yQ Z) (zJ Z Z (zI T.vW Z) (zJ Z Z (zI T.uI Z) (zJ Z Z (zE T.yT Z (fun _ hw => yM (kf.now hw (n := 4) Z) Z)) (zJ Z Z (yA T.y7 Z Z om) (zJ Z Z (zE T.yT Z (cw (n := 1) Z Z)) (zJ Z Z (xA Z Z om) (zJ Z Z (y8 Z Z om) (zJ Z Z (xU Z Z om om om) (qM Z Z Z (zJ Z Z (yA T.y7 Z Z om) (zJ Z Z (zE T.yT Z (cw (n := 1) Z Z)) (zJ Z Z (y8 Z Z om) (zJ Z Z (yA T.y7 Z Z om) (zJ Z Z (zE T.yT Z (cw (n := 1) Z Z)) (zJ Z Z (xU Z Z om om om) (zJ Z Z (vN (show min (((a * q) - (p * b)) / ((r * b) - (a * s))) ((m - q) / s) = Pt.n1 a b m p q r s from Z) (j5 Z Z)) ?_)))))))))))))))))))))
 refine zJ Z Z (yK Z) (zQ (zX kz (zN ?_)))
 obtain ⟨t0, t1, t2, t3, t4⟩ := Pt.n1_bd hg hsn
 have t5 := Pt.mul_bd (a := Pt.n1 a b m p q r s) (b := r) (A := 1000) (B := 10000000001) t0 (by omega) (by omega) hr7
 have t6 := Int.mul_nonneg t0 hs0
 refine region (oY hH54 (yA T.y7 Z Z om) (oY hH54 (zE T.yT Z (cw (n := 1) Z Z)) (oM hH54 Z (oY hH54 (yA T.y7 Z Z om) (oY hH54 (zE T.yT Z (cw (n := 1) Z Z)) (oY hH54 (xA Z Z om) (oY hH54 (zV Z Z om) (oY hH54 (yA T.y7 Z Z om) (oY hH54 (zE T.yT Z (cw (n := 1) Z Z)) (oM hH54 Z (oY hH54 (yA T.y7 Z Z om) (oY hH54 (zE T.yT Z (cw (n := 1) Z Z)) (oY hH54 (xA Z Z om) (oY hH54 (zV Z Z om) (oY hH54 (yA T.y7 Z Z om) (zS (n := 1) (j := 0) Z Z hH54 Z T.sz2 Z Z Z (by rfl) (fun w55 hH56 => (oY hH56 (yA T.y7 Z Z om) (zS (n := 1) (j := 1) Z Z hH56 Z T.sz2 Z Z Z (by rfl) (fun w57 hH58 => (zt (seq ?_))))))))))))))))))))))
 have hg1 : Pt.Good a b m (p + ((Pt.n1 a b m p q r s) * r)) (q + ((Pt.n1 a b m p q r s) * s)) r s := hg.one hsn hI
 obtain ⟨⟨gaq0, gaq1⟩, ⟨gpb0, gpb1⟩, ⟨gas0, gas1⟩, grb, gp7, gr7⟩ := hg1.bds hI
 have gq1 := hg1.q1
 have gqm := hg1.qm
 have gs0 := hg1.s0
 have gsm := hg1.sm
 have gp0 := hg1.p0
 have gr1 := hg1.r1
 refine zY (fun w' => Heap [bx b24 120 [(.int .i64 p), (.int .i64 q), (.int .i64 r), (.int .i64 s)], bx b17 120 [(.int .i64 (p + ((Pt.n1 a b m p q r s) * r))), (.int .i64 (q + ((Pt.n1 a b m p q r s) * s))), (.int .i64 r), (.int .i64 s)], bx b4 27 [(.int .i64 0), (.int .i64 0)], bx b1 27 [(.int .i64 0), (.int .i64 0)], base w] w') T.mixed (fun w59 hr60 => ?_)
 have hH61 := hH58.redrawn hr60
 refine zK [0, 1, 2, 3, 4, 5, 6, 7, 8, 9, 10, 11, 12, 13, 14, 15, 16, 17, 18, 19, 20, 21, 22, 23, 24, 25, 26, 27, 28, 29, 30, 31, 32, 33, 34, 35, 36, 37, 38, 39, 40, 41, 42, 43] kz hH61 _ _ _ kz (zJ Z Z (yA T.y7 Z Z om) (zJ Z Z (zE T.yT Z (cw (n := 1) Z Z)) (qM Z Z Z (zJ Z Z (yQ Z) (zJ Z Z (zI T.vW Z) (zJ Z Z (zI T.vR Z) (zJ Z Z (zE T.yT Z (fun _ hw => yM (kf.now hw (n := 4) Z) Z)) (zJ Z Z (xA Z Z om) (qM Z Z Z (zJ Z Z (yQ Z) (zJ Z Z (zI T.vW Z) (zJ Z Z (zI T.uI Z) (zJ Z Z (zE T.yT Z (fun _ hw => yM (kf.now hw (n := 4) Z) Z)) (zJ Z Z (yA T.y7 Z Z om) (zJ Z Z (zE T.yT Z (cw (n := 1) Z Z)) (zJ Z Z (xA Z Z om) (zJ Z Z (y8 Z Z om) (qM Z Z Z (zJ Z Z (yQ Z) (zJ Z Z (zI T.vW Z) (zJ Z Z (zI T.uI Z) ?_)))))))))))))))))))))
 refine zJ Z Z (zE T.yT Z (fun _ hw => yM (kf.now hw (n := 4) Z) Z)) (zJ Z Z (yA T.y7 Z Z om) (zJ Z Z (zE T.yT Z (cw (n := 1) Z Z)) (zJ Z Z (xA Z Z om) (zJ Z Z (yA T.y7 Z Z om) (zJ Z Z (zE T.yT Z (cw (n := 1) Z Z)) (qM Z Z Z (zJ Z Z (yQ Z) (zJ Z Z (zI T.vW Z) (zJ Z Z (zI T.vR Z) (zJ Z Z (zE T.yT Z (fun _ hw => yM (kf.now hw (n := 4) Z) Z)) (zJ Z Z (xA Z Z om) (zJ Z Z (y8 Z Z om) (zJ Z Z (xU Z Z om om om) (qM Z Z Z (zJ Z Z (yA T.y7 Z Z om) (zJ Z Z (zE T.yT Z (cw (n := 1) Z Z)) (zJ Z Z (y8 Z Z om) (zJ Z Z (yA T.y7 Z Z om) (zJ Z Z (zE T.yT Z (cw (n := 1) Z Z)) (zJ Z Z (xU Z Z om om om) (zJ Z Z (vN (show min (((r * b) - (a * s)) / ((a * (q + ((Pt.n1 a b m p q r s) * s))) - ((p + ((Pt.n1 a b m p q r s) * r)) * b))) ((m - s) / (q + ((Pt.n1 a b m p q r s) * s))) = Pt.n2 a b m (p + ((Pt.n1 a b m p q r s) * r)) (q + ((Pt.n1 a b m p q r s) * s)) r s from Z) (j5 Z Z)) ?_)))))))))))))))))))))
 refine zJ Z Z (yK Z) (zQ (zX kz (zN (seq ?_))))
 obtain ⟨u0, u1, u2, u3, u4⟩ := Pt.n2_bd hg1
 have u5 := Pt.mul_bd (a := Pt.n2 a b m (p + ((Pt.n1 a b m p q r s) * r)) (q + ((Pt.n1 a b m p q r s) * s)) r s) (b := (p + ((Pt.n1 a b m p q r s) * r))) (A := 1000) (B := 10000000) u0 (by omega) gp0 gp7
 have u6 := Pt.mul_bd (a := Pt.n2 a b m (p + ((Pt.n1 a b m p q r s) * r)) (q + ((Pt.n1 a b m p q r s) * s)) r s) (b := (q + ((Pt.n1 a b m p q r s) * s))) (A := 1000) (B := 1000) u0 (by omega) (by omega) (by omega)
 refine region (oY hH61 (yA T.y7 Z Z om) (oY hH61 (zE T.yT Z (cw (n := 1) Z Z)) (oM hH61 Z (oY hH61 (yA T.y7 Z Z om) (oY hH61 (zE T.yT Z (cw (n := 1) Z Z)) (oY hH61 (xA Z Z om) (oY hH61 (zV Z Z om) (oY hH61 (yA T.y7 Z Z om) (oY hH61 (zE T.yT Z (cw (n := 1) Z Z)) (oM hH61 Z (oY hH61 (yA T.y7 Z Z om) (oY hH61 (zE T.yT Z (cw (n := 1) Z Z)) (oY hH61 (xA Z Z om) (oY hH61 (zV Z Z om) (oY hH61 (yA T.y7 Z Z om) (zS (n := 1) (j := 2) Z Z hH61 Z T.sz2 Z Z Z (by rfl) (fun w62 hH63 => (oY hH63 (yA T.y7 Z Z om) (zS (n := 1) (j := 3) Z Z hH63 Z T.sz2 Z Z Z (by rfl) (fun w64 hH65 => (zt (seq ?_))))))))))))))))))))))
 refine region (oY hH65 (zW (cs := [(.int .i64 p), (.int .i64 q), (.int .i64 r), (.int .i64 s)]) T.ZL Z Z (fun _ hw => Heap.yH hw (n := 0) Z (k := 0) Z)) (oY hH65 (zW (cs := [(.int .i64 (p + ((Pt.n1 a b m p q r s) * r))), (.int .i64 (q + ((Pt.n1 a b m p q r s) * s))), (.int .i64 (r + ((Pt.n2 a b m (p + ((Pt.n1 a b m p q r s) * r)) (q + ((Pt.n1 a b m p q r s) * s)) r s) * (p + ((Pt.n1 a b m p q r s) * r))))), (.int .i64 (s + ((Pt.n2 a b m (p + ((Pt.n1 a b m p q r s) * r)) (q + ((Pt.n1 a b m p q r s) * s)) r s) * (q + ((Pt.n1 a b m p q r s) * s)))))]) T.ZL Z Z (fun _ hw => Heap.yH hw (n := 1) Z (k := 0) Z)) (oY hH65 (kP (a := [p, q, r, s]) (b := [p + ((Pt.n1 a b m p q r s) * r), q + ((Pt.n1 a b m p q r s) * s), r + ((Pt.n2 a b m (p + ((Pt.n1 a b m p q r s) * r)) (q + ((Pt.n1 a b m p q r s) * s)) r s) * (p + ((Pt.n1 a b m p q r s) * r))), s + ((Pt.n2 a b m (p + ((Pt.n1 a b m p q r s) * r)) (q + ((Pt.n1 a b m p q r s) * s)) r s) * (q + ((Pt.n1 a b m p q r s) * s)))]) T.zAv Z Z Z Z) (zt ?_))))
 by_cases hc66 : [p, q, r, s] = [p + ((Pt.n1 a b m p q r s) * r), q + ((Pt.n1 a b m p q r s) * s), r + ((Pt.n2 a b m (p + ((Pt.n1 a b m p q r s) * r)) (q + ((Pt.n1 a b m p q r s) * s)) r s) * (p + ((Pt.n1 a b m p q r s) * r))), s + ((Pt.n2 a b m (p + ((Pt.n1 a b m p q r s) * r)) (q + ((Pt.n1 a b m p q r s) * s)) r s) * (q + ((Pt.n1 a b m p q r s) * s)))]
 ·have hst : Pt.st2 a b m (Pt.st1 a b m (p, q, r, s)) = (p + ((Pt.n1 a b m p q r s) * r), q + ((Pt.n1 a b m p q r s) * s), r + ((Pt.n2 a b m (p + ((Pt.n1 a b m p q r s) * r)) (q + ((Pt.n1 a b m p q r s) * s)) r s) * (p + ((Pt.n1 a b m p q r s) * r))), s + ((Pt.n2 a b m (p + ((Pt.n1 a b m p q r s) * r)) (q + ((Pt.n1 a b m p q r s) * s)) r s) * (q + ((Pt.n1 a b m p q r s) * s)))) := by rw [show Pt.st1 a b m (p, q, r, s) = _ from if_neg (show ¬ (p, q, r, s).2.2.2 = 0 from hsn)]; rfl
  have hsame : [p, q, r, s] = [p + ((Pt.n1 a b m p q r s) * r), q + ((Pt.n1 a b m p q r s) * s), r + ((Pt.n2 a b m (p + ((Pt.n1 a b m p q r s) * r)) (q + ((Pt.n1 a b m p q r s) * s)) r s) * (p + ((Pt.n1 a b m p q r s) * r))), s + ((Pt.n2 a b m (p + ((Pt.n1 a b m p q r s) * r)) (q + ((Pt.n1 a b m p q r s) * s)) r s) * (q + ((Pt.n1 a b m p q r s) * s)))] := of_decide_eq_true (decide_eq_true hc66)
  have hfin := (Pt.beside_2 hle hit (by rw [hst]; exact (Pt.q_of hsame).symm) (by omega) (by omega)).trans (Pt.q_of hsame)
  refine zO Z (dT hc66) (seq (zY (fun w' => Heap [bx b24 120 [(.int .i64 p), (.int .i64 q), (.int .i64 r), (.int .i64 s)], bx b17 120 [(.int .i64 (p + ((Pt.n1 a b m p q r s) * r))), (.int .i64 (q + ((Pt.n1 a b m p q r s) * s))), (.int .i64 (r + ((Pt.n2 a b m (p + ((Pt.n1 a b m p q r s) * r)) (q + ((Pt.n1 a b m p q r s) * s)) r s) * (p + ((Pt.n1 a b m p q r s) * r))))), (.int .i64 (s + ((Pt.n2 a b m (p + ((Pt.n1 a b m p q r s) * r)) (q + ((Pt.n1 a b m p q r s) * s)) r s) * (q + ((Pt.n1 a b m p q r s) * s)))))], base w] w') T.mixed (fun w67 hr68 => ?_)))
  have hH69 := hH65.redrawn hr68
  refine zK [0, 1, 2, 3, 4, 5, 6, 7, 8, 9] kz (hH69.sub (sK (sK (sC (sC sR))))) _ _ _ kz (zJ Z Z (yA T.y7 Z Z om) (zJ Z Z (zE T.yT Z (cw (n := 1) Z Z)) (zJ Z Z (yA T.y7 Z Z om) (zJ Z Z (zE T.yT Z (cw (n := 1) Z Z)) (zJ Z Z (yR (v := (.agg #[(.int .i64 (p + ((Pt.n1 a b m p q r s) * r))), (.int .i64 (q + ((Pt.n1 a b m p q r s) * s)))])) Z (fun w => by kernel_rfl)) (zJ Z Z (yA T.y7 Z Z om) (zJ Z Z (zE T.yT Z (cw (n := 1) Z Z)) (zJ Z Z (yA T.y7 Z Z om) (zJ Z Z (zE T.yT Z (cw (n := 1) Z Z)) (zJ Z Z (yR (v := (.agg #[(.int .i64 (r + ((Pt.n2 a b m (p + ((Pt.n1 a b m p q r s) * r)) (q + ((Pt.n1 a b m p q r s) * s)) r s) * (p + ((Pt.n1 a b m p q r s) * r))))), (.int .i64 (s + ((Pt.n2 a b m (p + ((Pt.n1 a b m p q r s) * r)) (q + ((Pt.n1 a b m p q r s) * s)) r s) * (q + ((Pt.n1 a b m p q r s) * s)))))])) Z (fun w => by kernel_rfl)) (zQ (z1 10 kz Z (zS (n := 3) (j := 0) Z Z hH69 Z T.x9 Z Z Z (by rfl) (fun w70 hH71 => (zC (⟨(hH71.sub (sK (sK (sC (sC sR))))), (z1 11 kz Z (zS (n := 2) (j := 0) Z Z hH71 Z T.x9 Z Z Z (by rfl) (fun w72 hH73 => (zC (⟨(hH73.sub (sK (sK (sC (sC sR))))), ?_⟩)))))⟩))))))))))))))))
  refine zX kz (zN (ret (yE (xY (yE (fin ((hH73.sub (sC (sC sR))).front (n := 2) Z) (fun w' hf => (xI Z (rvA (cs := [(.int .i64 (p + ((Pt.n1 a b m p q r s) * r))), (.int .i64 (q + ((Pt.n1 a b m p q r s) * s)))]) Z T.y4 Z (y3 (Heap.xV hf (n := 2) Z) (k := 0) Z)) (rvA (cs := [(.int .i64 (r + ((Pt.n2 a b m (p + ((Pt.n1 a b m p q r s) * r)) (q + ((Pt.n1 a b m p q r s) * s)) r s) * (p + ((Pt.n1 a b m p q r s) * r))))), (.int .i64 (s + ((Pt.n2 a b m (p + ((Pt.n1 a b m p q r s) * r)) (q + ((Pt.n1 a b m p q r s) * s)) r s) * (q + ((Pt.n1 a b m p q r s) * s)))))]) Z T.y4 Z (y3 (Heap.xV hf (n := 1) Z) (k := 0) Z)))) (fun w' hf => ?_)))))))
  rw [hfin]
 have hst : Pt.st2 a b m (Pt.st1 a b m (p, q, r, s)) = (p + ((Pt.n1 a b m p q r s) * r), q + ((Pt.n1 a b m p q r s) * s), r + ((Pt.n2 a b m (p + ((Pt.n1 a b m p q r s) * r)) (q + ((Pt.n1 a b m p q r s) * s)) r s) * (p + ((Pt.n1 a b m p q r s) * r))), s + ((Pt.n2 a b m (p + ((Pt.n1 a b m p q r s) * r)) (q + ((Pt.n1 a b m p q r s) * s)) r s) * (q + ((Pt.n1 a b m p q r s) * s)))) := by rw [show Pt.st1 a b m (p, q, r, s) = _ from if_neg (show ¬ (p, q, r, s).2.2.2 = 0 from hsn)]; rfl
 have hdiff : ¬ [p, q, r, s] = [p + ((Pt.n1 a b m p q r s) * r), q + ((Pt.n1 a b m p q r s) * s), r + ((Pt.n2 a b m (p + ((Pt.n1 a b m p q r s) * r)) (q + ((Pt.n1 a b m p q r s) * s)) r s) * (p + ((Pt.n1 a b m p q r s) * r))), s + ((Pt.n2 a b m (p + ((Pt.n1 a b m p q r s) * r)) (q + ((Pt.n1 a b m p q r s) * s)) r s) * (q + ((Pt.n1 a b m p q r s) * s)))] := of_decide_eq_false (decide_eq_false hc66)
 have hnx : Pt.it a b m (k + 1) = (p + ((Pt.n1 a b m p q r s) * r), q + ((Pt.n1 a b m p q r s) * s), r + ((Pt.n2 a b m (p + ((Pt.n1 a b m p q r s) * r)) (q + ((Pt.n1 a b m p q r s) * s)) r s) * (p + ((Pt.n1 a b m p q r s) * r))), s + ((Pt.n2 a b m (p + ((Pt.n1 a b m p q r s) * r)) (q + ((Pt.n1 a b m p q r s) * s)) r s) * (q + ((Pt.n1 a b m p q r s) * s)))) := by show Pt.st2 a b m (Pt.st1 a b m (Pt.it a b m k)) = _; rw [hit]; exact hst
 have hmore := Pt.st_more (x := (p, q, r, s)) hg hI (by rw [hst]; exact Pt.q_ne hdiff)
 rw [hst] at hmore
 simp only at hmore
 refine zL Z (dF hc66) (skip (yC ?_))
 have hH75 := (hH65.sub (sC sR))
 refine y0 (k + 1, p + ((Pt.n1 a b m p q r s) * r), q + ((Pt.n1 a b m p q r s) * s), r + ((Pt.n2 a b m (p + ((Pt.n1 a b m p q r s) * r)) (q + ((Pt.n1 a b m p q r s) * s)) r s) * (p + ((Pt.n1 a b m p q r s) * r))), s + ((Pt.n2 a b m (p + ((Pt.n1 a b m p q r s) * r)) (q + ((Pt.n1 a b m p q r s) * s)) r s) * (q + ((Pt.n1 a b m p q r s) * s)))) (uC Z (uC Z (uC Z (uC Z (uC Z (Sub.nil _)))))) ?_ ?_
 ·exact ⟨hH75, hnx, om⟩
 ·(simp only; omega)
end Go.Fip
namespace Go.Fip
open Go.Proofs Go.RowKit
theorem zEh {a : Int} {w : World}  :
  Fn Tryz.prog 199 [(.int .i64 a)].toArray w (fun u _ => u = .bool false) := by
 refine fz Tryz.func199 Z kz Z Z (fun hH => (zr (oA hH Z (zs (oM hH Z (oM hH Z (oY hH (yF Z Z) (oA hH Z (zt (ret (fin hH (fun w' hf => (yN Z (rt Z))) (fun w' hf => ?_))))))))))))
 first | rfl | (show Value.bool _ = _; congr 1; simp)
theorem zFd {a b : Int} {w : World}  :
  Fn Tryz.prog 183 [(.int .i64 a), (.int .i64 b)].toArray w (fun u _ => u = .bool (decide (a < b))) := by
 refine fz Tryz.func183 Z kz Z Z (fun hH => (zr (oA hH Z (zs (oM hH Z (zM Z Z Z hH (zEh) (fun w1 hH2 => (oM hH2 Z (zD Z Z Z Z (zD Z Z Z Z (zD Z Z Z Z (oY hH2 (zT Z Z Z) (oM hH2 Z (zB Z Z Z (oM hH2 Z (zB Z Z Z (oM hH2 Z (zB Z Z Z (oY hH2 (yL Z Z) ?_)))))))))))))))))))
 refine oY hH2 (zT Z Z Z) (oA hH2 Z (zt (ret (fin hH2 (fun w' hf => (yN Z (rt Z))) (fun w' hf => Z)))))
theorem zEi {v : Value} {l : List Int} {g : Nat} {n : Int} {w : World} (h0 : Own 2 1 encI v l w) (hg : v.ownBlock = some g) (hn : l.length ≤ 1000000) (hnl : n = (l.length : Int)) :
  FnM Tryz.prog 177 [v, (.int .i64 0), (.int .i64 n)].toArray w g (fun u w => u = .tuple #[] ∧ Own 2 1 encI v (Ps.sorted (fun x y : Int => decide (x < y)) l) w) := by
 refine uQ (args := [v, (.int .i64 0), (.int .i64 n)]) Tryz.func177 Z (ent Tryz.func177 kz Z) Z Z (qF h0 hg) (fun hH => ?_)
 have hsl : ∀ k, (Ps.srt (fun x y : Int => decide (x < y)) l k).length = l.length := fun k => Ps.srt_len k
 refine zr (oM hH Z (oY hH (zV Z Z om) (oA hH Z (zt (block (loop (S := Nat × List Int) (fun (k, L) => [(6, (.int .i64 ((k + 1 : Nat) : Int))), (0, v), (1, (.int .i64 0)), (2, (.int .i64 n))]) (fun (k, L) w1 => Heap [ow g (g + 1) 2 1 encI v L, restL w g, restR w g] w1 ∧ L = Ps.srt (fun x y : Int => decide (x < y)) l k ∧ (k : Int) + 1 ≤ max n 1) (fun (k, L) => l.length - k) (0, l) (uC Z (uC Z (uC Z (uC Z (Sub.nil _))))) ?_ ?_))))))
 ·exact ⟨hH, Z, om⟩
 rintro ⟨k, L⟩ w1 ⟨hH2, hL, hk⟩
 have hLl : L.length = l.length := by rw [hL]; exact hsl k
 refine seq (zr (oM hH2 Z (oM hH2 Z (oY hH2 (yL Z Z) (zt ?_)))))
 by_cases hc3 : ((k + 1 : Nat) : Int) < n
 ·refine zO Z (dT hc3) (skip (zN (seq (block (zr (oM hH2 Z (oA hH2 Z (zt (block (loop (S := Nat × List Int) (fun (j, M) => [(7, (.int .i64 (j : Int))), (0, v), (1, (.int .i64 0)), (2, (.int .i64 n)), (6, (.int .i64 ((k + 1 : Nat) : Int)))]) (fun (j, M) w1 => Heap [ow g (g + 1) 2 1 encI v M, restL w g, restR w g] w1 ∧ Ps.down (fun x y : Int => decide (x < y)) j M = Ps.down (fun x y : Int => decide (x < y)) (k + 1) (Ps.srt (fun x y : Int => decide (x < y)) l k) ∧ M.length = l.length ∧ j ≤ k + 1) (fun (j, M) => j) ((k + 1), L) (uC Z (uC Z (uC Z (uC Z (uC Z (Sub.nil _)))))) ?_ ?_))))))))))
  ·exact ⟨hH2, by rw [hL], hLl, Nat.le_refl _⟩
  rintro ⟨j, M⟩ w4 ⟨hH5, hD, hMl, hjk⟩
  refine seq (seq (zY (fun w' => Heap [ow g (g + 1) 2 1 encI v M, restL w g, restR w g] w') T.mixed (fun w6 hr7 => ?_)))
  have hH8 := hH5.redrawn hr7
  refine zK [0, 1, 2, 3] kz hH8 _ _ _ kz (qM Z Z Z (qM Z Z Z (zJ Z Z (xJ Z Z) (qM Z Z Z (zQ ?_)))))
  by_cases hc9 : 0 < (j : Int)
  ·have hj : 0 < j := by omega
   refine zK [4, 5, 6, 7, 8, 9, 10, 11, 12] kz hH8 _ _ _ kz (zZ Z Z Z (dT hc9) Z (yX Z) (zZ Z Z Z (dT hc9) Z (yX Z) (zZ Z Z Z (dT hc9) Z (zP T.xR Z Z (Heap.yI T.zR hH8 (n := 0) Z).is om) (zZ Z Z Z (dT hc9) Z (zE T.yT Z (fun _ hw => Rd.at (Heap.yI T.zR hw (n := 0) Z) (i := (j : Int)) om (j := 0) Z)) (zZ Z Z Z (dT hc9) Z (yX Z) (zZ Z Z Z (dT hc9) Z (yX Z) (zZ Z Z Z (dT hc9) Z (y8 Z Z om) (zZ Z Z Z (dT hc9) Z (zP T.xR Z Z (Heap.yI T.zR hH8 (n := 0) Z).is om) (zZ Z Z Z (dT hc9) Z (zE T.yT Z (fun _ hw => Rd.at (Heap.yI T.zR hw (n := 0) Z) (i := (j : Int) - 1) om (j := 0) Z)) (zQ (z1 13 kz Z (zB Z Z (dT hc9) (zM Z Z Z hH8 (zFd) (fun w10 hH11 => (zC (⟨hH11, (zK [14] kz hH11 _ _ _ kz (zJ Z Z (zU Z (dT hc9) Z) (zQ (zX kz (zN ?_)))))⟩))))))))))))))))
   by_cases hc12 : nth M (j : Int) < nth M ((j : Int) - 1)
   ·have hlt : (fun x y : Int => decide (x < y)) (nth M (j : Int)) (nth M ((j : Int) - 1)) = true := by simpa using (decide_eq_true hc12)
    refine zO Z (dT hc12) (skip (zN (seq (block ?_))))
    have hsm : (M.set ((j : Int)).toNat (nth M ((j : Int) - 1))).length = M.length := List.length_set
    refine vD (fun w' => Heap [ow g (g + 1) 2 1 encI v M, restL w g, restR w g] w') [15, 17] T.mixed (fun w13 hr14 => ?_)
    have hH15 := hH11.redrawn hr14
    refine y2 [0, 1, 2, 3, 4, 5, 6, 7, 8, 10, 11, 12] kz  _ _ _ kz (qM Z Z Z (qM Z Z Z (qM Z Z Z (qM Z Z Z (zJ Z Z (y8 Z Z om) (qM Z Z Z (qM Z Z Z (zJ Z Z (y8 Z Z om) (zJ Z Z (zP T.xR Z Z (Heap.yI T.zR hH15 (n := 0) Z).is om) (qM Z Z Z (qM Z Z Z (zJ Z Z (zP T.xR Z Z (Heap.yI T.zR hH15 (n := 0) Z).is om) (zQ (xQ [9, 13] kz hH15 _ _ _ kz (zJ Z Z (zE T.yT Z (fun _ hw => Rd.at (Heap.yI T.zR hw (n := 0) Z) (i := (j : Int) - 1) om (j := 0) Z)) (zJ Z Z (zE T.yT Z (fun _ hw => Rd.at (Heap.yI T.zR hw (n := 0) Z) (i := (j : Int)) om (j := 0) Z)) (zQ (y2 [14] kz  _ _ _ kz (zJ Z Z (zP T.xR Z Z (Heap.yI T.zR hH15 (n := 0) Z).is om) (zQ (xE [15] kz Z ?_)))))))))))))))))))))
    refine ⟨⟨_, Z, (x4 (n := 0) (i := (j : Int)) (k := 0) (us := [(.int .i64 (nth M ((j : Int) - 1)))]) (z := nth M ((j : Int) - 1)) T.zR Z Z hH15 Z om T.sz2 Z Z Z (Nat.le_of_ble_eq_true Z) (fun w16 hH17 => (zC (⟨(fun h => by cases h), (y2 [16] kz  _ _ _ kz (zJ Z Z (zP T.xR Z Z (Heap.yI T.zR hH17 (n := 0) Z).is om) (zQ (xE [17] kz Z (⟨⟨_, Z, (x4 (n := 0) (i := (j : Int) - 1) (k := 0) (us := [(.int .i64 (nth M (j : Int)))]) (z := nth M (j : Int)) T.zR Z Z hH17 Z om T.sz2 Z Z Z (Nat.le_of_ble_eq_true Z) (fun w18 hH19 => (zC (⟨(fun h => by cases h), (vY kz (yC (zN (region (oM hH19 Z (oY hH19 (y8 Z Z om) (oA hH19 Z (zC (y0 (j - 1, ((M.set (j : Int).toNat (nth M ((j : Int) - 1))).set ((j : Int) - 1).toNat (nth M (j : Int)))) (Sub.cons (congrArg (fun z => some (Value.int .i64 z)) om) (uC Z (uC Z (uC Z (uC Z (Sub.nil _)))))) (⟨hH19, by show Ps.down _ (j - 1) ((M.set ((j : Int)).toNat (nth M ((j : Int) - 1))).set ((j : Int) - 1).toNat (nth M (j : Int))) = _; rw [Ps.set_swp hj, ← hD]; exact Ps.down_t hj hlt, by simp only [List.length_set]; exact hMl, om⟩) om3)))))))))⟩))))⟩, trivial⟩)))))⟩))))⟩, trivial⟩
   have hM : M = Ps.srt (fun x y : Int => decide (x < y)) l (k + 1) := by show M = Ps.down (fun x y : Int => decide (x < y)) (k + 1) (Ps.srt (fun x y : Int => decide (x < y)) l k); rw [← hD]; exact (Ps.down_f (fun h => by simpa using (decide_eq_false hc12))).symm
   refine zL Z (dF hc12) (exit (yZ (xF (z7 (yC (zN ?_))))))
   have hnx := hM
   refine region (oM hH11 Z (oY hH11 (zV Z Z om) (oA hH11 Z (zC (y0 (k + 1, M) (Sub.cons (congrArg (fun z => some (Value.int .i64 z)) om) (uC Z (uC Z (uC Z (Sub.nil _))))) (⟨hH11, hnx, om⟩) om3)))))
  have hM : M = Ps.srt (fun x y : Int => decide (x < y)) l (k + 1) := by show M = Ps.down (fun x y : Int => decide (x < y)) (k + 1) (Ps.srt (fun x y : Int => decide (x < y)) l k); rw [← hD]; exact (Ps.down_f (fun h => by omega)).symm
  refine zK [4, 5, 6, 7, 8, 9, 10, 11, 12, 13, 14] kz hH8 _ _ _ kz (yO Z Z Z (dF hc9) Z (yO Z Z Z (dF hc9) Z (yO Z Z Z (dF hc9) Z (yO Z Z Z (dF hc9) Z (yO Z Z Z (dF hc9) Z (yO Z Z Z (dF hc9) Z (yO Z Z Z (dF hc9) Z (yO Z Z Z (dF hc9) Z (yO Z Z Z (dF hc9) Z (yO Z Z Z (dF hc9) Z (zJ Z Z (zT Z (dF hc9) Z) (zQ (zX kz (zN (zL Z Z (exit (yZ (xF (z7 (yC (zN ?_)))))))))))))))))))))
  have hnx := hM
  refine region (oM hH8 Z (oY hH8 (zV Z Z om) (oA hH8 Z (zC (y0 (k + 1, M) (Sub.cons (congrArg (fun z => some (Value.int .i64 z)) om) (uC Z (uC Z (uC Z (Sub.nil _))))) (⟨hH8, hnx, om⟩) om3)))))
 refine zL Z (dF hc3) (exit (yZ (xF (z7 (jT hH2 (kF Z ) (fun w' hf => ?_))))))
 refine ⟨Z, ?_⟩; have hk2 : l.length - 1 = k := om; unfold Ps.sorted; rw [hk2, ← hL]; exact hf.1
theorem zEp {a : Int} {w : World}  :
  Fn Tryz.prog 193 [(.int .i64 a)].toArray w (fun u _ => u = .bool false) := by
 refine fz Tryz.func193 Z kz Z Z (fun hH => (zr (oA hH Z (zs (oM hH Z (oM hH Z (oY hH (yF Z Z) (oA hH Z (zt (ret (fin hH (fun w' hf => (yN Z (rt Z))) (fun w' hf => ?_))))))))))))
 first | rfl | (show Value.bool _ = _; congr 1; simp)
theorem zE1 {a b : Int} {w : World}  :
  Fn Tryz.prog 171 [(.int .i64 a), (.int .i64 b)].toArray w (fun u _ => u = .bool (decide (a < b))) := by
 refine fz Tryz.func171 Z kz Z Z (fun hH => (zr (oA hH Z (zs (oM hH Z (zM Z Z Z hH (zEp) (fun w1 hH2 => (oM hH2 Z (zD Z Z Z Z (zD Z Z Z Z (zD Z Z Z Z (oY hH2 (zT Z Z Z) (oM hH2 Z (zB Z Z Z (oM hH2 Z (zB Z Z Z (oM hH2 Z (zB Z Z Z (oY hH2 (yL Z Z) ?_)))))))))))))))))))
 refine oY hH2 (zT Z Z Z) (oA hH2 Z (zt (ret (fin hH2 (fun w' hf => (yN Z (rt Z))) (fun w' hf => Z)))))
theorem zE0 {v : Value} {l : List Int} {g : Nat} {n : Int} {w : World} (h0 : Own 3 1 encI v l w) (hg : v.ownBlock = some g) (hn : l.length ≤ 1000000) (hnl : n = (l.length : Int)) :
  FnM Tryz.prog 165 [v, (.int .i64 0), (.int .i64 n)].toArray w g (fun u w => u = .tuple #[] ∧ Own 3 1 encI v (Ps.sorted (fun x y : Int => decide (x < y)) l) w) := by
 refine uQ (args := [v, (.int .i64 0), (.int .i64 n)]) Tryz.func165 Z (ent Tryz.func165 kz Z) Z Z (qF h0 hg) (fun hH => ?_)
 have hsl : ∀ k, (Ps.srt (fun x y : Int => decide (x < y)) l k).length = l.length := fun k => Ps.srt_len k
 refine zr (oM hH Z (oY hH (zV Z Z om) (oA hH Z (zt (block (loop (S := Nat × List Int) (fun (k, L) => [(6, (.int .i64 ((k + 1 : Nat) : Int))), (0, v), (1, (.int .i64 0)), (2, (.int .i64 n))]) (fun (k, L) w1 => Heap [ow g (g + 1) 3 1 encI v L, restL w g, restR w g] w1 ∧ L = Ps.srt (fun x y : Int => decide (x < y)) l k ∧ (k : Int) + 1 ≤ max n 1) (fun (k, L) => l.length - k) (0, l) (uC Z (uC Z (uC Z (uC Z (Sub.nil _))))) ?_ ?_))))))
 ·exact ⟨hH, Z, om⟩
 rintro ⟨k, L⟩ w1 ⟨hH2, hL, hk⟩
 have hLl : L.length = l.length := by rw [hL]; exact hsl k
 refine seq (zr (oM hH2 Z (oM hH2 Z (oY hH2 (yL Z Z) (zt ?_)))))
 by_cases hc3 : ((k + 1 : Nat) : Int) < n
 ·refine zO Z (dT hc3) (skip (zN (seq (block (zr (oM hH2 Z (oA hH2 Z (zt (block (loop (S := Nat × List Int) (fun (j, M) => [(7, (.int .i64 (j : Int))), (0, v), (1, (.int .i64 0)), (2, (.int .i64 n)), (6, (.int .i64 ((k + 1 : Nat) : Int)))]) (fun (j, M) w1 => Heap [ow g (g + 1) 3 1 encI v M, restL w g, restR w g] w1 ∧ Ps.down (fun x y : Int => decide (x < y)) j M = Ps.down (fun x y : Int => decide (x < y)) (k + 1) (Ps.srt (fun x y : Int => decide (x < y)) l k) ∧ M.length = l.length ∧ j ≤ k + 1) (fun (j, M) => j) ((k + 1), L) (uC Z (uC Z (uC Z (uC Z (uC Z (Sub.nil _)))))) ?_ ?_))))))))))
  ·exact ⟨hH2, by rw [hL], hLl, Nat.le_refl _⟩
  rintro ⟨j, M⟩ w4 ⟨hH5, hD, hMl, hjk⟩
  refine seq (seq (zY (fun w' => Heap [ow g (g + 1) 3 1 encI v M, restL w g, restR w g] w') T.mixed (fun w6 hr7 => ?_)))
  have hH8 := hH5.redrawn hr7
  refine zK [0, 1, 2, 3] kz hH8 _ _ _ kz (qM Z Z Z (qM Z Z Z (zJ Z Z (xJ Z Z) (qM Z Z Z (zQ ?_)))))
  by_cases hc9 : 0 < (j : Int)
  ·have hj : 0 < j := by omega
   refine zK [4, 5, 6, 7, 8, 9, 10, 11, 12] kz hH8 _ _ _ kz (zZ Z Z Z (dT hc9) Z (yX Z) (zZ Z Z Z (dT hc9) Z (yX Z) (zZ Z Z Z (dT hc9) Z (zP T.yS Z Z (Heap.yI T.zA hH8 (n := 0) Z).is om) (zZ Z Z Z (dT hc9) Z (zE T.yU Z (fun _ hw => Rd.at (Heap.yI T.zA hw (n := 0) Z) (i := (j : Int)) om (j := 0) Z)) (zZ Z Z Z (dT hc9) Z (yX Z) (zZ Z Z Z (dT hc9) Z (yX Z) (zZ Z Z Z (dT hc9) Z (y8 Z Z om) (zZ Z Z Z (dT hc9) Z (zP T.yS Z Z (Heap.yI T.zA hH8 (n := 0) Z).is om) (zZ Z Z Z (dT hc9) Z (zE T.yU Z (fun _ hw => Rd.at (Heap.yI T.zA hw (n := 0) Z) (i := (j : Int) - 1) om (j := 0) Z)) (zQ (z1 13 kz Z (zB Z Z (dT hc9) (zM Z Z Z hH8 (zE1) (fun w10 hH11 => (zC (⟨hH11, (zK [14] kz hH11 _ _ _ kz (zJ Z Z (zU Z (dT hc9) Z) (zQ (zX kz (zN ?_)))))⟩))))))))))))))))
   by_cases hc12 : nth M (j : Int) < nth M ((j : Int) - 1)
   ·have hlt : (fun x y : Int => decide (x < y)) (nth M (j : Int)) (nth M ((j : Int) - 1)) = true := by simpa using (decide_eq_true hc12)
    refine zO Z (dT hc12) (skip (zN (seq (block ?_))))
    have hsm : (M.set ((j : Int)).toNat (nth M ((j : Int) - 1))).length = M.length := List.length_set
    refine vD (fun w' => Heap [ow g (g + 1) 3 1 encI v M, restL w g, restR w g] w') [15, 17] T.mixed (fun w13 hr14 => ?_)
    have hH15 := hH11.redrawn hr14
    refine y2 [0, 1, 2, 3, 4, 5, 6, 7, 8, 10, 11, 12] kz  _ _ _ kz (qM Z Z Z (qM Z Z Z (qM Z Z Z (qM Z Z Z (zJ Z Z (y8 Z Z om) (qM Z Z Z (qM Z Z Z (zJ Z Z (y8 Z Z om) (zJ Z Z (zP T.yS Z Z (Heap.yI T.zA hH15 (n := 0) Z).is om) (qM Z Z Z (qM Z Z Z (zJ Z Z (zP T.yS Z Z (Heap.yI T.zA hH15 (n := 0) Z).is om) (zQ (xQ [9, 13] kz hH15 _ _ _ kz (zJ Z Z (zE T.yU Z (fun _ hw => Rd.at (Heap.yI T.zA hw (n := 0) Z) (i := (j : Int) - 1) om (j := 0) Z)) (zJ Z Z (zE T.yU Z (fun _ hw => Rd.at (Heap.yI T.zA hw (n := 0) Z) (i := (j : Int)) om (j := 0) Z)) (zQ (y2 [14] kz  _ _ _ kz (zJ Z Z (zP T.yS Z Z (Heap.yI T.zA hH15 (n := 0) Z).is om) (zQ (xE [15] kz Z ?_)))))))))))))))))))))
    refine ⟨⟨_, Z, (x4 (n := 0) (i := (j : Int)) (k := 0) (us := [(.int .i64 (nth M ((j : Int) - 1)))]) (z := nth M ((j : Int) - 1)) T.zA Z Z hH15 Z om T.sz3 Z Z Z (Nat.le_of_ble_eq_true Z) (fun w16 hH17 => (zC (⟨(fun h => by cases h), (y2 [16] kz  _ _ _ kz (zJ Z Z (zP T.yS Z Z (Heap.yI T.zA hH17 (n := 0) Z).is om) (zQ (xE [17] kz Z (⟨⟨_, Z, (x4 (n := 0) (i := (j : Int) - 1) (k := 0) (us := [(.int .i64 (nth M (j : Int)))]) (z := nth M (j : Int)) T.zA Z Z hH17 Z om T.sz3 Z Z Z (Nat.le_of_ble_eq_true Z) (fun w18 hH19 => (zC (⟨(fun h => by cases h), (vY kz (yC (zN (region (oM hH19 Z (oY hH19 (y8 Z Z om) (oA hH19 Z (zC (y0 (j - 1, ((M.set (j : Int).toNat (nth M ((j : Int) - 1))).set ((j : Int) - 1).toNat (nth M (j : Int)))) (Sub.cons (congrArg (fun z => some (Value.int .i64 z)) om) (uC Z (uC Z (uC Z (uC Z (Sub.nil _)))))) (⟨hH19, by show Ps.down _ (j - 1) ((M.set ((j : Int)).toNat (nth M ((j : Int) - 1))).set ((j : Int) - 1).toNat (nth M (j : Int))) = _; rw [Ps.set_swp hj, ← hD]; exact Ps.down_t hj hlt, by simp only [List.length_set]; exact hMl, om⟩) om3)))))))))⟩))))⟩, trivial⟩)))))⟩))))⟩, trivial⟩
   have hM : M = Ps.srt (fun x y : Int => decide (x < y)) l (k + 1) := by show M = Ps.down (fun x y : Int => decide (x < y)) (k + 1) (Ps.srt (fun x y : Int => decide (x < y)) l k); rw [← hD]; exact (Ps.down_f (fun h => by simpa using (decide_eq_false hc12))).symm
   refine zL Z (dF hc12) (exit (yZ (xF (z7 (yC (zN ?_))))))
   have hnx := hM
   refine region (oM hH11 Z (oY hH11 (zV Z Z om) (oA hH11 Z (zC (y0 (k + 1, M) (Sub.cons (congrArg (fun z => some (Value.int .i64 z)) om) (uC Z (uC Z (uC Z (Sub.nil _))))) (⟨hH11, hnx, om⟩) om3)))))
  have hM : M = Ps.srt (fun x y : Int => decide (x < y)) l (k + 1) := by show M = Ps.down (fun x y : Int => decide (x < y)) (k + 1) (Ps.srt (fun x y : Int => decide (x < y)) l k); rw [← hD]; exact (Ps.down_f (fun h => by omega)).symm
  refine zK [4, 5, 6, 7, 8, 9, 10, 11, 12, 13, 14] kz hH8 _ _ _ kz (yO Z Z Z (dF hc9) Z (yO Z Z Z (dF hc9) Z (yO Z Z Z (dF hc9) Z (yO Z Z Z (dF hc9) Z (yO Z Z Z (dF hc9) Z (yO Z Z Z (dF hc9) Z (yO Z Z Z (dF hc9) Z (yO Z Z Z (dF hc9) Z (yO Z Z Z (dF hc9) Z (yO Z Z Z (dF hc9) Z (zJ Z Z (zT Z (dF hc9) Z) (zQ (zX kz (zN (zL Z Z (exit (yZ (xF (z7 (yC (zN ?_)))))))))))))))))))))
  have hnx := hM
  refine region (oM hH8 Z (oY hH8 (zV Z Z om) (oA hH8 Z (zC (y0 (k + 1, M) (Sub.cons (congrArg (fun z => some (Value.int .i64 z)) om) (uC Z (uC Z (uC Z (Sub.nil _))))) (⟨hH8, hnx, om⟩) om3)))))
 refine zL Z (dF hc3) (exit (yZ (xF (z7 (jT hH2 (kF Z ) (fun w' hf => ?_))))))
 refine ⟨Z, ?_⟩; have hk2 : l.length - 1 = k := om; unfold Ps.sorted; rw [hk2, ← hL]; exact hf.1
theorem zEo {a b c d : Int} {w : World} (hb : 0 ≤ b ∧ b ≤ 1073741824) (hd : 0 ≤ d ∧ d ≤ 1073741824)  :
  Fn Tryz.prog 151 [(.agg #[(.int .i64 a), (.int .i64 b)]), (.agg #[(.int .i64 c), (.int .i64 d)])].toArray w (fun u _ => u = .int .i64 (b - d)) := by
 refine fz Tryz.func151 Z kz Z Z (fun hH => (zr (yY Z Z Z hH (fun b1 w2 hH3 => (yY Z Z Z hH3 (fun b4 w5 hH6 => (oA hH6 Z (zs (oY hH6 (zI T.vR Z) (oY hH6 (zE T.yT Z (cw (n := 1) Z Z)) (oY hH6 (zI T.vR Z) (oY hH6 (zE T.yT Z (cw (n := 0) Z Z)) (oY hH6 (y8 Z Z om) (oA hH6 Z (zt (ret (fin (hH6.sub (sC (sC sR))) (fun w' hf => (yN Z (rt Z))) (fun w' hf => Z))))))))))))))))))
theorem zFj {v : Value} {l : List Pt.Pr} {g : Nat} {n : Int} {w : World} (h0 : Own 27 2 encP v l w) (hg : v.ownBlock = some g) (hn : l.length ≤ 1000000) (hnl : n = (l.length : Int)) (hq : Ps.All (fun z : Pt.Pr => 0 ≤ z.2 ∧ z.2 ≤ 1073741824) l) :
  FnM Tryz.prog 194 [v, (.int .i64 0), (.int .i64 n), (.func (.func 151) #[] #[])].toArray w g (fun u w => u = .tuple #[] ∧ Own 27 2 encP v (Ps.sorted (fun x y : Pt.Pr => decide (x.2 - y.2 < 0)) l) w) := by
 refine uQ (args := [v, (.int .i64 0), (.int .i64 n), (.func (.func 151) #[] #[])]) Tryz.func194 Z (ent Tryz.func194 kz Z) Z Z (qF h0 hg) (fun hH => ?_)
 have hsl : ∀ k, (Ps.srt (fun x y : Pt.Pr => decide (x.2 - y.2 < 0)) l k).length = l.length := fun k => Ps.srt_len k
 refine zr (oM hH Z (oY hH (zV Z Z om) (oA hH Z (zt (block (loop (S := Nat × List Pt.Pr) (fun (k, L) => [(8, (.int .i64 ((k + 1 : Nat) : Int))), (0, v), (1, (.int .i64 0)), (2, (.int .i64 n)), (3, (.func (.func 151) #[] #[]))]) (fun (k, L) w1 => Heap [ow g (g + 1) 27 2 encP v L, restL w g, restR w g] w1 ∧ L = Ps.srt (fun x y : Pt.Pr => decide (x.2 - y.2 < 0)) l k ∧ (k : Int) + 1 ≤ max n 1) (fun (k, L) => l.length - k) (0, l) (uC Z (uC Z (uC Z (uC Z (uC Z (Sub.nil _)))))) ?_ ?_))))))
 ·exact ⟨hH, Z, om⟩
 rintro ⟨k, L⟩ w1 ⟨hH2, hL, hk⟩
 have hLl : L.length = l.length := by rw [hL]; exact hsl k
 refine seq (zr (oM hH2 Z (oM hH2 Z (oY hH2 (yL Z Z) (zt ?_)))))
 by_cases hc3 : ((k + 1 : Nat) : Int) < n
 ·refine zO Z (dT hc3) (skip (zN (seq (block (zr (oM hH2 Z (oA hH2 Z (zt (block (loop (S := Nat × List Pt.Pr) (fun (j, M) => [(9, (.int .i64 (j : Int))), (0, v), (1, (.int .i64 0)), (2, (.int .i64 n)), (3, (.func (.func 151) #[] #[])), (8, (.int .i64 ((k + 1 : Nat) : Int)))]) (fun (j, M) w1 => Heap [ow g (g + 1) 27 2 encP v M, restL w g, restR w g] w1 ∧ Ps.down (fun x y : Pt.Pr => decide (x.2 - y.2 < 0)) j M = Ps.down (fun x y : Pt.Pr => decide (x.2 - y.2 < 0)) (k + 1) (Ps.srt (fun x y : Pt.Pr => decide (x.2 - y.2 < 0)) l k) ∧ M.length = l.length ∧ j ≤ k + 1 ∧ Ps.All (fun z : Pt.Pr => 0 ≤ z.2 ∧ z.2 ≤ 1073741824) M) (fun (j, M) => j) ((k + 1), L) (uC Z (uC Z (uC Z (uC Z (uC Z (uC Z (Sub.nil _))))))) ?_ ?_))))))))))
  ·exact ⟨hH2, by rw [hL], hLl, Nat.le_refl _, by rw [hL]; exact hq.srt k om⟩
  rintro ⟨j, M⟩ w4 ⟨hH5, hD, hMl, hjk, hqM⟩
  refine seq (seq (zY (fun w' => Heap [ow g (g + 1) 27 2 encP v M, restL w g, restR w g] w') T.mixed (fun w6 hr7 => ?_)))
  have hH8 := hH5.redrawn hr7
  refine zK [0, 1, 2, 3] kz hH8 _ _ _ kz (qM Z Z Z (qM Z Z Z (zJ Z Z (xJ Z Z) (qM Z Z Z (zQ ?_)))))
  by_cases hc9 : 0 < (j : Int)
  ·have hj : 0 < j := by omega
   have hq1 := hqM.nth (j := (j : Int)) (by omega) (by omega)
   have hq2 := hqM.nth (j := (j : Int) - 1) (by omega) (by omega)
   refine zK [4, 5, 6, 7, 8, 9, 10, 11, 12, 13] kz hH8 _ _ _ kz (zZ Z Z Z (dT hc9) Z (yX Z) (zZ Z Z Z (dT hc9) Z (yX Z) (zZ Z Z Z (dT hc9) Z (yX Z) (zZ Z Z Z (dT hc9) Z (zP T.jO Z Z (Heap.yI T.xG hH8 (n := 0) Z).is om) (zZ Z Z Z (dT hc9) Z (zW (cs := [(.int .i64 ((nth M (j : Int)).1)), (.int .i64 ((nth M (j : Int)).2))]) T.y4 Z Z (fun _ hw => Rd.KB (Heap.yI T.xG hw (n := 0) Z) (i := (j : Int)) om)) (zZ Z Z Z (dT hc9) Z (yX Z) (zZ Z Z Z (dT hc9) Z (yX Z) (zZ Z Z Z (dT hc9) Z (y8 Z Z om) (zZ Z Z Z (dT hc9) Z (zP T.jO Z Z (Heap.yI T.xG hH8 (n := 0) Z).is om) (zZ Z Z Z (dT hc9) Z (zW (cs := [(.int .i64 ((nth M ((j : Int) - 1)).1)), (.int .i64 ((nth M ((j : Int) - 1)).2))]) T.y4 Z Z (fun _ hw => Rd.KB (Heap.yI T.xG hw (n := 0) Z) (i := (j : Int) - 1) om)) (zQ (z1 14 kz Z (zB Z Z (dT hc9) (zM Z Z Z hH8 ((zEo om om)) (fun w10 hH11 => (zC (⟨hH11, (zK [15, 16] kz hH11 _ _ _ kz (zZ Z Z Z (dT hc9) Z (yL Z Z) (zJ Z Z (zU Z (dT hc9) Z) (zQ ?_))))⟩)))))))))))))))))
   refine zX kz (zN ?_)
   by_cases hc12 : ((nth M (j : Int)).2 - (nth M ((j : Int) - 1)).2) < 0
   ·have hlt : (fun x y : Pt.Pr => decide (x.2 - y.2 < 0)) (nth M (j : Int)) (nth M ((j : Int) - 1)) = true := by simpa using (decide_eq_true hc12)
    refine zO Z (dT hc12) (skip (zN (seq (block ?_))))
    have hsm : (M.set ((j : Int)).toNat ((nth M ((j : Int) - 1)).1, (nth M ((j : Int) - 1)).2)).length = M.length := List.length_set
    refine vD (fun w' => Heap [ow g (g + 1) 27 2 encP v M, restL w g, restR w g] w') [15, 17] T.mixed (fun w13 hr14 => ?_)
    have hH15 := hH11.redrawn hr14
    refine y2 [0, 1, 2, 3, 4, 5, 6, 7, 8, 10, 11, 12] kz  _ _ _ kz (qM Z Z Z (qM Z Z Z (qM Z Z Z (qM Z Z Z (zJ Z Z (y8 Z Z om) (qM Z Z Z (qM Z Z Z (zJ Z Z (y8 Z Z om) (zJ Z Z (zP T.jO Z Z (Heap.yI T.xG hH15 (n := 0) Z).is om) (qM Z Z Z (qM Z Z Z (zJ Z Z (zP T.jO Z Z (Heap.yI T.xG hH15 (n := 0) Z).is om) (zQ (xQ [9, 13] kz hH15 _ _ _ kz (zJ Z Z (zW (cs := [(.int .i64 ((nth M ((j : Int) - 1)).1)), (.int .i64 ((nth M ((j : Int) - 1)).2))]) T.y4 Z Z (fun _ hw => Rd.KB (Heap.yI T.xG hw (n := 0) Z) (i := (j : Int) - 1) om)) (zJ Z Z (zW (cs := [(.int .i64 ((nth M (j : Int)).1)), (.int .i64 ((nth M (j : Int)).2))]) T.y4 Z Z (fun _ hw => Rd.KB (Heap.yI T.xG hw (n := 0) Z) (i := (j : Int)) om)) (zQ (y2 [14] kz  _ _ _ kz (zJ Z Z (zP T.jO Z Z (Heap.yI T.xG hH15 (n := 0) Z).is om) (zQ (xE [15] kz Z ?_)))))))))))))))))))))
    refine ⟨⟨_, Z, (x4 (n := 0) (i := (j : Int)) (k := 0) (us := [(.int .i64 ((nth M ((j : Int) - 1)).1)), (.int .i64 ((nth M ((j : Int) - 1)).2))]) (z := ((nth M ((j : Int) - 1)).1, (nth M ((j : Int) - 1)).2)) T.xG Z Z hH15 Z om T.x9 Z Z Z (Nat.le_of_ble_eq_true Z) (fun w16 hH17 => (zC (⟨(fun h => by cases h), (y2 [16] kz  _ _ _ kz (zJ Z Z (zP T.jO Z Z (Heap.yI T.xG hH17 (n := 0) Z).is om) (zQ (xE [17] kz Z (⟨⟨_, Z, (x4 (n := 0) (i := (j : Int) - 1) (k := 0) (us := [(.int .i64 ((nth M (j : Int)).1)), (.int .i64 ((nth M (j : Int)).2))]) (z := ((nth M (j : Int)).1, (nth M (j : Int)).2)) T.xG Z Z hH17 Z om T.x9 Z Z Z (Nat.le_of_ble_eq_true Z) (fun w18 hH19 => (zC (⟨(fun h => by cases h), (vY kz (yC (zN (region (oM hH19 Z (oY hH19 (y8 Z Z om) (oA hH19 Z (zC (y0 (j - 1, ((M.set (j : Int).toNat ((nth M ((j : Int) - 1)).1, (nth M ((j : Int) - 1)).2)).set ((j : Int) - 1).toNat ((nth M (j : Int)).1, (nth M (j : Int)).2))) (Sub.cons (congrArg (fun z => some (Value.int .i64 z)) om) (uC Z (uC Z (uC Z (uC Z (uC Z (Sub.nil _))))))) (⟨hH19, by show Ps.down _ (j - 1) ((M.set ((j : Int)).toNat (nth M ((j : Int) - 1))).set ((j : Int) - 1).toNat (nth M (j : Int))) = _; rw [Ps.set_swp hj, ← hD]; exact Ps.down_t hj hlt, by simp only [List.length_set]; exact hMl, om, by show Ps.All _ ((M.set ((j : Int)).toNat (nth M ((j : Int) - 1))).set ((j : Int) - 1).toNat (nth M (j : Int))); rw [Ps.set_swp hj]; exact hqM.swp hj om⟩) om3)))))))))⟩))))⟩, trivial⟩)))))⟩))))⟩, trivial⟩
   have hM : M = Ps.srt (fun x y : Pt.Pr => decide (x.2 - y.2 < 0)) l (k + 1) := by show M = Ps.down (fun x y : Pt.Pr => decide (x.2 - y.2 < 0)) (k + 1) (Ps.srt (fun x y : Pt.Pr => decide (x.2 - y.2 < 0)) l k); rw [← hD]; exact (Ps.down_f (fun h => by simpa using (decide_eq_false hc12))).symm
   refine zL Z (dF hc12) (exit (yZ (xF (z7 (yC (zN ?_))))))
   have hnx := hM
   refine region (oM hH11 Z (oY hH11 (zV Z Z om) (oA hH11 Z (zC (y0 (k + 1, M) (Sub.cons (congrArg (fun z => some (Value.int .i64 z)) om) (uC Z (uC Z (uC Z (uC Z (Sub.nil _)))))) (⟨hH11, hnx, om⟩) om3)))))
  have hM : M = Ps.srt (fun x y : Pt.Pr => decide (x.2 - y.2 < 0)) l (k + 1) := by show M = Ps.down (fun x y : Pt.Pr => decide (x.2 - y.2 < 0)) (k + 1) (Ps.srt (fun x y : Pt.Pr => decide (x.2 - y.2 < 0)) l k); rw [← hD]; exact (Ps.down_f (fun h => by omega)).symm
  refine zK [4, 5, 6, 7, 8, 9, 10, 11, 12, 13, 14, 15, 16] kz hH8 _ _ _ kz (yO Z Z Z (dF hc9) Z (yO Z Z Z (dF hc9) Z (yO Z Z Z (dF hc9) Z (yO Z Z Z (dF hc9) Z (yO Z Z Z (dF hc9) Z (yO Z Z Z (dF hc9) Z (yO Z Z Z (dF hc9) Z (yO Z Z Z (dF hc9) Z (yO Z Z Z (dF hc9) Z (yO Z Z Z (dF hc9) Z (yO Z Z Z (dF hc9) Z (yO Z Z Z (dF hc9) Z (zJ Z Z (zT Z (dF hc9) Z) (zQ (zX kz (zN (zL Z Z (exit (yZ (xF (z7 ?_)))))))))))))))))))))
  refine yC (zN ?_)
  have hnx := hM
  refine region (oM hH8 Z (oY hH8 (zV Z Z om) (oA hH8 Z (zC (y0 (k + 1, M) (Sub.cons (congrArg (fun z => some (Value.int .i64 z)) om) (uC Z (uC Z (uC Z (uC Z (Sub.nil _)))))) (⟨hH8, hnx, om⟩) om3)))))
 refine zL Z (dF hc3) (exit (yZ (xF (z7 (jT hH2 (kF Z ) (fun w' hf => ?_))))))
 refine ⟨Z, ?_⟩; have hk2 : l.length - 1 = k := om; unfold Ps.sorted; rw [hk2, ← hL]; exact hf.1
theorem zFm {v : Value} {l : List Int} {g : Nat} {n lim : Int} {w : World} (h0 : Own 2 1 encI v l w) (hg : v.ownBlock = some g) (hn : l.length ≤ 12) (hne : 1 ≤ l.length) (hnl : n = (l.length : Int)) :
  FnM Tryz.prog 157 [v, (.int .i64 0), (.int .i64 n), (.int .i64 lim)].toArray w g (fun u w => u = .tuple #[] ∧ Own 2 1 encI v (Ps.sorted (fun x y : Int => decide (x < y)) l) w) := by
 refine uQ (args := [v, (.int .i64 0), (.int .i64 n), (.int .i64 lim)]) Tryz.func157 Z (ent Tryz.func157 kz Z) Z Z (qF h0 hg) (fun hH => (zr (oA hH Z (zs (oA hH Z (zt (block (loop (S := Nat) (fun k => [(1, (.int .i64 0)), (2, (.int .i64 n)), (3, (.int .i64 lim)), (0, v)]) (fun k w1 => Heap [ow g (g + 1) 2 1 encI v l, restL w g, restR w g] w1 ∧ True) (fun k => k) (0) (uC Z (uC Z (uC Z (uC Z (Sub.nil _))))) ?_ ?_))))))))
 ·exact ⟨hH, trivial⟩
 rintro k w1 ⟨hH2, hT⟩
 refine block (zr (oM hH2 Z (oM hH2 Z (oY hH2 (y8 Z Z om) (oA hH2 Z (zt (seq (zr (oM hH2 Z (oY hH2 (uS Z Z) (zt ?_)))))))))))
 have hc3 : (n - 0) ≤ 12 := (show n - 0 ≤ 12 by omega)
 refine zO Z (dT hc3) (zr (oM hH2 Z (oM hH2 Z (oM hH2 Z ?_))))
 obtain ⟨g4, hgb5, hgl6⟩ := Ow.blk (show Ow _ _ _ _ _ _ _ _ from hH2.get (n := 0) rfl) (by first | assumption | omega | (simp; done) | decide)
 refine vB (g := g4) (n := 0) Z Z Z hH2 Z hgl6 (zEi (Heap.own hH2 (n := 0) Z) hgb5 om om) (fun u9 w7 hH8 hv10 => ?_)
 obtain ⟨rfl, -⟩ := hv10
 have hH11 := Heap.xZ (Heap.weaken hH8 (n := 0) Z (φ := Own 2 1 encI v (Ps.sorted (fun x y : Int => decide (x < y)) l)) (fun w' h => h.2)) (n := 0) (by rfl)
 refine zt (ret (z6 (yE (xY (yE (finM hH11 (kF Z ) (fun w' hf => ?_)))))))
 exact ⟨Z, hf.1⟩
end Go.Fip
namespace Go.Proofs
open Go.Shelf
def Tryz.lays125_ren : Go.Shelf.Ren := ⟨fun | 125 => 147 | 128 => 174 | 129 => 175 | n => n, fun | 46 => 196 | 3 => 3 | 51 => 225 | 53 => 227 | 4 => 4 | 5 => 5 | 9 => 9 | n => n, fun | n => n⟩
theorem Tryz.lays125 : Go.Proofs.Lays.n125 Tryz.prog Tryz.lays125_ren := {
  mixed := by kernel_rfl
  f125 := Tryz.func147.trans (congrArg some (by kernel_rfl))
  f128 := Tryz.func174.trans (congrArg some (by kernel_rfl))
  f129 := Tryz.func175.trans (congrArg some (by kernel_rfl))
  t3 := Tryz.underlying3
  a3 := Tryz.isAgg3
  z3 := Tryz.sizeOf3
  v3 := Tryz.zeroValue3
  t4 := Tryz.underlying4
  a4 := Tryz.isAgg4
  z4 := Tryz.sizeOf4
  v4 := Tryz.zeroValue4
  t5 := Tryz.underlying5
  a5 := Tryz.isAgg5
  z5 := Tryz.sizeOf5
  v5 := Tryz.zeroValue5
  t9 := Tryz.underlying9
  a9 := Tryz.isAgg9
  z9 := Tryz.sizeOf9
  v9 := Tryz.zeroValue9
  t46 := Tryz.underlying196
  a46 := Tryz.isAgg196
  z46 := Tryz.sizeOf196
  v46 := Tryz.zeroValue196
  t51 := Tryz.underlying225
  a51 := Tryz.isAgg225
  z51 := Tryz.sizeOf225
  v51 := Tryz.zeroValue225
  t53 := Tryz.underlying227
  a53 := Tryz.isAgg227
  z53 := Tryz.sizeOf227
  v53 := Tryz.zeroValue227 }
theorem Tryz.bits_Len (x : Int) (w : World) (h0 : 0 ≤ x) (h1 : x ≤ 18446744073709551615) :
  Calls Tryz.prog 147 #[.int .u64 x] w fun e w' => e = .returned (.int .i64 (Lib.bitLen x.toNat)) ∧ w' = w := Any.bits_Len Tryz.lays125 x w h0 h1
end Go.Proofs
namespace Go.Fip
open Go.Proofs Go.RowKit
theorem zBi {P : Program} {f : FuncId} {args : Array Value} {w : World} {v : Value} (hen : ∀ w', (callFunc f args).run P w' = .ok (.enter f args) w') (h : Calls P f args w fun e w' => e = .returned v ∧ w' = w) : Fn P f args w (fun u _ => u = v) :=
 ⟨hen, callsIn_wide.2 (h.mono fun _ _ ⟨he, hw⟩ => by subst hw; exact ⟨v, he, Below.refl _ _, fun _ _ => rfl⟩)⟩
theorem zC2 {x : Int} {w : World} (h0 : 0 ≤ x) (h1 : x ≤ 18446744073709551615) : Fn Tryz.prog 147 [.int .u64 x].toArray w (fun u _ => u = .int .i64 ((Lib.bitLen x.toNat : Nat) : Int)) := zBi (ent Tryz.func147 (by kernel_rfl) rfl _) (Tryz.bits_Len x w h0 h1)
theorem zD6 {v : Value} {l : List Int} {g : Nat} {w : World} (h0 : Own 2 1 encI v l w) (hg : v.ownBlock = some g) (hn : l.length ≤ 12) (hne : 1 ≤ l.length) :
  FnM Tryz.prog 112 [v].toArray w g (fun u w => u = .tuple #[] ∧ Own 2 1 encI v (Ps.sorted (fun x y : Int => decide (x < y)) l) w) := by
 refine uQ (args := [v]) Tryz.func112 Z (ent Tryz.func112 kz Z) Z Z (qF h0 hg) (fun hH => (zr (oM hH Z (oY hH (z8 T.xR Z (Heap.yI T.zR hH (n := 0) Z).is) (oA hH Z (zq (oM hH Z (oM hH Z (oM hH Z (oY hH (jP Tryz.underlying3 Tryz.underlying196 Z (G4 om)) (zM Z Z Z hH (zC2 (x := (l.length : Int)) om om) (fun w1 hH2 => ?_))))))))))))
 obtain ⟨g3, hgb4, hgl5⟩ := Ow.blk (show Ow _ _ _ _ _ _ _ _ from hH2.get (n := 0) rfl) (by first | assumption | omega | (simp; done) | decide)
 refine vB (g := g3) (n := 0) Z Z Z hH2 Z hgl5 (zFm (Heap.own hH2 (n := 0) Z) hgb4 (by first | omega | (simp; done)) (by first | omega | (simp; done)) (by first | omega | (simp; done))) (fun u8 w6 hH7 hv9 => ?_)
 obtain ⟨rfl, -⟩ := hv9
 have hH10 := Heap.xZ (Heap.weaken hH7 (n := 0) Z (φ := Own 2 1 encI v (Ps.sorted (fun x y : Int => decide (x < y)) l)) (fun w' h => h.2)) (n := 0) (by rfl)
 refine zC (jT hH10 (kF Z ) (fun w' hf => ?_))
 exact ⟨Z, hf.1⟩
theorem zFt {v : Value} {l : List Pt.Pr} {g : Nat} {n : Int} {w : World} (h0 : Own 27 2 encP v l w) (hg : v.ownBlock = some g) (hnl : n = (l.length : Int)) (hn : l.length ≤ 12) (hne : 1 ≤ l.length) (hq : Ps.All (fun z : Pt.Pr => 0 ≤ z.2 ∧ z.2 ≤ 1073741824) l) :
  FnM Tryz.prog 176 [v, (.int .i64 n), (.func (.func 151) #[] #[])].toArray w g (fun u w => u = .tuple #[] ∧ Own 27 2 encP v (Ps.sorted (fun x y : Pt.Pr => decide (x.2 - y.2 < 0)) l) w) := by
 refine uQ (args := [v, (.int .i64 n), (.func (.func 151) #[] #[])]) Tryz.func176 Z (ent Tryz.func176 kz Z) Z Z (qF h0 hg) (fun hH => (zr (oA hH Z (zs (oM hH Z (oA hH Z (oA hH Z (zt (seq (block (loop (S := Nat) (fun k => [(7, (.int .i64 0)), (8, (.int .i64 20)), (0, v), (1, (.int .i64 n)), (2, (.func (.func 151) #[] #[])), (6, (.int .i64 20))]) (fun k w1 => Heap [ow g (g + 1) 27 2 encP v l, restL w g, restR w g] w1 ∧ True) (fun k => k) (0) (uC Z (uC Z (uC Z (uC Z (uC Z (uC Z (Sub.nil _))))))) ?_ ?_)))))))))))
 ·exact ⟨hH, trivial⟩
 rintro k w1 ⟨hH2, hT⟩
 refine seq (zr (oM hH2 Z (oM hH2 Z (oY hH2 (uS Z Z) (zt ?_)))))
 have hc3 : ¬ (20 ≤ n) := (show ¬ (20 : Int) ≤ n by omega)
 refine zL Z (dF hc3) (exit (yZ (xF (z7 (zu (oM hH2 Z (oM hH2 Z (oM hH2 Z (oM hH2 Z ?_)))))))))
 obtain ⟨g4, hgb5, hgl6⟩ := Ow.blk (show Ow _ _ _ _ _ _ _ _ from hH2.get (n := 0) rfl) (by first | assumption | omega | (simp; done) | decide)
 refine vB (g := g4) (n := 0) Z Z Z hH2 Z hgl6 (zFj (Heap.own hH2 (n := 0) Z) hgb5 om om hq) (fun u9 w7 hH8 hv10 => ?_)
 obtain ⟨rfl, -⟩ := hv10
 have hH11 := Heap.xZ (Heap.weaken hH8 (n := 0) Z (φ := Own 27 2 encP v (Ps.sorted (fun x y : Pt.Pr => decide (x.2 - y.2 < 0)) l)) (fun w' h => h.2)) (n := 0) (by rfl)
 refine zt (block (loop (S := Nat) (fun k => [(6, (.int .i64 20)), (0, v), (1, (.int .i64 n)), (2, (.func (.func 151) #[] #[]))]) (fun k w1 => Heap [ow g (g + 1) 27 2 encP v (Ps.sorted (fun x y : Pt.Pr => decide (x.2 - y.2 < 0)) l), restL w g, restR w g] w1 ∧ True) (fun k => k) (0) (uC Z (uC Z (uC Z (uC Z (Sub.nil _))))) ?_ ?_))
 ·exact ⟨hH11, trivial⟩
 rintro k w12 ⟨hH13, hT⟩
 refine seq (zr (oM hH13 Z (oM hH13 Z (oY hH13 (yL Z Z) (zt ?_)))))
 have hc14 : ¬ (20 < n) := (show ¬ (20 : Int) < n by omega)
 refine zL Z (dF hc14) (exit (yZ (xF (z7 (jT hH13 (kF Z ) (fun w' hf => ?_))))))
 exact ⟨Z, hf.1⟩
theorem zEl {v : Value} {l : List Pt.Pr} {g : Nat} {w : World} (h0 : Own 27 2 encP v l w) (hg : v.ownBlock = some g) (hn : l.length ≤ 12) (hne : 1 ≤ l.length) (hq : Ps.All (fun z : Pt.Pr => 0 ≤ z.2 ∧ z.2 ≤ 1073741824) l) :
  FnM Tryz.prog 150 [v, (.func (.func 151) #[] #[])].toArray w g (fun u w => u = .tuple #[] ∧ Own 27 2 encP v (Ps.sorted (fun x y : Pt.Pr => decide (x.2 - y.2 < 0)) l) w) := by
 refine uQ (args := [v, (.func (.func 151) #[] #[])]) Tryz.func150 Z (ent Tryz.func150 kz Z) Z Z (qF h0 hg) (fun hH => (region (oM hH Z (oM hH Z (oY hH (z8 T.jO Z (Heap.yI T.xG hH (n := 0) Z).is) (oM hH Z ?_))))))
 obtain ⟨g1, hgb2, hgl3⟩ := Ow.blk (show Ow _ _ _ _ _ _ _ _ from hH.get (n := 0) rfl) (by first | assumption | omega | (simp; done) | decide)
 refine vB (g := g1) (n := 0) Z Z Z hH Z hgl3 (zFt (Heap.own hH (n := 0) Z) hgb2 (by first | omega | (simp; done)) hn hne hq) (fun u6 w4 hH5 hv7 => ?_)
 obtain ⟨rfl, -⟩ := hv7
 have hH8 := Heap.xZ (Heap.weaken hH5 (n := 0) Z (φ := Own 27 2 encP v (Ps.sorted (fun x y : Pt.Pr => decide (x.2 - y.2 < 0)) l)) (fun w' h => h.2)) (n := 0) (by rfl)
 refine zC (jT hH8 (kF Z ) (fun w' hf => ?_))
 exact ⟨Z, hf.1⟩
end Go.Fip
namespace Go.Fip
section
variable {P : Program} {N : Nat} {ds : List Deferred} {env : Env} {x : Operand}
theorem zDp {S : World → Prop} {o : UnOp} {T : TypeId} {a v : Value} (hx : ev env x = some a) (h : ∀ w, (Op.unary o a).run P w = .ok v w) : Yv P N ds env (.unOp o T x) v S := fun act hact w _ _ _ _ _ _ => by
 have := h w
 simp only [execOp, hact.ev hx, Sem.run_bind, this, Result.andThen]; rfl
theorem JA {S : World → Prop} {T : TypeId} {a : Int} (hx : ev env x = some (.int .i64 a)) (h : -9223372036854775807 ≤ a ∧ a ≤ 9223372036854775807) : Yv P N ds env (.unOp .neg T x) (.int .i64 (-a)) S :=
 zDp hx fun w => by
  have e : IntKind.i64.wrap (-a) = -a := jI (by omega)
  simp [Op.unary, Op.intArith, e]
end
theorem YR {P : Program} {N : Nat} {ds : List Deferred} {env : Env} {op : Op} {a b : Value} {S : World → Prop} (h : a = b) (hy : Yv P N ds env op a S) : Yv P N ds env op b S := h ▸ hy
end Go.Fip
