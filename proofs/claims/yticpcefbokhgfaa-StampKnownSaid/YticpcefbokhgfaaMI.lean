/- Joined texts: Sj, Sz, Sq. -/
import Derived.Test.YticpcefbokhgfaaMC
set_option linter.unusedVariables false
set_option linter.unusedSimpArgs false
set_option linter.unusedSectionVars false
namespace Go.Fip
theorem u8_at {bs : List Int} (h : ∀ n ∈ bs, 0 ≤ n ∧ n ≤ 255) {i : Int} (h0 : 0 ≤ i) (h1 : i < (bs.length : Int)) : 0 ≤ nth bs i ∧ nth bs i ≤ 255 := by
  obtain ⟨k, rfl⟩ := Int.eq_ofNat_of_zero_le h0
  rw [nth_nat (by omega)]
  exact h _ (List.getElem_mem (by omega))
theorem emod_bd {a b : Int} (hb : 0 < b) : 0 ≤ a % b ∧ a % b < b := ⟨Int.emod_nonneg _ (by omega), Int.emod_lt_of_pos _ hb⟩
namespace S
open Go.Fip
/-- Valid joints, by numbers. -/
def givTo (n : Nat) (bs : List Int) (k : Nat) : List Int := (List.range k).foldl (fun (o : List Int) (i : Nat) => swp o (i : Int) (nth bs ((i : Int) % (bs.length : Int)) % ((i : Int) + 1))) (right n)
def giv (n : Nat) (bs : List Int) : List Int := if bs.length = 0 then right n else givTo n bs n
theorem givTo_succ {n k : Nat} {bs : List Int} : givTo n bs (k + 1) = swp (givTo n bs k) (k : Int) (nth bs ((k : Int) % (bs.length : Int)) % ((k : Int) + 1)) := by
  unfold givTo; rw [List.range_succ, List.foldl_append]; rfl
theorem givTo_len {n : Nat} {bs : List Int} : ∀ k, (givTo n bs k).length = n
  | 0 => right_length n
  | k + 1 => by rw [givTo_succ, swp_length, givTo_len k]
theorem givTo_J {n : Nat} {bs : List Int} (h1 : 1 ≤ n) (h10 : n ≤ 10) (hb : ∀ x ∈ bs, 0 ≤ x ∧ x ≤ 255) (h0 : 1 ≤ bs.length) : ∀ k, k ≤ n → J (givTo n bs k)
  | 0, _ => right_J h1 h10
  | k + 1, hk => by
    rw [givTo_succ]
    have hl := givTo_len (n := n) (bs := bs) k
    have hm := emod_bd (a := nth bs ((k : Int) % (bs.length : Int))) (b := (k : Int) + 1) (by omega)
    exact (givTo_J h1 h10 hb h0 k (by omega)).swp (by omega) (by omega) (by omega) (by omega)
theorem giv_len {n : Nat} {bs : List Int} : (giv n bs).length = n := by
  unfold giv
  split
  · exact right_length n
  · exact givTo_len n
theorem giv_J {n : Nat} {bs : List Int} (h1 : 1 ≤ n) (h10 : n ≤ 10) (hb : ∀ x ∈ bs, 0 ≤ x ∧ x ≤ 255) : J (giv n bs) := by
  unfold giv
  split
  · exact right_J h1 h10
  · exact givTo_J h1 h10 hb (by omega) n (Nat.le_refl n)
/-- Exchanges, by numbers; and then those that are wanted still. -/
def pairAt (n : Int) (bs : List Int) (j : Nat) : Pr := (nth bs (2 * (j : Int)) % n, (nth bs (2 * (j : Int)) % n + 1 + nth bs (2 * (j : Int) + 1) % (n - 1)) % n)
def pairsTo (n : Int) (bs : List Int) (k : Nat) : List Pr := (List.range k).map (pairAt n bs)
theorem pairsTo_succ {n : Int} {bs : List Int} {k : Nat} : pairsTo n bs (k + 1) = pairsTo n bs k ++ [pairAt n bs k] := by simp [pairsTo, List.range_succ]
theorem pairsTo_len {n : Int} {bs : List Int} {k : Nat} : (pairsTo n bs k).length = k := by simp [pairsTo]
theorem pairAt_ok {n : Int} {bs : List Int} {j : Nat} (hn : 1 < n) : (0 ≤ (pairAt n bs j).1 ∧ (pairAt n bs j).1 < n) ∧ (0 ≤ (pairAt n bs j).2 ∧ (pairAt n bs j).2 < n) ∧ (pairAt n bs j).1 ≠ (pairAt n bs j).2 := by
  unfold pairAt
  have h1 := emod_bd (a := nth bs (2 * (j : Int))) (b := n) (by omega)
  have h2 := emod_bd (a := nth bs (2 * (j : Int) + 1)) (b := n - 1) (by omega)
  generalize nth bs (2 * (j : Int)) % n = a at *
  generalize nth bs (2 * (j : Int) + 1) % (n - 1) = b at *
  have h3 := emod_bd (a := a + 1 + b) (b := n) (by omega)
  refine ⟨h1, h3, fun e => ?_⟩
  dsimp only at e
  rcases Int.lt_or_le (a + 1 + b) n with h4 | h4
  · rw [Int.emod_eq_of_lt (by omega) h4] at e; omega
  · have h5 : (a + 1 + b) % n = a + 1 + b - n := by
      rw [show a + 1 + b = (a + 1 + b - n) + n by omega, Int.add_emod_right, Int.emod_eq_of_lt (by omega) (by omega)]
      omega
    rw [h5] at e; omega
theorem pairsTo_ok {n : Nat} {bs : List Int} (hn : 1 < n) (k : Nat) : AllX n (pairsTo (n : Int) bs k) := fun x hx => by
  unfold pairsTo at hx
  obtain ⟨j, _, rfl⟩ := List.mem_map.1 hx
  exact pairAt_ok (by omega)
def put (l bs : List Int) (k : Nat) : List Pr := pairsTo (l.length : Int) bs k ++ exs (apl l (pairsTo (l.length : Int) bs k))
theorem AllX.app {n : Nat} {xs ys : List Pr} (h : AllX n xs) (h2 : AllX n ys) : AllX n (xs ++ ys) := fun x hx => by
  rcases List.mem_append.1 hx with h3 | h3
  · exact h x h3
  · exact h2 x h3
theorem apl_app {l : List Int} {xs ys : List Pr} : apl l (xs ++ ys) = apl (apl l xs) ys := by unfold apl; rw [List.foldl_append]
theorem exs_all {l : List Int} (h : J l) : AllX l.length (exs l) ∧ apl l (exs l) = right l.length ∧ (exs l).length = l.length - cyc l := by
  obtain ⟨a, b, c⟩ := J.exs_ok _ h rfl
  exact ⟨c, b, a⟩
theorem put_ok {l bs : List Int} {k : Nat} (h : J l) (hk : 1 < l.length ∨ k = 0) : AllX l.length (put l bs k) ∧ apl l (put l bs k) = right l.length ∧ (put l bs k).length ≤ k + 10 := by
  have hx : AllX l.length (pairsTo (l.length : Int) bs k) := by
    rcases hk with h1 | rfl
    · exact pairsTo_ok h1 k
    · intro x hx; cases hx
  have hj := (h.apl hx).1
  have hl : (apl l (pairsTo (l.length : Int) bs k)).length = l.length := apl_length
  obtain ⟨a, b, c⟩ := exs_all hj
  rw [hl] at a b
  refine ⟨hx.app a, ?_, ?_⟩
  · unfold put; rw [apl_app, b]
  · unfold put
    rw [List.length_append, pairsTo_len]
    have := hj.exs_len
    omega
/-- Steps put joints right. -/
def Stepped (l ks : List Int) : Prop := AllK l.length ks ∧ stp l ks = right l.length
theorem stp_take {l ks : List Int} {k : Nat} (hk : k < ks.length) : swp (stp l (ks.take k)) (nth ks (k : Int)) (nth ks (k : Int) + 1) = stp l (ks.take (k + 1)) := by
  unfold stp
  rw [take_snoc hk, List.foldl_append]; rfl
theorem allK_iff {n : Nat} {ks : List Int} : AllK n ks ↔ ∀ i, i < ks.length → 0 ≤ nth ks (i : Int) ∧ nth ks (i : Int) + 1 < (n : Int) := by
  constructor
  · intro h i hi; rw [nth_nat hi]; exact h _ (List.getElem_mem hi)
  · intro h x hx
    obtain ⟨i, hi, rfl⟩ := List.getElem_of_mem hx
    have := h i hi
    rwa [nth_nat hi] at this
/-- A list comes before another one. -/
def Lex (a b : List Int) : Prop := ∃ i, (i < a.length ∧ i < b.length) ∧ nth a (i : Int) < nth b (i : Int) ∧ ∀ j, j < i → nth a (j : Int) = nth b (j : Int)
instance (n : Nat) (ks : List Int) : Decidable (AllK n ks) := by unfold AllK; infer_instance
instance (l ks : List Int) : Decidable (Stepped l ks) := by unfold Stepped; infer_instance
def lexB (a b : List Int) : Bool := (List.range (min a.length b.length)).any fun i => decide (nth a (i : Int) < nth b (i : Int) ∧ ∀ j, j < i → nth a (j : Int) = nth b (j : Int))
theorem lexB_iff {a b : List Int} : lexB a b = true ↔ Lex a b := by
  unfold lexB Lex
  rw [List.any_eq_true]
  constructor
  · rintro ⟨i, hi, h⟩
    rw [decide_eq_true_eq] at h
    have := List.mem_range.1 hi
    exact ⟨i, ⟨by omega, by omega⟩, h⟩
  · rintro ⟨i, hi, h⟩
    exact ⟨i, List.mem_range.2 (by omega), decide_eq_true h⟩
end S
end Go.Fip

set_option linter.unusedVariables false
set_option linter.unusedSimpArgs false
set_option linter.unusedSectionVars false
namespace Go.Fip.S
open Go.Fip
theorem AllX.take {n : Nat} {xs : List Pr} (h : AllX n xs) (k : Nat) : AllX n (xs.take k) := fun x hx => h x (List.mem_of_mem_take hx)
theorem J.apply {l : List Int} (h : J l) {xs : List Pr} (hx : AllX l.length xs) (hl : xs.length ≤ 60) : applyR l xs = (S.apl l xs, 0) :=
  ap5 (check_iff.2 h) (by omega) hx.has.1 hx.has.2
theorem J.takes {l : List Int} (h : J l) {xs : List Pr} (hx : AllX l.length xs) {k : Nat} (hk : k < xs.length) : cyc (S.apl l (xs.take (k + 1))) = cyc (S.apl l (xs.take k)) + 1 ∨ cyc (S.apl l (xs.take (k + 1))) + 1 = cyc (S.apl l (xs.take k)) := by
  rw [← apl_take hk]
  have hj := (h.apl (hx.take k)).1
  have hl : (S.apl l (xs.take k)).length = l.length := apl_length
  have he := hx _ (List.getElem_mem hk)
  rw [nth_nat hk]
  exact hj.swp_cyc (by omega) (by omega) (by omega) (by omega) he.2.2
end Go.Fip.S
namespace Go.Fip.S
open Go.Fip
def tri : Nat → Nat
  | 0 => 0
  | n + 1 => tri n + n
theorem inv_tri : ∀ l : List Int, inv l ≤ tri l.length
  | [] => Nat.le_refl _
  | x :: l => by
    have h := inv_tri l
    have h2 := List.countP_le_length (p := fun y => decide (y < x)) (l := l)
    show l.countP (fun y => decide (y < x)) + inv l ≤ tri l.length + l.length
    omega
theorem tri_le : ∀ {m n : Nat}, m ≤ n → tri m ≤ tri n := fun {m n} h => by
  induction n with
  | zero => rw [show m = 0 by omega]; exact Nat.le_refl _
  | succ n ih =>
    rcases Nat.lt_or_ge m (n + 1) with h1 | h1
    · exact Nat.le_trans (ih (by omega)) (Nat.le_add_right _ _)
    · rw [show m = n + 1 by omega]; exact Nat.le_refl _
theorem J.inv45 {l : List Int} (h : J l) : inv l ≤ 45 := Nat.le_trans (inv_tri l) (tri_le h.2.1)
theorem steps_all {l : List Int} (h : J l) : (steps l).length = inv l ∧ stp l (steps l) = right l.length ∧ AllK l.length (steps l) := J.steps_ok _ h rfl
/-- Steps, by numbers. -/
def ksTo (n : Int) (bs : List Int) (j : Nat) : List Int := (List.range j).map fun i : Nat => nth bs (i : Int) % (n - 1)
theorem ksTo_succ {n : Int} {bs : List Int} {j : Nat} : ksTo n bs (j + 1) = ksTo n bs j ++ [nth bs (j : Int) % (n - 1)] := by simp [ksTo, List.range_succ]
theorem ksTo_len {n : Int} {bs : List Int} {j : Nat} : (ksTo n bs j).length = j := by simp [ksTo]
theorem ksTo_ok {n : Nat} {bs : List Int} {j : Nat} (h : 1 < n ∨ j = 0) : AllK n (ksTo (n : Int) bs j) := fun x hx => by
  rcases h with h | rfl
  · unfold ksTo at hx
    obtain ⟨i, _, rfl⟩ := List.mem_map.1 hx
    have := emod_bd (a := nth bs (i : Int)) (b := (n : Int) - 1) (by omega)
    omega
  · cases hx
theorem stp_snoc {l ks : List Int} {k : Int} : stp l (ks ++ [k]) = swp (stp l ks) k (k + 1) := by unfold stp; rw [List.foldl_append]; rfl
theorem AllK.bd {n : Nat} {ks : List Int} (h : AllK n ks) (hn : n ≤ 10) : ∀ i, i < ks.length → -1000 ≤ nth ks (i : Int) ∧ nth ks (i : Int) ≤ 1000 := fun i hi => by
  have := allK_iff.1 h i hi
  omega
end Go.Fip.S
namespace Go.Fip.S
open Go.Fip
/-- Which least common multiples there are of lengths that are so many together. -/
def al : Nat → List Nat
  | 0 => [1]
  | 1 => [1]
  | 2 => [1, 2]
  | 3 => [1, 2, 3]
  | 4 => [1, 2, 3, 4]
  | 5 => [1, 2, 3, 4, 5, 6]
  | 6 => [1, 2, 3, 4, 5, 6]
  | 7 => [1, 2, 3, 4, 5, 6, 7, 10, 12]
  | 8 => [1, 2, 3, 4, 5, 6, 7, 8, 10, 12, 15]
  | 9 => [1, 2, 3, 4, 5, 6, 7, 8, 9, 10, 12, 14, 15, 20]
  | _ => [1, 2, 3, 4, 5, 6, 7, 8, 9, 10, 12, 14, 15, 20, 21, 30]
theorem al_all : ((List.range 11).all fun s => (List.range 11).all fun p => !decide (1 ≤ p ∧ s + p ≤ 10) || (al s).all fun d => (al (s + p)).contains (Nat.lcm d p)) = true := by decide +kernel
theorem al_step (s : Nat) (hs : s < 11) (p : Nat) (hp : p < 11) (h1 : 1 ≤ p) (h2 : s + p ≤ 10) (d : Nat) (hd : d ∈ al s) : Nat.lcm d p ∈ al (s + p) := by
  have h := List.all_eq_true.1 (List.all_eq_true.1 al_all s (List.mem_range.2 hs)) p (List.mem_range.2 hp)
  rw [decide_eq_true (show 1 ≤ p ∧ s + p ≤ 10 from ⟨h1, h2⟩)] at h
  have h3 := List.all_eq_true.1 (show (al s).all (fun d => (al (s + p)).contains (Nat.lcm d p)) = true from h) d hd
  simpa using h3
theorem al_le : ∀ s, s < 11 → ∀ d ∈ al s, d ≤ 30 := by decide +kernel
def lenS (l : List Int) (i : Nat) : Nat := ((List.range i).map (len l)).sum
theorem lenS_succ {l : List Int} {i : Nat} : lenS l (i + 1) = lenS l i + len l i := by simp [lenS, List.range_succ]
theorem lenS_mono {l : List Int} {i j : Nat} (h : i ≤ j) : lenS l i ≤ lenS l j := by
  induction j with
  | zero => rw [show i = 0 by omega]; exact Nat.le_refl _
  | succ j ih =>
    rcases Nat.lt_or_ge i (j + 1) with h1 | h1
    · rw [lenS_succ]; exact Nat.le_trans (ih (by omega)) (Nat.le_add_right _ _)
    · rw [show i = j + 1 by omega]; exact Nat.le_refl _
theorem J.lenS {l : List Int} (h : J l) : S.lenS l (cyc l) = l.length := by
  rw [← h.sum_per]
  unfold S.lenS cyc
  congr 1
  refine List.ext_getElem (by simp) fun i h1 h2 => ?_
  simp at h1
  simp [len, List.getD_eq_getElem?_getD, h1]
theorem J.agn_al {l : List Int} (h : J l) : ∀ i, i ≤ cyc l → agn l i ∈ al (S.lenS l i)
  | 0, _ => by show 1 ∈ [1]; simp
  | i + 1, hi => by
    have h1 := J.agn_al h i (by omega)
    have h2 := lenS_mono (l := l) hi
    rw [h.lenS, lenS_succ] at h2
    have h3 := h.2.1
    have h4 := len_pos (l := l) (i := i)
    rw [lenS_succ]
    exact al_step _ (by omega) _ (by omega) h4 (by omega) _ h1
theorem J.again30 {l : List Int} (h : J l) : 1 ≤ again l ∧ again l ≤ 30 := by
  have h1 := h.agn_al (cyc l) (Nat.le_refl _)
  rw [h.lenS] at h1
  have h2 := al_le l.length (by have := h.2.1; omega) _ h1
  have h3 := agn_pos (l := l) (cyc l)
  unfold again
  omega
theorem J.ofPw {l : List Int} (h : J l) (k : Nat) : J (pw l k) := by
  have hv := fun (y : Int) (y0 : 0 ≤ y) (y1 : y < (l.length : Int)) => nth_pw (l := l) (k := k) y0 y1
  refine ⟨by rw [pw_length]; exact h.1, by rw [pw_length]; exact h.2.1, fun i hi => ?_, fun i hi j hj e => ?_⟩
  · rw [pw_length] at hi ⊢
    rw [hv _ (by omega) (by omega)]
    exact h.it (by omega) (by omega) k
  · rw [pw_length] at hi
    rw [hv _ (by omega) (by omega), hv _ (by omega) (by omega)] at e
    have := h.it_inj (by omega) (by omega) (by omega) (by omega) k e.1
    omega
theorem nth_behind {a b : List Int} {x : Int} (h0 : 0 ≤ x) (h1 : x < (a.length : Int)) : nth (behind a b) x = nth b (nth a x) := by
  obtain ⟨n, rfl⟩ := Int.eq_ofNat_of_zero_le h0
  unfold behind behindTo
  rw [nth_nat (by simp; omega)]
  simp
theorem behind_length {a b : List Int} : (behind a b).length = a.length := behindTo_length
theorem behind_pw {l : List Int} (h : J l) (i j : Nat) : behind (pw l i) (pw l j) = pw l (i + j) := ext_nth (by rw [behind_length, pw_length, pw_length]) fun k hk => by
  rw [behind_length, pw_length] at hk
  have h1 := h.it (a := (k : Int)) (by omega) (by omega) i
  rw [nth_behind (by omega) (by rw [pw_length]; omega), nth_pw (k := i) (a := (k : Int)) (by omega) (by omega), nth_pw h1.1 h1.2, nth_pw (by omega) (by omega), Nat.add_comm, it_add]
theorem J.two {a b : List Int} (ha : J a) (hb : J b) (hl : a.length = b.length) : S.two a b = 0 := two_iff.2 ⟨check_iff.2 ha, check_iff.2 hb, hl⟩
theorem J.pow {l : List Int} (h : J l) {t : Int} (h0 : 0 ≤ t) (h1 : t ≤ 1099511627776) : power l t = (pw l t.toNat, 0) := po3 (check_iff.2 h) (by omega)
theorem pw_right_iff {l : List Int} (h : J l) {t : Int} (h0 : 0 ≤ t) : pw l t.toNat = right l.length ↔ t % again l = 0 := by
  rw [h.pw_right]
  unfold again
  obtain ⟨n, rfl⟩ := Int.eq_ofNat_of_zero_le h0
  rw [Int.toNat_natCast, Nat.dvd_iff_mod_eq_zero]
  omega
end Go.Fip.S

set_option linter.unusedVariables false
set_option linter.unusedSimpArgs false
set_option linter.unusedSectionVars false
namespace Go.Fip.S
open Go.Fip
theorem J.nodup {r : List Int} (h : J r) : r.Nodup := by
  rw [List.nodup_iff_pairwise_ne, List.pairwise_iff_getElem]
  intro i j hi hj hij e
  have := h.inj (x := (i : Int)) (y := (j : Int)) (by omega) (by omega) (by omega) (by omega) (by rw [nth_nat hi, nth_nat hj]; exact e)
  omega
theorem J.surj {r : List Int} (h : J r) {y : Int} (y0 : 0 ≤ y) (y1 : y < (r.length : Int)) : ∃ x, 0 ≤ x ∧ x < (r.length : Int) ∧ Fip.nth r x = y := by
  obtain ⟨p, hp, he⟩ := h.per_ex y0 y1
  have hb := h.it y0 y1 p
  exact ⟨S.it r p y, hb.1, hb.2, he⟩
theorem J.perm {r : List Int} (h : J r) : ((right r.length).map (Fip.nth r)).Perm (right r.length) := by
  refine (List.perm_ext_iff_of_nodup ?_ (right_nodup _)).2 fun y => ?_
  · refine nodup_map (right_nodup _) fun x hx y hy e => ?_
    have h1 := mem_right.1 hx; have h2 := mem_right.1 hy
    exact h.inj h1.1 h1.2 h2.1 h2.2 e
  · rw [mem_right, List.mem_map]
    constructor
    · rintro ⟨x, hx, rfl⟩
      have := mem_right.1 hx
      exact h.nth this.1 this.2
    · rintro ⟨y0, y1⟩
      obtain ⟨x, x0, x1, e⟩ := h.surj y0 y1
      exact ⟨x, mem_right.2 ⟨x0, x1⟩, e⟩
/-- By the new numbers r a is b. -/
def Conj (a b r : List Int) : Prop := r.length = a.length ∧ b.length = a.length ∧ ∀ x, 0 ≤ x → x < (a.length : Int) → nth r (nth a x) = nth b (nth r x)
section
variable {a b r : List Int} (ha : J a) (hb : J b) (hr : J r) (hc : Conj a b r)
include ha hr hc
theorem Conj.it {x : Int} (x0 : 0 ≤ x) (x1 : x < (a.length : Int)) : ∀ k, S.it b k (Fip.nth r x) = Fip.nth r (S.it a k x)
  | 0 => rfl
  | k + 1 => by
    show Fip.nth b (S.it b k (Fip.nth r x)) = _
    rw [Conj.it x0 x1 k]
    have := ha.it x0 x1 k
    exact (hc.2.2 _ this.1 this.2).symm
include hb
theorem Conj.per {x : Int} (x0 : 0 ≤ x) (x1 : x < (a.length : Int)) : S.per b (Fip.nth r x) = S.per a x := by
  have hx := hr.nth (x := x) x0 (by rw [hc.1]; exact x1)
  have h1 : ∀ k, k % S.per b (Fip.nth r x) = 0 ↔ k % S.per a x = 0 := fun k => by
    rw [← hb.it_self hx.1 (by rw [hc.2.1, ← hc.1]; exact hx.2), ← ha.it_self x0 x1, hc.it ha hr x0 x1]
    have hi := ha.it x0 x1 k
    constructor
    · intro e; exact hr.inj hi.1 (by rw [hc.1]; exact hi.2) x0 (by rw [hc.1]; exact x1) e
    · intro e; rw [e]
  have p1 := (h1 (S.per b (Fip.nth r x))).1 (Nat.mod_self _)
  have p2 := (h1 (S.per a x)).2 (Nat.mod_self _)
  exact Nat.dvd_antisymm (Nat.dvd_of_mod_eq_zero p2) (Nat.dvd_of_mod_eq_zero p1)
theorem Conj.many (p : Nat) : S.many a p = S.many b p := by
  rcases Nat.eq_zero_or_pos p with rfl | hp
  · rw [many_none (fun i => by have := per_pos (l := a) (a := (i : Int)); omega), many_none (fun i => by have := per_pos (l := b) (a := (i : Int)); omega)]
  · refine Nat.eq_of_mul_eq_mul_left hp ?_
    have e3 : (right r.length).countP (fun y => decide (S.per b y = p)) = (right r.length).countP (fun x => decide (S.per a x = p)) := by
      rw [← hr.perm.countP_eq, List.countP_map]
      refine List.countP_congr fun x hx => ?_
      have h1 := mem_right.1 hx
      rw [hc.1] at h1
      show decide (S.per b (Fip.nth r x) = p) = true ↔ _
      rw [hc.per ha hb hr h1.1 h1.2]
    rw [← ha.many p, ← hb.many p, hc.2.1, ← hc.1, e3]
end
theorem countP_parts {α : Type} {f : α → Nat} {n : Nat} : ∀ {L : List α}, (∀ x ∈ L, f x < n) → ((List.range n).map fun p => L.countP fun x => decide (f x = p)).sum = L.length
  | [], _ => by
    simp only [List.countP_nil, List.length_nil]
    induction n with
    | zero => rfl
    | succ n ih => rw [List.range_succ, List.map_append, List.sum_append]; simp at ih ⊢; exact ih
  | x :: L, h => by
    have ih := countP_parts (L := L) (fun y hy => h y (List.mem_cons_of_mem _ hy))
    have hx := h x List.mem_cons_self
    rw [List.length_cons, ← ih]
    have e : ∀ m, f x < m → ((List.range m).map fun p => (x :: L).countP fun x => decide (f x = p)).sum = ((List.range m).map fun p => L.countP fun x => decide (f x = p)).sum + 1 := fun m => by
      induction m with
      | zero => intro h0; exact absurd h0 (Nat.not_lt_zero _)
      | succ m ihm =>
        intro hm
        rw [List.range_succ, List.map_append, List.map_append, List.sum_append, List.sum_append]
        have e9 : (x :: L).countP (fun x => decide (f x = m)) = L.countP (fun x => decide (f x = m)) + (if f x = m then 1 else 0) := by
          rw [List.countP_cons]; simp
        simp only [List.map_cons, List.map_nil, List.sum_cons, List.sum_nil, Nat.add_zero]
        rw [e9]
        rcases Nat.lt_or_ge (f x) m with h1 | h1
        · rw [ihm h1, if_neg (by omega)]; omega
        · have e2 : ∀ q, q ≤ f x → ((List.range q).map fun p => (x :: L).countP fun x => decide (f x = p)).sum = ((List.range q).map fun p => L.countP fun x => decide (f x = p)).sum := fun q hq => by
            congr 1
            refine List.map_congr_left fun p hp => ?_
            have := List.mem_range.1 hp
            rw [List.countP_cons, if_neg (by simp; omega), Nat.add_zero]
          have h3 := e2 m h1
          rw [if_pos (by omega), h3]
          omega
    exact e n hx
theorem J.cyc_many {l : List Int} (h : J l) : ((List.range 11).map (S.many l)).sum = cyc l := by
  have := countP_parts (f := fun i : Nat => per l (i : Int)) (n := 11) (L := mins l) (fun i hi => by
    have hm := mem_mins.1 hi
    have := (h.per_at (a := (i : Int)) (by omega) (by omega)).2
    have := h.2.1
    omega)
  exact this
theorem cyc_eq {a b : List Int} (ha : J a) (hb : J b) (hm : ∀ p, many a p = many b p) : cyc a = cyc b := by
  rw [← ha.cyc_many, ← hb.cyc_many]
  congr 1
  exact List.map_congr_left fun p _ => hm p
/-- One habit behind another one. -/
theorem J.beh {a b : List Int} (ha : J a) (hb : J b) (hl : a.length = b.length) : J (behind a b) := by
  have hv := fun (x : Int) (x0 : 0 ≤ x) (x1 : x < (a.length : Int)) => nth_behind (a := a) (b := b) x0 x1
  refine ⟨by rw [behind_length]; exact ha.1, by rw [behind_length]; exact ha.2.1, fun i hi => ?_, fun i hi j hj e => ?_⟩
  · rw [behind_length] at hi ⊢
    have h1 := ha.nth (x := (i : Int)) (by omega) (by omega)
    rw [hv _ (by omega) (by omega), hl]
    exact hb.nth h1.1 (by omega)
  · rw [behind_length] at hi
    rw [hv _ (by omega) (by omega), hv _ (by omega) (by omega)] at e
    have h1 := ha.nth (x := (i : Int)) (by omega) (by omega)
    have h2 := ha.nth (x := (j : Int)) (by omega) (by omega)
    have h3 := hb.inj h2.1 (by omega) h1.1 (by omega) e.1
    have := ha.inj (by omega) (by omega) (by omega) (by omega) h3
    omega
theorem behind_assoc {a b c : List Int} (ha : J a) (hb : J b) (h1 : a.length = b.length) : behind (behind a b) c = behind a (behind b c) := ext_nth (by rw [behind_length, behind_length, behind_length]) fun i hi => by
  rw [behind_length, behind_length] at hi
  have h2 := ha.nth (x := (i : Int)) (by omega) (by omega)
  rw [nth_behind (by omega) (by rw [behind_length]; omega), nth_behind (a := a) (b := b) (by omega) (by omega), nth_behind (a := a) (by omega) (by omega), nth_behind h2.1 (by omega)]
theorem conj_joined {l m : List Int} (hl : J l) (hm : J m) (h : l.length = m.length) : Conj (behind l m) (behind m l) l := by
  refine ⟨behind_length.symm, by rw [behind_length, behind_length]; exact h.symm, fun x x0 x1 => ?_⟩
  rw [behind_length] at x1
  have h1 := hl.nth x0 x1
  rw [nth_behind x0 x1, nth_behind h1.1 (by omega)]
section
variable {a b : List Int} (ha : J a) (hb : J b) (hl : a.length = b.length) (hm : ∀ p, many a p = many b p)
include ha hb hl hm
theorem alk_it {i k : Nat} (hi : i < cyc a) : nth (alk a b) (it a k (mn a i)) = it b k (X a b i) := by
  have hmi := ha.mn hi
  have hx := X_spec hb hm hi
  have h0 := ha.it hmi.1 hmi.2 k
  have hp : 0 < S.per a (S.mn a i) := per_pos
  have e1 := ha.it_mod hmi.1 hmi.2 k
  have hq : k % S.per a (S.mn a i) < len a i := Nat.mod_lt _ hp
  obtain ⟨ei, eq⟩ := ha.ix_at hi hq
  rw [e1] at ei eq
  rw [J.nth_alk h0.1 h0.2, ei, eq]
  have e2 := hb.it_mod hx.1 hx.2.1 k
  rw [hx.2.2.1] at e2
  exact e2
theorem alk_length : (alk a b).length = a.length := by simp [alk]
theorem alk_J : J (alk a b) := by
  have hd : ∀ x, 0 ≤ x → x < (a.length : Int) → ∃ i q, i < cyc a ∧ q < len a i ∧ it a q (mn a i) = x ∧ nth (alk a b) x = it b q (X a b i) := fun x x0 x1 => by
    obtain ⟨h1, h2, h3⟩ := ha.ixOf x0 x1
    exact ⟨_, _, h1, h2, h3, J.nth_alk x0 x1⟩
  have hi : ∀ x y, 0 ≤ x → x < (a.length : Int) → 0 ≤ y → y < (a.length : Int) → nth (alk a b) x = nth (alk a b) y → x = y := fun x y x0 x1 y0 y1 e => by
    obtain ⟨i, q, hi, hq, ex, e1⟩ := hd x x0 x1
    obtain ⟨j, p, hj, hp, ey, e2⟩ := hd y y0 y1
    rw [e1, e2] at e
    have hxi := X_spec hb hm hi
    have hxj := X_spec hb hm hj
    have hij : i = j := by
      have main : ∀ i j q p, i < j → j < cyc a → it b q (X a b i) = it b p (X a b j) → False := fun i j q p hlt hj e => by
        have hxi := X_spec hb hm (i := i) (by omega)
        have hxj := X_spec hb hm hj
        have h1 : Rch b (X a b i) (X a b j) := (show Rch b (X a b i) (it b p (X a b j)) from ⟨q, e⟩).trans (hb.symm hxj.1 hxj.2.1 ⟨p, rfl⟩)
        exact hxj.2.2.2.1 ⟨i, hlt, (hb.mem_circ hxi.1 hxi.2.1).2 h1⟩
      rcases Nat.lt_trichotomy i j with h | h | h
      · exact (main i j q p h hj e).elim
      · exact h
      · exact (main j i p q h hi e.symm).elim
    subst hij
    have := hb.it_eq hxi.1 hxi.2.1 (i := q) (j := p) (by omega) (by omega) e
    rw [← ex, ← ey, this]
  refine ⟨by rw [alk_length ha hb hl hm]; exact ha.1, by rw [alk_length ha hb hl hm]; exact ha.2.1, fun k hk => ?_, fun k hk j hj e => ?_⟩
  · rw [alk_length ha hb hl hm] at hk ⊢
    obtain ⟨i, q, hi', hq, ex, e1⟩ := hd (k : Int) (by omega) (by omega)
    have hxi := X_spec hb hm hi'
    rw [e1, hl]
    exact hb.it hxi.1 hxi.2.1 q
  · rw [alk_length ha hb hl hm] at hk
    have := hi _ _ (by omega) (by omega) (by omega) (by omega) e.1
    omega
theorem alk_conj : Conj a b (alk a b) := by
  refine ⟨alk_length ha hb hl hm, hl.symm, fun x x0 x1 => ?_⟩
  obtain ⟨h1, h2, h3⟩ := ha.ixOf x0 x1
  have e1 := alk_it ha hb hl hm (k := qOf a x) h1
  have e2 := alk_it ha hb hl hm (k := qOf a x + 1) h1
  rw [h3] at e1
  rw [show it a (qOf a x + 1) (mn a (ixOf a x)) = nth a (it a (qOf a x) (mn a (ixOf a x))) from rfl, h3] at e2
  rw [e2, e1]
  rfl
theorem alk_isal : IsAl a b (alk a b) := ⟨alk_length ha hb hl hm, check_iff.2 (alk_J ha hb hl hm), fun i hi => (alk_conj ha hb hl hm).2.2 _ (by omega) (by omega)⟩
/-- No new numbers come before the first ones. -/
theorem alk_first {r : List Int} (hr : J r) (hc : Conj a b r) : ¬ Lex r (alk a b) := by
  rintro ⟨x, ⟨hx, hx2⟩, hlt, hall⟩
  rw [hc.1] at hx
  have hrl := hc.1
  obtain ⟨h1, h2, h3⟩ := ha.ixOf (x := (x : Int)) (by omega) (by omega)
  have hmi := ha.mn h1
  have hX := X_spec hb hm h1
  -- all circles before were numbered alike
  have hsame : ∀ j, S.mn a j < (x : Int) → j < cyc a → nth r (S.mn a j) = X a b j := fun j hjx hj => by
    have hmj := ha.mn hj
    have h4 := hall (S.mn a j).toNat (by omega)
    rw [Int.toNat_of_nonneg hmj.1] at h4
    have h5 := alk_it ha hb hl hm (k := 0) hj
    rw [h4]
    exact h5
  have hmin := (ha.isMin hmi.1 hmi.2).1 (mem_mins.1 (mn_mem h1)).2 (x : Int) ⟨_, h3⟩
  have hmin : S.mn a (ixOf a (x : Int)) ≤ (x : Int) := hmin
  rcases Int.lt_or_eq_of_le hmin with h4 | h4
  · -- then x lies on such a circle
    have h5 := hsame _ h4 h1
    have e1 := alk_it ha hb hl hm (k := qOf a (x : Int)) h1
    rw [h3] at e1
    have e2 := hc.it ha hr hmi.1 hmi.2 (qOf a (x : Int))
    rw [h3, h5] at e2
    rw [e1, ← e2] at hlt
    omega
  · -- then x is the least of its circle, and r's flute would have been good
    have e1 := alk_it ha hb hl hm (k := 0) h1
    rw [show it a 0 (S.mn a (ixOf a (x : Int))) = S.mn a (ixOf a (x : Int)) from rfl, h4] at e1
    have hrx := hr.nth (x := (x : Int)) (by omega) (by omega)
    have hlt2 : nth r (x : Int) < X a b (ixOf a (x : Int)) := by
      rw [e1] at hlt; exact hlt
    have hg := hX.2.2.2.2 (nth r (x : Int)) hrx.1 hlt2
    have : goodX a b (ixOf a (x : Int)) (nth r (x : Int)) = true := goodX_iff.2 ⟨fun ⟨j, hj, hy⟩ => ?_, by
      rw [hc.per ha hb hr (by omega) (by omega)]
      show _ = S.per a (S.mn a (ixOf a (x : Int)))
      rw [h4]⟩
    · rw [hg] at this; cases this
    · -- a circle of b that an earlier one has
      have hjc : j < cyc a := by omega
      have hXj := X_spec hb hm hjc
      have hmj := ha.mn hjc
      have hlt3 : S.mn a j < (x : Int) := by
        rw [← h4]
        unfold S.mn
        have := List.pairwise_iff_getElem.1 (List.Pairwise.sublist (List.filter_sublist (p := fun i : Nat => isMin a (i : Int))) (List.pairwise_lt_range (n := a.length))) j (ixOf a (x : Int)) hjc h1 hj
        have g1 : (mins a).getD j 0 = (mins a)[j] := by rw [List.getD_eq_getElem?_getD, List.getElem?_eq_getElem hjc]; rfl
        have g2 : (mins a).getD (ixOf a (x : Int)) 0 = (mins a)[ixOf a (x : Int)] := by rw [List.getD_eq_getElem?_getD, List.getElem?_eq_getElem h1]; rfl
        rw [g1, g2]
        have t : (mins a)[j] < (mins a)[ixOf a (x : Int)] := this
        omega
      have h5 := hsame j hlt3 hjc
      obtain ⟨k, hk⟩ := (hb.mem_circ hXj.1 hXj.2.1).1 hy
      have e2 := hc.it ha hr hmj.1 hmj.2 k
      rw [h5, hk] at e2
      have hi := ha.it hmj.1 hmj.2 k
      have e3 := hr.inj (by omega) (by omega) hi.1 (by rw [hc.1]; exact hi.2) e2
      have := ha.mn_uni (i := j) (j := ixOf a (x : Int)) (a := (x : Int)) hjc h1 ⟨k, e3.symm⟩ ⟨_, h3⟩
      omega
end
end Go.Fip.S
