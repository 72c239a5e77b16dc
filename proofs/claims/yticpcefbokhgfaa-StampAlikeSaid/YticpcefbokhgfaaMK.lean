/- Joined texts: So. -/
import Derived.Test.YticpcefbokhgfaaMI
set_option linter.unusedVariables false
set_option linter.unusedSimpArgs false
set_option linter.unusedSectionVars false
namespace Go.Fip.S
open Go.Fip
theorem un_lt {b : List Int} {y : Int} (hu : un b = none) (y0 : 0 ≤ y) (y1 : y < (b.length : Int)) : 0 ≤ nth b y := by
  have := un_none.1 hu y.toNat (by omega)
  rwa [Int.toNat_of_nonneg y0] at this
theorem Good.full {l r : List Int} (hj : J l) (hg : Good l r) (hu : un r = none) : J r ∧ behind r r = l := by
  have hl := hg.1
  have hv : ∀ y, 0 ≤ y → y < (l.length : Int) → 0 ≤ nth r y ∧ nth r y < (l.length : Int) ∧ nth r (nth r y) = nth l y := fun y y0 y1 => by
    have h1 := un_lt hu y0 (by omega)
    rcases hg.2 y y0 y1 with h2 | h2
    · omega
    · exact h2
  refine ⟨⟨by rw [hl]; exact hj.1, by rw [hl]; exact hj.2.1, fun i hi => ?_, Good.diff hj hg⟩, ext_nth (by rw [behind_length, hl]) fun i hi => ?_⟩
  · rw [hl] at hi ⊢
    have := hv (i : Int) (by omega) (by omega)
    exact ⟨this.1, this.2.1⟩
  · rw [behind_length, hl] at hi
    rw [nth_behind (by omega) (by omega)]
    exact (hv _ (by omega) (by omega)).2.2
/-- r goes on as s does. -/
def Agr (l b s : List Int) : Prop := ∀ y, 0 ≤ y → y < (l.length : Int) → 0 ≤ nth b y → nth b y = nth s y
section
variable {l s : List Int} (hj : J l) (hs : J s) (hl : s.length = l.length) (hr : ∀ y, 0 ≤ y → y < (l.length : Int) → nth s (nth s y) = nth l y)
include hj hs hl hr
theorem alt_root {i : Int} (i0 : 0 ≤ i) (i1 : i < (l.length : Int)) : ∀ k, alt l i (nth s i) k = it s k i
  | 0 => rfl
  | 1 => rfl
  | k + 2 => by
    rw [alt_step, alt_root i0 i1 k]
    have := hs.it (a := i) i0 (by omega) k
    rw [← hr _ this.1 (by omega)]
    rfl
theorem Agr.fill {b : List Int} (hb : Good l b) (ha : Agr l b s) {i : Int} (i0 : 0 ≤ i) (i1 : i < (l.length : Int)) (hi : nth b i < 0) : S.free l b i (nth s i) = true ∧ Agr l (fillN l b i (nth s i)) s := by
  have hsi := hs.nth (x := i) i0 (by omega)
  obtain ⟨m, hm, hiff⟩ := nice_iff hj hb i0 i1 hsi.1 (by omega) hi
  have hat := alt_root hj hs hl hr i0 i1
  have hal := fun k => hj.alt i0 i1 hsi.1 (by omega : nth s i < (l.length : Int)) k
  have hag : Agr l (fillN l b i (nth s i)) s := fun y y0 y1 hy => by
    by_cases h1 : ∃ j, j < m ∧ y = S.alt l i (nth s i) j
    · obtain ⟨j, hjm, rfl⟩ := h1
      rw [hm.val j hjm, hat, hat]; rfl
    · have h2 := hm.oth y y0 y1 (fun j hjm e => h1 ⟨j, hjm, e⟩)
      rw [h2] at hy ⊢
      exact ha y y0 y1 hy
  refine ⟨hiff.1 ⟨?_, fun p hp q hq e => ?_⟩, hag⟩
  · rw [hag _ (hal m).1 (hal m).2 hm.stop, hat, hat]; rfl
  · have hlen := hm.len
    have e1 := hag (p : Int) (by omega) (by omega) (by omega)
    have e2 := hag (q : Int) (by omega) (by omega) (by omega)
    have := hs.inj (x := (q : Int)) (y := (p : Int)) (by omega) (by omega) (by omega) (by omega) (by rw [← e1, ← e2]; exact e.1)
    omega
theorem Agr.par : ∀ (n : Nat) (b : List Int), negs b = n → Good l b → Agr l b s → par l b = true := by
  intro n
  induction n using Nat.strongRecOn with
  | ind n ih =>
    intro b hn hb ha
    cases hu : un b with
    | none => exact par_full hj hb.1 hu
    | some i =>
      obtain ⟨h1, h2, _⟩ := un_some.1 hu
      have hbl := hb.1
      have hsi := hs.nth (x := (i : Int)) (by omega) (by omega)
      obtain ⟨hf, hag⟩ := Agr.fill hj hs hl hr hb ha (i := (i : Int)) (by omega) (by omega) h2
      rw [← fill_par hj hb (by omega) (by omega) hsi.1 (by omega) h2 hf]
      exact ih _ (by rw [← hn]; exact fill_negs hj hb (by omega) (by omega) hsi.1 (by omega) h2 hf) _ rfl (fill_good hj hb (by omega) (by omega) hsi.1 (by omega) h2 hf) hag
theorem root_none : noneL l = 0 := (none1_par hj).1 (Agr.par hj hs hl hr _ _ rfl none1_good (fun y y0 y1 h => by rw [nth_none1 y0 y1] at h; omega))
omit hs hl hr in
theorem rt_keep : ∀ (n : Nat) (b : List Int), negs b = n → Good l b → S.par l b = true → ∀ y, 0 ≤ y → y < (l.length : Int) → 0 ≤ nth b y → nth (rt l b) y = nth b y := by
  intro n
  induction n using Nat.strongRecOn with
  | ind n ih =>
    intro b hn hb hp y y0 y1 hy
    cases hu : un b with
    | none => rw [rt_none hu]
    | some i =>
      obtain ⟨h1, h2, _⟩ := un_some.1 hu
      have hbl := hb.1
      obtain ⟨x0, x1, hx, _⟩ := un_first hj hb hp hu
      rw [rt_step hj hb hp hu]
      obtain ⟨m, hm⟩ := fill_stop hj (i := (i : Int)) (by omega) (by omega) x0 x1 (b := b) hb.1
      have e : nth (fillN l b (i : Int) (first l.length (free l b (i : Int)))) y = nth b y := hm.oth y y0 y1 (fun j hjm e => by
        have := hm.unb j hjm
        rw [← e] at this; omega)
      rw [ih _ (by rw [← hn]; exact fill_negs hj hb (by omega) (by omega) x0 x1 h2 hx) _ rfl (fill_good hj hb (by omega) (by omega) x0 x1 h2 hx) (by rw [fill_par hj hb (by omega) (by omega) x0 x1 h2 hx]; exact hp) y y0 y1 (by rw [e]; exact hy), e]
theorem rt_first : ∀ (n : Nat) (b : List Int), negs b = n → Good l b → S.par l b = true → Agr l b s → ¬ Lex s (rt l b) := by
  intro n
  induction n using Nat.strongRecOn with
  | ind n ih =>
    intro b hn hb hp ha
    have hbl := hb.1
    cases hu : un b with
    | none =>
      rw [rt_none hu]
      rintro ⟨i, ⟨hi, hi2⟩, hlt, _⟩
      have := ha (i : Int) (by omega) (by omega) (un_lt hu (by omega) (by omega))
      omega
    | some i =>
      obtain ⟨h1, h2, h3⟩ := un_some.1 hu
      obtain ⟨x0, x1, hx, hxa⟩ := un_first hj hb hp hu
      have hsi := hs.nth (x := (i : Int)) (by omega) (by omega)
      obtain ⟨hf, hag⟩ := Agr.fill hj hs hl hr hb ha (i := (i : Int)) (by omega) (by omega) h2
      by_cases he : first l.length (free l b (i : Int)) = nth s (i : Int)
      · rw [rt_step hj hb hp hu, he]
        exact ih _ (by rw [← hn]; exact fill_negs hj hb (by omega) (by omega) hsi.1 (by omega) h2 hf) _ rfl (fill_good hj hb (by omega) (by omega) hsi.1 (by omega) h2 hf) (by rw [fill_par hj hb (by omega) (by omega) hsi.1 (by omega) h2 hf]; exact hp) hag
      · have hlt : first l.length (free l b (i : Int)) < nth s (i : Int) := by
          rcases Int.lt_trichotomy (first l.length (free l b (i : Int))) (nth s (i : Int)) with h | h | h
          · exact h
          · exact absurd h he
          · have := hxa _ hsi.1 h; rw [hf] at this; cases this
        have hri : nth (rt l b) (i : Int) = first l.length (free l b (i : Int)) := by
          rw [rt_step hj hb hp hu]
          obtain ⟨m, hm⟩ := fill_stop hj (i := (i : Int)) (by omega) (by omega) x0 x1 (b := b) hb.1
          obtain ⟨m1, _, _⟩ := hm.of_free hj hb (by omega) (by omega) x0 x1 h2 hx
          have e := hm.val 0 m1
          rw [alt_zero, alt_one] at e
          rw [rt_keep hj _ _ rfl (fill_good hj hb (by omega) (by omega) x0 x1 h2 hx) (by rw [fill_par hj hb (by omega) (by omega) x0 x1 h2 hx]; exact hp) _ (by omega) (by omega) (by rw [e]; exact x0), e]
        rintro ⟨k, ⟨hk, hk2⟩, hklt, hkall⟩
        rcases Nat.lt_trichotomy k i with h | h | h
        · have e1 := rt_keep hj _ _ rfl hb hp (k : Int) (by omega) (by omega) (h3 k h)
          have e2 := ha (k : Int) (by omega) (by omega) (h3 k h)
          omega
        · subst h; omega
        · have := hkall i h; omega
end
theorem root_of {l : List Int} (hj : J l) (hn : noneL l = 0) : J (rt l (none1 l.length)) ∧ behind (rt l (none1 l.length)) (rt l (none1 l.length)) = l ∧ (rt l (none1 l.length)).length = l.length := by
  have hp := (none1_par hj).2 hn
  obtain ⟨hg, hu⟩ := rt_good hj _ _ rfl none1_good hp
  obtain ⟨a, b⟩ := Good.full hj hg hu
  exact ⟨a, b, hg.1⟩
theorem noneL_val {l : List Int} (h : ¬ noneL l = 0) : noneP l (noneL l) = true := by
  unfold noneL at h ⊢
  cases hf : (List.range 11).find? (noneP l) with
  | none => rw [hf] at h; exact absurd rfl h
  | some n => exact (List.find?_range_eq_some.1 hf).1
theorem noneP_none {l : List Int} (hj : J l) (h : noneL l = 0) (n : Nat) : noneP l n = false := by
  cases hn : noneP l n with
  | false => rfl
  | true =>
    exfalso
    have h1 := noneP_pos hn
    have h2 := hj.noneP_le hn
    have := hj.2.1
    have hp := (none1_par hj).2 h
    have h3 := (par_iff hj).1 hp n (by unfold noneP at hn; rw [decide_eq_true_eq] at hn; exact hn.1)
    rw [none1_U hj] at h3
    obtain ⟨c, hc⟩ := Nat.dvd_of_mod_eq_zero h3
    have h4 : many l n = 2 * c := Nat.eq_of_mul_eq_mul_left h1 (by rw [hc, Nat.mul_comm 2 n, Nat.mul_assoc])
    unfold noneP at hn
    rw [decide_eq_true_eq] at hn
    omega
theorem sq_root {l : List Int} (hj : J l) : noneL (pw l 2) = 0 ∧ ¬ Lex l (rt (pw l 2) (none1 (pw l 2).length)) := by
  have hJ := hj.ofPw 2
  have hlen : (pw l 2).length = l.length := pw_length
  have hr : ∀ y, 0 ≤ y → y < ((pw l 2).length : Int) → nth l (nth l y) = nth (pw l 2) y := fun y y0 y1 => by
    rw [hlen] at y1
    rw [nth_pw y0 y1]; rfl
  have hn := root_none hJ hj hlen.symm hr
  refine ⟨hn, rt_first hJ hj hlen.symm hr _ _ rfl none1_good ((none1_par hJ).2 hn) (fun y y0 y1 h => by rw [nth_none1 y0 y1] at h; omega)⟩
/-- A habit by new numbers. -/
def cjl (l r : List Int) : List Int := (List.range l.length).map fun y : Nat => nth r (nth l (place r (y : Int)))
theorem place_J {r : List Int} (h : J r) {y : Int} (y0 : 0 ≤ y) (y1 : y < (r.length : Int)) : 0 ≤ place r y ∧ place r y < (r.length : Int) ∧ nth r (place r y) = y := by
  obtain ⟨x, x0, x1, e⟩ := h.surj y0 y1
  have h0 : 0 ≤ place r y := place_iff.2 ⟨x.toNat, by omega, by rw [Int.toNat_of_nonneg x0]; exact e⟩
  have := place_nth h0
  exact ⟨h0, this.1, this.2⟩
theorem cjl_length {l r : List Int} : (cjl l r).length = l.length := by simp [cjl]
theorem nth_cjl {l r : List Int} {y : Int} (y0 : 0 ≤ y) (y1 : y < (l.length : Int)) : nth (cjl l r) y = nth r (nth l (place r y)) := by
  obtain ⟨n, rfl⟩ := Int.eq_ofNat_of_zero_le y0
  unfold cjl
  rw [nth_nat (by simp; omega)]
  simp
section
variable {l r : List Int} (hj : J l) (hr : J r) (hl : r.length = l.length)
include hj hr hl
theorem cjl_conj : Conj l (cjl l r) r := by
  refine ⟨hl, cjl_length, fun x x0 x1 => ?_⟩
  have h1 := hr.nth (x := x) x0 (by omega)
  rw [nth_cjl h1.1 (by omega)]
  have h2 := place_J hr h1.1 h1.2
  rw [hr.inj h2.1 h2.2.1 x0 (by omega) h2.2.2]
theorem cjl_J : J (cjl l r) := by
  have hv : ∀ y, 0 ≤ y → y < (l.length : Int) → 0 ≤ nth (cjl l r) y ∧ nth (cjl l r) y < (l.length : Int) := fun y y0 y1 => by
    rw [nth_cjl y0 y1]
    have h1 := place_J hr y0 (by omega)
    have h2 := hj.nth (x := place r y) h1.1 (by omega)
    have := hr.nth h2.1 (by omega)
    omega
  refine ⟨by rw [cjl_length]; exact hj.1, by rw [cjl_length]; exact hj.2.1, fun i hi => ?_, fun i hi k hk e => ?_⟩
  · rw [cjl_length] at hi ⊢
    exact hv _ (by omega) (by omega)
  · rw [cjl_length] at hi
    have e := e.1
    rw [nth_cjl (by omega) (by omega), nth_cjl (by omega) (by omega)] at e
    have p1 := place_J hr (y := (k : Int)) (by omega) (by omega)
    have p2 := place_J hr (y := (i : Int)) (by omega) (by omega)
    have q1 := hj.nth (x := place r (k : Int)) p1.1 (by omega)
    have q2 := hj.nth (x := place r (i : Int)) p2.1 (by omega)
    have e2 := hr.inj q1.1 (by omega) q2.1 (by omega) e
    have e3 := hj.inj p1.1 (by omega) p2.1 (by omega) e2
    have h3 := p1.2.2
    rw [e3, p2.2.2] at h3
    omega
theorem cjl_done {o : List Int} (ho : o.length = l.length) (h : ∀ i, i < l.length → nth o (nth r (i : Int)) = nth r (nth l (i : Int))) : o = cjl l r := ext_nth (by rw [ho, cjl_length]) fun y hy => by
  rw [ho] at hy
  have p := place_J hr (y := (y : Int)) (by omega) (by omega)
  have := h (place r (y : Int)).toNat (by omega)
  rw [Int.toNat_of_nonneg p.1, p.2.2] at this
  rw [nth_cjl (by omega) (by omega), this]
end
theorem Conj.again {a b r : List Int} (ha : J a) (hb : J b) (hr : J r) (hc : Conj a b r) : again a = again b := by
  have hw : ∀ k, pw a k = right a.length ↔ pw b k = right b.length := fun k => by
    have e1 : ∀ l : List Int, pw l k = right l.length ↔ ∀ x, 0 ≤ x → x < (l.length : Int) → S.it l k x = x := fun l => by
      constructor
      · intro h x x0 x1
        have := nth_pw (l := l) (k := k) x0 x1
        rw [h, nth_right x0 x1] at this
        exact this.symm
      · intro h
        refine ext_nth (by rw [pw_length, right_length]) fun i hi => ?_
        rw [pw_length] at hi
        rw [nth_pw (by omega) (by omega), nth_right (by omega) (by omega), h _ (by omega) (by omega)]
    rw [e1, e1]
    constructor
    · intro h y y0 y1
      obtain ⟨x, x0, x1, rfl⟩ := hr.surj (y := y) y0 (by rw [hc.1, ← hc.2.1]; exact y1)
      rw [hc.it ha hr x0 (by rw [← hc.1]; exact x1), h x x0 (by rw [← hc.1]; exact x1)]
    · intro h x x0 x1
      have hx := hr.nth (x := x) x0 (by rw [hc.1]; exact x1)
      have h1 := h _ hx.1 (by rw [hc.2.1, ← hc.1]; exact hx.2)
      rw [hc.it ha hr x0 x1] at h1
      have hi := ha.it x0 x1 k
      exact hr.inj hi.1 (by rw [hc.1]; exact hi.2) x0 (by rw [hc.1]; exact x1) h1
  have hd : ∀ k, agn a (cyc a) ∣ k ↔ agn b (cyc b) ∣ k := fun k => by rw [← ha.pw_right, ← hb.pw_right]; exact hw k
  have : agn a (cyc a) = agn b (cyc b) := Nat.dvd_antisymm ((hd _).2 (Nat.dvd_refl _)) ((hd _).1 (Nat.dvd_refl _))
  unfold S.again
  rw [this]
theorem noneL_eq {a b : List Int} (h : ∀ p, many a p = many b p) : noneL a = noneL b := by
  have : noneP a = noneP b := funext fun n => by unfold noneP; rw [h]
  unfold noneL
  rw [this]
theorem cn_or {l : List Int} (h : check l 0 = 0) (a : Int) (h1 : 1 ≤ a) (h2 : a ≤ (l.length : Int)) : checkNone l a = 0 ∨ checkNone l a = 14 := by
  by_cases h3 : a % 2 = 1 ∨ (many l a.toNat : Int) % 2 = 0
  · exact .inr (cn3 h (by omega) h3)
  · exact .inl (cn4 h (by omega) h3)
theorem cn_all {l : List Int} (hj : J l) (h : noneL l = 0) (a : Int) (h1 : 1 ≤ a) (h2 : a ≤ (l.length : Int)) : checkNone l a = 14 := by
  have h0 := check_iff.2 hj
  rcases cn_or h0 a h1 h2 with h3 | h3
  · rw [show a = (a.toNat : Int) by omega] at h3
    have := (cn_iff h0 (n := a.toNat) (by omega) (by omega)).1 h3
    rw [noneP_none hj h] at this
    exact absurd this (by simp)
  · exact h3
/-- How far the walk that makes a habit by new numbers has come. -/
def CjP (l r : List Int) (k : Nat) (o : List Int) : Prop := o.length = l.length ∧ ∀ i, i < k → nth o (nth r (i : Int)) = nth r (nth l (i : Int))
theorem CjP.start {l r : List Int} {o : List Int} (h : o.length = l.length) : CjP l r 0 o := ⟨h, fun i hi => absurd hi (Nat.not_lt_zero _)⟩
theorem CjP.step {l r : List Int} (hr : J r) (hl : r.length = l.length) {k : Nat} (hk : k < l.length) {o : List Int} (h : CjP l r k o) : CjP l r (k + 1) (o.set (nth r (k : Int)).toNat (nth r (nth l (k : Int)))) := by
  have p := hr.nth (x := (k : Int)) (by omega) (by omega)
  refine ⟨by rw [List.length_set]; exact h.1, fun i hi => ?_⟩
  have q := hr.nth (x := (i : Int)) (by omega) (by omega)
  rcases Nat.lt_or_ge i k with h1 | h1
  · rw [nth_set' p.1 (by rw [h.1]; omega) q.1 (by rw [h.1]; omega), if_neg (fun e => by have := hr.inj (x := (i : Int)) (by omega) (by omega) (y := (k : Int)) (by omega) (by omega) e; omega)]
    exact h.2 i h1
  · have : i = k := by omega
    subst this
    rw [nth_set' p.1 (by rw [h.1]; omega) p.1 (by rw [h.1]; omega), if_pos rfl]
theorem CjP.done {l r : List Int} (hj : J l) (hr : J r) (hl : r.length = l.length) {o : List Int} (h : CjP l r l.length o) : o = cjl l r := cjl_done hj hr hl h.1 h.2
/-- Both have as many circles of every length below a bound. -/
def eqTo (l m : List Int) (k : Nat) : Prop := ∀ p, p < k → 1 ≤ p → many l p = many m p
instance {l m : List Int} {k : Nat} : Decidable (eqTo l m k) := by unfold eqTo; infer_instance
theorem eqTo_one {l m : List Int} : true = decide (eqTo l m 1) := (decide_eq_true (fun p h1 h2 => absurd h1 (by omega))).symm
theorem eqTo_T {l m : List Int} {k : Nat} (h : eqTo l m k) (hk : 1 ≤ k) : decide ((many l k : Int) = (many m k : Int)) = decide (eqTo l m (k + 1)) := decide_eq_decide.2 ⟨fun e p h1 h2 => by
    rcases Nat.lt_or_ge p k with h3 | h3
    · exact h p h3 h2
    · rw [show p = k by omega]; omega, fun e => by rw [e k (Nat.lt_succ_self k) hk]⟩
theorem eqTo_F {l m : List Int} {k : Nat} (h : ¬ eqTo l m k) : false = decide (eqTo l m (k + 1)) := (decide_eq_false (fun e => h (fun p h1 h2 => e p (by omega) h2))).symm
theorem eqTo_counts {l m : List Int} (hl : J l) (hm : J m) (he : l.length = m.length) : eqTo l m (l.length + 1) ↔ counts l = counts m := ⟨fun h => counts_upto hl hm he (fun p h1 h2 => h p h1 h2), fun h p _ _ => (counts_iff hl hm).1 h p⟩
theorem root_err {l o : List Int} (h : check l 0 = 0) (h1 : check o 0 = 0) (hn : noneL l = noneL o) : (rootR o).2 = (rootR l).2 := by
  by_cases h2 : noneL l = 0
  · rw [ro3 h h2, ro3 h1 (hn ▸ h2)]
  · rw [ro2 h h2, ro2 h1 (fun e => h2 (hn.trans e))]
end Go.Fip.S
