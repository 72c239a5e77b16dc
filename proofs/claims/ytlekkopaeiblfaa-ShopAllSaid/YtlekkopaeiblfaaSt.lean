/- The order of the shortest day ends with it; benches exchanged. -/
import Derived.Test.YtlekkopaeiblfaaSm
set_option linter.unusedVariables false
set_option linter.unusedSimpArgs false
set_option linter.unusedSectionVars false
set_option linter.unnecessarySimpa false
namespace Go.Fip.S
/-- The sum of f over the first k of a list, of numbers below k. -/
def psum (f : Int → Int) (R : List Int) : Nat → Int
  | 0 => 0
  | k + 1 => psum f R k + f (nth R (k : Int))
def usum (f : Int → Int) : Nat → Int
  | 0 => 0
  | k + 1 => usum f k + f (k : Int)
theorem psum_take (f : Int → Int) (R : List Int) : ∀ k, k ≤ R.length → psum f R k = ((R.take k).map f).sum
  | 0, _ => rfl
  | k + 1, h => by
    rw [psum, psum_take f R k (by omega), ← take_snoc (show k < R.length by omega), List.map_append, List.sum_append]
    simp
theorem psum_all (f : Int → Int) (R : List Int) : psum f R R.length = (R.map f).sum := by
  rw [psum_take f R _ (Nat.le_refl _), List.take_length]
theorem perm_usum (f : Int → Int) : ∀ (n : Nat) (L : List Int), L.length = n → (∀ i, i < n → ((i : Nat) : Int) ∈ L) → (L.map f).sum = usum f n
  | 0, L, hl, _ => by
    have : L = [] := List.eq_nil_of_length_eq_zero hl
    subst this; rfl
  | n + 1, L, hl, h => by
    have hm := h n (by omega)
    rw [perm_sum ((List.perm_cons_erase hm).map f), List.map_cons, List.sum_cons, perm_usum f n (L.erase (n : Int)) (by rw [List.length_erase_of_mem hm, hl]; rfl) (fun i hi => (List.mem_erase_of_ne (by omega)).2 (h i (by omega))), usum]
    omega
theorem usum0 (l : List Pr) : ∀ k, usum (fun i => (nth l i).1) k = sumTo l 0 k
  | 0 => rfl
  | k + 1 => by rw [usum, usum0 l k, sum0]
theorem usum1 (l : List Pr) : ∀ k, usum (fun i => (nth l i).2) k = sumTo l 1 k
  | 0 => rfl
  | k + 1 => by rw [usum, usum1 l k, sum1]
theorem firstsTo_nth (one b : Int) : ∀ k i : Nat, i < k → nth (firstsTo one b k) (i : Int) = if (i : Int) = one then b else 1 - b
  | k + 1, i, h => by
    show nth (_ ++ _) _ = _
    rcases Nat.lt_or_eq_of_le (Nat.le_of_lt_succ h) with h1 | rfl
    · rw [nth_append_l (by omega) (by rw [firstsTo_length]; omega), firstsTo_nth one b k i h1]
    · rw [nth_snoc (by rw [firstsTo_length])]
section
variable {l : List Pr} {R : List Int} {r : Int}
theorem ord_of_mem {n : Nat} {B U F : List Int} (hB : B.length = n) (hU : U.length = n) (hF : F.length = n) (mB : ∀ i, i < n → ((i : Nat) : Int) ∈ B) (mU : ∀ i, i < n → ((i : Nat) : Int) ∈ U) (mF : ∀ i, i < n → 0 ≤ nth F ((i : Nat) : Int) ∧ nth F (i : Int) ≤ 1) : Ord n B U F :=
  ⟨hB, hU, hF, fun i hi => ⟨place_iff.2 (mB i hi), place_iff.2 (mU i hi), (mF i hi).1, (mF i hi).2⟩⟩
variable (l R r)
/-- When the turning of one ends, and of those before it. -/
def turnEnd : Nat → Int
  | 0 => (nth l r).2
  | k + 1 => max (psum (fun i => (nth l i).1) R (k + 1)) (turnEnd k) + (nth l (nth R (k : Int))).2
variable {l R r}
theorem opt (hj : Jobs l) (hn : R.length + 1 = l.length) (hr0 : 0 ≤ r ∧ r < (l.length : Int)) (hin : ∀ i, i < l.length → ((i : Nat) : Int) ∈ R ++ [r]) (k0 : Nat)
    (hs : ∀ k, k < k0 → k < R.length → (nth l (nth R (k : Int))).1 ≤ (nth l (nth R (k : Int))).2 ∧ (nth l (nth R (k : Int))).1 ≤ (nth l r).2)
    (hl : ∀ k, k0 ≤ k → k < R.length → (nth l (nth R (k : Int))).2 ≤ (nth l (nth R (k : Int))).1 ∧ (nth l (nth R (k : Int))).2 ≤ (nth l r).1) :
    Ord l.length (R ++ [r]) ([r] ++ R) (firstsTo r 1 l.length) ∧ ∃ p, SolP l (R ++ [r]) ([r] ++ R) (firstsTo r 1 l.length) p ∧ endOf l p ≤ shortestOf l := by
  have hO : Ord l.length (R ++ [r]) ([r] ++ R) (firstsTo r 1 l.length) := ord_of_mem (by simp; omega) (by simp; omega) (firstsTo_length _ _ _) hin
    (fun i hi => by have := hin i hi; simp only [List.mem_append, List.mem_singleton] at this ⊢; exact this.symm) (fun i hi => by rw [firstsTo_nth _ _ _ _ hi]; split <;> omega)
  refine ⟨hO, ?_⟩
  have rB := hO.row 0
  have rU := hO.row 1
  have eB : row (R ++ [r]) ([r] ++ R) 0 = R ++ [r] := by unfold S.row; rw [if_neg (by omega)]
  have eU : row (R ++ [r]) ([r] ++ R) 1 = [r] ++ R := by unfold S.row; rw [if_pos rfl]
  rw [eB] at rB
  rw [eU] at rU
  obtain ⟨b1, b2, b3, b4⟩ := rB
  obtain ⟨u1, u2, u3, u4⟩ := rU
  have uR : ∀ k : Nat, k < R.length → nth ([r] ++ R) ((k + 1 : Nat) : Int) = nth R (k : Int) := fun k hk => by
    rw [nth_append_r (by simp; omega)]
    congr 1
    simp
  have hRr : ∀ k : Nat, k < R.length → nth R (k : Int) ≠ r := fun k hk e => by
    have h1 := b3 (k : Int) (by omega) (by omega)
    have h2 := b3 (R.length : Int) (by omega) (by omega)
    rw [nth_append_l (by omega) (by omega), e] at h1
    rw [nth_snoc rfl] at h2
    omega
  have job : ∀ j : Int, 0 ≤ j → j < (l.length : Int) → (j = r ∧ place (R ++ [r]) j = (R.length : Int) ∧ place ([r] ++ R) j = 0 ∧ nth (firstsTo r 1 l.length) j = 1) ∨
      ∃ k : Nat, k < R.length ∧ nth R (k : Int) = j ∧ place (R ++ [r]) j = (k : Int) ∧ place ([r] ++ R) j = (k : Int) + 1 ∧ nth (firstsTo r 1 l.length) j = 0 := fun j h0 h1 => by
    have hp := b4 j h0 h1
    have hh := (place_hit hp.1).1
    have hF := firstsTo_nth r 1 l.length j.toNat (by omega)
    rw [show ((j.toNat : Nat) : Int) = j by omega] at hF
    by_cases e : place (R ++ [r]) j = (R.length : Int)
    · left
      rw [e, nth_snoc rfl] at hh
      subst hh
      refine ⟨rfl, e, ?_, by rw [hF, if_pos rfl]⟩
      have := u3 0 (by omega) (by omega)
      exact this
    · right
      have hk : (place (R ++ [r]) j).toNat < R.length := by omega
      have ek : (((place (R ++ [r]) j).toNat : Nat) : Int) = place (R ++ [r]) j := by omega
      rw [nth_append_l hp.1 (by omega), ← ek] at hh
      refine ⟨(place (R ++ [r]) j).toNat, hk, hh, ek.symm, ?_, ?_⟩
      · have := u3 (((place (R ++ [r]) j).toNat + 1 : Nat) : Int) (by omega) (by omega)
        rw [uR _ hk, hh] at this
        rw [this]; omega
      · rw [hF, if_neg (fun e2 => hRr _ hk (hh.trans e2))]; omega
  let A := psum (fun i => (nth l i).1) R
  let T := psum (fun i => (nth l i).2) R
  have A1 : ∀ k, A (k + 1) = A k + (nth l (nth R (k : Int))).1 := fun k => rfl
  have T1 : ∀ k, T (k + 1) = T k + (nth l (nth R (k : Int))).2 := fun k => rfl
  have A0 : A 0 = 0 := rfl
  have T0 : T 0 = 0 := rfl
  have S0 : turnEnd l R r 0 = (nth l r).2 := rfl
  have S1 : ∀ k, turnEnd l R r (k + 1) = max (A (k + 1)) (turnEnd l R r k) + (nth l (nth R (k : Int))).2 := fun k => rfl
  have inR : ∀ k : Nat, k < R.length → 0 ≤ nth R (k : Int) ∧ nth R (k : Int) < (l.length : Int) := fun k hk => by
    have := b2 (k : Int) (by omega) (by omega)
    rwa [nth_append_l (by omega) (by omega)] at this
  have okR : ∀ k : Nat, k < R.length → okJob (nth l (nth R (k : Int))) := fun k hk => hj.nth (inR k hk).1 (inR k hk).2
  have okr := hj.nth hr0.1 hr0.2
  have sumB : A R.length + (nth l r).1 = sumOf l 0 := by
    have h := perm_usum (fun i => (nth l i).1) l.length (R ++ [r]) b1 hin
    rw [List.map_append, List.sum_append, ← psum_all, usum0] at h
    show psum _ R R.length + _ = sumTo l 0 l.length
    simpa using h
  have sumT : T R.length + (nth l r).2 = sumOf l 1 := by
    have h := perm_usum (fun i => (nth l i).2) l.length (R ++ [r]) b1 hin
    rw [List.map_append, List.sum_append, ← psum_all, usum1] at h
    show psum _ R R.length + _ = sumTo l 1 l.length
    simpa using h
  have geB := (shortTo_ge l l.length).1
  have geT := (shortTo_ge l l.length).2.1
  have geA := (shortTo_ge l l.length).2.2 r.toNat (by omega)
  have eM : shortTo l l.length = shortestOf l := rfl
  unfold alone at geA
  rw [show ((r.toNat : Nat) : Int) = r by omega] at geA
  rw [eM] at geB geT geA
  have Anon : ∀ k, k ≤ R.length → 0 ≤ A k := by
    intro k
    induction k with
    | zero => intro _; rw [A0]; exact Int.le_refl _
    | succ k ih =>
      intro hk
      have h1 := okR k (by omega)
      unfold okJob at h1
      have := ih (by omega)
      rw [A1]; omega
  have Amon : ∀ k, k ≤ R.length → A k ≤ A R.length := by
    have : ∀ d k, k + d = R.length → A k ≤ A R.length := by
      intro d
      induction d with
      | zero => intro k hk; rw [show k = R.length by omega]; exact Int.le_refl _
      | succ d ih =>
        intro k hk
        have h1 := okR k (by omega)
        unfold okJob at h1
        have := ih (k + 1) (by omega)
        rw [A1] at this; omega
    exact fun k hk => this (R.length - k) k (by omega)
  have Tmon : ∀ k, k ≤ R.length → T k ≤ T R.length := by
    have : ∀ d k, k + d = R.length → T k ≤ T R.length := by
      intro d
      induction d with
      | zero => intro k hk; rw [show k = R.length by omega]; exact Int.le_refl _
      | succ d ih =>
        intro k hk
        have h1 := okR k (by omega)
        unfold okJob at h1
        have := ih (k + 1) (by omega)
        rw [T1] at this; omega
    exact fun k hk => this (R.length - k) k (by omega)
  have front : ∀ k, k ≤ k0 → k ≤ R.length → A k ≤ T k := by
    intro k
    induction k with
    | zero => intro _ _; rw [A0, T0]; exact Int.le_refl _
    | succ k ih =>
      intro h1 h2
      have := hs k (by omega) (by omega)
      have := ih (by omega) (by omega)
      rw [A1, T1]; omega
  have back : ∀ d k, k + d = R.length → k0 ≤ k → T R.length - T k ≤ A R.length - A k := by
    intro d
    induction d with
    | zero => intro k hk _; rw [show k = R.length by omega]; omega
    | succ d ih =>
      intro k hk hk0
      have h1 := hl k hk0 (by omega)
      have := ih (k + 1) (by omega) (by omega)
      rw [A1, T1] at this; omega
  have claim : ∀ k, k < R.length → A (k + 1) + (T R.length - T k) ≤ shortestOf l := fun k hk => by
    by_cases h : k < k0
    · have h1 := hs k h hk
      have h2 := front k (by omega) (by omega)
      rw [A1]; omega
    · have h1 := hl k (by omega) hk
      have h2 := back (R.length - (k + 1)) (k + 1) (by omega) (by omega)
      rw [T1] at h2
      omega
  have turn : ∀ k, k ≤ R.length → turnEnd l R r k + (T R.length - T k) ≤ shortestOf l := by
    intro k
    induction k with
    | zero => intro _; rw [S0, T0]; omega
    | succ k ih =>
      intro hk
      have h1 := ih (by omega)
      have h2 := claim k (by omega)
      rw [S1, T1]; omega
  have Snon : ∀ k, k ≤ R.length → 0 ≤ turnEnd l R r k := by
    intro k
    cases k with
    | zero => intro _; rw [S0]; unfold okJob at okr; omega
    | succ k =>
      intro hk
      have h1 := okR k (by omega)
      have h2 := Anon (k + 1) hk
      unfold okJob at h1
      rw [S1]; omega
  -- the times
  let g : Nat → Int := fun w => if (w : Int) % 2 = 0 then (if place (R ++ [r]) ((w : Int) / 2) = (R.length : Int) then max (A R.length) (nth l r).2 else A (place (R ++ [r]) ((w : Int) / 2)).toNat)
    else (if place (R ++ [r]) ((w : Int) / 2) = (R.length : Int) then 0 else max (A ((place (R ++ [r]) ((w : Int) / 2)).toNat + 1)) (turnEnd l R r (place (R ++ [r]) ((w : Int) / 2)).toNat))
  have gv : ∀ w : Nat, w < 2 * l.length → ((w : Int) / 2 = r ∧ place (R ++ [r]) ((w : Int) / 2) = (R.length : Int) ∧ place ([r] ++ R) ((w : Int) / 2) = 0 ∧ nth (firstsTo r 1 l.length) ((w : Int) / 2) = 1 ∧ (((w : Int) % 2 = 0 ∧ g w = max (A R.length) (nth l r).2 ∧ at2 l (w : Int) = (nth l r).1) ∨ ((w : Int) % 2 = 1 ∧ g w = 0 ∧ at2 l (w : Int) = (nth l r).2))) ∨
      ∃ k : Nat, k < R.length ∧ nth R (k : Int) = (w : Int) / 2 ∧ place (R ++ [r]) ((w : Int) / 2) = (k : Int) ∧ place ([r] ++ R) ((w : Int) / 2) = (k : Int) + 1 ∧ nth (firstsTo r 1 l.length) ((w : Int) / 2) = 0 ∧
        (((w : Int) % 2 = 0 ∧ g w = A k ∧ at2 l (w : Int) = (nth l (nth R (k : Int))).1) ∨ ((w : Int) % 2 = 1 ∧ g w = max (A (k + 1)) (turnEnd l R r k) ∧ at2 l (w : Int) = (nth l (nth R (k : Int))).2)) := fun w hw => by
    rcases job ((w : Int) / 2) (by omega) (by omega) with ⟨h1, h2, h3, h4⟩ | ⟨k, h1, h2, h3, h4, h5⟩
    · left
      refine ⟨h1, h2, h3, h4, ?_⟩
      by_cases e : (w : Int) % 2 = 0
      · left; refine ⟨e, ?_, ?_⟩
        · show (if _ then _ else _) = _; rw [if_pos e, if_pos h2]
        · unfold at2; rw [if_pos e, h1]
      · right; refine ⟨by omega, ?_, ?_⟩
        · show (if _ then _ else _) = _; rw [if_neg e, if_pos h2]
        · unfold at2; rw [if_neg e, h1]
    · right
      refine ⟨k, h1, h2, h3, h4, h5, ?_⟩
      by_cases e : (w : Int) % 2 = 0
      · left; refine ⟨e, ?_, ?_⟩
        · show (if _ then _ else _) = _; rw [if_pos e, if_neg (by omega), h3]; rfl
        · unfold at2; rw [if_pos e, h2]
      · right; refine ⟨by omega, ?_, ?_⟩
        · show (if _ then _ else _) = _; rw [if_neg e, if_neg (by omega), h3]; rfl
        · unfold at2; rw [if_neg e, h2]
  have hfeas : Feas l (R ++ [r]) ([r] ++ R) (firstsTo r 1 l.length) g := fun w hw => by
    constructor
    · rcases gv w hw with ⟨h1, h2, h3, h4, ⟨h5, h6, _⟩ | ⟨h5, h6, _⟩⟩ | ⟨k, h1, h2, h3, h4, h5, ⟨h6, h7, _⟩ | ⟨h6, h7, _⟩⟩
      · rw [h6]; have := Anon R.length (Nat.le_refl _); omega
      · rw [h6]; omega
      · rw [h7]; exact Anon k (by omega)
      · rw [h7]; have := Anon (k + 1) (by omega); omega
    · intro v hv hW
      unfold Waits S.row at hW
      rcases gv w hw with ⟨h1, h2, h3, h4, ⟨h5, h6, h7⟩ | ⟨h5, h6, h7⟩⟩ | ⟨k, h1, h2, h3, h4, h5, ⟨h6, h7, h8⟩ | ⟨h6, h7, h8⟩⟩ <;>
      rcases gv v hv with ⟨i1, i2, i3, i4, ⟨i5, i6, i7⟩ | ⟨i5, i6, i7⟩⟩ | ⟨q, i1, i2, i3, i4, i5, ⟨i6, i7, i8⟩ | ⟨i6, i7, i8⟩⟩ <;>
      first
      | (rw [if_pos (by omega)] at hW; omega)
      | (rw [if_neg (by omega), if_neg (by omega)] at hW; omega)
      | (rw [if_neg (by omega), if_pos (by omega)] at hW; omega)
      | (rw [if_neg (by omega), if_neg (by omega)] at hW; have e : q + 1 = R.length := by omega
         have := A1 q; rw [e] at this; omega)
      | (rw [if_neg (by omega), if_neg (by omega)] at hW; have e : k = q + 1 := by omega
         subst e; have := A1 q; omega)
      | (rw [if_neg (by omega), if_pos (by omega)] at hW; have e : k = 0 := by omega
         subst e; rw [h7, S0]; omega)
      | (rw [if_neg (by omega), if_pos (by omega)] at hW; have e : k = q + 1 := by omega
         subst e; have := S1 q; rw [h7, i7, i8]; omega)
      | (rw [if_pos (by omega)] at hW; exact absurd (h2.trans (hW.1.trans i1)) (hRr k h1))
      | (rw [if_pos (by omega)] at hW; exact absurd (i2.trans (hW.1.symm.trans h1)) (hRr q i1))
      | (rw [if_pos (by omega)] at hW; have e : k = q := by
           have h10 : (k : Int) = (q : Int) := by rw [← h3, ← i3, hW.1]
           omega
         subst e; have := A1 k; omega)
  obtain ⟨p, hp, hle⟩ := sol_of_feas hj hfeas
  refine ⟨p, hp, endTo_le (by unfold okJob at okr; omega) _ fun w hw => ?_⟩
  have h9 := hle w hw
  rcases gv w hw with ⟨h1, h2, h3, h4, ⟨h5, h6, h7⟩ | ⟨h5, h6, h7⟩⟩ | ⟨k, h1, h2, h3, h4, h5, ⟨h6, h7, h8⟩ | ⟨h6, h7, h8⟩⟩
  · omega
  · unfold okJob at okr; omega
  · have := Amon (k + 1) (by omega)
    rw [A1] at this
    unfold okJob at okr; omega
  · have := turn (k + 1) (by omega)
    have := Tmon (k + 1) (by omega)
    rw [S1] at *
    omega
end
end Go.Fip.S
