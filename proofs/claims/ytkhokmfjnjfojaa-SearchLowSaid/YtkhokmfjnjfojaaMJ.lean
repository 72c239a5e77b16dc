/- Joined texts: Qv, Ft, Qw. -/
import Derived.Test.YtkhokmfjnjfojaaMI
import Derived.Test.YtkhokmfjnjfojaaMB
import Derived.Test.YtkhokmfjnjfojaaMC
set_option linter.unusedVariables false
set_option linter.unusedSimpArgs false
set_option linter.unusedSectionVars false
namespace Go.Fip.Q
open Go.Fip
theorem ck_of_tree {t : T} (h1 : 1 ≤ t.size) (h2 : t.size ≤ 12) : ckT (T.dep 0 t) = 0 := kt3 (by rw [T.dep_length]; omega) (trB_iff.2 ⟨t, rfl⟩)
theorem tr_of_dep {t : T} : tr (T.dep 0 t) = t := by
  have h := toT_dep t t.size 0 (Nat.le_refl _)
  unfold tr
  rw [T.dep_length]; exact h
/-! Trials. -/
structure Trd (t : T) (L : List Int) (x : Nat) (s : T) (i k D : Nat) (o : List Int) : Prop where
  all : ∀ y, i ≤ y → y < k → TriI t y L s i k D o
  lo : i ≤ x
  hi : x < k
theorem Trd.start {t : T} {L : List Int} {x : Nat} (h : T.dep 0 t = L) (hx : x < L.length) : Trd t L x t 0 L.length 0 [] := ⟨fun y _ hy => TriI.start h hy, Nat.zero_le _, hx⟩
theorem Trd.look {t : T} {L : List Int} {x : Nat} {s : T} {i k D : Nat} {o : List Int} (h : Trd t L x s i k D o) :
    ∃ y : Nat, (i ≤ y ∧ y < k) ∧ nth (tri t 0 x) (D : Int) = (y : Int) ∧ nth L (y : Int) = (D : Int) ∧ tri t 0 y = (tri t 0 x).take (D + 1) ∧ D < (tri t 0 x).length ∧
      (y < x → ∃ s' o', Trd t L x s' (y + 1) k (D + 1) o') ∧ (x < y → ∃ s' o', Trd t L x s' i y (D + 1) o') ∧ (y = x → D + 1 = (tri t 0 x).length) := by
  have hx := h.all x h.lo h.hi
  obtain ⟨l, r, rfl, hr1, hr2, -⟩ := hx.root
  have hol := hx.2.2.2.1
  have e1 := hx.2.2.1
  rw [tri_node] at e1
  have hy := (h.all (i + l.size) (by omega) hr1).hit rfl
  have e2 : (tri t 0 x).take (D + 1) = o ++ [((i + l.size : Nat) : Int)] := by
    rw [← e1, List.take_append, List.take_of_length_le (by omega), hol, show D + 1 - D = 1 by omega]; rfl
  refine ⟨i + l.size, ⟨by omega, hr1⟩, ?_, hr2, by rw [e2]; exact hy.symm, ?_, fun hlt => ⟨r, o ++ [((i + l.size : Nat) : Int)], fun y h1 h2 => (h.all y (by omega) h2).right (by omega), by omega, h.hi⟩, fun hlt => ⟨l, o ++ [((i + l.size : Nat) : Int)], fun y h1 h2 => (h.all y h1 (by omega)).left h2, h.lo, hlt⟩, fun e => ?_⟩
  · rw [← e1, nth_append_r (by omega), hol, Int.sub_self]; rfl
  · rw [← e1, List.length_append, hol]; simp
  · rw [← e1, if_pos e, List.length_append, hol]; rfl
theorem Trd.last {t : T} {L : List Int} {x : Nat} : ∀ (m : Nat) {s : T} {i k D : Nat} {o : List Int}, k - i ≤ m → Trd t L x s i k D o → ((tri t 0 x).length : Int) = nth L (x : Int) + 1 ∧ nth (tri t 0 x) (((tri t 0 x).length : Int) - 1) = (x : Int)
  | 0, s, i, k, D, o, hm, h => by have := h.lo; have := h.hi; omega
  | m + 1, s, i, k, D, o, hm, h => by
    obtain ⟨y, hy, e1, e2, _, hl, k1, k2, k3⟩ := h.look
    rcases Nat.lt_trichotomy y x with h1 | h1 | h1
    · obtain ⟨s', o', h2⟩ := k1 h1
      exact Trd.last m (by omega) h2
    · have := k3 h1
      subst h1
      refine ⟨by omega, ?_⟩
      rw [← this, show ((D + 1 : Nat) : Int) - 1 = (D : Int) by omega]; exact e1
    · obtain ⟨s', o', h2⟩ := k2 h1
      exact Trd.last m (by omega) h2
/-! Numbered trees. -/
theorem hung_inj {a b a' b' : List Int} (ha : ∀ x ∈ a, 0 ≤ x) (ha' : ∀ x ∈ a', 0 ≤ x) (h : hung a b = hung a' b') : a = a' ∧ b = b' := by
  have up : ∀ {l : List Int}, (∀ x ∈ l, 0 ≤ x) → ∀ x ∈ l.map (· + 1), (0 : Int) < x := fun hl x hx => by
    obtain ⟨y, hy, rfl⟩ := List.mem_map.1 hx
    have := hl y hy
    omega
  have inj : ∀ {l m : List Int}, l.map (· + 1) = m.map (· + 1) → l = m := fun {l m} e => by
    have := congrArg (List.map fun x : Int => x - 1) e
    rw [List.map_map, List.map_map] at this
    have id1 : ((fun x : Int => x - 1) ∘ fun x => x + 1) = id := by funext x; simp
    rwa [id1, List.map_id, List.map_id] at this
  obtain ⟨h1, h2⟩ := T.split_at (d := 0) (up ha) (up ha') h
  exact ⟨inj h1, inj h2⟩
theorem tree_nonneg {n : Nat} {x : List Int} (h : x ∈ treesL n) : ∀ y ∈ x, 0 ≤ y := by
  obtain ⟨t, _, rfl⟩ := (mem_treesL n n (Nat.le_refl _) x).1 h
  exact T.dep_ge t 0
theorem treesL_nodup : ∀ (m n : Nat), n ≤ m → (treesL n).Pairwise (· ≠ ·)
  | m, 0, _ => List.pairwise_singleton _ _
  | 0, n + 1, h => by omega
  | m + 1, n + 1, h => by
    rw [treesL_rec (Nat.succ_pos _)]
    refine (srt_perm _).symm.pairwise (R := (· ≠ ·)) ?_ (fun h => Ne.symm h)
    unfold g1
    rw [List.pairwise_flatMap]
    refine ⟨fun r hr => ?_, ?_⟩
    · have hr := List.mem_range.1 hr
      unfold crs
      rw [List.pairwise_flatMap]
      refine ⟨fun a ha => ?_, ?_⟩
      · rw [List.pairwise_map]
        exact (treesL_nodup m (n + 1 - 1 - r) (by omega)).imp fun hne he => hne (hung_inj (tree_nonneg ha) (tree_nonneg ha) he).2
      · refine List.Pairwise.imp_of_mem (fun {a a'} ha ha' hne x hx y hy e => ?_) (treesL_nodup m r (by omega))
        obtain ⟨b, _, rfl⟩ := List.mem_map.1 hx
        obtain ⟨b', _, rfl⟩ := List.mem_map.1 hy
        exact hne (hung_inj (tree_nonneg ha) (tree_nonneg ha') e).1
    · refine List.Pairwise.imp (fun {r r'} hne x hx y hy e => ?_) (List.pairwise_lt_range (n := n + 1))
      unfold crs at hx hy
      obtain ⟨a, ha, hx⟩ := List.mem_flatMap.1 hx
      obtain ⟨a', ha', hy⟩ := List.mem_flatMap.1 hy
      obtain ⟨b, _, rfl⟩ := List.mem_map.1 hx
      obtain ⟨b', _, rfl⟩ := List.mem_map.1 hy
      have := (hung_inj (tree_nonneg ha) (tree_nonneg ha') e).1
      subst this
      obtain ⟨t, h1, h2⟩ := (mem_treesL r r (Nat.le_refl _) _).1 ha
      obtain ⟨t', h3, h4⟩ := (mem_treesL r' r' (Nat.le_refl _) _).1 ha'
      have := congrArg List.length (h2.trans h4.symm)
      rw [T.dep_length, T.dep_length] at this
      omega
theorem treesL_lt {n i k : Nat} (h : i < k) (hk : k < (treesL n).length) : cmpL (nth (treesL n) (i : Int)) (nth (treesL n) (k : Int)) < 0 := by
  have h1 := List.pairwise_iff_getElem.1 (treesL_srt n) i k (by omega) hk h
  have h2 := List.pairwise_iff_getElem.1 (treesL_nodup n n (Nat.le_refl _)) i k (by omega) hk h
  rw [nth_nat hk, nth_nat (by omega)]
  have h3 : cmpL (treesL n)[i] (treesL n)[k] ≠ 0 := fun e => h2 (cmpL_eq e)
  have := cmpL_neg (treesL n)[i] (treesL n)[k]
  omega
theorem treesL_ord {n i k : Nat} (hi : i < (treesL n).length) (hk : k < (treesL n).length) : cmpL (nth (treesL n) (i : Int)) (nth (treesL n) (k : Int)) < 0 ↔ i < k := by
  constructor
  · intro h
    rcases Nat.lt_trichotomy i k with h1 | h1 | h1
    · exact h1
    · rw [h1, cmpL_self] at h; omega
    · have := treesL_lt h1 hi
      have h3 := cmpL_neg (nth (treesL n) (i : Int)) (nth (treesL n) (k : Int))
      omega
  · intro h; exact treesL_lt h hk
theorem posT_nth {n i : Nat} (hi : i < (treesL n).length) : posT (treesL n) (nth (treesL n) (i : Int)) = i :=
  posT_cut (by omega) (fun p hp => treesL_lt hp hi) (fun p hp hpl => by
    intro h
    rcases Nat.eq_or_lt_of_le hp with e | e
    · rw [← e, cmpL_self] at h; omega
    · have := treesL_lt e hpl
      have h3 := cmpL_neg (nth (treesL n) (i : Int)) (nth (treesL n) (p : Int))
      omega)
theorem nth_posT {t : T} : posT (treesL t.size) (T.dep 0 t) < (treesL t.size).length ∧ nth (treesL t.size) (posT (treesL t.size) (T.dep 0 t) : Int) = T.dep 0 t := by
  have hm : T.dep 0 t ∈ treesL t.size := (mem_treesL _ _ (Nat.le_refl _) _).2 ⟨t, rfl, rfl⟩
  obtain ⟨i, hi, e⟩ := List.getElem_of_mem hm
  rw [← nth_nat hi] at e
  rw [← e, posT_nth hi]
  exact ⟨hi, rfl⟩
theorem num_nth {n i : Nat} (h1 : 1 ≤ n) (hn : n ≤ 8) (hi : i < (treesL n).length) : numR (nth (treesL n) (i : Int)) = ((i : Int), 0) ∧ ckT (nth (treesL n) (i : Int)) = 0 := by
  have hlen := tree_row hi
  have hm : nth (treesL n) (i : Int) ∈ treesL n := by rw [nth_nat hi]; exact List.getElem_mem hi
  obtain ⟨t, ht, e⟩ := (mem_treesL n n (Nat.le_refl _) _).1 hm
  have hc : ckT (nth (treesL n) (i : Int)) = 0 := by rw [← e]; exact ck_of_tree (by omega) (by omega)
  exact ⟨by rw [nu3 hc (by omega), hlen, posT_nth hi], hc⟩
theorem num_tree {t : T} (h1 : 1 ≤ t.size) (hn : t.size ≤ 8) : numR (T.dep 0 t) = ((posT (treesL t.size) (T.dep 0 t) : Int), 0) := by
  rw [nu3 (ck_of_tree h1 (by omega)) (by rw [T.dep_length]; omega), T.dep_length]
theorem at_nth {n k : Nat} (h1 : 1 ≤ n) (hn : n ≤ 8) (hk : k < cnt n) : atR (n : Int) (k : Int) = (nth (treesL n) (k : Int), 0) := by
  rw [at3 (by omega) (by rw [Int.toNat_natCast]; omega), Int.toNat_natCast]
/-! Costs of trees. -/
def cs (w : List Int) : Nat → List Int → Int
  | _, [] => 0
  | i, d :: l => nth w (i : Int) * (d + 1) + cs w (i + 1) l
theorem cs_app {w : List Int} : ∀ (i : Nat) (a b : List Int), cs w i (a ++ b) = cs w i a + cs w (i + a.length) b
  | i, [], b => by rw [List.nil_append]; show _ = 0 + cs w (i + 0) b; rw [Nat.add_zero]; omega
  | i, d :: a, b => by
    show nth w (i : Int) * (d + 1) + cs w (i + 1) (a ++ b) = nth w (i : Int) * (d + 1) + cs w (i + 1) a + cs w (i + (a.length + 1)) b
    rw [cs_app (i + 1) a b, show i + 1 + a.length = i + (a.length + 1) by omega]; omega
theorem costTo_cs {w t : List Int} : ∀ k, k ≤ t.length → costTo w t k = cs w 0 (t.take k)
  | 0, _ => rfl
  | k + 1, h => by
    rw [List.take_succ_eq_append_getElem h, cs_app, ← costTo_cs k (by omega), List.length_take, Nat.min_eq_left (by omega), Nat.zero_add]
    show costTo w t k + nth w (k : Int) * (nth t (k : Int) + 1) = costTo w t k + (nth w (k : Int) * (t[k] + 1) + 0)
    rw [nth_nat (l := t) h]; omega
theorem cs_tree {w : List Int} : ∀ (t : T) (i : Nat) (d : Int), i + t.size ≤ w.length → cs w i (T.dep d t) = cst w i t + d * (P w (i + t.size) - P w i)
  | .nil, i, d, _ => by
    show (0 : Int) = 0 + d * (P w (i + 0) - P w i)
    rw [Nat.add_zero, Int.sub_self, Int.mul_zero]; rfl
  | .node l r, i, d, h => by
    have hs : T.size (.node l r) = l.size + r.size + 1 := rfl
    rw [hs] at h ⊢
    have h1 := cs_tree (w := w) l i (d + 1) (by omega)
    have h2 := cs_tree (w := w) r (i + l.size + 1) (d + 1) (by omega)
    have hp := P_succ (w := w) (k := i + l.size) (by omega)
    show cs w i (T.dep (d + 1) l ++ d :: T.dep (d + 1) r) = cst w i (.node l r) + _
    rw [cs_app, T.dep_length]
    show cs w i (T.dep (d + 1) l) + (nth w ((i + l.size : Nat) : Int) * (d + 1) + cs w (i + l.size + 1) (T.dep (d + 1) r)) = (P w (i + (l.size + r.size + 1)) - P w i) + (cst w i l + cst w (i + l.size + 1) r) + _
    rw [h1, h2, show i + l.size + 1 + r.size = i + (l.size + r.size + 1) by omega, show nth w ((i + l.size : Nat) : Int) = P w (i + l.size + 1) - P w (i + l.size) by omega]
    generalize P w (i + (l.size + r.size + 1)) = A
    generalize P w (i + l.size + 1) = B
    generalize P w (i + l.size) = D
    generalize P w i = E
    simp only [Int.add_mul, Int.mul_add, Int.sub_mul, Int.mul_sub, Int.one_mul, Int.mul_one, Int.mul_comm B d, Int.mul_comm D d]
    omega
theorem cost_tree {w : List Int} {t : T} (h : ckW w = 0) (hs : t.size = w.length) : costR w (T.dep 0 t) = (cst w 0 t, 0) := by
  obtain ⟨hl, hw⟩ := ckW_w h
  rw [co4 h (ck_of_tree (by omega) (by omega)) (by rw [T.dep_length, hs]), costTo_cs _ (Nat.le_refl _), List.take_length, cs_tree t 0 0 (by omega), Int.zero_mul, Int.add_zero]
theorem cost_first {w : List Int} (h : ckW w = 0) : ckT (F w 0 w.length) = 0 ∧ (F w 0 w.length).length = w.length ∧ costR w (F w 0 w.length) = (C w 0 w.length, 0) := by
  obtain ⟨hl, hw⟩ := ckW_w h
  obtain ⟨t, ht, hs, hc⟩ := F_tree w _ 0 w.length (Nat.le_refl _) (Nat.zero_le _)
  rw [← ht]
  refine ⟨ck_of_tree (by omega) (by omega), by rw [T.dep_length]; omega, ?_⟩
  rw [cost_tree h (by omega), hc]
theorem cost_ge {w : List Int} {t : T} (hs : t.size = w.length) : C w 0 w.length ≤ cst w 0 t := by
  have := C_least w t 0
  rwa [Nat.zero_add, hs] at this
/-! Rows that are turned round. -/
def mir : T → T
  | .nil => .nil
  | .node l r => .node (mir r) (mir l)
theorem mir_size : ∀ t : T, (mir t).size = t.size
  | .nil => rfl
  | .node l r => by show (mir r).size + (mir l).size + 1 = l.size + r.size + 1; rw [mir_size l, mir_size r]; omega
theorem mir_dep : ∀ (t : T) (d : Int), T.dep d (mir t) = (T.dep d t).reverse
  | .nil, _ => rfl
  | .node l r, d => by
    show T.dep (d + 1) (mir r) ++ d :: T.dep (d + 1) (mir l) = (T.dep (d + 1) l ++ d :: T.dep (d + 1) r).reverse
    rw [mir_dep l, mir_dep r]; simp
theorem mir_cst {w : List Int} : ∀ (t : T) (i : Nat), i + t.size ≤ w.length → cst w.reverse i (mir t) = cst w (w.length - i - t.size) t
  | .nil, _, _ => rfl
  | .node l r, i, h => by
    have hs : T.size (.node l r) = l.size + r.size + 1 := rfl
    rw [hs] at h ⊢
    have h1 := mir_cst (w := w) r i (by omega)
    have h2 := mir_cst (w := w) l (i + r.size + 1) (by omega)
    have p1 := P_rev (w := w) (k := i + (r.size + l.size + 1)) (by omega)
    have p2 := P_rev (w := w) (k := i) (by omega)
    show (P w.reverse (i + ((mir r).size + (mir l).size + 1)) - P w.reverse i) + (cst w.reverse i (mir r) + cst w.reverse (i + (mir r).size + 1) (mir l)) = (P w (w.length - i - (l.size + r.size + 1) + (l.size + r.size + 1)) - P w (w.length - i - (l.size + r.size + 1))) + (cst w (w.length - i - (l.size + r.size + 1)) l + cst w (w.length - i - (l.size + r.size + 1) + l.size + 1) r)
    rw [mir_size, mir_size, h1, h2, show w.length - i - (l.size + r.size + 1) + (l.size + r.size + 1) = w.length - i by omega, show w.length - (i + r.size + 1) - l.size = w.length - i - (l.size + r.size + 1) by omega, show w.length - i - (l.size + r.size + 1) + l.size + 1 = w.length - i - r.size by omega]
    rw [show w.length - (i + (r.size + l.size + 1)) = w.length - i - (l.size + r.size + 1) by omega] at p1
    omega
theorem ckW_rev {w : List Int} (h : ckW w = 0) : ckW w.reverse = 0 := by
  obtain ⟨hl, hw⟩ := ckW_w h
  exact kw3 (by rw [List.length_reverse]; omega) (fun x hx => hw x (List.mem_reverse.1 hx))
theorem cost_rev {w : List Int} {t : T} (h : ckW w = 0) (hs : t.size = w.length) : costR w.reverse (T.dep 0 t).reverse = (cst w 0 t, 0) := by
  rw [← mir_dep, cost_tree (ckW_rev h) (by rw [mir_size, List.length_reverse]; exact hs), mir_cst (w := w) t 0 (by omega), hs, Nat.sub_zero, Nat.sub_self]
theorem least_rev {w : List Int} (h : ckW w = 0) : leastR w.reverse = (C w 0 w.length, 0) := by
  rw [le2 (ckW_rev h), List.length_reverse, C_rev (Nat.zero_le _) (Nat.le_refl _), Nat.sub_self, Nat.sub_zero]
theorem many_rev {w : List Int} (h : ckW w = 0) : manyR w.reverse = ((M w 0 w.length : Int), 0) := by
  rw [ma2 (ckW_rev h), List.length_reverse, M_rev _ 0 w.length (Nat.le_refl _) (Nat.zero_le _) (Nat.le_refl _), Nat.sub_self, Nat.sub_zero]
theorem rootsI_rev {w : List Int} : (rootsI w.reverse 0 w.length).length = (rootsI w 0 w.length).length ∧ ∀ q : Nat, q < (rootsI w 0 w.length).length → nth (rootsI w 0 w.length) (q : Int) = (w.length : Int) - 1 - nth (rootsI w.reverse 0 w.length) (((rootsI w.reverse 0 w.length).length : Int) - 1 - (q : Int)) := by
  have e := roots_rev (w := w) (i := 0) (k := w.length) (Nat.zero_le _) (Nat.le_refl _)
  rw [Nat.sub_self, Nat.sub_zero] at e
  have hl : (rootsI w.reverse 0 w.length).length = (rootsI w 0 w.length).length := by
    rw [rootsI_length, rootsI_length, e]; simp
  refine ⟨hl, fun q hq => ?_⟩
  have hq2 := hq
  rw [rootsI_length] at hq2
  rw [hl, show ((rootsI w 0 w.length).length : Int) - 1 - (q : Int) = (((rootsI w 0 w.length).length - 1 - q : Nat) : Int) by omega]
  rw [nth_nat hq, nth_nat (by omega)]
  have hj := (mem_roots.1 (List.getElem_mem hq2)).1
  simp only [rootsI, List.getElem_map, e, List.getElem_reverse, List.length_map, Nat.zero_add, Nat.sub_zero]
  have e3 : (roots w 0 w.length).length - 1 - ((roots w 0 w.length).length - 1 - q) = q := by omega
  simp only [e3]
  omega
end Go.Fip.Q
namespace Go.Fip.Q
open Go.Fip
theorem given_le {l : List Int} {R : List (List Int)} (h : ckW l = 0) : ¬ (ckB l R).2 = 0 ∨ (ckB l R).1 ≤ C l 0 l.length := by
  by_cases h1 : Shaped l R
  · by_cases h2 : Sized l R
    · by_cases h3 : Held l R
      · right
        rw [cb5 h h1 h2 h3]
        exact h3.le h1 (a := 0) (b := l.length) (Nat.zero_le _) (Nat.le_refl _)
      · left; rw [cb4 h h1 h2 h3]; decide
    · left; rw [cb3 h h1 h2]; decide
  · left; rw [cb2 h h1]; decide
end Go.Fip.Q

set_option linter.unusedVariables false
set_option linter.unusedSimpArgs false
set_option linter.unusedSectionVars false
namespace Go.Fip
open Go.RowKit
def RowsU (u : Value) (VV : List SV) (RR : List (List Int)) (w : World) : Prop :=
  Rd encV 1 u VV w ∧ VV.length = RR.length ∧ ∀ i : Nat, i < VV.length → (∃ a c, (nth VV (i : Int)).1 = .slice a (nth RR (i : Int)).length c) ∧ (nth RR (i : Int) ≠ [] → Rd encI 1 (nth VV (i : Int)).1 (nth RR (i : Int)) w)
theorem RowsU.below {u : Value} {VV : List SV} {RR : List (List Int)} {w w' : World} (h : RowsU u VV RR w) (hb : Below w.heap.size w w') : RowsU u VV RR w' :=
  ⟨h.1.below hb, h.2.1, fun i hi => ⟨(h.2.2 i hi).1, fun hne => ((h.2.2 i hi).2 hne).below hb⟩⟩
theorem RowsU.now {u : Value} {VV : List SV} {RR : List (List Int)} {w w' : World} (h : RowsU u VV RR w) {H : List Item} {n : Nat} (hH : Heap H w') (hn : H[n]? = some (base w)) : RowsU u VV RR w' := h.below (hH.get hn)
theorem RowsU.at {u : Value} {VV : List SV} {RR : List (List Int)} {w : World} (h : RowsU u VV RR w) {i : Int} (h0 : 0 ≤ i) (h1 : i < (VV.length : Int)) (hne : 0 < (nth RR i).length) : Rd encI 1 (nth VV i).1 (nth RR i) w := by
  have := (h.2.2 i.toNat (by omega)).2
  rw [Int.toNat_of_nonneg h0] at this
  exact this (fun e => by rw [e] at hne; exact absurd hne (Nat.lt_irrefl _))
theorem RowsU.len {u : Value} {VV : List SV} {RR : List (List Int)} {w : World} (h : RowsU u VV RR w) {i : Int} (h0 : 0 ≤ i) (h1 : i < (VV.length : Int)) : ∃ a c, (nth VV i).1 = .slice a (nth RR i).length c := by
  have := (h.2.2 i.toNat (by omega)).1
  rwa [Int.toNat_of_nonneg h0] at this
theorem Rd.mapEnc {α β : Type} {enc : α → List Value} {enc' : β → List Value} {f : α → β} {sz : Nat} {v : Value} {xs : List α} {w : World} (h : Rd enc sz v xs w) (he : ∀ x, enc' (f x) = enc x) : Rd enc' sz v (xs.map f) w := by
  refine ⟨by rw [List.length_map]; exact h.1, fun i y hy j u hj => ?_⟩
  rw [List.getElem?_map] at hy
  obtain ⟨x, hx, rfl⟩ := Option.map_eq_some_iff.1 hy
  rw [he] at hj
  exact h.2 i x hx j u hj
theorem RowsAt.u {u : Value} {TT : List Hd} {RR : List (List Int)} {w : World} (h : RowsAt u TT RR w) : RowsU u (TT.map svV) RR w := by
  refine ⟨Rd.mapEnc h.1 (fun x => rfl), by rw [List.length_map]; exact h.2.1, fun i hi => ?_⟩
  rw [List.length_map] at hi
  have e : (nth (TT.map svV) (i : Int)).1 = sv (nth TT (i : Int)) := by rw [nth_nat (by simpa using hi), nth_nat hi, List.getElem_map]; rfl
  rw [e]
  have hr := h.2.2 i hi
  obtain ⟨a, c, e2, _⟩ := hr.is
  exact ⟨⟨a, c, e2⟩, fun _ => hr⟩
theorem yv_lenW {P : Program} {N : Nat} {ds : List Deferred} {env : Env} {S : World → Prop} {x : Operand} {v : Value} {T E sz : Nat} {n : Nat} (hT : TSlice P T E sz) (hx : ev env x = some v) (hv : ∃ a c, v = .slice a n c) :
    Yv P N ds env (.call ⟨.builtin .len, #[x], #[T]⟩) (.int .i64 (n : Int)) S := fun act hact w _ _ _ _ _ _ => by
  obtain ⟨a, c, rfl⟩ := hv
  simp only [execOp, resolve, invoke, builtin, Sem.run_bind, Sem.run_pure, Result.andThen, List.map_toArray, List.map_cons, List.map_nil, hact.ev hx]
  simp [Builtin.len_, run_underlying hT.1, Result.andThen, goInt]
end Go.Fip

set_option linter.unusedVariables false
set_option linter.unusedSimpArgs false
set_option linter.unusedSectionVars false
namespace Go.Fip.Q
open Go.Fip
theorem dep_lev : ∀ (t : T) (d : Int), ∀ x ∈ T.dep d t, x < d + (lev t : Int)
  | .nil, d, x, hx => by simp [T.dep] at hx
  | .node l r, d, x, hx => by
    show x < d + ((max (lev l) (lev r) + 1 : Nat) : Int)
    have h1 : T.dep d (.node l r) = T.dep (d + 1) l ++ d :: T.dep (d + 1) r := rfl
    rw [h1] at hx
    rcases List.mem_append.1 hx with h | h
    · have := dep_lev l _ x h; omega
    · rcases List.mem_cons.1 h with h | h
      · omega
      · have := dep_lev r _ x h; omega
theorem dep_lev_ex : ∀ (t : T) (d : Int), 1 ≤ t.size → ∃ x ∈ T.dep d t, x = d + (lev t : Int) - 1
  | .nil, d, h => by simp [T.size] at h
  | .node l r, d, h => by
    have h1 : T.dep d (.node l r) = T.dep (d + 1) l ++ d :: T.dep (d + 1) r := rfl
    rw [h1]
    have e : lev (.node l r) = max (lev l) (lev r) + 1 := rfl
    by_cases h0 : max (lev l) (lev r) = 0
    · exact ⟨d, by simp, by omega⟩
    · have hs : ∀ t : T, lev t ≠ 0 → 1 ≤ t.size := fun t ht => by
        cases t with
        | nil => exact absurd rfl ht
        | node a b => show 1 ≤ a.size + b.size + 1; omega
      by_cases hlr : lev l ≤ lev r
      · obtain ⟨x, hx, hx2⟩ := dep_lev_ex r (d + 1) (hs r (by omega))
        exact ⟨x, List.mem_append_right _ (List.mem_cons_of_mem _ hx), by omega⟩
      · obtain ⟨x, hx, hx2⟩ := dep_lev_ex l (d + 1) (hs l (by omega))
        exact ⟨x, List.mem_append_left _ hx, by omega⟩
theorem maxTo_ge {l : List Int} : ∀ k, k ≤ l.length → ∀ j, j < k → nth l (j : Int) ≤ maxTo l k
  | 0, _, j, hj => absurd hj (Nat.not_lt_zero _)
  | k + 1, h, j, hj => by
    show nth l (j : Int) ≤ max (maxTo l k) (nth l (k : Int))
    rcases Nat.lt_or_ge j k with h1 | h1
    · have := maxTo_ge (l := l) k (by omega) j h1; omega
    · rw [show j = k by omega]; omega
theorem maxTo_le {l : List Int} {m : Int} (hm : 0 ≤ m) (h : ∀ x ∈ l, x ≤ m) : ∀ k, k ≤ l.length → maxTo l k ≤ m
  | 0, _ => hm
  | k + 1, hk => by
    show max (maxTo l k) (nth l (k : Int)) ≤ m
    have h1 := maxTo_le hm h k (by omega)
    have h2 := h (nth l (k : Int)) (by rw [nth_nat (show k < l.length by omega)]; exact List.getElem_mem _)
    omega
theorem lev_pos {t : T} (h : 1 ≤ t.size) : 1 ≤ lev t := by
  cases t with
  | nil => simp [T.size] at h
  | node a b => show 1 ≤ max (lev a) (lev b) + 1; omega
theorem maxTo_dep {t : T} (h : 1 ≤ t.size) : maxTo (T.dep 0 t) (T.dep 0 t).length = (lev t : Int) - 1 := by
  have h1 : maxTo (T.dep 0 t) (T.dep 0 t).length ≤ (lev t : Int) - 1 := maxTo_le (by have := lev_pos h; omega) (fun x hx => by have := dep_lev t 0 x hx; omega) _ (Nat.le_refl _)
  obtain ⟨x, hx, hx2⟩ := dep_lev_ex t 0 h
  obtain ⟨j, hj, e⟩ := List.getElem_of_mem hx
  have h2 := maxTo_ge (l := T.dep 0 t) _ (Nat.le_refl _) j hj
  rw [nth_nat hj, e] at h2
  omega
def lvz (n : Nat) : Nat := if n = 0 then 0 else lvl n
theorem lvl_two : ∀ n, n ≤ 12 → ∀ h, h ≤ 12 → n + 1 ≤ 2 ^ h → lvz n ≤ h := by decide +kernel
theorem lvl_lev {t : T} (h : t.size ≤ 12) : lvz t.size ≤ lev t := by
  rcases Nat.lt_or_ge 12 (lev t) with h1 | h1
  · have : ∀ n, n ≤ 12 → lvz n ≤ 12 := by decide
    have := this _ h; omega
  · exact lvl_two _ h _ h1 (lev_size t)
/-- The lowest tree: its height. -/
theorem low_height {n : Nat} (h1 : 1 ≤ n) (h2 : n ≤ 12) : ∃ t : T, T.dep 0 t = lowF (lvl n) n ∧ t.size = n ∧ lev t = lvl n := by
  obtain ⟨t, ht, hs, hl⟩ := lowF_tree (lvl n) n (lvl_fit n h2)
  have := lvl_lev (t := t) (by omega)
  rw [hs] at this
  unfold lvz at this
  rw [if_neg (by omega)] at this
  exact ⟨t, ht, hs, by omega⟩
/-- How much a tree costs if all tapers weigh 1. -/
def ipl : T → Nat
  | .nil => 0
  | .node l r => l.size + r.size + 1 + (ipl l + ipl r)
def pL (n : Nat) : Nat := [0, 1, 3, 5, 8, 11, 14, 17, 21, 25, 29, 33, 37].getD n 0
theorem pL_le : ∀ a, a ≤ 11 → ∀ b, b ≤ 11 → a + b ≤ 11 → pL (a + b + 1) ≤ a + b + 1 + (pL a + pL b) ∧ (pL (a + b + 1) = a + b + 1 + (pL a + pL b) → max (lvz a) (lvz b) + 1 = lvz (a + b + 1)) := by decide +kernel
theorem ipl_le : ∀ t : T, t.size ≤ 12 → pL t.size ≤ ipl t ∧ (ipl t ≤ pL t.size → lev t = lvz t.size)
  | .nil, _ => ⟨by decide, fun _ => rfl⟩
  | .node l r, h => by
    have h9 : l.size + r.size + 1 ≤ 12 := h
    obtain ⟨a1, a2⟩ := ipl_le l (by omega)
    obtain ⟨b1, b2⟩ := ipl_le r (by omega)
    obtain ⟨p1, p2⟩ := pL_le l.size (by omega) r.size (by omega) (by omega)
    show pL (l.size + r.size + 1) ≤ l.size + r.size + 1 + (ipl l + ipl r) ∧ (l.size + r.size + 1 + (ipl l + ipl r) ≤ pL (l.size + r.size + 1) → max (lev l) (lev r) + 1 = lvz (l.size + r.size + 1))
    refine ⟨by omega, fun h5 => ?_⟩
    rw [a2 (by omega), b2 (by omega)]
    exact p2 (by omega)
def bal : Nat → Nat → T
  | 0, _ => .nil
  | f + 1, n => if n = 0 then .nil else .node (bal f ((n - 1) / 2)) (bal f (n - 1 - (n - 1) / 2))
theorem bal_ok : ∀ n, n ≤ 12 → (bal 12 n).size = n ∧ ipl (bal 12 n) = pL n := by decide +kernel
theorem P_rep {n : Nat} {c : Int} : ∀ k, k ≤ n → P (List.replicate n c) k = c * (k : Int)
  | 0, _ => by unfold P; rw [List.take_zero]; show (0 : Int) = _; rw [Int.natCast_zero, Int.mul_zero]
  | k + 1, h => by
    rw [P_succ (by simp; omega), P_rep k (by omega), nth_nat (by simp; omega), List.getElem_replicate]
    rw [Int.natCast_add, Int.mul_add]; simp
theorem cst_rep {n : Nat} {c : Int} : ∀ (t : T) (i : Nat), i + t.size ≤ n → cst (List.replicate n c) i t = c * (ipl t : Int)
  | .nil, i, _ => by show (0 : Int) = c * ((0 : Nat) : Int); simp
  | .node l r, i, h => by
    have h9 : i + (l.size + r.size + 1) ≤ n := h
    have e : cst (List.replicate n c) i (.node l r) = (P (List.replicate n c) (i + (l.size + r.size + 1)) - P (List.replicate n c) i) + (cst (List.replicate n c) i l + cst (List.replicate n c) (i + l.size + 1) r) := by
      first
      | rfl
      | (simp only [cst, T.size]; first | rfl | (congr 1; try congr 1) | omega)
    rw [e, P_rep _ h9, P_rep _ (by omega), cst_rep l i (by omega), cst_rep r (i + l.size + 1) (by omega)]
    show _ = c * ((l.size + r.size + 1 + (ipl l + ipl r) : Nat) : Int)
    rw [show (((i + (l.size + r.size + 1) : Nat)) : Int) = (i : Int) + ((l.size + r.size + 1 : Nat) : Int) by omega, Int.mul_add, show ((l.size + r.size + 1 + (ipl l + ipl r) : Nat) : Int) = ((l.size + r.size + 1 : Nat) : Int) + ((ipl l : Int) + (ipl r : Int)) by omega, Int.mul_add, Int.mul_add]
    omega
/-- The best tree of equal weights is as low as may be. -/
theorem best_low {n : Nat} {c : Int} (h1 : 1 ≤ n) (h2 : n ≤ 12) (hc : 0 < c) : ∃ t : T, T.dep 0 t = F (List.replicate n c) 0 n ∧ t.size = n ∧ lev t = lvl n := by
  obtain ⟨t, ht, hs, hco⟩ := F_tree (List.replicate n c) n 0 n (by omega) (by omega)
  obtain ⟨b1, b2⟩ := bal_ok n h2
  have h3 := C_least (List.replicate n c) (bal 12 n) 0
  rw [b1, Nat.zero_add, cst_rep _ _ (by omega), b2] at h3
  rw [cst_rep _ _ (by omega)] at hco
  rw [← hco] at h3
  have h4 : (ipl t : Int) ≤ (pL n : Int) := Int.le_of_mul_le_mul_left h3 hc
  have h5 := (ipl_le t (by omega)).2
  rw [show t.size = n by omega] at h5
  have h6 := h5 (by omega)
  unfold lvz at h6
  rw [if_neg (by omega)] at h6
  exact ⟨t, ht, by omega, h6⟩
theorem ckW_rep {n : Nat} {c : Int} (h : 1 ≤ n) (h2 : n ≤ 12) (hc : 0 ≤ c ∧ c ≤ 1000) : ckW (List.replicate n c) = 0 := kw3 (by simp; omega) (fun x hx => by rw [List.eq_of_mem_replicate hx]; exact hc)
theorem best_rep {n : Nat} {c : Int} (h1 : 1 ≤ n) (h2 : n ≤ 12) (hc : 0 < c ∧ c ≤ 1000) : bestR (List.replicate n c) = (F (List.replicate n c) 0 n, 0) ∧ (F (List.replicate n c) 0 n).length = n ∧ maxTo (F (List.replicate n c) 0 n) n = (lvl n : Int) - 1 := by
  have hk := ckW_rep h1 h2 (c := c) (by omega)
  refine ⟨?_, by rw [F_length]; omega, ?_⟩
  · unfold bestR
    rw [if_neg (by simp [hk]), List.length_replicate]
  · obtain ⟨t, ht, hs, hl⟩ := best_low h1 h2 hc.1
    have := maxTo_dep (t := t) (by omega)
    rw [T.dep_length, hs, ht, hl] at this
    exact this
theorem low_facts {n : Nat} (h1 : 1 ≤ n) (h2 : n ≤ 12) : lowR (n : Int) = (lowF (lvl n) n, 0) ∧ (lowF (lvl n) n).length = n ∧ maxTo (lowF (lvl n) n) n = (lvl n : Int) - 1 ∧ ckT (lowF (lvl n) n) = 0 ∧ Sm (lowF (lvl n) n) := by
  obtain ⟨t, ht, hs, hl⟩ := low_height h1 h2
  have hm := maxTo_dep (t := t) (by omega)
  rw [T.dep_length, hs, ht, hl] at hm
  refine ⟨by rw [lr2 (by omega), Int.toNat_natCast], lowF_length (lvl_fit n h2), hm, ?_, lowF_sm (lvl_fit n h2) h2⟩
  rw [← ht]
  exact ck_of_tree (by omega) (by omega)
/-- Against a given tree. -/
theorem low_given {t : T} (h1 : 1 ≤ t.size) (h2 : t.size ≤ 12) : ¬ maxTo (T.dep 0 t) t.size < (lvl t.size : Int) - 1 ∧ (maxTo (T.dep 0 t) t.size = (lvl t.size : Int) - 1 → ¬ cmpL (T.dep 0 t) (lowF (lvl t.size) t.size) < 0) := by
  have hm := maxTo_dep (t := t) h1
  rw [T.dep_length] at hm
  have hl := lvl_lev (t := t) h2
  unfold lvz at hl
  rw [if_neg (by omega)] at hl
  exact ⟨by omega, fun e => lowF_least t _ (by omega)⟩
end Go.Fip.Q
