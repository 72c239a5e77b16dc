/- Joined texts: Qx, Fc. -/
import Derived.Test.YtkhokmfjnjfojaaMC
import Derived.Test.YtkhokmfjnjfojaaMB
set_option linter.unusedVariables false
set_option linter.unusedSimpArgs false
set_option linter.unusedSectionVars false
namespace Go.Fip.Q
open Go.Fip
def gA (L : List (List (List Int))) (n r : Nat) : List (List Int) := (List.range r).flatMap fun q : Nat => crs (nth L (q : Int)) (nth L ((n - 1 - q : Nat) : Int))
theorem gA_succ {L : List (List (List Int))} {n r : Nat} : gA L n (r + 1) = gA L n r ++ crs (nth L (r : Int)) (nth L ((n - 1 - r : Nat) : Int)) := by simp [gA, List.range_succ]
def allL : Nat → List (List (List Int))
  | 0 => [[[]]]
  | n + 1 => allL n ++ [gA (allL n) (n + 1) (n + 1)]
theorem allL_length : ∀ n, (allL n).length = n + 1
  | 0 => rfl
  | n + 1 => by rw [allL, List.length_append, allL_length n]; rfl
theorem perm_flatMap {f g : Nat → List (List Int)} : ∀ l : List Nat, (∀ a ∈ l, (f a).Perm (g a)) → (l.flatMap f).Perm (l.flatMap g)
  | [], _ => List.Perm.refl _
  | a :: l, h => by
    rw [List.flatMap_cons, List.flatMap_cons]
    exact (h a List.mem_cons_self).append (perm_flatMap l fun b hb => h b (List.mem_cons_of_mem _ hb))
theorem perm_flatMap2 {f g : List Int → List (List Int)} : ∀ l : List (List Int), (∀ a ∈ l, (f a).Perm (g a)) → (l.flatMap f).Perm (l.flatMap g)
  | [], _ => List.Perm.refl _
  | a :: l, h => by
    rw [List.flatMap_cons, List.flatMap_cons]
    exact (h a List.mem_cons_self).append (perm_flatMap2 l fun b hb => h b (List.mem_cons_of_mem _ hb))
theorem crs_perm {A A' B B' : List (List Int)} (ha : A.Perm A') (hb : B.Perm B') : (crs A B).Perm (crs A' B') := by
  unfold crs
  exact (perm_flatMap2 A fun a _ => hb.map _).trans (ha.flatMap_right _)
theorem nth_left {α : Type} [Inhabited α] {L M : List α} {k : Nat} (h : k < L.length) : nth (L ++ M) (k : Int) = nth L (k : Int) := by
  rw [nth_nat (by rw [List.length_append]; omega), nth_nat h, List.getElem_append_left h]
theorem nth_last {α : Type} [Inhabited α] {L : List α} {x : α} {k : Nat} (h : k = L.length) : nth (L ++ [x]) (k : Int) = x := by
  subst h
  rw [nth_nat (by simp)]; simp
theorem gA_perm {L : List (List (List Int))} {n r : Nat} (hr : r ≤ n) (h : ∀ q, q < n → (nth L (q : Int)).Perm (treesL q)) : (gA L n r).Perm (g1 n r) := by
  unfold gA g1
  exact perm_flatMap (List.range r) fun q hq => by
    have := List.mem_range.1 hq
    exact crs_perm (h q (by omega)) (h (n - 1 - q) (by omega))
theorem allL_perm : ∀ n k, k ≤ n → (nth (allL n) (k : Int)).Perm (treesL k)
  | 0, k, h => by
    rw [show k = 0 by omega]; exact List.Perm.refl _
  | n + 1, k, h => by
    by_cases e : k = n + 1
    · subst e
      rw [allL, nth_last (allL_length n).symm, treesL_rec (Nat.succ_pos _)]
      exact (gA_perm (Nat.le_refl _) fun q hq => allL_perm n q (by omega)).trans (srt_perm _).symm
    · rw [allL, nth_left (by rw [allL_length]; omega)]
      exact allL_perm n k (by omega)
variable {n r i j k : Nat}
theorem all_len (hk : k ≤ n) (hn : k ≤ 12) : (nth (allL n) (k : Int)).length = cnt k := by rw [(allL_perm n k hk).length_eq, treesL_len hn]
theorem all_mem (hk : k ≤ n) {x : List Int} (h : x ∈ nth (allL n) (k : Int)) : ∃ t : T, t.size = k ∧ T.dep 0 t = x := (mem_treesL k k (Nat.le_refl _) x).1 ((allL_perm n k hk).mem_iff.1 h)
theorem all_row (hk : k ≤ n) (hi : i < (nth (allL n) (k : Int)).length) : (nth (nth (allL n) (k : Int)) (i : Int)).length = k := by
  rw [nth_nat hi]
  obtain ⟨t, h1, h2⟩ := all_mem hk (List.getElem_mem hi)
  rw [← h2, T.dep_length, h1]
theorem all_sm (hk : k ≤ n) (hn : k ≤ 12) (hi : i < (nth (allL n) (k : Int)).length) : Sm (nth (nth (allL n) (k : Int)) (i : Int)) := by
  rw [nth_nat hi]
  obtain ⟨t, h1, h2⟩ := all_mem hk (List.getElem_mem hi)
  rw [← h2]; exact dep_sm2 t hn h1
theorem all_gen (hr : r ≤ n) (hn : n + 1 ≤ 8) (hi : i < cnt r) (hj : j ≤ cnt (n + 1 - 1 - r)) : (gA (allL n) (n + 1) r ++ crs ((nth (allL n) (r : Int)).take i) (nth (allL n) ((n + 1 - 1 - r : Nat) : Int)) ++ ((nth (allL n) ((n + 1 - 1 - r : Nat) : Int)).take j).map fun b => hung (nth (nth (allL n) (r : Int)) (i : Int)) b).length ≤ 1430 := by
  have h := gen_len (n := n + 1) (r := r) (i := i) (j := j) (by omega) hn (by rw [treesL_len (by omega)]; exact hi) (by rw [treesL_len (by omega)]; exact hj)
  rw [List.length_append, List.length_append, crs_length, List.length_map, List.length_take, List.length_take, treesL_len (by omega), treesL_len (by omega)] at h
  rw [List.length_append, List.length_append, crs_length, List.length_map, List.length_take, List.length_take, all_len hr (by omega), all_len (by omega) (by omega), (gA_perm (by omega) fun q hq => allL_perm n q (by omega)).length_eq]
  exact h
theorem gA_all {L : List (List (List Int))} {n r i : Nat} (hi : i = (nth L (r : Int)).length) : gA L n r ++ crs ((nth L (r : Int)).take i) (nth L ((n - 1 - r : Nat) : Int)) = gA L n (r + 1) := by
  rw [hi, List.take_length, gA_succ]
theorem all_sorted {R : List (List Int)} (hp : R.Perm (nth (allL n) (n : Int))) (hs : Srt R) : R = treesL n := srt_uni (hp.trans (allL_perm n n (Nat.le_refl _))) hs (treesL_srt n)
/-- Two sorted halves, put together so far. -/
structure MG (A B : List (List Int)) (i k : Nat) (O : List (List Int)) : Prop where
  perm : O.Perm (A.take i ++ B.take k)
  srt : Srt O
  le : ∀ x ∈ O, ∀ y, y ∈ A.drop i ∨ y ∈ B.drop k → ¬ cmpL y x < 0
variable {A B O : List (List Int)}
theorem MG.start : MG A B 0 0 [] := ⟨by simp, List.Pairwise.nil, fun x hx => by cases hx⟩
theorem mem_drop_succ {α : Type} {l : List α} {i : Nat} {y : α} (h : y ∈ l.drop (i + 1)) : y ∈ l.drop i := by
  rw [← List.drop_drop] at h
  exact List.mem_of_mem_drop h
theorem MG.length (h : MG A B i k O) (hi : i ≤ A.length) (hk : k ≤ B.length) : O.length = i + k := by
  rw [h.perm.length_eq, List.length_append, List.length_take, List.length_take]; omega
theorem drop_srt (hs : Srt A) (hi : i < A.length) {y : List Int} (hy : y ∈ A.drop (i + 1)) : ¬ cmpL y A[i] < 0 := by
  have e : A.drop i = A[i] :: A.drop (i + 1) := List.drop_eq_getElem_cons hi
  have h : Srt (A.drop i) := hs.sublist (List.drop_sublist _ _)
  rw [e] at h
  exact (List.pairwise_cons.1 h).1 y hy
theorem lt_le {a b : List Int} (h : cmpL a b < 0) : ¬ cmpL b a < 0 := by
  have := cmpL_neg a b
  omega
theorem snoc_srt (h : Srt O) {x : List Int} (hx : ∀ y ∈ O, ¬ cmpL x y < 0) : Srt (O ++ [x]) :=
  List.pairwise_append.2 ⟨h, List.pairwise_singleton _ _, fun a ha b hb => by rw [List.mem_singleton] at hb; subst hb; exact hx a ha⟩
theorem MG.left (h : MG A B i k O) (hA : Srt A) (hB : Srt B) (hi : i < A.length) (hc : k = B.length ∨ k < B.length ∧ cmpL (nth A (i : Int)) (nth B (k : Int)) < 0) : MG A B (i + 1) k (O ++ [nth A (i : Int)]) := by
  have e : A.drop i = A[i] :: A.drop (i + 1) := List.drop_eq_getElem_cons hi
  rw [nth_nat hi] at hc ⊢
  refine ⟨?_, snoc_srt h.srt fun y hy => h.le y hy _ (.inl (by rw [e]; exact List.mem_cons_self)), fun x hx y hy => ?_⟩
  · rw [List.take_succ_eq_append_getElem hi, List.append_assoc]
    refine (h.perm.append_right _).trans ?_
    rw [List.append_assoc]
    exact List.Perm.append_left _ List.perm_append_comm
  · rcases List.mem_append.1 hx with hx | hx
    · exact h.le x hx y (hy.elim (fun hy => .inl (mem_drop_succ hy)) .inr)
    · rw [List.mem_singleton] at hx; subst hx
      rcases hy with hy | hy
      · exact drop_srt hA hi hy
      · rcases hc with hc | ⟨hk, hc⟩
        · rw [hc, List.drop_length] at hy; cases hy
        · rw [nth_nat hk] at hc
          have e2 : B.drop k = B[k] :: B.drop (k + 1) := List.drop_eq_getElem_cons hk
          rw [e2] at hy
          rcases List.mem_cons.1 hy with hy | hy
          · rw [hy]; exact lt_le hc
          · exact cmpL_le_trans (lt_le hc) (drop_srt hB hk hy)
theorem MG.right (h : MG A B i k O) (hA : Srt A) (hB : Srt B) (hk : k < B.length) (hc : i = A.length ∨ i < A.length ∧ ¬ cmpL (nth A (i : Int)) (nth B (k : Int)) < 0) : MG A B i (k + 1) (O ++ [nth B (k : Int)]) := by
  have e : B.drop k = B[k] :: B.drop (k + 1) := List.drop_eq_getElem_cons hk
  rw [nth_nat hk] at hc ⊢
  refine ⟨?_, snoc_srt h.srt fun y hy => h.le y hy _ (.inr (by rw [e]; exact List.mem_cons_self)), fun x hx y hy => ?_⟩
  · rw [List.take_succ_eq_append_getElem hk, ← List.append_assoc]
    exact h.perm.append_right _
  · rcases List.mem_append.1 hx with hx | hx
    · exact h.le x hx y (hy.elim .inl fun hy => .inr (mem_drop_succ hy))
    · rw [List.mem_singleton] at hx; subst hx
      rcases hy with hy | hy
      · rcases hc with hc | ⟨hi, hc⟩
        · rw [hc, List.drop_length] at hy; cases hy
        · rw [nth_nat hi] at hc
          have e2 : A.drop i = A[i] :: A.drop (i + 1) := List.drop_eq_getElem_cons hi
          rw [e2] at hy
          rcases List.mem_cons.1 hy with hy | hy
          · rw [hy]; exact hc
          · exact cmpL_le_trans hc (drop_srt hA hi hy)
      · exact drop_srt hB hk hy
theorem MG.done (h : MG A B A.length B.length O) : O.Perm (A ++ B) := by
  have := h.perm
  rwa [List.take_length, List.take_length] at this
theorem short_srt (h : A.length < 2) : Srt A := by
  match A, h with
  | [], _ => exact List.Pairwise.nil
  | [x], _ => exact List.pairwise_singleton _ _
/-- A tree among the sorted ones. -/
theorem pos_in {t l : List Int} {n m : Nat} (hm : l.length = n) (hc : ckT l = 0) (hall : ∀ p : Nat, p < m → cmpL (nth (treesL n) (p : Int)) l < 0) (hle : m ≤ (treesL n).length) : m < (treesL n).length := by
  rcases Nat.lt_or_ge m (treesL n).length with h | h
  · exact h
  · exfalso
    obtain ⟨_, t, ht⟩ := ck_tree hc
    have hin : l ∈ treesL n := (mem_treesL n n (Nat.le_refl _) l).2 ⟨t, by rw [← hm, ← ht, T.dep_length], ht⟩
    obtain ⟨p, hp, e⟩ := List.getElem_of_mem hin
    have h1 := hall p (by omega)
    rw [nth_nat hp, e, cmpL_self] at h1
    exact absurd h1 (by decide)
theorem pos_done {l : List Int} {n m : Nat} (hall : ∀ p : Nat, p < m → cmpL (nth (treesL n) (p : Int)) l < 0) (hm : m < (treesL n).length) (hn : ¬ cmpL (nth (treesL n) (m : Int)) l < 0) : posT (treesL n) l = m :=
  posT_cut (by omega) hall fun p h1 h2 hc => hn (srt_before (treesL_srt n) h1 h2 hc)
end Go.Fip.Q

set_option linter.unusedVariables false
set_option linter.unusedSimpArgs false
set_option linter.unusedSectionVars false
namespace Go.Fip
open Go.RowKit
theorem below_trans {w0 w1 w2 : World} (h1 : Below w0.heap.size w0 w1) (h2 : Below w1.heap.size w1 w2) : Below w0.heap.size w0 w2 := h1.trans (h2.mono h1.size)
/-- The end of a body whose result lies in part in what was there before: it is told of worlds in which this lies as it lay. -/
theorem finA {P : Program} {fn : Func} {N : Nat} {w0 wk w : World} {R : Value → World → Prop} {env : Env} {H : List Item} {v : Value} (hb : Below w0.heap.size w0 wk) (hH : Heap (base wk :: H) w)
    (hres : ∀ w', Heap (base wk :: H) w' → Results P fn N [] env w' v) (hR : ∀ w', Heap (base wk :: H) w' → R v w') : bodyQ P fn N w0 (fun v w' => Below w0.heap.size w0 w' → R v w') .ret [] env w := by
  have h0 := hH.unbase hb
  have hw : Below w0.heap.size w0 w := h0.get (n := 0) rfl
  have key : ∀ w', Below w0.heap.size w0 w' → Agree w0.heap.size w.heap.size w w' → Heap (base wk :: H) w' := fun w' hb' ha => hH.grow ⟨ha.os, ha.tape, ha.output, ha.size, fun k hk => by
    by_cases h : k < w0.heap.size
    · exact (hb'.block k h).trans (hw.block k h).symm
    · exact ha.block k (by omega) hk⟩
  refine ⟨[], [⟨w0.heap.size, w.heap.size, Agree w0.heap.size w.heap.size w⟩], v, rfl, ?_, ?_, ?_⟩
  · refine ⟨fun i hi => ?_, ?_⟩
    · simp at hi
      rcases hi with rfl | rfl
      · exact h0.ok _ (by simp)
      · exact ⟨hw.size, Nat.le_refl _, fun w' h => h⟩
    · simp [Item.apart, base]
  · intro w' h
    exact hres w' (key w' (h.get (n := 0) rfl) (h.get (n := 1) rfl))
  · intro w' h hb'
    exact hR w' (key w' hb' (h.get (n := 0) rfl))
theorem finA_n {P : Program} {fn : Func} {N : Nat} {w0 wk w : World} {R : Value → World → Prop} {env : Env} {H : List Item} {v : Value} (hb : Below w0.heap.size w0 wk) (hH : Heap (base wk :: H) w)
    (hres : ∀ w', Heap (base wk :: H) w' → Results P fn N [] env w' v) (hR : ∀ w', Heap (base wk :: H) w' → R v w') : bodyQ P fn N w0 (fun v w' => Below w0.heap.size w0 w' → R v w') .normal [] env w := by
  obtain ⟨Ds, H', v', e, h1, h2, h3⟩ := finA (P := P) (fn := fn) (N := N) (R := R) (env := env) (v := v) hb hH hres hR
  exact ⟨Ds, H', v', e, h1, h2, h3⟩
/-- Headers of rows that lie as they lie. -/
def PtV (OV : List SV) (OR : List (List Int)) (w : World) : Prop := OV.length = OR.length ∧ ∀ i : Nat, i < OV.length → Rd encI 1 (nth OV (i : Int)).1 (nth OR (i : Int)) w
variable {OV : List SV} {OR : List (List Int)} {w w' : World}
theorem PtV.nil : PtV [] [] w := ⟨rfl, fun i hi => absurd hi (Nat.not_lt_zero _)⟩
theorem PtV.below (h : PtV OV OR w) (hb : Below w.heap.size w w') : PtV OV OR w' := ⟨h.1, fun i hi => (h.2 i hi).below hb⟩
theorem PtV.snoc (h : PtV OV OR w) {x : SV} {r : List Int} (hx : Rd encI 1 x.1 r w) : PtV (OV ++ [x]) (OR ++ [r]) w := by
  refine ⟨by simp [h.1], fun i hi => ?_⟩
  rw [List.length_append, List.length_singleton] at hi
  by_cases e : i < OV.length
  · have e2 : i < OR.length := by rw [← h.1]; exact e
    rw [nth_nat (by simp; omega), nth_nat (by simp; omega), List.getElem_append_left e, List.getElem_append_left e2]
    have := h.2 i e
    rwa [nth_nat e, nth_nat e2] at this
  · have e1 : i = OV.length := by omega
    have e2 : i = OR.length := by rw [← h.1]; exact e1
    rw [nth_nat (by simp; omega), nth_nat (by simp; omega), List.getElem_append_right (by omega), List.getElem_append_right (by omega)]
    simpa using hx
theorem RowsV.of_own {P : Program} {T lo hi E n : Nat} (he : El P T E 1 encV) {v : Value} {wk : World} {H : List Item} (hH : Heap (base wk :: H) w) (hn : (base wk :: H)[n]? = some (ow lo hi E 1 encV v OV)) (hp : PtV OV OR wk) : RowsV v OV OR w :=
  ⟨Heap.rdw he hH hn, hp.1, fun i hi => (hp.2 i hi).below (hH.get (n := 0) rfl)⟩
theorem nth_take {α : Type} [Inhabited α] {l : List α} {m i : Nat} (h : i < m) (h2 : i < l.length) : nth (l.take m) (i : Int) = nth l (i : Int) := by
  rw [nth_nat (by rw [List.length_take]; omega), nth_nat h2, List.getElem_take]
theorem nth_drop2 {α : Type} [Inhabited α] {l : List α} {m i : Nat} (h2 : m + i < l.length) : nth (l.drop m) (i : Int) = nth l ((m + i : Nat) : Int) := by
  rw [nth_nat (by rw [List.length_drop]; omega), nth_nat h2, List.getElem_drop]
theorem RowsV.take {u : Value} (h : RowsV u OV OR w) {m : Nat} (hm : m ≤ OV.length) : RowsV (cutv u 1 0 m) (OV.take m) (OR.take m) w := by
  have h2 := h.2.1
  refine ⟨h.1.upto hm, by rw [List.length_take, List.length_take, h2], fun i hi => ?_⟩
  rw [List.length_take] at hi
  rw [nth_take (by omega) (by omega), nth_take (by omega) (by omega)]
  exact h.2.2 i (by omega)
theorem RowsV.drop {u : Value} (h : RowsV u OV OR w) {m : Nat} (hm : m ≤ OV.length) : RowsV (cutv u 1 m OV.length) (OV.drop m) (OR.drop m) w := by
  have h2 := h.2.1
  refine ⟨h.1.from hm, by rw [List.length_drop, List.length_drop, h2], fun i hi => ?_⟩
  rw [List.length_drop] at hi
  rw [nth_drop2 (by omega), nth_drop2 (by omega)]
  exact h.2.2 (m + i) (by omega)
/-- A row of rows, as one item. -/
structure RvI where
  lo : Nat
  hi : Nat
  s : SV
  t : List SV
  l : List (List Int)
def rowW (r : RvI) : Item := ⟨r.lo, r.hi, RowsV r.s.1 r.t r.l⟩
theorem Heap.totailW {L : List Item} {Rs : List RvI} {lo hi : Nat} {x : SV} {t : List SV} {l : List (List Int)} (h : Heap (⟨lo, hi, RowsV x.1 t l⟩ :: (L ++ Rs.map rowW)) w) : Heap (L ++ (Rs ++ [RvI.mk lo hi x t l]).map rowW) w := by
  refine h.perm ?_
  rw [List.map_append, ← List.append_assoc]
  exact (List.perm_append_comm (l₁ := [_]))
def RowsW (u : Value) (S : List SV) (T : List (List SV)) (L : List (List (List Int))) (w : World) : Prop :=
  Rd encV 1 u S w ∧ S.length = T.length ∧ S.length = L.length ∧ ∀ i : Nat, i < S.length → RowsV (nth S (i : Int)).1 (nth T (i : Int)) (nth L (i : Int)) w
variable {u : Value} {S : List SV} {T : List (List SV)} {L : List (List (List Int))}
theorem RowsW.below (h : RowsW u S T L w) (hb : Below w.heap.size w w') : RowsW u S T L w' := ⟨h.1.below hb, h.2.1, h.2.2.1, fun i hi => (h.2.2.2 i hi).below hb⟩
theorem RowsW.at (h : RowsW u S T L w) {i : Int} (h0 : 0 ≤ i) (h1 : i < (S.length : Int)) : RowsV (nth S i).1 (nth T i) (nth L i) w := by
  have := h.2.2.2 i.toNat (by omega)
  rwa [Int.toNat_of_nonneg h0] at this
theorem RowsW.tail {P : Program} {X lo hi E n : Nat} (he : El P X E 1 encV) {H : List Item} {Rs : List RvI} (h : Heap (H ++ Rs.map rowW) w) (hn : H[n]? = some (ow lo hi E 1 encV u (Rs.map (·.s)))) : RowsW u (Rs.map (·.s)) (Rs.map (·.t)) (Rs.map (·.l)) w := by
  have hlt := (List.getElem?_eq_some_iff.1 hn).1
  refine ⟨Heap.rdw he h (n := n) (by rw [List.getElem?_append_left hlt]; exact hn), by simp, by simp, fun i hi => ?_⟩
  rw [List.length_map] at hi
  have hm : (H ++ Rs.map rowW)[H.length + i]? = some (rowW Rs[i]) := by
    rw [List.getElem?_append_right (by omega), Nat.add_sub_cancel_left, List.getElem?_map, List.getElem?_eq_getElem hi]; rfl
  have g := h.get hm
  rw [nth_nat (by simpa using hi), nth_nat (by simpa using hi), nth_nat (by simpa using hi)]
  simp only [List.getElem_map]
  exact g
/-- New rows become one item over what was there. -/
theorem Heap.joinV {P : Program} {X lo hi E : Nat} (he : El P X E 1 encV) {Rs : List RwI} {w1 : World} {H : List Item} (h : Heap ([ow lo hi E 1 encV u (Rs.map fun r => svV r.s), base w1] ++ Rs.map rowI) w) (h1 : Heap H w1) :
    Heap (⟨w1.heap.size, w.heap.size, RowsV u (Rs.map fun r => svV r.s) (Rs.map (·.l))⟩ :: H) w := by
  have hb : Below w1.heap.size w1 w := h.get (n := 1) rfl
  have hp : Heap (base w1 :: ow lo hi E 1 encV u (Rs.map fun r => svV r.s) :: Rs.map rowI) w := h.perm (List.Perm.swap _ _ _)
  refine h1.add hb (Nat.le_refl _) ⟨hb.size, Nat.le_refl _, fun w' ha => ?_⟩
  have hk := hp.kept ha
  exact ⟨Heap.rdw he hk (n := 0) rfl, by simp, fun i hi => rows_tail (L := [_]) hk i hi⟩
theorem Heap.startW {lo hi E : Nat} {x : SV} {i j : Item} (h : Heap [i, ow lo hi E 1 encV x.1 [nilV], j] w) : Heap ([i, j] ++ [RvI.mk lo hi x [nilV] [[]]].map rowW) w := by
  have h2 := h.weaken (n := 1) rfl (φ := RowsV x.1 [nilV] [[]]) (fun w' hw => RowsV.one (Ow.rd (fun _ => rfl) hw))
  exact h2.perm (((List.Perm.swap _ _ _).cons _))
theorem RowsV.sv {u : Value} (h : RowsV u OV OR w) : ∃ x : SV, u = x.1 := by
  obtain ⟨a, c, e, _⟩ := h.1.1
  exact ⟨⟨u, a, _, c, e⟩, rfl⟩
end Go.Fip
