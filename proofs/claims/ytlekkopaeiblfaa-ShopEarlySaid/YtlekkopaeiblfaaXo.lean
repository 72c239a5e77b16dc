/- Walks, by program (wip/tools). -/
import Derived.Test.YtlekkopaeiblfaaXf
import Derived.Test.YtlekkopaeiblfaaFy
import Derived.Test.YtlekkopaeiblfaaSl
set_option linter.unusedVariables false
set_option linter.unusedSimpArgs false
set_option linter.unusedSectionVars false
set_option linter.unnecessarySimpa false
namespace Go.Fip
open Go.Proofs Go.RowKit

namespace S
theorem all_set {L : List Int} {P : Int → Prop} {j : Nat} {v : Int} (h : ∀ i : Nat, i < L.length → P (nth L (i : Int))) (hv : P v) : ∀ i : Nat, i < (L.set j v).length → P (nth (L.set j v) (i : Int)) := fun i hi => by
  rw [List.length_set] at hi
  by_cases e : j = i
  · subst e; rw [nth_set_same hi]; exact hv
  · rw [nth_set_ne e]; exact h i hi
theorem all_snoc1 {L : List Int} {P : Int → Prop} {v : Int} (h : ∀ i : Nat, i < L.length → P (nth L (i : Int))) (hv : P v) : ∀ i : Nat, i < (L ++ [v]).length → P (nth (L ++ [v]) (i : Int)) := fun i hi => by
  rw [List.length_append, List.length_singleton] at hi
  rcases Nat.lt_or_eq_of_le (Nat.le_of_lt_succ hi) with h1 | rfl
  · rw [nth_append_l (by omega) (by omega)]; exact h i h1
  · rw [nth_snoc rfl]; exact hv
theorem rowB_in {p : List Pr} {b : Int} (hb : b = 0 ∨ b = 1) {k : Nat} (i : Nat) (hi : i < (rowB p b k).length) : 0 ≤ nth (rowB p b k) (i : Int) ∧ nth (rowB p b k) (i : Int) < (k : Int) := by
  obtain ⟨r1, r2, r3, r4⟩ := (ordOf_ok p k).row b
  rw [row_ordOf hb] at r1 r2
  exact r2 i (by omega) (by omega)
theorem fo_t {p : List Pr} {k : Nat} (h : (nth p (k : Int)).2 < (nth p (k : Int)).1) : firstsOf p k ++ [1] = firstsOf p (k + 1) := by rw [firstsOf, if_pos h]
theorem fo_f {p : List Pr} {k : Nat} (h : ¬ (nth p (k : Int)).2 < (nth p (k : Int)).1) : firstsOf p k ++ [0] = firstsOf p (k + 1) := by rw [firstsOf, if_neg h]
theorem tight_snoc {P : Nat → Prop} {A : Prop} {tt tt' : Bool} {k : Nat} (h : tt = true ↔ A ∨ ∃ v, v < k ∧ P v) (h2 : tt' = true ↔ tt = true ∨ P k) : tt' = true ↔ A ∨ ∃ v, v < k + 1 ∧ P v := by
  rw [h2, h]
  constructor
  · rintro ((h | ⟨v, hv, hp⟩) | h)
    · exact .inl h
    · exact .inr ⟨v, by omega, hp⟩
    · exact .inr ⟨k, by omega, h⟩
  · rintro (h | ⟨v, hv, hp⟩)
    · exact .inl (.inl h)
    · by_cases e : v = k
      · subst e; exact .inr hp
      · exact .inl (.inr ⟨v, by omega, hp⟩)
end S

theorem c81 {v u : Value} {l : List Int} {ps : List S.Pr} {x b : Int} {w : World} (h0 : Rd encI 1 v l w) (h1 : Rd encP 2 u ps w) (hn : l.length ≤ 1000) (hn2 : ps.length ≤ 1000) (hb : 0 ≤ b ∧ b ≤ 1) (hx : 0 ≤ x ∧ x < (ps.length : Int)) (hin : ∀ i : Nat, i < l.length → 0 ≤ nth l (i : Int) ∧ nth l (i : Int) < (ps.length : Int))  :
    Fn Try.prog 81 [v, (.int .i64 x), u, (.int .i64 b)].toArray w (fun u w => Own 3 1 encI u (S.putF (fun j => S.at2 ps (2 * j + b)) l x) w) := by
  refine fn_of' (args := [v, (.int .i64 x), u, (.int .i64 b)]) Try.func81 rfl (ent Try.func81 (by kernel_rfl) rfl) rfl rfl (fun hH => ?_)
  refine seq ?_
  refine region ?_
  refine ops_y hH rfl rfl (yv_assign rfl) ?_
  refine ops_nil ?_
  refine thn_n ?_
  refine seq ?_
  refine region ?_
  refine op_lit (us := []) T.el39_encI ([] : List Int) rfl (by decide) rfl (fun a ha => by simp) (fun w => by kernel_rfl) hH (fun u1 lo3 hi4 w2 hH5 => ?_)
  refine ops_y hH5 rfl rfl (yv_move rfl) ?_
  refine op_append (n := 0) T.el39_encI rfl rfl rfl hH5 rfl (h0.now hH5 (n := 1) rfl) (by first | omega | (simp only [List.length_append, List.length_cons, List.length_nil]; omega)) (fun u6 lo8 hi9 w7 hH10 => ?_)
  refine ops_y hH10 rfl rfl (yv_move rfl) ?_
  refine op_lit (us := [(0, (.int .i64 x))]) T.el39_encI [x] rfl (by decide) rfl (fun a ha => by simp [ha.ev (show ev _ (.tmp 14) = some _ from rfl)]) (fun w => by kernel_rfl) hH10 (fun u11 lo13 hi14 w12 hH15 => ?_)
  refine op_append (n := 1) T.el39_encI rfl rfl rfl hH15 rfl (Heap.rdw T.el39_encI hH15 (n := 0) rfl) (by first | omega | (simp only [List.length_append, List.length_cons, List.length_nil]; omega)) (fun u16 lo18 hi19 w17 hH20 => ?_)
  refine ops_y hH20 rfl rfl (yv_assign rfl) ?_
  refine ops_nil ?_
  refine thn_n ?_
  refine seq ?_
  refine seq ?_
  have hlen0 : (([] : List Int) ++ l ++ [x]).length = l.length + 1 := by simp
  refine region ?_
  refine ops_y hH20 rfl rfl (yv_move rfl) ?_
  refine ops_y hH20 rfl rfl (yv_len T.sl39 rfl (Heap.rdw T.el39_encI hH20 (n := 1) rfl).is) ?_
  refine ops_y hH20 rfl rfl (yv_sub rfl rfl (by omega)) ?_
  refine ops_y hH20 rfl rfl (yv_assign rfl) ?_
  refine ops_nil ?_
  refine thn_n ?_
  refine block ?_
  refine loop (S := Nat × List Int × Value × Nat × Nat) (fun (k, LL, v_9, lo_9, hi_9) => [(10, (.int .i64 (k : Int))), (9, v_9), (2, u), (3, (.int .i64 b)), (8, (.slice none 0 0))]) (fun (k, LL, v_9, lo_9, hi_9) w1 => Heap [ow lo13 hi14 3 1 encI u11 [x], ow lo_9 hi_9 3 1 encI v_9 LL, base w] w1 ∧ k < LL.length ∧ LL.length = l.length + 1 ∧ (∀ i : Nat, i < LL.length → 0 ≤ nth LL (i : Int) ∧ nth LL (i : Int) < (ps.length : Int)) ∧ S.putTo (fun j => S.at2 ps (2 * j + b)) k LL = S.putF (fun j => S.at2 ps (2 * j + b)) l x) (fun (k, LL, v_9, lo_9, hi_9) => k) (l.length, (l ++ [x]), u16, lo18, hi19) (Sub.cons (congrArg (fun z => some (Value.int .i64 z)) (by simp)) (Sub.cons rfl (Sub.cons rfl (Sub.cons rfl (Sub.cons rfl (Sub.nil _)))))) ?_ ?_
  · exact ⟨(Heap.recast (n := 1) hH20 rfl (rfl)), by simp, by simp, S.all_snoc1 (P := fun z => 0 ≤ z ∧ z < (ps.length : Int)) hin hx, rfl⟩
  · rintro ⟨k, LL, v_9, lo_9, hi_9⟩ w21 ⟨hH22, hkL, hLl, hLr, hput⟩
    show Holds _ _ _ _ _ [(10, (.int .i64 (k : Int))), (9, v_9), (2, u), (3, (.int .i64 b)), (8, (.slice none 0 0))] _ _
    have hr1 := hLr k hkL
    refine seq ?_
    refine seq ?_
    refine region_draw (fun w' => Heap [ow lo13 hi14 3 1 encI u11 [x], ow lo_9 hi_9 3 1 encI v_9 LL, base w] w') T.mixed (fun w23 hr24 => ?_)
    have hH25 := hH22.redrawn hr24
    refine any_takes [0, 1, 2] (by kernel_rfl) hH25 _ _ _ (by kernel_rfl) ?_
    refine qs_y rfl rfl (yv_move rfl) ?_
    refine qs_y rfl rfl (yv_gtr rfl rfl) ?_
    refine qs_y rfl rfl (yv_move rfl) ?_
    refine qs_nil ?_
    by_cases hc26 : 0 < (k : Int)
    · skip
      have hr2 := hLr (k - 1) (by omega)
      rw [show ((k - 1 : Nat) : Int) = (k : Int) - 1 by omega] at hr2
      refine any_takes [3, 4, 5, 6, 7, 8, 9, 10, 12, 13, 14, 15, 16, 17, 18, 19, 20] (by kernel_rfl) hH25 _ _ _ (by kernel_rfl) ?_
      refine qs_yes rfl rfl rfl (decide_eq_true hc26) rfl (yv_move rfl) ?_
      refine qs_yes rfl rfl rfl (decide_eq_true hc26) rfl (yv_move rfl) ?_
      refine qs_yes rfl rfl rfl (decide_eq_true hc26) rfl (yv_move rfl) ?_
      refine qs_yes rfl rfl rfl (decide_eq_true hc26) rfl (yv_index T.sl39 rfl rfl (Heap.rdw T.el39_encI hH25 (n := 1) rfl).is (by omega)) ?_
      refine qs_yes rfl rfl rfl (decide_eq_true hc26) rfl (yv_load T.one3 rfl (fun _ hw => Rd.at (Heap.rdw T.el39_encI hw (n := 1) rfl) (i := (k : Int)) (by omega) (j := 0) rfl)) ?_
      refine qs_yes rfl rfl rfl (decide_eq_true hc26) rfl (yv_mul rfl rfl (by omega)) ?_
      refine qs_yes rfl rfl rfl (decide_eq_true hc26) rfl (yv_move rfl) ?_
      refine qs_yes rfl rfl rfl (decide_eq_true hc26) rfl (yv_add rfl rfl (by omega)) ?_
      refine qs_yes rfl rfl rfl (decide_eq_true hc26) rfl (yv_move rfl) ?_
      refine qs_yes rfl rfl rfl (decide_eq_true hc26) rfl (yv_move rfl) ?_
      refine qs_yes rfl rfl rfl (decide_eq_true hc26) rfl (yv_move rfl) ?_
      refine qs_yes rfl rfl rfl (decide_eq_true hc26) rfl (yv_sub rfl rfl (by omega)) ?_
      refine qs_yes rfl rfl rfl (decide_eq_true hc26) rfl (yv_index T.sl39 rfl rfl (Heap.rdw T.el39_encI hH25 (n := 1) rfl).is (by omega)) ?_
      refine qs_yes rfl rfl rfl (decide_eq_true hc26) rfl (yv_load T.one3 rfl (fun _ hw => Rd.at (Heap.rdw T.el39_encI hw (n := 1) rfl) (i := (k : Int) - 1) (by omega) (j := 0) rfl)) ?_
      refine qs_yes rfl rfl rfl (decide_eq_true hc26) rfl (yv_mul rfl rfl (by omega)) ?_
      refine qs_yes rfl rfl rfl (decide_eq_true hc26) rfl (yv_move rfl) ?_
      refine qs_yes rfl rfl rfl (decide_eq_true hc26) rfl (yv_add rfl rfl (by omega)) ?_
      refine qs_nil ?_
      refine any_all [11] (by kernel_rfl) rfl ?_
      refine ⟨⟨_, rfl, ?_⟩, trivial⟩
      · skip
        refine guard_yes rfl rfl (decide_eq_true hc26) ?_
        refine op_fnV rfl rfl rfl hH25 (c47 (h1.now hH25 (n := 2) rfl) (by omega) (by omega) (by omega)) (fun w27 hH28 => ?_)
        refine ops_nil ?_
        refine ⟨hH28, ?_⟩
        refine any_all [21] (by kernel_rfl) rfl ?_
        refine ⟨⟨_, rfl, ?_⟩, trivial⟩
        · skip
          refine guard_yes rfl rfl (decide_eq_true hc26) ?_
          refine op_fnV rfl rfl rfl hH28 (c47 (h1.now hH28 (n := 2) rfl) (by omega) (by omega) (by omega)) (fun w29 hH30 => ?_)
          refine ops_nil ?_
          refine ⟨hH30, ?_⟩
          refine any_takes [22, 23] (by kernel_rfl) hH30 _ _ _ (by kernel_rfl) ?_
          refine qs_yes rfl rfl rfl (decide_eq_true hc26) rfl (yv_lss rfl rfl) ?_
          refine qs_y rfl rfl (yv_pick_t rfl (decide_eq_true hc26) rfl) ?_
          refine qs_nil ?_
          refine any_done (by kernel_rfl) ?_
          refine thn_n ?_
          by_cases hc31 : (S.at2 ps ((2 * (nth LL (k : Int))) + b)) < (S.at2 ps ((2 * (nth LL ((k : Int) - 1))) + b))
          · skip
            refine cond_t rfl (decide_eq_true hc31) ?_
            refine skip ?_
            refine thn_n ?_
            refine seq ?_
            refine block ?_
            refine region_drawY (fun w' => Heap [ow lo13 hi14 3 1 encI u11 [x], ow lo_9 hi_9 3 1 encI v_9 LL, base w] w') [15, 17] T.mixed (fun w32 hr33 => ?_)
            have hH34 := hH30.redrawn hr33
            refine any_takesT [0, 1, 2, 3, 4, 5, 6, 7, 8, 10, 11, 12] (by kernel_rfl)  _ _ _ (by kernel_rfl) ?_
            refine qs_y rfl rfl (yv_move rfl) ?_
            refine qs_y rfl rfl (yv_move rfl) ?_
            refine qs_y rfl rfl (yv_move rfl) ?_
            refine qs_y rfl rfl (yv_move rfl) ?_
            refine qs_y rfl rfl (yv_sub rfl rfl (by omega)) ?_
            refine qs_y rfl rfl (yv_move rfl) ?_
            refine qs_y rfl rfl (yv_move rfl) ?_
            refine qs_y rfl rfl (yv_sub rfl rfl (by omega)) ?_
            refine qs_y rfl rfl (yv_index T.sl39 rfl rfl (Heap.rdw T.el39_encI hH34 (n := 1) rfl).is (by omega)) ?_
            refine qs_y rfl rfl (yv_move rfl) ?_
            refine qs_y rfl rfl (yv_move rfl) ?_
            refine qs_y rfl rfl (yv_index T.sl39 rfl rfl (Heap.rdw T.el39_encI hH34 (n := 1) rfl).is (by omega)) ?_
            refine qs_nil ?_
            refine any_takesY [9, 13] (by kernel_rfl) hH34 _ _ _ (by kernel_rfl) ?_
            refine qs_y rfl rfl (yv_load T.one3 rfl (fun _ hw => Rd.at (Heap.rdw T.el39_encI hw (n := 1) rfl) (i := (k : Int) - 1) (by omega) (j := 0) rfl)) ?_
            refine qs_y rfl rfl (yv_load T.one3 rfl (fun _ hw => Rd.at (Heap.rdw T.el39_encI hw (n := 1) rfl) (i := (k : Int)) (by omega) (j := 0) rfl)) ?_
            refine qs_nil ?_
            refine any_takesT [14] (by kernel_rfl)  _ _ _ (by kernel_rfl) ?_
            refine qs_y rfl rfl (yv_index T.sl39 rfl rfl (Heap.rdw T.el39_encI hH34 (n := 1) rfl).is (by omega)) ?_
            refine qs_nil ?_
            refine any_allY [15] (by kernel_rfl) rfl ?_
            refine ⟨⟨_, rfl, ?_⟩, trivial⟩
            · skip
              refine op_setE (n := 1) (i := (k : Int)) (k := 0) (us := [(.int .i64 (nth LL ((k : Int) - 1)))]) (z := nth LL ((k : Int) - 1)) T.el39_encI rfl rfl hH34 rfl (by omega) T.sz3 rfl rfl rfl (Nat.le_of_ble_eq_true rfl) (fun w35 hH36 => ?_)
              refine ops_nil ?_
              refine ⟨(fun h => by cases h), ?_⟩
              refine any_takesT [16] (by kernel_rfl)  _ _ _ (by kernel_rfl) ?_
              refine qs_y rfl rfl (yv_index T.sl39 rfl rfl (Heap.rdw T.el39_encI hH36 (n := 1) rfl).is (by rw [List.length_set]; omega)) ?_
              refine qs_nil ?_
              refine any_allY [17] (by kernel_rfl) rfl ?_
              refine ⟨⟨_, rfl, ?_⟩, trivial⟩
              · skip
                refine op_setE (n := 1) (i := (k : Int) - 1) (k := 0) (us := [(.int .i64 (nth LL (k : Int)))]) (z := nth LL (k : Int)) T.el39_encI rfl rfl hH36 rfl (by rw [List.length_set]; omega) T.sz3 rfl rfl rfl (Nat.le_of_ble_eq_true rfl) (fun w37 hH38 => ?_)
                refine ops_nil ?_
                refine ⟨(fun h => by cases h), ?_⟩
                refine any_doneY (by kernel_rfl) ?_
                refine blk_n ?_
                refine thn_n ?_
                refine region ?_
                refine ops_y hH38 rfl rfl (yv_move rfl) ?_
                refine ops_y hH38 rfl rfl (yv_sub rfl rfl (by omega)) ?_
                refine ops_y hH38 rfl rfl (yv_assign rfl) ?_
                refine ops_nil ?_
                refine lp_n (k - 1, ((LL.set (k : Int).toNat (nth LL ((k : Int) - 1))).set ((k : Int) - 1).toNat (nth LL (k : Int))), v_9, lo_9, hi_9) (Sub.cons (congrArg (fun z => some (Value.int .i64 z)) (by omega)) (Sub.cons rfl (Sub.cons rfl (Sub.cons rfl (Sub.cons rfl (Sub.nil _)))))) ?_ ?_
                · exact ⟨hH38, by simp only [List.length_set]; omega, by simp only [List.length_set]; exact hLl, S.all_set (P := fun z => 0 ≤ z ∧ z < (ps.length : Int)) (S.all_set (P := fun z => 0 ≤ z ∧ z < (ps.length : Int)) hLr hr2) hr1, (S.putTo_step (by omega) (by assumption)).trans hput⟩
                · first | (dsimp only; omega) | (show _ < _; omega)
          · skip
            refine cond_f rfl (decide_eq_false hc31) ?_
            refine exit ?_
            refine thn_x ?_
            refine lp_x ?_
            refine blk_here ?_
            refine thn_n ?_
            refine seq ?_
            refine region ?_
            refine ops_y hH30 rfl rfl (yv_move rfl) ?_
            refine ops_y hH30 rfl rfl (yv_assign rfl) ?_
            refine ops_nil ?_
            refine thn_n ?_
            refine ret ?_
            have hH39 := (hH30.sub (List.Sublist.cons _ (List.Sublist.refl _)))
            refine fin (hH39.front (n := 1) rfl) (fun w' hf => (res1 rfl (show RV _ _ _ (.tmp 8) _ from rfl))) (fun w' hf => ?_)
            have hstop : ¬ 0 < k ∨ ¬ (fun j => S.at2 ps (2 * j + b)) (nth LL (k : Int)) < (fun j => S.at2 ps (2 * j + b)) (nth LL ((k : Int) - 1)) := by first | exact .inl (by omega) | exact .inr (by assumption)
            have e : LL = S.putF (fun j => S.at2 ps (2 * j + b)) l x := (S.putTo_stop hstop).symm.trans hput
            exact (by have h := Heap.own hf (n := 0) rfl; rw [e] at h; exact h)
    · skip
      refine any_takes [3, 4, 5, 6, 7, 8, 9, 10, 11, 12, 13, 14, 15, 16, 17, 18, 19, 20, 21, 22, 23] (by kernel_rfl) hH25 _ _ _ (by kernel_rfl) ?_
      refine qs_no rfl rfl rfl (decide_eq_false hc26) rfl ?_
      refine qs_no rfl rfl rfl (decide_eq_false hc26) rfl ?_
      refine qs_no rfl rfl rfl (decide_eq_false hc26) rfl ?_
      refine qs_no rfl rfl rfl (decide_eq_false hc26) rfl ?_
      refine qs_no rfl rfl rfl (decide_eq_false hc26) rfl ?_
      refine qs_no rfl rfl rfl (decide_eq_false hc26) rfl ?_
      refine qs_no rfl rfl rfl (decide_eq_false hc26) rfl ?_
      refine qs_no rfl rfl rfl (decide_eq_false hc26) rfl ?_
      refine qs_no rfl rfl rfl (decide_eq_false hc26) rfl ?_
      refine qs_no rfl rfl rfl (decide_eq_false hc26) rfl ?_
      refine qs_no rfl rfl rfl (decide_eq_false hc26) rfl ?_
      refine qs_no rfl rfl rfl (decide_eq_false hc26) rfl ?_
      refine qs_no rfl rfl rfl (decide_eq_false hc26) rfl ?_
      refine qs_no rfl rfl rfl (decide_eq_false hc26) rfl ?_
      refine qs_no rfl rfl rfl (decide_eq_false hc26) rfl ?_
      refine qs_no rfl rfl rfl (decide_eq_false hc26) rfl ?_
      refine qs_no rfl rfl rfl (decide_eq_false hc26) rfl ?_
      refine qs_no rfl rfl rfl (decide_eq_false hc26) rfl ?_
      refine qs_no rfl rfl rfl (decide_eq_false hc26) rfl ?_
      refine qs_no rfl rfl rfl (decide_eq_false hc26) rfl ?_
      refine qs_y rfl rfl (yv_pick_f rfl (decide_eq_false hc26) rfl) ?_
      refine qs_nil ?_
      refine any_done (by kernel_rfl) ?_
      refine thn_n ?_
      refine cond_f rfl rfl ?_
      refine exit ?_
      refine thn_x ?_
      refine lp_x ?_
      refine blk_here ?_
      refine thn_n ?_
      refine seq ?_
      refine region ?_
      refine ops_y hH25 rfl rfl (yv_move rfl) ?_
      refine ops_y hH25 rfl rfl (yv_assign rfl) ?_
      refine ops_nil ?_
      refine thn_n ?_
      refine ret ?_
      have hH40 := (hH25.sub (List.Sublist.cons _ (List.Sublist.refl _)))
      refine fin (hH40.front (n := 1) rfl) (fun w' hf => (res1 rfl (show RV _ _ _ (.tmp 8) _ from rfl))) (fun w' hf => ?_)
      have hstop : ¬ 0 < k ∨ ¬ (fun j => S.at2 ps (2 * j + b)) (nth LL (k : Int)) < (fun j => S.at2 ps (2 * j + b)) (nth LL ((k : Int) - 1)) := by first | exact .inl (by omega) | exact .inr (by assumption)
      have e : LL = S.putF (fun j => S.at2 ps (2 * j + b)) l x := (S.putTo_stop hstop).symm.trans hput
      exact (by have h := Heap.own hf (n := 0) rfl; rw [e] at h; exact h)

theorem c46 {u : Value} {ps : List S.Pr} {w : World} (h1 : Rd encP 2 u ps w) (hn : ps.length ≤ 900)  :
    Fn Try.prog 46 [u].toArray w (fun u w => ∃ b t f, u = .agg #[b, t, f] ∧ Rd3 b t f (S.rowB ps 0 ps.length) (S.rowB ps 1 ps.length) (S.firstsOf ps ps.length) w) := by
  refine fn_of' (args := [u]) Try.func46 rfl (ent Try.func46 (by kernel_rfl) rfl) rfl rfl (fun hH => ?_)
  refine seq ?_
  refine region ?_
  refine op_alloc (z := (.agg #[(.slice none 0 0), (.slice none 0 0), (.slice none 0 0)])) (us := [(.slice none 0 0), (.slice none 0 0), (.slice none 0 0)]) (fun _ => by kernel_rfl) rfl rfl hH (fun b1 w2 hH3 => ?_)
  refine ops_nil ?_
  refine thn_n ?_
  refine seq ?_
  refine region ?_
  refine op_alloc (z := (.agg #[(.slice none 0 0), (.slice none 0 0), (.slice none 0 0)])) (us := [(.slice none 0 0), (.slice none 0 0), (.slice none 0 0)]) (fun _ => by kernel_rfl) rfl rfl hH3 (fun b4 w5 hH6 => ?_)
  refine ops_nil ?_
  refine thn_n ?_
  refine seq ?_
  refine seq ?_
  refine region ?_
  refine ops_y hH6 rfl rfl (yv_assign rfl) ?_
  refine ops_nil ?_
  refine thn_n ?_
  refine block ?_
  have hH7 := ow_nil (enc := encI) 3 1 hH6
  have hH8 := ow_nil (enc := encI) 3 1 hH7
  have hH9 := ow_nil (enc := encI) 3 1 hH8
  refine loop (S := Nat × Value × Nat × Nat × Value × Nat × Nat × Value × Nat × Nat) (fun (k, v_b3_0, lo_b3_0, hi_b3_0, v_b3_1, lo_b3_1, hi_b3_1, v_b3_2, lo_b3_2, hi_b3_2) => [(4, (.int .i64 (k : Int))), (0, u), (2, (.pointer (some ⟨b1, 0, none⟩))), (3, (.pointer (some ⟨b4, 0, none⟩)))]) (fun (k, v_b3_0, lo_b3_0, hi_b3_0, v_b3_1, lo_b3_1, hi_b3_1, v_b3_2, lo_b3_2, hi_b3_2) w1 => Heap [ow lo_b3_2 hi_b3_2 3 1 encI v_b3_2 (S.firstsOf ps k), ow lo_b3_1 hi_b3_1 3 1 encI v_b3_1 (S.rowB ps 1 k), ow lo_b3_0 hi_b3_0 3 1 encI v_b3_0 (S.rowB ps 0 k), bx b4 41 [v_b3_0, v_b3_1, v_b3_2], bx b1 41 [(.slice none 0 0), (.slice none 0 0), (.slice none 0 0)], base w] w1 ∧ k ≤ ps.length) (fun (k, v_b3_0, lo_b3_0, hi_b3_0, v_b3_1, lo_b3_1, hi_b3_1, v_b3_2, lo_b3_2, hi_b3_2) => ps.length - k) (0, (.slice none 0 0), w5.heap.size, w5.heap.size, (.slice none 0 0), w5.heap.size, w5.heap.size, (.slice none 0 0), w5.heap.size, w5.heap.size) (Sub.cons rfl (Sub.cons rfl (Sub.cons rfl (Sub.cons rfl (Sub.nil _))))) ?_ ?_
  · exact ⟨hH9, by omega⟩
  · rintro ⟨k, v_b3_0, lo_b3_0, hi_b3_0, v_b3_1, lo_b3_1, hi_b3_1, v_b3_2, lo_b3_2, hi_b3_2⟩ w10 ⟨hH11, hk⟩
    show Holds _ _ _ _ _ [(4, (.int .i64 (k : Int))), (0, u), (2, (.pointer (some ⟨b1, 0, none⟩))), (3, (.pointer (some ⟨b4, 0, none⟩)))] _ _
    have hB : (S.rowB ps 0 k).length = k := (S.rowOf_ok k).1
    have hU : (S.rowB ps 1 k).length = k := (S.rowOf_ok k).1
    have hF := S.firstsOf_length ps k
    refine seq ?_
    refine seq ?_
    refine region ?_
    refine ops_y hH11 rfl rfl (yv_move rfl) ?_
    refine ops_y hH11 rfl rfl (yv_move rfl) ?_
    refine ops_y hH11 rfl rfl (yv_len T.sl23 rfl (h1.now hH11 (n := 5) rfl).is) ?_
    refine ops_y hH11 rfl rfl (yv_lss rfl rfl) ?_
    refine ops_nil ?_
    refine thn_n ?_
    by_cases hc12 : (k : Int) < (ps.length : Int)
    · skip
      refine cond_t rfl (decide_eq_true hc12) ?_
      refine skip ?_
      refine thn_n ?_
      refine seq ?_
      refine block ?_
      refine seq ?_
      refine region_drawY (fun w' => Heap [bx b4 41 [v_b3_0, v_b3_1, v_b3_2], bx b1 41 [(.slice none 0 0), (.slice none 0 0), (.slice none 0 0)], base w] w') [11, 13] T.mixed (fun w13 hr14 => ?_)
      have hH15 := hH11.redrawn hr14
      refine any_takesT [0, 2, 3, 5, 7, 8] (by kernel_rfl)  _ _ _ (by kernel_rfl) ?_
      refine qs_y rfl rfl (yv_field T.f41_0 rfl) ?_
      refine qs_y rfl rfl (yv_move rfl) ?_
      refine qs_y rfl rfl (yv_move rfl) ?_
      refine qs_y rfl rfl (yv_field T.f41_1 rfl) ?_
      refine qs_y rfl rfl (yv_move rfl) ?_
      refine qs_y rfl rfl (yv_move rfl) ?_
      refine qs_nil ?_
      refine any_takesY [1, 6] (by kernel_rfl) (hH15.sub (List.Sublist.cons _ (List.Sublist.cons _ (List.Sublist.cons _ (List.Sublist.refl _))))) _ _ _ (by kernel_rfl) ?_
      refine qs_y rfl rfl (yv_load T.one39 rfl (fun _ hw => Heap.cellw hw (n := 0) rfl rfl)) ?_
      refine qs_y rfl rfl (yv_load T.one39 rfl (fun _ hw => Heap.cellw hw (n := 0) rfl rfl)) ?_
      refine qs_nil ?_
      refine any_allY [4] (by kernel_rfl) rfl ?_
      refine ⟨⟨_, rfl, ?_⟩, trivial⟩
      · skip
        refine op_fn rfl rfl rfl hH15 (c81 (Heap.rdw T.el39_encI hH15 (n := 2) rfl) (h1.now hH15 (n := 5) rfl) (by omega) (by omega) (by omega) (by omega) (fun i hi => by have := S.rowB_in (p := ps) (b := 0) (by omega) (k := k) i hi; omega)) (fun u18 w16 lo19 hi20 hH17 hv21 => ?_)
        have hH22 := Heap.toOw hH17 (n := 0) rfl
        refine ops_nil ?_
        refine ⟨fun _ _ => (hH22.sub (List.Sublist.cons _ (List.Sublist.cons _ (List.Sublist.cons _ (List.Sublist.cons _ (List.Sublist.refl _)))))), ?_⟩
        refine any_takesT [10] (by kernel_rfl)  _ _ _ (by kernel_rfl) ?_
        refine qs_y rfl rfl (yv_field T.f41_0 rfl) ?_
        refine qs_nil ?_
        refine any_allY [9] (by kernel_rfl) rfl ?_
        refine ⟨⟨_, rfl, ?_⟩, trivial⟩
        · skip
          refine op_fn rfl rfl rfl hH22 (c81 (Heap.rdw T.el39_encI hH22 (n := 2) rfl) (h1.now hH22 (n := 6) rfl) (by omega) (by omega) (by omega) (by omega) (fun i hi => by have := S.rowB_in (p := ps) (b := 1) (by omega) (k := k) i hi; omega)) (fun u25 w23 lo26 hi27 hH24 hv28 => ?_)
          have hH29 := Heap.toOw hH24 (n := 0) rfl
          refine ops_nil ?_
          refine ⟨fun _ _ => (hH29.sub (List.Sublist.cons _ (List.Sublist.cons _ (List.Sublist.cons _ (List.Sublist.cons _ (List.Sublist.cons _ (List.Sublist.refl _))))))), ?_⟩
          refine any_allY [11] (by kernel_rfl) rfl ?_
          refine ⟨⟨_, rfl, ?_⟩, trivial⟩
          · skip
            refine op_store (n := 5) (j := 0) (us := [u18]) rfl rfl hH29 rfl T.sz39 (SliceIs.cells (Heap.rdw T.el39_encI hH29 (n := 1) rfl).is) rfl rfl (SliceIs.one (Heap.rdw T.el39_encI hH29 (n := 1) rfl).is) (fun w30 hH31 => ?_)
            refine ops_nil ?_
            refine ⟨(fun h => by cases h), ?_⟩
            refine any_takesT [12] (by kernel_rfl)  _ _ _ (by kernel_rfl) ?_
            refine qs_y rfl rfl (yv_field T.f41_1 rfl) ?_
            refine qs_nil ?_
            refine any_allY [13] (by kernel_rfl) rfl ?_
            refine ⟨⟨_, rfl, ?_⟩, trivial⟩
            · skip
              refine op_store (n := 5) (j := 1) (us := [u25]) rfl rfl hH31 rfl T.sz39 (SliceIs.cells (Heap.rdw T.el39_encI hH31 (n := 0) rfl).is) rfl rfl (SliceIs.one (Heap.rdw T.el39_encI hH31 (n := 0) rfl).is) (fun w32 hH33 => ?_)
              refine ops_nil ?_
              refine ⟨(fun h => by cases h), ?_⟩
              refine any_doneY (by kernel_rfl) ?_
              refine thn_n ?_
              refine seq ?_
              refine region ?_
              refine ops_y hH33 rfl rfl (yv_assign rfl) ?_
              refine ops_nil ?_
              refine thn_n ?_
              refine seq ?_
              refine seq ?_
              refine region_draw (fun w' => Heap [ow lo26 hi27 3 1 encI u25 (S.putF (fun j => S.at2 ps (2 * j + 1)) (S.rowB ps 1 k) (k : Int)), ow lo19 hi20 3 1 encI u18 (S.putF (fun j => S.at2 ps (2 * j + 0)) (S.rowB ps 0 k) (k : Int)), ow lo_b3_2 hi_b3_2 3 1 encI v_b3_2 (S.firstsOf ps k), ow lo_b3_1 hi_b3_1 3 1 encI v_b3_1 (S.rowB ps 1 k), ow lo_b3_0 hi_b3_0 3 1 encI v_b3_0 (S.rowB ps 0 k), bx b4 41 [u18, u25, v_b3_2], bx b1 41 [(.slice none 0 0), (.slice none 0 0), (.slice none 0 0)], base w] w') T.mixed (fun w34 hr35 => ?_)
              have hH36 := hH33.redrawn hr35
              refine any_takes [0, 1, 2, 3, 4, 5, 6, 7, 8, 9, 10] (by kernel_rfl) hH36 _ _ _ (by kernel_rfl) ?_
              refine qs_y rfl rfl (yv_move rfl) ?_
              refine qs_y rfl rfl (yv_move rfl) ?_
              refine qs_y rfl rfl (yv_index T.sl23 rfl rfl (h1.now hH36 (n := 7) rfl).is (by omega)) ?_
              refine qs_y rfl rfl (yv_field T.f73_1 rfl) ?_
              refine qs_y rfl rfl (yv_load T.one2 rfl (fun _ hw => Rd.at (h1.now hw (n := 7) rfl) (i := (k : Int)) (by omega) (j := 1) rfl)) ?_
              refine qs_y rfl rfl (yv_move rfl) ?_
              refine qs_y rfl rfl (yv_move rfl) ?_
              refine qs_y rfl rfl (yv_index T.sl23 rfl rfl (h1.now hH36 (n := 7) rfl).is (by omega)) ?_
              refine qs_y rfl rfl (yv_field T.f73_0 rfl) ?_
              refine qs_y rfl rfl (yv_load T.one2 rfl (fun _ hw => Rd.at (h1.now hw (n := 7) rfl) (i := (k : Int)) (by omega) (j := 0) rfl)) ?_
              refine qs_y rfl rfl (yv_lss rfl rfl) ?_
              refine qs_nil ?_
              refine any_done (by kernel_rfl) ?_
              refine thn_n ?_
              by_cases hc37 : ((nth ps (k : Int)).2) < ((nth ps (k : Int)).1)
              · skip
                refine cond_t rfl (decide_eq_true hc37) ?_
                refine region ?_
                refine ops_y hH36 rfl rfl (yv_assign rfl) ?_
                refine ops_nil ?_
                refine thn_n ?_
                refine region ?_
                refine ops_y hH36 rfl rfl (yv_field T.f41_2 rfl) ?_
                refine ops_y hH36 rfl rfl (yv_load T.one39 rfl (fun _ hw => Heap.cellw hw (n := 5) rfl rfl)) ?_
                refine ops_y hH36 rfl rfl (yv_move rfl) ?_
                refine op_lit (us := [(0, (.int .i64 1))]) T.el39_encI [1] rfl (by decide) rfl (fun a ha => by simp [ha.ev (show ev _ (.tmp 37) = some _ from rfl)]) (fun w => by kernel_rfl) hH36 (fun u38 lo40 hi41 w39 hH42 => ?_)
                refine op_append (n := 3) T.el39_encI rfl rfl rfl hH42 rfl (Heap.rdw T.el39_encI hH42 (n := 0) rfl) (by first | omega | (simp only [List.length_append, List.length_cons, List.length_nil]; omega)) (fun u43 lo45 hi46 w44 hH47 => ?_)
                refine ops_y hH47 rfl rfl (yv_field T.f41_2 rfl) ?_
                refine op_store (n := 6) (j := 2) (us := [u43]) rfl rfl hH47 rfl T.sz39 (SliceIs.cells (Heap.rdw T.el39_encI hH47 (n := 3) rfl).is) rfl rfl (SliceIs.one (Heap.rdw T.el39_encI hH47 (n := 3) rfl).is) (fun w48 hH49 => ?_)
                refine ops_nil ?_
                refine blk_n ?_
                refine thn_n ?_
                refine region ?_
                refine ops_y hH49 rfl rfl (yv_move rfl) ?_
                refine ops_y hH49 rfl rfl (yv_add rfl rfl (by omega)) ?_
                refine ops_y hH49 rfl rfl (yv_assign rfl) ?_
                refine ops_nil ?_
                have hH50 := hH49.front (n := 8) rfl
                have hH51 := hH50.front (n := 8) rfl
                have hH52 := hH51.front (n := 8) rfl
                have hH53 := hH52.front (n := 5) rfl
                have hH54 := hH53.front (n := 5) rfl
                have hH55 := hH54.front (n := 6) rfl
                have hH56 := (hH55.sub (List.Sublist.cons_cons _ (List.Sublist.cons_cons _ (List.Sublist.cons_cons _ (List.Sublist.cons_cons _ (List.Sublist.cons_cons _ (List.Sublist.cons_cons _ (List.nil_sublist _))))))))
                refine lp_n (k + 1, u18, lo19, hi20, u25, lo26, hi27, u43, lo45, hi46) (Sub.cons rfl (Sub.cons rfl (Sub.cons rfl (Sub.cons rfl (Sub.nil _))))) ?_ ?_
                · exact ⟨(Heap.recast (n := 0) (Heap.recast (n := 1) (Heap.recast (n := 2) hH56 rfl (rfl)) rfl (rfl)) rfl (by first | rw [S.fo_t ‹_›] | rw [S.fo_f ‹_›])), by omega⟩
                · first | (dsimp only; omega) | (show _ < _; omega)
              · skip
                refine cond_f rfl (decide_eq_false hc37) ?_
                refine skip ?_
                refine thn_n ?_
                refine region ?_
                refine ops_y hH36 rfl rfl (yv_field T.f41_2 rfl) ?_
                refine ops_y hH36 rfl rfl (yv_load T.one39 rfl (fun _ hw => Heap.cellw hw (n := 5) rfl rfl)) ?_
                refine ops_y hH36 rfl rfl (yv_move rfl) ?_
                refine op_lit (us := [(0, (.int .i64 0))]) T.el39_encI [0] rfl (by decide) rfl (fun a ha => by simp [ha.ev (show ev _ (.tmp 37) = some _ from rfl)]) (fun w => by kernel_rfl) hH36 (fun u57 lo59 hi60 w58 hH61 => ?_)
                refine op_append (n := 3) T.el39_encI rfl rfl rfl hH61 rfl (Heap.rdw T.el39_encI hH61 (n := 0) rfl) (by first | omega | (simp only [List.length_append, List.length_cons, List.length_nil]; omega)) (fun u62 lo64 hi65 w63 hH66 => ?_)
                refine ops_y hH66 rfl rfl (yv_field T.f41_2 rfl) ?_
                refine op_store (n := 6) (j := 2) (us := [u62]) rfl rfl hH66 rfl T.sz39 (SliceIs.cells (Heap.rdw T.el39_encI hH66 (n := 3) rfl).is) rfl rfl (SliceIs.one (Heap.rdw T.el39_encI hH66 (n := 3) rfl).is) (fun w67 hH68 => ?_)
                refine ops_nil ?_
                refine blk_n ?_
                refine thn_n ?_
                refine region ?_
                refine ops_y hH68 rfl rfl (yv_move rfl) ?_
                refine ops_y hH68 rfl rfl (yv_add rfl rfl (by omega)) ?_
                refine ops_y hH68 rfl rfl (yv_assign rfl) ?_
                refine ops_nil ?_
                have hH69 := hH68.front (n := 8) rfl
                have hH70 := hH69.front (n := 8) rfl
                have hH71 := hH70.front (n := 8) rfl
                have hH72 := hH71.front (n := 5) rfl
                have hH73 := hH72.front (n := 5) rfl
                have hH74 := hH73.front (n := 6) rfl
                have hH75 := (hH74.sub (List.Sublist.cons_cons _ (List.Sublist.cons_cons _ (List.Sublist.cons_cons _ (List.Sublist.cons_cons _ (List.Sublist.cons_cons _ (List.Sublist.cons_cons _ (List.nil_sublist _))))))))
                refine lp_n (k + 1, u18, lo19, hi20, u25, lo26, hi27, u62, lo64, hi65) (Sub.cons rfl (Sub.cons rfl (Sub.cons rfl (Sub.cons rfl (Sub.nil _))))) ?_ ?_
                · exact ⟨(Heap.recast (n := 0) (Heap.recast (n := 1) (Heap.recast (n := 2) hH75 rfl (rfl)) rfl (rfl)) rfl (by first | rw [S.fo_t ‹_›] | rw [S.fo_f ‹_›])), by omega⟩
                · first | (dsimp only; omega) | (show _ < _; omega)
    · skip
      refine cond_f rfl (decide_eq_false hc12) ?_
      refine exit ?_
      refine thn_x ?_
      refine lp_x ?_
      refine blk_here ?_
      refine thn_n ?_
      refine seq ?_
      refine region ?_
      refine ops_y hH11 rfl rfl (yv_loadA (cs := [v_b3_0, v_b3_1, v_b3_2]) T.agg41 rfl rfl (fun _ hw => Heap.cellsw hw (n := 3) rfl (k := 0) rfl)) ?_
      refine op_store (n := 4) (j := 0) (us := [v_b3_0, v_b3_1, v_b3_2]) rfl rfl hH11 rfl T.sz41 rfl rfl rfl (all_one (SliceIs.one1 (Heap.rdw T.el39_encI hH11 (n := 2) rfl).is) (all_one (SliceIs.one1 (Heap.rdw T.el39_encI hH11 (n := 1) rfl).is) (all_one (SliceIs.one1 (Heap.rdw T.el39_encI hH11 (n := 0) rfl).is) rfl))) (fun w76 hH77 => ?_)
      refine ops_nil ?_
      refine thn_n ?_
      refine ret ?_
      have hH78 := (hH77.sub (List.Sublist.cons_cons _ (List.Sublist.cons_cons _ (List.Sublist.cons_cons _ (List.Sublist.cons _ (List.Sublist.refl _))))))
      refine fin (hH78.front (n := 4) rfl) (fun w' hf => (res1 rfl (rvA (cs := [v_b3_0, v_b3_1, v_b3_2]) rfl T.agg41 rfl (bx_cells (Heap.bxw hf (n := 4) rfl) (k := 0) rfl)))) (fun w' hf => ?_)
      have hk2 : k = ps.length := by omega
      subst hk2
      exact ⟨_, _, _, rfl, Heap.rdw T.el39_encI hf (n := 2) rfl, Heap.rdw T.el39_encI hf (n := 1) rfl, Heap.rdw T.el39_encI hf (n := 0) rfl⟩

end Go.Fip
