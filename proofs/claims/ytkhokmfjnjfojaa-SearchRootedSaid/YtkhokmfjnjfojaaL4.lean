/- Walks, by program (wip/tools). -/
import Derived.Test.YtkhokmfjnjfojaaMI
set_option linter.unusedVariables false
set_option linter.unusedSimpArgs false
set_option linter.unusedSectionVars false
set_option linter.unnecessarySimpa false
namespace Go.Fip
open Go.Proofs Go.RowKit

set_option maxHeartbeats 4000000 in
theorem c8 {v : Value} {l : List Int} {a b : Int} {w : World} (h0 : Rd encI 1 v l w) (ha : 0 ≤ a ∧ a ≤ 255) (hb : 0 ≤ b ∧ b ≤ 255)  :
    Fn Try.prog 8 [v, (.int .u8 a), (.int .u8 b)].toArray w (fun u _ => u = .bool true) := by
  refine fn_of' (args := [v, (.int .u8 a), (.int .u8 b)]) Try.func8 rfl (ent Try.func8 (by kernel_rfl) rfl) rfl rfl (fun hH => ?_)
  refine seq (region (ops_y hH rfl rfl (yv_assign rfl) (ops_nil (thn_n (seq (seq ?_))))))
  by_cases hc1 : Q.ckW l = 0
  · skip
    have hc0 : Q.ckW l = 0 := ‹_›
    obtain ⟨hl12, hw⟩ := Q.ckW_w hc0
    refine region (ops_y hH rfl rfl (yv_move rfl) ?_)
    refine op_fnV rfl rfl rfl hH (c41 (h0.now hH (n := 0) rfl)) (fun w2 hH3 => ?_)
    refine ops_y hH3 rfl rfl (yv_castB (bnot_f (decide_eq_true hc1)) (yv_not rfl)) ?_
    refine ops_nil (thn_n ?_)
    refine cond_f rfl rfl ?_
    refine skip (thn_n (seq ?_))
    obtain ⟨x9, hx9⟩ : ∃ x : Int, x = a % (l.length : Int) := ⟨_, rfl⟩
    obtain ⟨y9, hy9⟩ : ∃ y : Int, y = b % (l.length : Int) := ⟨_, rfl⟩
    have m1 := Int.emod_nonneg a (b := (l.length : Int)) (by omega)
    have m2 := Int.emod_lt_of_pos a (b := (l.length : Int)) (by omega)
    have m3 := Int.emod_nonneg b (b := (l.length : Int)) (by omega)
    have m4 := Int.emod_lt_of_pos b (b := (l.length : Int)) (by omega)
    obtain ⟨i, hi⟩ : ∃ i : Nat, (i : Int) = min x9 y9 := ⟨(min x9 y9).toNat, by omega⟩
    obtain ⟨k, hk⟩ : ∃ k : Nat, (k : Int) = max x9 y9 := ⟨(max x9 y9).toNat, by omega⟩
    have hik : i ≤ k ∧ k < l.length := by omega
    have hR1 : Q.rootsR l (i : Int) (k : Int) = ((Q.rootsI l i (k + 1)), 0) := by rw [Q.ro3 hc0 (by omega), Int.toNat_natCast, Int.toNat_natCast]
    have hrp := Q.rootsI_pos (w := l) (i := i) (k := k + 1) (by omega)
    have htl := Q.tab_length (l := l)
    have htr := Q.tab_row (l := l) (i := i) (by omega)
    have hT1 : nth (nth (Q.tab l) (i : Int)) ((k : Int) - (i : Int)) = Q.C l i (k + 1) := by rw [show (k : Int) - (i : Int) = ((k - i : Nat) : Int) by omega, Q.tab_at (by omega) (by omega), show i + (k - i) + 1 = k + 1 by omega]
    refine region_draw (fun w' => Heap [base w] w') T.mixed (fun w4 hr5 => ?_)
    have hH6 := hH3.redrawn hr5
    refine any_takes [0, 1, 2, 3, 4, 5, 6, 7, 8, 9, 10, 11] (by kernel_rfl) hH6 _ _ _ (by kernel_rfl) ?_
    refine qs_y rfl rfl (yv_move rfl) ?_
    refine qs_y rfl rfl (yv_conv Try.underlying5 Try.underlying3 rfl (wrap_i64 (by omega))) ?_
    refine qs_y rfl rfl (yv_move rfl) ?_
    refine qs_y rfl rfl (yv_len T.sl30 rfl (h0.now hH6 (n := 0) rfl).is) ?_
    refine qs_y rfl rfl (yv_cast hx9.symm (yv_rem rfl rfl (by omega) (by omega))) ?_
    refine qs_y rfl rfl (yv_move rfl) ?_
    refine qs_y rfl rfl (yv_conv Try.underlying5 Try.underlying3 rfl (wrap_i64 (by omega))) ?_
    refine qs_y rfl rfl (yv_move rfl) ?_
    refine qs_y rfl rfl (yv_len T.sl30 rfl (h0.now hH6 (n := 0) rfl).is) ?_
    refine qs_y rfl rfl (yv_cast hy9.symm (yv_rem rfl rfl (by omega) (by omega))) ?_
    refine qs_y rfl rfl (yv_assign rfl) (qs_y rfl rfl (yv_assign rfl) (qs_nil ?_))
    refine any_done (by kernel_rfl) ?_
    refine thn_n (seq (region (ops_y hH6 rfl rfl (yv_move rfl) (ops_y hH6 rfl rfl (yv_move rfl) ?_))))
    refine ops_y hH6 rfl rfl (yv_cast hi.symm (yv_min rfl rfl)) ?_
    refine ops_y hH6 rfl rfl (yv_move rfl) (ops_y hH6 rfl rfl (yv_move rfl) ?_)
    refine ops_y hH6 rfl rfl (yv_cast hk.symm (yv_max rfl rfl)) ?_
    refine ops_y hH6 rfl rfl (yv_assign rfl) (ops_y hH6 rfl rfl (yv_assign rfl) (ops_nil (thn_n (seq (region (ops_y hH6 rfl rfl (yv_move rfl) (ops_y hH6 rfl rfl (yv_move rfl) (ops_y hH6 rfl rfl (yv_move rfl) ?_))))))))
    refine op_fn rfl rfl rfl hH6 ((by have h := c47 (h0.now hH6 (n := 0) rfl) (by omega) (a := (i : Int)) (b := (k : Int)) (w := w4); simp only [hR1] at h; exact h)) (fun u9 w7 lo10 hi11 hH8 hv12 => ?_)
    obtain ⟨p14, hu, -⟩ := hv12
    subst hu
    have hH13 := Heap.tup2 hH8 (n := 0) rfl
    refine ops_y hH13 rfl rfl (yv_move rfl) (ops_y hH13 rfl rfl (yv_extract rfl rfl) (ops_y hH13 rfl rfl (yv_extract rfl rfl) (ops_y hH13 rfl rfl (yv_assign rfl) (ops_y hH13 rfl rfl (yv_assign rfl) (ops_nil (thn_n (seq (region (ops_y hH13 rfl rfl (yv_move rfl) ?_)))))))))
    refine op_fn rfl rfl rfl hH13 (c43 (h0.now hH13 (n := 1) rfl) (by omega) hc0) (fun u17 w15 lo18 hi19 hH16 hv20 => ?_)
    obtain ⟨p23, hu, -⟩ := hv20
    subst hu
    obtain ⟨TT21, hH22⟩ := Heap.tupRows hH16 (n := 0) rfl
    have hTl24 := (show RowsAt p23 TT21 (Q.tab l) _ from hH22.get (n := 0) rfl).2.1
    refine ops_y hH22 rfl rfl (yv_move rfl) (ops_y hH22 rfl rfl (yv_extract rfl rfl) (ops_y hH22 rfl rfl (yv_extract rfl rfl) (ops_y hH22 rfl rfl (yv_assign rfl) (ops_y hH22 rfl rfl (yv_assign rfl) (ops_nil (thn_n (seq (seq (region ?_)))))))))
    refine ops_y hH22 rfl rfl (yv_move rfl) ?_
    refine ops_y hH22 rfl rfl (yv_castB rfl (yv_neq rfl rfl)) ?_
    refine ops_y hH22 rfl rfl (yv_move rfl) (guard_yes rfl rfl rfl (ops_y hH22 rfl rfl (yv_move rfl) (guard_yes rfl rfl rfl ?_)))
    refine ops_y hH22 rfl rfl (yv_not rfl) ?_
    refine ops_y hH22 rfl rfl (yv_pick_f rfl rfl rfl) ?_
    refine ops_y hH22 rfl rfl (yv_move rfl) (guard_yes rfl rfl rfl (ops_y hH22 rfl rfl (yv_move rfl) (guard_yes rfl rfl rfl ?_)))
    refine ops_y hH22 rfl rfl (yv_len T.sl22 rfl (Heap.rdw T.el22_encI hH22 (n := 1) rfl).is) ?_
    refine guard_yes rfl rfl rfl ?_
    refine ops_y hH22 rfl rfl (yv_castB (decide_eq_false (by omega)) (yv_lss rfl rfl)) ?_
    refine ops_y hH22 rfl rfl (yv_pick_f rfl rfl rfl) ?_
    refine ops_y hH22 rfl rfl (yv_move rfl) (guard_yes rfl rfl rfl (ops_y hH22 rfl rfl (yv_move rfl) (guard_yes rfl rfl rfl ?_)))
    refine ops_y hH22 rfl rfl (yv_len T.sl22 rfl (Heap.rdw T.el22_encI hH22 (n := 1) rfl).is) ?_
    refine guard_yes rfl rfl rfl (ops_y hH22 rfl rfl (yv_move rfl) (guard_yes rfl rfl rfl (ops_y hH22 rfl rfl (yv_move rfl) (guard_yes rfl rfl rfl ?_))))
    refine ops_y hH22 rfl rfl (yv_sub rfl rfl (by omega)) ?_
    refine guard_yes rfl rfl rfl ?_
    refine ops_y hH22 rfl rfl (yv_add rfl rfl (by omega)) ?_
    refine guard_yes rfl rfl rfl ?_
    refine ops_y hH22 rfl rfl (yv_castB (decide_eq_false (by omega)) (yv_gtr rfl rfl)) ?_
    refine ops_y hH22 rfl rfl (yv_pick_f rfl rfl rfl) ?_
    refine ops_nil (thn_n ?_)
    refine cond_f rfl rfl ?_
    refine skip (thn_n (seq (region (ops_y hH22 rfl rfl (yv_assign rfl) (ops_nil (thn_n (seq (seq (region ?_)))))))))
    refine ops_y hH22 rfl rfl (yv_move rfl) (ops_y hH22 rfl rfl (yv_assign rfl) (ops_nil (thn_n (block ?_))))
    refine loop (S := Nat) (fun j => [(16, (.int .i64 ((i + j : Nat) : Int))), (15, (.int .i64 (Q.P l (i + j) - Q.P l i))), (0, v), (6, (.bool false)), (9, (.int .i64 (i : Int))), (10, (.int .i64 (k : Int))), (11, p14), (13, p23)]) (fun j w1 => Heap [⟨lo18, hi19, RowsAt p23 TT21 (Q.tab l)⟩, ow lo10 hi11 3 1 encI p14 (Q.rootsI l i (k + 1)), base w] w1 ∧ j ≤ k + 1 - i) (fun j => k + 1 - i - j) (0) (Sub.cons (congrArg (fun z : Int => some (Value.int .i64 z)) (by omega)) (Sub.cons (congrArg (fun z : Int => some (Value.int .i64 z)) (by simp)) (Sub.cons rfl (Sub.cons rfl (Sub.cons rfl (Sub.cons rfl (Sub.cons rfl (Sub.cons rfl (Sub.nil _))))))))) ?_ ?_
    · exact ⟨hH22, by omega⟩
    · rintro j w25 ⟨hH26, hj⟩
      show Holds _ _ _ _ _ [(16, (.int .i64 ((i + j : Nat) : Int))), (15, (.int .i64 (Q.P l (i + j) - Q.P l i))), (0, v), (6, (.bool false)), (9, (.int .i64 (i : Int))), (10, (.int .i64 (k : Int))), (11, p14), (13, p23)] _ _
      refine seq (seq (region (ops_y hH26 rfl rfl (yv_move rfl) (ops_y hH26 rfl rfl (yv_move rfl) ?_))))
      refine ops_y hH26 rfl rfl (yv_leq rfl rfl) ?_
      refine ops_nil (thn_n ?_)
      by_cases hc27 : ((i + j : Nat) : Int) ≤ (k : Int)
      · skip
        refine cond_t rfl (decide_eq_true hc27) ?_
        refine skip (thn_n (seq (block ?_)))
        have hps := Q.P_succ (w := l) (k := i + j) (by omega)
        have hpb := Q.P_bd hw (i := i) j (by omega)
        have hwa := Q.of_all hw (i := i + j) (by omega)
        refine region (ops_y hH26 rfl rfl (yv_move rfl) (ops_y hH26 rfl rfl (yv_move rfl) (ops_y hH26 rfl rfl (yv_move rfl) ?_)))
        refine ops_y hH26 rfl rfl (yv_index T.sl30 rfl rfl (h0.now hH26 (n := 2) rfl).is (by omega)) ?_
        refine ops_y hH26 rfl rfl (yv_load T.one2 rfl (fun _ hw => Rd.at (h0.now hw (n := 2) rfl) (i := ((i + j : Nat) : Int)) (by omega) (j := 0) rfl)) ?_
        refine ops_y hH26 rfl rfl (yv_add rfl rfl (by omega)) ?_
        refine ops_y hH26 rfl rfl (yv_assign rfl) (ops_nil (blk_n (thn_n (region (ops_y hH26 rfl rfl (yv_move rfl) ?_)))))
        refine ops_y hH26 rfl rfl (yv_add rfl rfl (by omega)) ?_
        refine ops_y hH26 rfl rfl (yv_assign rfl) (ops_nil ?_)
        refine lp_n (j + 1) (Sub.cons (congrArg (fun z : Int => some (Value.int .i64 z)) (by omega)) (Sub.cons (congrArg (fun z : Int => some (Value.int .i64 z)) (by rw [show i + (j + 1) = i + j + 1 by omega]; omega)) (Sub.cons rfl (Sub.cons rfl (Sub.cons rfl (Sub.cons rfl (Sub.cons rfl (Sub.cons rfl (Sub.nil _))))))))) ?_ ?_
        · exact ⟨hH26, by omega⟩
        · first | (dsimp only; omega) | (show _ < _; omega)
      · skip
        refine cond_f rfl (decide_eq_false hc27) ?_
        refine exit (thn_x (lp_x (blk_here (thn_n (seq (seq ?_))))))
        have hje : i + j = k + 1 := by omega
        have hPe : Q.P l (i + j) = Q.P l (k + 1) := by rw [hje]
        have hpb := Q.P_bd hw (i := i) j (by omega)
        refine region (ops_y hH26 rfl rfl (yv_assign rfl) (ops_nil (thn_n (block ?_))))
        refine loop (S := Nat) (fun q => [(17, (.int .i64 (q : Int))), (0, v), (9, (.int .i64 (i : Int))), (10, (.int .i64 (k : Int))), (11, p14), (13, p23), (15, (.int .i64 (Q.P l (i + j) - Q.P l i)))]) (fun q w1 => Heap [⟨lo18, hi19, RowsAt p23 TT21 (Q.tab l)⟩, ow lo10 hi11 3 1 encI p14 (Q.rootsI l i (k + 1)), base w] w1 ∧ q ≤ (Q.rootsI l i (k + 1)).length) (fun q => (Q.rootsI l i (k + 1)).length - q) (0) (Sub.cons rfl (Sub.cons rfl (Sub.cons rfl (Sub.cons rfl (Sub.cons rfl (Sub.cons rfl (Sub.cons rfl (Sub.nil _)))))))) ?_ ?_
        · exact ⟨hH26, by omega⟩
        · rintro q w28 ⟨hH29, hq⟩
          show Holds _ _ _ _ _ [(17, (.int .i64 (q : Int))), (0, v), (9, (.int .i64 (i : Int))), (10, (.int .i64 (k : Int))), (11, p14), (13, p23), (15, (.int .i64 (Q.P l (i + j) - Q.P l i)))] _ _
          refine seq (seq (region (ops_y hH29 rfl rfl (yv_move rfl) (ops_y hH29 rfl rfl (yv_move rfl) ?_))))
          refine ops_y hH29 rfl rfl (yv_len T.sl22 rfl (Heap.rdw T.el22_encI hH29 (n := 1) rfl).is) ?_
          refine ops_y hH29 rfl rfl (yv_lss rfl rfl) ?_
          refine ops_nil (thn_n ?_)
          by_cases hc30 : (q : Int) < ((Q.rootsI l i (k + 1)).length : Int)
          · skip
            refine cond_t rfl (decide_eq_true hc30) ?_
            refine skip (thn_n (seq (block (seq (seq ?_)))))
            obtain ⟨rr, hrr, hRt⟩ := Q.rootsI_mem (w := l) (i := i) (k := k + 1) (q := q) (by omega)
            have hRb : i ≤ rr ∧ rr < k + 1 := ⟨hRt.1, hRt.2.1⟩
            have hn1 : ¬ nth (Q.rootsI l i (k + 1)) (q : Int) < (i : Int) := by omega
            have hn2 : ¬ (k : Int) < nth (Q.rootsI l i (k + 1)) (q : Int) := by omega
            have hprev : q = 0 ∨ nth (Q.rootsI l i (k + 1)) ((q : Int) - 1) < nth (Q.rootsI l i (k + 1)) (q : Int) := by
              rcases Nat.eq_zero_or_pos q with h | h
              · exact .inl h
              · exact .inr (by rw [show (q : Int) - 1 = ((q - 1 : Nat) : Int) by omega]; exact Q.rootsI_lt (by omega) (by omega))
            refine region_draw (fun w' => Heap [⟨lo18, hi19, RowsAt p23 TT21 (Q.tab l)⟩, ow lo10 hi11 3 1 encI p14 (Q.rootsI l i (k + 1)), base w] w') T.mixed (fun w31 hr32 => ?_)
            have hH33 := hH29.redrawn hr32
            refine any_takes [0, 1, 2, 3, 4, 5, 6, 7, 8, 9, 10, 11, 12, 13, 14, 15, 16, 17] (by kernel_rfl) hH33 _ _ _ (by kernel_rfl) ?_
            refine qs_y rfl rfl (yv_move rfl) (qs_y rfl rfl (yv_move rfl) ?_)
            refine qs_y rfl rfl (yv_index T.sl22 rfl rfl (Heap.rdw T.el22_encI hH33 (n := 1) rfl).is (by omega)) ?_
            refine qs_y rfl rfl (yv_load T.one3 rfl (fun _ hw => Rd.at (Heap.rdw T.el22_encI hw (n := 1) rfl) (i := (q : Int)) (by omega) (j := 0) rfl)) ?_
            refine qs_y rfl rfl (yv_move rfl) ?_
            refine qs_y rfl rfl (yv_castB (decide_eq_false (hn1)) (yv_lss rfl rfl)) ?_
            refine qs_y rfl rfl (yv_move rfl) ?_
            refine qs_yes rfl rfl rfl rfl rfl (yv_move rfl) ?_
            refine qs_yes rfl rfl rfl rfl rfl (yv_move rfl) ?_
            refine qs_yes rfl rfl rfl rfl rfl (yv_index T.sl22 rfl rfl (Heap.rdw T.el22_encI hH33 (n := 1) rfl).is (by omega)) ?_
            refine qs_yes rfl rfl rfl rfl rfl (yv_load T.one3 rfl (fun _ hw => Rd.at (Heap.rdw T.el22_encI hw (n := 1) rfl) (i := (q : Int)) (by omega) (j := 0) rfl)) ?_
            refine qs_yes rfl rfl rfl rfl rfl (yv_move rfl) ?_
            refine qs_yes rfl rfl rfl rfl rfl (yv_castB (decide_eq_false (hn2)) (yv_gtr rfl rfl)) ?_
            refine qs_y rfl rfl (yv_pick_f rfl rfl rfl) ?_
            refine qs_y rfl rfl (yv_move rfl) ?_
            refine qs_yes rfl rfl rfl rfl rfl (yv_move rfl) ?_
            refine qs_yes rfl rfl rfl rfl rfl (yv_gtr rfl rfl) ?_
            refine qs_yes rfl rfl rfl rfl rfl (yv_move rfl) ?_
            refine qs_nil ?_
            by_cases hc34 : 0 < (q : Int)
            · skip
              refine any_takes [18, 19, 20, 21, 22, 23, 24, 25, 26, 27, 28, 29] (by kernel_rfl) hH33 _ _ _ (by kernel_rfl) ?_
              refine qs_yes rfl rfl rfl (decide_eq_true hc34) rfl (yv_move rfl) ?_
              refine qs_yes rfl rfl rfl (decide_eq_true hc34) rfl (yv_move rfl) ?_
              refine qs_yes rfl rfl rfl (decide_eq_true hc34) rfl (yv_index T.sl22 rfl rfl (Heap.rdw T.el22_encI hH33 (n := 1) rfl).is (by omega)) ?_
              refine qs_yes rfl rfl rfl (decide_eq_true hc34) rfl (yv_load T.one3 rfl (fun _ hw => Rd.at (Heap.rdw T.el22_encI hw (n := 1) rfl) (i := (q : Int)) (by omega) (j := 0) rfl)) ?_
              refine qs_yes rfl rfl rfl (decide_eq_true hc34) rfl (yv_move rfl) ?_
              refine qs_yes rfl rfl rfl (decide_eq_true hc34) rfl (yv_move rfl) ?_
              refine qs_yes rfl rfl rfl (decide_eq_true hc34) rfl (yv_sub rfl rfl (by omega)) ?_
              refine qs_yes rfl rfl rfl (decide_eq_true hc34) rfl (yv_index T.sl22 rfl rfl (Heap.rdw T.el22_encI hH33 (n := 1) rfl).is (by omega)) ?_
              refine qs_yes rfl rfl rfl (decide_eq_true hc34) rfl (yv_load T.one3 rfl (fun _ hw => Rd.at (Heap.rdw T.el22_encI hw (n := 1) rfl) (i := (q : Int) - 1) (by omega) (j := 0) rfl)) ?_
              refine qs_yes rfl rfl rfl (decide_eq_true hc34) rfl (yv_castB (decide_eq_false (by omega)) (yv_leq rfl rfl)) ?_
              refine qs_yes rfl rfl rfl rfl rfl (yv_pick_t rfl (decide_eq_true hc34) rfl) ?_
              refine qs_y rfl rfl (yv_pick_f rfl rfl rfl) ?_
              refine qs_nil ?_
              refine any_done (by kernel_rfl) ?_
              refine thn_n ?_
              refine cond_f rfl rfl ?_
              refine skip (thn_n (seq ?_))
              have hB1 := Q.C_small hw (by omega) (i := i) (k := rr) (by omega)
              have hB2 := Q.C_small hw (by omega) (i := rr + 1) (k := k + 1) (by omega)
              refine region (ops_y hH33 rfl rfl (yv_assign rfl) (ops_nil (thn_n (seq (seq (region (ops_y hH33 rfl rfl (yv_move rfl) (ops_y hH33 rfl rfl (yv_move rfl) ?_))))))))
              refine ops_y hH33 rfl rfl (yv_index T.sl22 rfl rfl (Heap.rdw T.el22_encI hH33 (n := 1) rfl).is (by omega)) ?_
              refine ops_y hH33 rfl rfl (yv_load T.one3 rfl (fun _ hw => Rd.at (Heap.rdw T.el22_encI hw (n := 1) rfl) (i := (q : Int)) (by omega) (j := 0) rfl)) ?_
              refine ops_y hH33 rfl rfl (yv_move rfl) ?_
              refine ops_y hH33 rfl rfl (yv_gtr rfl rfl) ?_
              refine ops_nil (thn_n ?_)
              by_cases hc35 : (i : Int) < (nth (Q.rootsI l i (k + 1)) (q : Int))
              · skip
                have hT2 : nth (nth (Q.tab l) (i : Int)) (nth (Q.rootsI l i (k + 1)) (q : Int) - 1 - (i : Int)) = Q.C l i rr := by rw [hrr, show (rr : Int) - 1 - (i : Int) = ((rr - 1 - i : Nat) : Int) by omega, Q.tab_at (by omega) (by omega), show i + (rr - 1 - i) + 1 = rr by omega]
                refine cond_t rfl (decide_eq_true hc35) ?_
                refine region_draw (fun w' => Heap [⟨lo18, hi19, RowsAt p23 TT21 (Q.tab l)⟩, ow lo10 hi11 3 1 encI p14 (Q.rootsI l i (k + 1)), base w] w') T.mixed (fun w36 hr37 => ?_)
                have hH38 := hH33.redrawn hr37
                refine any_takes [0, 1, 2, 3, 4, 5, 6, 7, 8, 9, 10, 11, 12, 13, 14, 15] (by kernel_rfl) hH38 _ _ _ (by kernel_rfl) ?_
                refine qs_y rfl rfl (yv_move rfl) (qs_y rfl rfl (yv_move rfl) (qs_y rfl rfl (yv_move rfl) ?_))
                refine qs_y rfl rfl (yv_index T.sl45 rfl rfl (((show RowsAt p23 TT21 (Q.tab l) _ from hH38.get (n := 0) rfl)).1).is (by omega)) ?_
                refine qs_y rfl rfl (yv_load T.one30 rfl (fun _ hw => Rd.at (((show RowsAt p23 TT21 (Q.tab l) _ from hw.get (n := 0) rfl)).1) (i := (i : Int)) (by omega) (j := 0) rfl)) ?_
                refine qs_y rfl rfl (yv_move rfl) (qs_y rfl rfl (yv_move rfl) ?_)
                refine qs_y rfl rfl (yv_index T.sl22 rfl rfl (Heap.rdw T.el22_encI hH38 (n := 1) rfl).is (by omega)) ?_
                refine qs_y rfl rfl (yv_load T.one3 rfl (fun _ hw => Rd.at (Heap.rdw T.el22_encI hw (n := 1) rfl) (i := (q : Int)) (by omega) (j := 0) rfl)) ?_
                refine qs_y rfl rfl (yv_sub rfl rfl (by omega)) ?_
                refine qs_y rfl rfl (yv_move rfl) ?_
                refine qs_y rfl rfl (yv_sub rfl rfl (by omega)) ?_
                refine qs_y rfl rfl (yv_index T.sl30 rfl rfl (RowsAt.at ((show RowsAt p23 TT21 (Q.tab l) _ from hH38.get (n := 0) rfl)) (by omega) (by omega)).is (by omega)) ?_
                refine qs_y rfl rfl (yv_load T.one2 rfl (fun _ hw => Rd.at (RowsAt.at ((show RowsAt p23 TT21 (Q.tab l) _ from hw.get (n := 0) rfl)) (by omega) (by omega)) (i := ((nth (Q.rootsI l i (k + 1)) (q : Int)) - 1) - (i : Int)) (by omega) (j := 0) rfl)) ?_
                refine qs_y rfl rfl (yv_add rfl rfl (by omega)) ?_
                refine qs_y rfl rfl (yv_assign rfl) (qs_nil ?_)
                refine any_done (by kernel_rfl) ?_
                refine thn_n (seq (seq (region (ops_y hH38 rfl rfl (yv_move rfl) (ops_y hH38 rfl rfl (yv_move rfl) ?_)))))
                refine ops_y hH38 rfl rfl (yv_index T.sl22 rfl rfl (Heap.rdw T.el22_encI hH38 (n := 1) rfl).is (by omega)) ?_
                refine ops_y hH38 rfl rfl (yv_load T.one3 rfl (fun _ hw => Rd.at (Heap.rdw T.el22_encI hw (n := 1) rfl) (i := (q : Int)) (by omega) (j := 0) rfl)) ?_
                refine ops_y hH38 rfl rfl (yv_move rfl) ?_
                refine ops_y hH38 rfl rfl (yv_lss rfl rfl) ?_
                refine ops_nil (thn_n ?_)
                by_cases hc39 : (nth (Q.rootsI l i (k + 1)) (q : Int)) < (k : Int)
                · skip
                  have hT3 : nth (nth (Q.tab l) (nth (Q.rootsI l i (k + 1)) (q : Int) + 1)) ((k : Int) - nth (Q.rootsI l i (k + 1)) (q : Int) - 1) = Q.C l (rr + 1) (k + 1) := by rw [hrr, show (rr : Int) + 1 = ((rr + 1 : Nat) : Int) by omega, show (k : Int) - (rr : Int) - 1 = ((k - rr - 1 : Nat) : Int) by omega, Q.tab_at (by omega) (by omega), show rr + 1 + (k - rr - 1) + 1 = k + 1 by omega]
                  have hT4 : (nth (Q.tab l) (nth (Q.rootsI l i (k + 1)) (q : Int) + 1)).length = l.length - (rr + 1) := by rw [hrr, show (rr : Int) + 1 = ((rr + 1 : Nat) : Int) by omega]; exact Q.tab_row (by omega)
                  refine cond_t rfl (decide_eq_true hc39) ?_
                  refine region_draw (fun w' => Heap [⟨lo18, hi19, RowsAt p23 TT21 (Q.tab l)⟩, ow lo10 hi11 3 1 encI p14 (Q.rootsI l i (k + 1)), base w] w') T.mixed (fun w40 hr41 => ?_)
                  have hH42 := hH38.redrawn hr41
                  refine any_takes [0, 1, 2, 3, 4, 5, 6, 7, 8, 9, 10, 11, 12, 13, 14, 15, 16, 17, 18, 19] (by kernel_rfl) hH42 _ _ _ (by kernel_rfl) ?_
                  refine qs_y rfl rfl (yv_move rfl) (qs_y rfl rfl (yv_move rfl) (qs_y rfl rfl (yv_move rfl) (qs_y rfl rfl (yv_move rfl) ?_)))
                  refine qs_y rfl rfl (yv_index T.sl22 rfl rfl (Heap.rdw T.el22_encI hH42 (n := 1) rfl).is (by omega)) ?_
                  refine qs_y rfl rfl (yv_load T.one3 rfl (fun _ hw => Rd.at (Heap.rdw T.el22_encI hw (n := 1) rfl) (i := (q : Int)) (by omega) (j := 0) rfl)) ?_
                  refine qs_y rfl rfl (yv_add rfl rfl (by omega)) ?_
                  refine qs_y rfl rfl (yv_index T.sl45 rfl rfl (((show RowsAt p23 TT21 (Q.tab l) _ from hH42.get (n := 0) rfl)).1).is (by omega)) ?_
                  refine qs_y rfl rfl (yv_load T.one30 rfl (fun _ hw => Rd.at (((show RowsAt p23 TT21 (Q.tab l) _ from hw.get (n := 0) rfl)).1) (i := (nth (Q.rootsI l i (k + 1)) (q : Int)) + 1) (by omega) (j := 0) rfl)) ?_
                  refine qs_y rfl rfl (yv_move rfl) (qs_y rfl rfl (yv_move rfl) (qs_y rfl rfl (yv_move rfl) ?_))
                  refine qs_y rfl rfl (yv_index T.sl22 rfl rfl (Heap.rdw T.el22_encI hH42 (n := 1) rfl).is (by omega)) ?_
                  refine qs_y rfl rfl (yv_load T.one3 rfl (fun _ hw => Rd.at (Heap.rdw T.el22_encI hw (n := 1) rfl) (i := (q : Int)) (by omega) (j := 0) rfl)) ?_
                  refine qs_y rfl rfl (yv_sub rfl rfl (by omega)) ?_
                  refine qs_y rfl rfl (yv_sub rfl rfl (by omega)) ?_
                  refine qs_y rfl rfl (yv_index T.sl30 rfl rfl (RowsAt.at ((show RowsAt p23 TT21 (Q.tab l) _ from hH42.get (n := 0) rfl)) (by omega) (by omega)).is (by omega)) ?_
                  refine qs_y rfl rfl (yv_load T.one2 rfl (fun _ hw => Rd.at (RowsAt.at ((show RowsAt p23 TT21 (Q.tab l) _ from hw.get (n := 0) rfl)) (by omega) (by omega)) (i := ((k : Int) - (nth (Q.rootsI l i (k + 1)) (q : Int))) - 1) (by omega) (j := 0) rfl)) ?_
                  refine qs_y rfl rfl (yv_add rfl rfl (by omega)) ?_
                  refine qs_y rfl rfl (yv_assign rfl) (qs_nil ?_)
                  refine any_done (by kernel_rfl) ?_
                  refine thn_n (seq ?_)
                  have hKC := hRt.2.2
                  unfold Q.K at hKC
                  refine region (ops_y hH42 rfl rfl (yv_move rfl) (ops_y hH42 rfl rfl (yv_move rfl) ?_))
                  refine ops_y hH42 rfl rfl (yv_index T.sl45 rfl rfl (((show RowsAt p23 TT21 (Q.tab l) _ from hH42.get (n := 0) rfl)).1).is (by omega)) ?_
                  refine ops_y hH42 rfl rfl (yv_load T.one30 rfl (fun _ hw => Rd.at (((show RowsAt p23 TT21 (Q.tab l) _ from hw.get (n := 0) rfl)).1) (i := (i : Int)) (by omega) (j := 0) rfl)) ?_
                  refine ops_y hH42 rfl rfl (yv_move rfl) (ops_y hH42 rfl rfl (yv_move rfl) ?_)
                  refine ops_y hH42 rfl rfl (yv_sub rfl rfl (by omega)) ?_
                  refine ops_y hH42 rfl rfl (yv_index T.sl30 rfl rfl (RowsAt.at ((show RowsAt p23 TT21 (Q.tab l) _ from hH42.get (n := 0) rfl)) (by omega) (by omega)).is (by omega)) ?_
                  refine ops_y hH42 rfl rfl (yv_load T.one2 rfl (fun _ hw => Rd.at (RowsAt.at ((show RowsAt p23 TT21 (Q.tab l) _ from hw.get (n := 0) rfl)) (by omega) (by omega)) (i := (k : Int) - (i : Int)) (by omega) (j := 0) rfl)) ?_
                  refine ops_y hH42 rfl rfl (yv_move rfl) (ops_y hH42 rfl rfl (yv_move rfl) ?_)
                  refine ops_y hH42 rfl rfl (yv_add rfl rfl (by omega)) ?_
                  refine ops_y hH42 rfl rfl (yv_neq rfl rfl) ?_
                  refine ops_nil (thn_n ?_)
                  have hc43 : ¬ (¬ ((nth (nth (Q.tab l) (i : Int)) ((k : Int) - (i : Int))) = ((Q.P l (i + j) - Q.P l i) + ((0 + (nth (nth (Q.tab l) (i : Int)) (((nth (Q.rootsI l i (k + 1)) (q : Int)) - 1) - (i : Int)))) + (nth (nth (Q.tab l) ((nth (Q.rootsI l i (k + 1)) (q : Int)) + 1)) (((k : Int) - (nth (Q.rootsI l i (k + 1)) (q : Int))) - 1)))))) := by omega
                  refine cond_f rfl (not_decide_f hc43) ?_
                  refine skip (blk_n (thn_n (region (ops_y hH42 rfl rfl (yv_move rfl) ?_))))
                  refine ops_y hH42 rfl rfl (yv_add rfl rfl (by omega)) ?_
                  refine ops_y hH42 rfl rfl (yv_assign rfl) (ops_nil ?_)
                  refine lp_n (q + 1) (Sub.cons rfl (Sub.cons rfl (Sub.cons rfl (Sub.cons rfl (Sub.cons rfl (Sub.cons rfl (Sub.cons rfl (Sub.nil _)))))))) ?_ ?_
                  · exact ⟨hH42, by omega⟩
                  · first | (dsimp only; omega) | (show _ < _; omega)
                · skip
                  have hT3 : Q.C l (rr + 1) (k + 1) = 0 := Q.C_nil (by omega)
                  refine cond_f rfl (decide_eq_false hc39) ?_
                  refine skip (thn_n (seq ?_))
                  have hKC := hRt.2.2
                  unfold Q.K at hKC
                  refine region (ops_y hH38 rfl rfl (yv_move rfl) (ops_y hH38 rfl rfl (yv_move rfl) ?_))
                  refine ops_y hH38 rfl rfl (yv_index T.sl45 rfl rfl (((show RowsAt p23 TT21 (Q.tab l) _ from hH38.get (n := 0) rfl)).1).is (by omega)) ?_
                  refine ops_y hH38 rfl rfl (yv_load T.one30 rfl (fun _ hw => Rd.at (((show RowsAt p23 TT21 (Q.tab l) _ from hw.get (n := 0) rfl)).1) (i := (i : Int)) (by omega) (j := 0) rfl)) ?_
                  refine ops_y hH38 rfl rfl (yv_move rfl) (ops_y hH38 rfl rfl (yv_move rfl) ?_)
                  refine ops_y hH38 rfl rfl (yv_sub rfl rfl (by omega)) ?_
                  refine ops_y hH38 rfl rfl (yv_index T.sl30 rfl rfl (RowsAt.at ((show RowsAt p23 TT21 (Q.tab l) _ from hH38.get (n := 0) rfl)) (by omega) (by omega)).is (by omega)) ?_
                  refine ops_y hH38 rfl rfl (yv_load T.one2 rfl (fun _ hw => Rd.at (RowsAt.at ((show RowsAt p23 TT21 (Q.tab l) _ from hw.get (n := 0) rfl)) (by omega) (by omega)) (i := (k : Int) - (i : Int)) (by omega) (j := 0) rfl)) ?_
                  refine ops_y hH38 rfl rfl (yv_move rfl) (ops_y hH38 rfl rfl (yv_move rfl) ?_)
                  refine ops_y hH38 rfl rfl (yv_add rfl rfl (by omega)) ?_
                  refine ops_y hH38 rfl rfl (yv_neq rfl rfl) ?_
                  refine ops_nil (thn_n ?_)
                  have hc44 : ¬ (¬ ((nth (nth (Q.tab l) (i : Int)) ((k : Int) - (i : Int))) = ((Q.P l (i + j) - Q.P l i) + (0 + (nth (nth (Q.tab l) (i : Int)) (((nth (Q.rootsI l i (k + 1)) (q : Int)) - 1) - (i : Int))))))) := by omega
                  refine cond_f rfl (not_decide_f hc44) ?_
                  refine skip (blk_n (thn_n (region (ops_y hH38 rfl rfl (yv_move rfl) ?_))))
                  refine ops_y hH38 rfl rfl (yv_add rfl rfl (by omega)) ?_
                  refine ops_y hH38 rfl rfl (yv_assign rfl) (ops_nil ?_)
                  refine lp_n (q + 1) (Sub.cons rfl (Sub.cons rfl (Sub.cons rfl (Sub.cons rfl (Sub.cons rfl (Sub.cons rfl (Sub.cons rfl (Sub.nil _)))))))) ?_ ?_
                  · exact ⟨hH38, by omega⟩
                  · first | (dsimp only; omega) | (show _ < _; omega)
              · skip
                have hT2 : Q.C l i rr = 0 := Q.C_nil (by omega)
                refine cond_f rfl (decide_eq_false hc35) ?_
                refine skip (thn_n (seq (seq (region (ops_y hH33 rfl rfl (yv_move rfl) (ops_y hH33 rfl rfl (yv_move rfl) ?_))))))
                refine ops_y hH33 rfl rfl (yv_index T.sl22 rfl rfl (Heap.rdw T.el22_encI hH33 (n := 1) rfl).is (by omega)) ?_
                refine ops_y hH33 rfl rfl (yv_load T.one3 rfl (fun _ hw => Rd.at (Heap.rdw T.el22_encI hw (n := 1) rfl) (i := (q : Int)) (by omega) (j := 0) rfl)) ?_
                refine ops_y hH33 rfl rfl (yv_move rfl) ?_
                refine ops_y hH33 rfl rfl (yv_lss rfl rfl) ?_
                refine ops_nil (thn_n ?_)
                by_cases hc45 : (nth (Q.rootsI l i (k + 1)) (q : Int)) < (k : Int)
                · skip
                  have hT3 : nth (nth (Q.tab l) (nth (Q.rootsI l i (k + 1)) (q : Int) + 1)) ((k : Int) - nth (Q.rootsI l i (k + 1)) (q : Int) - 1) = Q.C l (rr + 1) (k + 1) := by rw [hrr, show (rr : Int) + 1 = ((rr + 1 : Nat) : Int) by omega, show (k : Int) - (rr : Int) - 1 = ((k - rr - 1 : Nat) : Int) by omega, Q.tab_at (by omega) (by omega), show rr + 1 + (k - rr - 1) + 1 = k + 1 by omega]
                  have hT4 : (nth (Q.tab l) (nth (Q.rootsI l i (k + 1)) (q : Int) + 1)).length = l.length - (rr + 1) := by rw [hrr, show (rr : Int) + 1 = ((rr + 1 : Nat) : Int) by omega]; exact Q.tab_row (by omega)
                  refine cond_t rfl (decide_eq_true hc45) ?_
                  refine region_draw (fun w' => Heap [⟨lo18, hi19, RowsAt p23 TT21 (Q.tab l)⟩, ow lo10 hi11 3 1 encI p14 (Q.rootsI l i (k + 1)), base w] w') T.mixed (fun w46 hr47 => ?_)
                  have hH48 := hH33.redrawn hr47
                  refine any_takes [0, 1, 2, 3, 4, 5, 6, 7, 8, 9, 10, 11, 12, 13, 14, 15, 16, 17, 18, 19] (by kernel_rfl) hH48 _ _ _ (by kernel_rfl) ?_
                  refine qs_y rfl rfl (yv_move rfl) (qs_y rfl rfl (yv_move rfl) (qs_y rfl rfl (yv_move rfl) (qs_y rfl rfl (yv_move rfl) ?_)))
                  refine qs_y rfl rfl (yv_index T.sl22 rfl rfl (Heap.rdw T.el22_encI hH48 (n := 1) rfl).is (by omega)) ?_
                  refine qs_y rfl rfl (yv_load T.one3 rfl (fun _ hw => Rd.at (Heap.rdw T.el22_encI hw (n := 1) rfl) (i := (q : Int)) (by omega) (j := 0) rfl)) ?_
                  refine qs_y rfl rfl (yv_add rfl rfl (by omega)) ?_
                  refine qs_y rfl rfl (yv_index T.sl45 rfl rfl (((show RowsAt p23 TT21 (Q.tab l) _ from hH48.get (n := 0) rfl)).1).is (by omega)) ?_
                  refine qs_y rfl rfl (yv_load T.one30 rfl (fun _ hw => Rd.at (((show RowsAt p23 TT21 (Q.tab l) _ from hw.get (n := 0) rfl)).1) (i := (nth (Q.rootsI l i (k + 1)) (q : Int)) + 1) (by omega) (j := 0) rfl)) ?_
                  refine qs_y rfl rfl (yv_move rfl) (qs_y rfl rfl (yv_move rfl) (qs_y rfl rfl (yv_move rfl) ?_))
                  refine qs_y rfl rfl (yv_index T.sl22 rfl rfl (Heap.rdw T.el22_encI hH48 (n := 1) rfl).is (by omega)) ?_
                  refine qs_y rfl rfl (yv_load T.one3 rfl (fun _ hw => Rd.at (Heap.rdw T.el22_encI hw (n := 1) rfl) (i := (q : Int)) (by omega) (j := 0) rfl)) ?_
                  refine qs_y rfl rfl (yv_sub rfl rfl (by omega)) ?_
                  refine qs_y rfl rfl (yv_sub rfl rfl (by omega)) ?_
                  refine qs_y rfl rfl (yv_index T.sl30 rfl rfl (RowsAt.at ((show RowsAt p23 TT21 (Q.tab l) _ from hH48.get (n := 0) rfl)) (by omega) (by omega)).is (by omega)) ?_
                  refine qs_y rfl rfl (yv_load T.one2 rfl (fun _ hw => Rd.at (RowsAt.at ((show RowsAt p23 TT21 (Q.tab l) _ from hw.get (n := 0) rfl)) (by omega) (by omega)) (i := ((k : Int) - (nth (Q.rootsI l i (k + 1)) (q : Int))) - 1) (by omega) (j := 0) rfl)) ?_
                  refine qs_y rfl rfl (yv_add rfl rfl (by omega)) ?_
                  refine qs_y rfl rfl (yv_assign rfl) (qs_nil ?_)
                  refine any_done (by kernel_rfl) ?_
                  refine thn_n (seq ?_)
                  have hKC := hRt.2.2
                  unfold Q.K at hKC
                  refine region (ops_y hH48 rfl rfl (yv_move rfl) (ops_y hH48 rfl rfl (yv_move rfl) ?_))
                  refine ops_y hH48 rfl rfl (yv_index T.sl45 rfl rfl (((show RowsAt p23 TT21 (Q.tab l) _ from hH48.get (n := 0) rfl)).1).is (by omega)) ?_
                  refine ops_y hH48 rfl rfl (yv_load T.one30 rfl (fun _ hw => Rd.at (((show RowsAt p23 TT21 (Q.tab l) _ from hw.get (n := 0) rfl)).1) (i := (i : Int)) (by omega) (j := 0) rfl)) ?_
                  refine ops_y hH48 rfl rfl (yv_move rfl) (ops_y hH48 rfl rfl (yv_move rfl) ?_)
                  refine ops_y hH48 rfl rfl (yv_sub rfl rfl (by omega)) ?_
                  refine ops_y hH48 rfl rfl (yv_index T.sl30 rfl rfl (RowsAt.at ((show RowsAt p23 TT21 (Q.tab l) _ from hH48.get (n := 0) rfl)) (by omega) (by omega)).is (by omega)) ?_
                  refine ops_y hH48 rfl rfl (yv_load T.one2 rfl (fun _ hw => Rd.at (RowsAt.at ((show RowsAt p23 TT21 (Q.tab l) _ from hw.get (n := 0) rfl)) (by omega) (by omega)) (i := (k : Int) - (i : Int)) (by omega) (j := 0) rfl)) ?_
                  refine ops_y hH48 rfl rfl (yv_move rfl) (ops_y hH48 rfl rfl (yv_move rfl) ?_)
                  refine ops_y hH48 rfl rfl (yv_add rfl rfl (by omega)) ?_
                  refine ops_y hH48 rfl rfl (yv_neq rfl rfl) ?_
                  refine ops_nil (thn_n ?_)
                  have hc49 : ¬ (¬ ((nth (nth (Q.tab l) (i : Int)) ((k : Int) - (i : Int))) = ((Q.P l (i + j) - Q.P l i) + (0 + (nth (nth (Q.tab l) ((nth (Q.rootsI l i (k + 1)) (q : Int)) + 1)) (((k : Int) - (nth (Q.rootsI l i (k + 1)) (q : Int))) - 1)))))) := by omega
                  refine cond_f rfl (not_decide_f hc49) ?_
                  refine skip (blk_n (thn_n (region (ops_y hH48 rfl rfl (yv_move rfl) ?_))))
                  refine ops_y hH48 rfl rfl (yv_add rfl rfl (by omega)) ?_
                  refine ops_y hH48 rfl rfl (yv_assign rfl) (ops_nil ?_)
                  refine lp_n (q + 1) (Sub.cons rfl (Sub.cons rfl (Sub.cons rfl (Sub.cons rfl (Sub.cons rfl (Sub.cons rfl (Sub.cons rfl (Sub.nil _)))))))) ?_ ?_
                  · exact ⟨hH48, by omega⟩
                  · first | (dsimp only; omega) | (show _ < _; omega)
                · skip
                  have hT3 : Q.C l (rr + 1) (k + 1) = 0 := Q.C_nil (by omega)
                  refine cond_f rfl (decide_eq_false hc45) ?_
                  refine skip (thn_n (seq ?_))
                  have hKC := hRt.2.2
                  unfold Q.K at hKC
                  refine region (ops_y hH33 rfl rfl (yv_move rfl) (ops_y hH33 rfl rfl (yv_move rfl) ?_))
                  refine ops_y hH33 rfl rfl (yv_index T.sl45 rfl rfl (((show RowsAt p23 TT21 (Q.tab l) _ from hH33.get (n := 0) rfl)).1).is (by omega)) ?_
                  refine ops_y hH33 rfl rfl (yv_load T.one30 rfl (fun _ hw => Rd.at (((show RowsAt p23 TT21 (Q.tab l) _ from hw.get (n := 0) rfl)).1) (i := (i : Int)) (by omega) (j := 0) rfl)) ?_
                  refine ops_y hH33 rfl rfl (yv_move rfl) (ops_y hH33 rfl rfl (yv_move rfl) ?_)
                  refine ops_y hH33 rfl rfl (yv_sub rfl rfl (by omega)) ?_
                  refine ops_y hH33 rfl rfl (yv_index T.sl30 rfl rfl (RowsAt.at ((show RowsAt p23 TT21 (Q.tab l) _ from hH33.get (n := 0) rfl)) (by omega) (by omega)).is (by omega)) ?_
                  refine ops_y hH33 rfl rfl (yv_load T.one2 rfl (fun _ hw => Rd.at (RowsAt.at ((show RowsAt p23 TT21 (Q.tab l) _ from hw.get (n := 0) rfl)) (by omega) (by omega)) (i := (k : Int) - (i : Int)) (by omega) (j := 0) rfl)) ?_
                  refine ops_y hH33 rfl rfl (yv_move rfl) (ops_y hH33 rfl rfl (yv_move rfl) ?_)
                  refine ops_y hH33 rfl rfl (yv_add rfl rfl (by omega)) ?_
                  refine ops_y hH33 rfl rfl (yv_neq rfl rfl) ?_
                  refine ops_nil (thn_n ?_)
                  have hc50 : ¬ (¬ ((nth (nth (Q.tab l) (i : Int)) ((k : Int) - (i : Int))) = ((Q.P l (i + j) - Q.P l i) + 0))) := by omega
                  refine cond_f rfl (not_decide_f hc50) ?_
                  refine skip (blk_n (thn_n (region (ops_y hH33 rfl rfl (yv_move rfl) ?_))))
                  refine ops_y hH33 rfl rfl (yv_add rfl rfl (by omega)) ?_
                  refine ops_y hH33 rfl rfl (yv_assign rfl) (ops_nil ?_)
                  refine lp_n (q + 1) (Sub.cons rfl (Sub.cons rfl (Sub.cons rfl (Sub.cons rfl (Sub.cons rfl (Sub.cons rfl (Sub.cons rfl (Sub.nil _)))))))) ?_ ?_
                  · exact ⟨hH33, by omega⟩
                  · first | (dsimp only; omega) | (show _ < _; omega)
            · skip
              refine any_takes [18, 19, 20, 21, 22, 23, 24, 25, 26, 27, 28, 29] (by kernel_rfl) hH33 _ _ _ (by kernel_rfl) ?_
              refine qs_no rfl rfl rfl (decide_eq_false hc34) rfl ?_
              refine qs_no rfl rfl rfl (decide_eq_false hc34) rfl ?_
              refine qs_no rfl rfl rfl (decide_eq_false hc34) rfl ?_
              refine qs_no rfl rfl rfl (decide_eq_false hc34) rfl ?_
              refine qs_no rfl rfl rfl (decide_eq_false hc34) rfl ?_
              refine qs_no rfl rfl rfl (decide_eq_false hc34) rfl ?_
              refine qs_no rfl rfl rfl (decide_eq_false hc34) rfl ?_
              refine qs_no rfl rfl rfl (decide_eq_false hc34) rfl ?_
              refine qs_no rfl rfl rfl (decide_eq_false hc34) rfl ?_
              refine qs_no rfl rfl rfl (decide_eq_false hc34) rfl ?_
              refine qs_yes rfl rfl rfl rfl rfl (yv_pick_f rfl (decide_eq_false hc34) rfl) ?_
              refine qs_y rfl rfl (yv_pick_f rfl rfl rfl) ?_
              refine qs_nil ?_
              refine any_done (by kernel_rfl) ?_
              refine thn_n ?_
              refine cond_f rfl rfl ?_
              refine skip (thn_n (seq ?_))
              have hB1 := Q.C_small hw (by omega) (i := i) (k := rr) (by omega)
              have hB2 := Q.C_small hw (by omega) (i := rr + 1) (k := k + 1) (by omega)
              refine region (ops_y hH33 rfl rfl (yv_assign rfl) (ops_nil (thn_n (seq (seq (region (ops_y hH33 rfl rfl (yv_move rfl) (ops_y hH33 rfl rfl (yv_move rfl) ?_))))))))
              refine ops_y hH33 rfl rfl (yv_index T.sl22 rfl rfl (Heap.rdw T.el22_encI hH33 (n := 1) rfl).is (by omega)) ?_
              refine ops_y hH33 rfl rfl (yv_load T.one3 rfl (fun _ hw => Rd.at (Heap.rdw T.el22_encI hw (n := 1) rfl) (i := (q : Int)) (by omega) (j := 0) rfl)) ?_
              refine ops_y hH33 rfl rfl (yv_move rfl) ?_
              refine ops_y hH33 rfl rfl (yv_gtr rfl rfl) ?_
              refine ops_nil (thn_n ?_)
              by_cases hc51 : (i : Int) < (nth (Q.rootsI l i (k + 1)) (q : Int))
              · skip
                have hT2 : nth (nth (Q.tab l) (i : Int)) (nth (Q.rootsI l i (k + 1)) (q : Int) - 1 - (i : Int)) = Q.C l i rr := by rw [hrr, show (rr : Int) - 1 - (i : Int) = ((rr - 1 - i : Nat) : Int) by omega, Q.tab_at (by omega) (by omega), show i + (rr - 1 - i) + 1 = rr by omega]
                refine cond_t rfl (decide_eq_true hc51) ?_
                refine region_draw (fun w' => Heap [⟨lo18, hi19, RowsAt p23 TT21 (Q.tab l)⟩, ow lo10 hi11 3 1 encI p14 (Q.rootsI l i (k + 1)), base w] w') T.mixed (fun w52 hr53 => ?_)
                have hH54 := hH33.redrawn hr53
                refine any_takes [0, 1, 2, 3, 4, 5, 6, 7, 8, 9, 10, 11, 12, 13, 14, 15] (by kernel_rfl) hH54 _ _ _ (by kernel_rfl) ?_
                refine qs_y rfl rfl (yv_move rfl) (qs_y rfl rfl (yv_move rfl) (qs_y rfl rfl (yv_move rfl) ?_))
                refine qs_y rfl rfl (yv_index T.sl45 rfl rfl (((show RowsAt p23 TT21 (Q.tab l) _ from hH54.get (n := 0) rfl)).1).is (by omega)) ?_
                refine qs_y rfl rfl (yv_load T.one30 rfl (fun _ hw => Rd.at (((show RowsAt p23 TT21 (Q.tab l) _ from hw.get (n := 0) rfl)).1) (i := (i : Int)) (by omega) (j := 0) rfl)) ?_
                refine qs_y rfl rfl (yv_move rfl) (qs_y rfl rfl (yv_move rfl) ?_)
                refine qs_y rfl rfl (yv_index T.sl22 rfl rfl (Heap.rdw T.el22_encI hH54 (n := 1) rfl).is (by omega)) ?_
                refine qs_y rfl rfl (yv_load T.one3 rfl (fun _ hw => Rd.at (Heap.rdw T.el22_encI hw (n := 1) rfl) (i := (q : Int)) (by omega) (j := 0) rfl)) ?_
                refine qs_y rfl rfl (yv_sub rfl rfl (by omega)) ?_
                refine qs_y rfl rfl (yv_move rfl) ?_
                refine qs_y rfl rfl (yv_sub rfl rfl (by omega)) ?_
                refine qs_y rfl rfl (yv_index T.sl30 rfl rfl (RowsAt.at ((show RowsAt p23 TT21 (Q.tab l) _ from hH54.get (n := 0) rfl)) (by omega) (by omega)).is (by omega)) ?_
                refine qs_y rfl rfl (yv_load T.one2 rfl (fun _ hw => Rd.at (RowsAt.at ((show RowsAt p23 TT21 (Q.tab l) _ from hw.get (n := 0) rfl)) (by omega) (by omega)) (i := ((nth (Q.rootsI l i (k + 1)) (q : Int)) - 1) - (i : Int)) (by omega) (j := 0) rfl)) ?_
                refine qs_y rfl rfl (yv_add rfl rfl (by omega)) ?_
                refine qs_y rfl rfl (yv_assign rfl) (qs_nil ?_)
                refine any_done (by kernel_rfl) ?_
                refine thn_n (seq (seq (region (ops_y hH54 rfl rfl (yv_move rfl) (ops_y hH54 rfl rfl (yv_move rfl) ?_)))))
                refine ops_y hH54 rfl rfl (yv_index T.sl22 rfl rfl (Heap.rdw T.el22_encI hH54 (n := 1) rfl).is (by omega)) ?_
                refine ops_y hH54 rfl rfl (yv_load T.one3 rfl (fun _ hw => Rd.at (Heap.rdw T.el22_encI hw (n := 1) rfl) (i := (q : Int)) (by omega) (j := 0) rfl)) ?_
                refine ops_y hH54 rfl rfl (yv_move rfl) ?_
                refine ops_y hH54 rfl rfl (yv_lss rfl rfl) ?_
                refine ops_nil (thn_n ?_)
                by_cases hc55 : (nth (Q.rootsI l i (k + 1)) (q : Int)) < (k : Int)
                · skip
                  have hT3 : nth (nth (Q.tab l) (nth (Q.rootsI l i (k + 1)) (q : Int) + 1)) ((k : Int) - nth (Q.rootsI l i (k + 1)) (q : Int) - 1) = Q.C l (rr + 1) (k + 1) := by rw [hrr, show (rr : Int) + 1 = ((rr + 1 : Nat) : Int) by omega, show (k : Int) - (rr : Int) - 1 = ((k - rr - 1 : Nat) : Int) by omega, Q.tab_at (by omega) (by omega), show rr + 1 + (k - rr - 1) + 1 = k + 1 by omega]
                  have hT4 : (nth (Q.tab l) (nth (Q.rootsI l i (k + 1)) (q : Int) + 1)).length = l.length - (rr + 1) := by rw [hrr, show (rr : Int) + 1 = ((rr + 1 : Nat) : Int) by omega]; exact Q.tab_row (by omega)
                  refine cond_t rfl (decide_eq_true hc55) ?_
                  refine region_draw (fun w' => Heap [⟨lo18, hi19, RowsAt p23 TT21 (Q.tab l)⟩, ow lo10 hi11 3 1 encI p14 (Q.rootsI l i (k + 1)), base w] w') T.mixed (fun w56 hr57 => ?_)
                  have hH58 := hH54.redrawn hr57
                  refine any_takes [0, 1, 2, 3, 4, 5, 6, 7, 8, 9, 10, 11, 12, 13, 14, 15, 16, 17, 18, 19] (by kernel_rfl) hH58 _ _ _ (by kernel_rfl) ?_
                  refine qs_y rfl rfl (yv_move rfl) (qs_y rfl rfl (yv_move rfl) (qs_y rfl rfl (yv_move rfl) (qs_y rfl rfl (yv_move rfl) ?_)))
                  refine qs_y rfl rfl (yv_index T.sl22 rfl rfl (Heap.rdw T.el22_encI hH58 (n := 1) rfl).is (by omega)) ?_
                  refine qs_y rfl rfl (yv_load T.one3 rfl (fun _ hw => Rd.at (Heap.rdw T.el22_encI hw (n := 1) rfl) (i := (q : Int)) (by omega) (j := 0) rfl)) ?_
                  refine qs_y rfl rfl (yv_add rfl rfl (by omega)) ?_
                  refine qs_y rfl rfl (yv_index T.sl45 rfl rfl (((show RowsAt p23 TT21 (Q.tab l) _ from hH58.get (n := 0) rfl)).1).is (by omega)) ?_
                  refine qs_y rfl rfl (yv_load T.one30 rfl (fun _ hw => Rd.at (((show RowsAt p23 TT21 (Q.tab l) _ from hw.get (n := 0) rfl)).1) (i := (nth (Q.rootsI l i (k + 1)) (q : Int)) + 1) (by omega) (j := 0) rfl)) ?_
                  refine qs_y rfl rfl (yv_move rfl) (qs_y rfl rfl (yv_move rfl) (qs_y rfl rfl (yv_move rfl) ?_))
                  refine qs_y rfl rfl (yv_index T.sl22 rfl rfl (Heap.rdw T.el22_encI hH58 (n := 1) rfl).is (by omega)) ?_
                  refine qs_y rfl rfl (yv_load T.one3 rfl (fun _ hw => Rd.at (Heap.rdw T.el22_encI hw (n := 1) rfl) (i := (q : Int)) (by omega) (j := 0) rfl)) ?_
                  refine qs_y rfl rfl (yv_sub rfl rfl (by omega)) ?_
                  refine qs_y rfl rfl (yv_sub rfl rfl (by omega)) ?_
                  refine qs_y rfl rfl (yv_index T.sl30 rfl rfl (RowsAt.at ((show RowsAt p23 TT21 (Q.tab l) _ from hH58.get (n := 0) rfl)) (by omega) (by omega)).is (by omega)) ?_
                  refine qs_y rfl rfl (yv_load T.one2 rfl (fun _ hw => Rd.at (RowsAt.at ((show RowsAt p23 TT21 (Q.tab l) _ from hw.get (n := 0) rfl)) (by omega) (by omega)) (i := ((k : Int) - (nth (Q.rootsI l i (k + 1)) (q : Int))) - 1) (by omega) (j := 0) rfl)) ?_
                  refine qs_y rfl rfl (yv_add rfl rfl (by omega)) ?_
                  refine qs_y rfl rfl (yv_assign rfl) (qs_nil ?_)
                  refine any_done (by kernel_rfl) ?_
                  refine thn_n (seq ?_)
                  have hKC := hRt.2.2
                  unfold Q.K at hKC
                  refine region (ops_y hH58 rfl rfl (yv_move rfl) (ops_y hH58 rfl rfl (yv_move rfl) ?_))
                  refine ops_y hH58 rfl rfl (yv_index T.sl45 rfl rfl (((show RowsAt p23 TT21 (Q.tab l) _ from hH58.get (n := 0) rfl)).1).is (by omega)) ?_
                  refine ops_y hH58 rfl rfl (yv_load T.one30 rfl (fun _ hw => Rd.at (((show RowsAt p23 TT21 (Q.tab l) _ from hw.get (n := 0) rfl)).1) (i := (i : Int)) (by omega) (j := 0) rfl)) ?_
                  refine ops_y hH58 rfl rfl (yv_move rfl) (ops_y hH58 rfl rfl (yv_move rfl) ?_)
                  refine ops_y hH58 rfl rfl (yv_sub rfl rfl (by omega)) ?_
                  refine ops_y hH58 rfl rfl (yv_index T.sl30 rfl rfl (RowsAt.at ((show RowsAt p23 TT21 (Q.tab l) _ from hH58.get (n := 0) rfl)) (by omega) (by omega)).is (by omega)) ?_
                  refine ops_y hH58 rfl rfl (yv_load T.one2 rfl (fun _ hw => Rd.at (RowsAt.at ((show RowsAt p23 TT21 (Q.tab l) _ from hw.get (n := 0) rfl)) (by omega) (by omega)) (i := (k : Int) - (i : Int)) (by omega) (j := 0) rfl)) ?_
                  refine ops_y hH58 rfl rfl (yv_move rfl) (ops_y hH58 rfl rfl (yv_move rfl) ?_)
                  refine ops_y hH58 rfl rfl (yv_add rfl rfl (by omega)) ?_
                  refine ops_y hH58 rfl rfl (yv_neq rfl rfl) ?_
                  refine ops_nil (thn_n ?_)
                  have hc59 : ¬ (¬ ((nth (nth (Q.tab l) (i : Int)) ((k : Int) - (i : Int))) = ((Q.P l (i + j) - Q.P l i) + ((0 + (nth (nth (Q.tab l) (i : Int)) (((nth (Q.rootsI l i (k + 1)) (q : Int)) - 1) - (i : Int)))) + (nth (nth (Q.tab l) ((nth (Q.rootsI l i (k + 1)) (q : Int)) + 1)) (((k : Int) - (nth (Q.rootsI l i (k + 1)) (q : Int))) - 1)))))) := by omega
                  refine cond_f rfl (not_decide_f hc59) ?_
                  refine skip (blk_n (thn_n (region (ops_y hH58 rfl rfl (yv_move rfl) ?_))))
                  refine ops_y hH58 rfl rfl (yv_add rfl rfl (by omega)) ?_
                  refine ops_y hH58 rfl rfl (yv_assign rfl) (ops_nil ?_)
                  refine lp_n (q + 1) (Sub.cons rfl (Sub.cons rfl (Sub.cons rfl (Sub.cons rfl (Sub.cons rfl (Sub.cons rfl (Sub.cons rfl (Sub.nil _)))))))) ?_ ?_
                  · exact ⟨hH58, by omega⟩
                  · first | (dsimp only; omega) | (show _ < _; omega)
                · skip
                  have hT3 : Q.C l (rr + 1) (k + 1) = 0 := Q.C_nil (by omega)
                  refine cond_f rfl (decide_eq_false hc55) ?_
                  refine skip (thn_n (seq ?_))
                  have hKC := hRt.2.2
                  unfold Q.K at hKC
                  refine region (ops_y hH54 rfl rfl (yv_move rfl) (ops_y hH54 rfl rfl (yv_move rfl) ?_))
                  refine ops_y hH54 rfl rfl (yv_index T.sl45 rfl rfl (((show RowsAt p23 TT21 (Q.tab l) _ from hH54.get (n := 0) rfl)).1).is (by omega)) ?_
                  refine ops_y hH54 rfl rfl (yv_load T.one30 rfl (fun _ hw => Rd.at (((show RowsAt p23 TT21 (Q.tab l) _ from hw.get (n := 0) rfl)).1) (i := (i : Int)) (by omega) (j := 0) rfl)) ?_
                  refine ops_y hH54 rfl rfl (yv_move rfl) (ops_y hH54 rfl rfl (yv_move rfl) ?_)
                  refine ops_y hH54 rfl rfl (yv_sub rfl rfl (by omega)) ?_
                  refine ops_y hH54 rfl rfl (yv_index T.sl30 rfl rfl (RowsAt.at ((show RowsAt p23 TT21 (Q.tab l) _ from hH54.get (n := 0) rfl)) (by omega) (by omega)).is (by omega)) ?_
                  refine ops_y hH54 rfl rfl (yv_load T.one2 rfl (fun _ hw => Rd.at (RowsAt.at ((show RowsAt p23 TT21 (Q.tab l) _ from hw.get (n := 0) rfl)) (by omega) (by omega)) (i := (k : Int) - (i : Int)) (by omega) (j := 0) rfl)) ?_
                  refine ops_y hH54 rfl rfl (yv_move rfl) (ops_y hH54 rfl rfl (yv_move rfl) ?_)
                  refine ops_y hH54 rfl rfl (yv_add rfl rfl (by omega)) ?_
                  refine ops_y hH54 rfl rfl (yv_neq rfl rfl) ?_
                  refine ops_nil (thn_n ?_)
                  have hc60 : ¬ (¬ ((nth (nth (Q.tab l) (i : Int)) ((k : Int) - (i : Int))) = ((Q.P l (i + j) - Q.P l i) + (0 + (nth (nth (Q.tab l) (i : Int)) (((nth (Q.rootsI l i (k + 1)) (q : Int)) - 1) - (i : Int))))))) := by omega
                  refine cond_f rfl (not_decide_f hc60) ?_
                  refine skip (blk_n (thn_n (region (ops_y hH54 rfl rfl (yv_move rfl) ?_))))
                  refine ops_y hH54 rfl rfl (yv_add rfl rfl (by omega)) ?_
                  refine ops_y hH54 rfl rfl (yv_assign rfl) (ops_nil ?_)
                  refine lp_n (q + 1) (Sub.cons rfl (Sub.cons rfl (Sub.cons rfl (Sub.cons rfl (Sub.cons rfl (Sub.cons rfl (Sub.cons rfl (Sub.nil _)))))))) ?_ ?_
                  · exact ⟨hH54, by omega⟩
                  · first | (dsimp only; omega) | (show _ < _; omega)
              · skip
                have hT2 : Q.C l i rr = 0 := Q.C_nil (by omega)
                refine cond_f rfl (decide_eq_false hc51) ?_
                refine skip (thn_n (seq (seq (region (ops_y hH33 rfl rfl (yv_move rfl) (ops_y hH33 rfl rfl (yv_move rfl) ?_))))))
                refine ops_y hH33 rfl rfl (yv_index T.sl22 rfl rfl (Heap.rdw T.el22_encI hH33 (n := 1) rfl).is (by omega)) ?_
                refine ops_y hH33 rfl rfl (yv_load T.one3 rfl (fun _ hw => Rd.at (Heap.rdw T.el22_encI hw (n := 1) rfl) (i := (q : Int)) (by omega) (j := 0) rfl)) ?_
                refine ops_y hH33 rfl rfl (yv_move rfl) ?_
                refine ops_y hH33 rfl rfl (yv_lss rfl rfl) ?_
                refine ops_nil (thn_n ?_)
                by_cases hc61 : (nth (Q.rootsI l i (k + 1)) (q : Int)) < (k : Int)
                · skip
                  have hT3 : nth (nth (Q.tab l) (nth (Q.rootsI l i (k + 1)) (q : Int) + 1)) ((k : Int) - nth (Q.rootsI l i (k + 1)) (q : Int) - 1) = Q.C l (rr + 1) (k + 1) := by rw [hrr, show (rr : Int) + 1 = ((rr + 1 : Nat) : Int) by omega, show (k : Int) - (rr : Int) - 1 = ((k - rr - 1 : Nat) : Int) by omega, Q.tab_at (by omega) (by omega), show rr + 1 + (k - rr - 1) + 1 = k + 1 by omega]
                  have hT4 : (nth (Q.tab l) (nth (Q.rootsI l i (k + 1)) (q : Int) + 1)).length = l.length - (rr + 1) := by rw [hrr, show (rr : Int) + 1 = ((rr + 1 : Nat) : Int) by omega]; exact Q.tab_row (by omega)
                  refine cond_t rfl (decide_eq_true hc61) ?_
                  refine region_draw (fun w' => Heap [⟨lo18, hi19, RowsAt p23 TT21 (Q.tab l)⟩, ow lo10 hi11 3 1 encI p14 (Q.rootsI l i (k + 1)), base w] w') T.mixed (fun w62 hr63 => ?_)
                  have hH64 := hH33.redrawn hr63
                  refine any_takes [0, 1, 2, 3, 4, 5, 6, 7, 8, 9, 10, 11, 12, 13, 14, 15, 16, 17, 18, 19] (by kernel_rfl) hH64 _ _ _ (by kernel_rfl) ?_
                  refine qs_y rfl rfl (yv_move rfl) (qs_y rfl rfl (yv_move rfl) (qs_y rfl rfl (yv_move rfl) (qs_y rfl rfl (yv_move rfl) ?_)))
                  refine qs_y rfl rfl (yv_index T.sl22 rfl rfl (Heap.rdw T.el22_encI hH64 (n := 1) rfl).is (by omega)) ?_
                  refine qs_y rfl rfl (yv_load T.one3 rfl (fun _ hw => Rd.at (Heap.rdw T.el22_encI hw (n := 1) rfl) (i := (q : Int)) (by omega) (j := 0) rfl)) ?_
                  refine qs_y rfl rfl (yv_add rfl rfl (by omega)) ?_
                  refine qs_y rfl rfl (yv_index T.sl45 rfl rfl (((show RowsAt p23 TT21 (Q.tab l) _ from hH64.get (n := 0) rfl)).1).is (by omega)) ?_
                  refine qs_y rfl rfl (yv_load T.one30 rfl (fun _ hw => Rd.at (((show RowsAt p23 TT21 (Q.tab l) _ from hw.get (n := 0) rfl)).1) (i := (nth (Q.rootsI l i (k + 1)) (q : Int)) + 1) (by omega) (j := 0) rfl)) ?_
                  refine qs_y rfl rfl (yv_move rfl) (qs_y rfl rfl (yv_move rfl) (qs_y rfl rfl (yv_move rfl) ?_))
                  refine qs_y rfl rfl (yv_index T.sl22 rfl rfl (Heap.rdw T.el22_encI hH64 (n := 1) rfl).is (by omega)) ?_
                  refine qs_y rfl rfl (yv_load T.one3 rfl (fun _ hw => Rd.at (Heap.rdw T.el22_encI hw (n := 1) rfl) (i := (q : Int)) (by omega) (j := 0) rfl)) ?_
                  refine qs_y rfl rfl (yv_sub rfl rfl (by omega)) ?_
                  refine qs_y rfl rfl (yv_sub rfl rfl (by omega)) ?_
                  refine qs_y rfl rfl (yv_index T.sl30 rfl rfl (RowsAt.at ((show RowsAt p23 TT21 (Q.tab l) _ from hH64.get (n := 0) rfl)) (by omega) (by omega)).is (by omega)) ?_
                  refine qs_y rfl rfl (yv_load T.one2 rfl (fun _ hw => Rd.at (RowsAt.at ((show RowsAt p23 TT21 (Q.tab l) _ from hw.get (n := 0) rfl)) (by omega) (by omega)) (i := ((k : Int) - (nth (Q.rootsI l i (k + 1)) (q : Int))) - 1) (by omega) (j := 0) rfl)) ?_
                  refine qs_y rfl rfl (yv_add rfl rfl (by omega)) ?_
                  refine qs_y rfl rfl (yv_assign rfl) (qs_nil ?_)
                  refine any_done (by kernel_rfl) ?_
                  refine thn_n (seq ?_)
                  have hKC := hRt.2.2
                  unfold Q.K at hKC
                  refine region (ops_y hH64 rfl rfl (yv_move rfl) (ops_y hH64 rfl rfl (yv_move rfl) ?_))
                  refine ops_y hH64 rfl rfl (yv_index T.sl45 rfl rfl (((show RowsAt p23 TT21 (Q.tab l) _ from hH64.get (n := 0) rfl)).1).is (by omega)) ?_
                  refine ops_y hH64 rfl rfl (yv_load T.one30 rfl (fun _ hw => Rd.at (((show RowsAt p23 TT21 (Q.tab l) _ from hw.get (n := 0) rfl)).1) (i := (i : Int)) (by omega) (j := 0) rfl)) ?_
                  refine ops_y hH64 rfl rfl (yv_move rfl) (ops_y hH64 rfl rfl (yv_move rfl) ?_)
                  refine ops_y hH64 rfl rfl (yv_sub rfl rfl (by omega)) ?_
                  refine ops_y hH64 rfl rfl (yv_index T.sl30 rfl rfl (RowsAt.at ((show RowsAt p23 TT21 (Q.tab l) _ from hH64.get (n := 0) rfl)) (by omega) (by omega)).is (by omega)) ?_
                  refine ops_y hH64 rfl rfl (yv_load T.one2 rfl (fun _ hw => Rd.at (RowsAt.at ((show RowsAt p23 TT21 (Q.tab l) _ from hw.get (n := 0) rfl)) (by omega) (by omega)) (i := (k : Int) - (i : Int)) (by omega) (j := 0) rfl)) ?_
                  refine ops_y hH64 rfl rfl (yv_move rfl) (ops_y hH64 rfl rfl (yv_move rfl) ?_)
                  refine ops_y hH64 rfl rfl (yv_add rfl rfl (by omega)) ?_
                  refine ops_y hH64 rfl rfl (yv_neq rfl rfl) ?_
                  refine ops_nil (thn_n ?_)
                  have hc65 : ¬ (¬ ((nth (nth (Q.tab l) (i : Int)) ((k : Int) - (i : Int))) = ((Q.P l (i + j) - Q.P l i) + (0 + (nth (nth (Q.tab l) ((nth (Q.rootsI l i (k + 1)) (q : Int)) + 1)) (((k : Int) - (nth (Q.rootsI l i (k + 1)) (q : Int))) - 1)))))) := by omega
                  refine cond_f rfl (not_decide_f hc65) ?_
                  refine skip (blk_n (thn_n (region (ops_y hH64 rfl rfl (yv_move rfl) ?_))))
                  refine ops_y hH64 rfl rfl (yv_add rfl rfl (by omega)) ?_
                  refine ops_y hH64 rfl rfl (yv_assign rfl) (ops_nil ?_)
                  refine lp_n (q + 1) (Sub.cons rfl (Sub.cons rfl (Sub.cons rfl (Sub.cons rfl (Sub.cons rfl (Sub.cons rfl (Sub.cons rfl (Sub.nil _)))))))) ?_ ?_
                  · exact ⟨hH64, by omega⟩
                  · first | (dsimp only; omega) | (show _ < _; omega)
                · skip
                  have hT3 : Q.C l (rr + 1) (k + 1) = 0 := Q.C_nil (by omega)
                  refine cond_f rfl (decide_eq_false hc61) ?_
                  refine skip (thn_n (seq ?_))
                  have hKC := hRt.2.2
                  unfold Q.K at hKC
                  refine region (ops_y hH33 rfl rfl (yv_move rfl) (ops_y hH33 rfl rfl (yv_move rfl) ?_))
                  refine ops_y hH33 rfl rfl (yv_index T.sl45 rfl rfl (((show RowsAt p23 TT21 (Q.tab l) _ from hH33.get (n := 0) rfl)).1).is (by omega)) ?_
                  refine ops_y hH33 rfl rfl (yv_load T.one30 rfl (fun _ hw => Rd.at (((show RowsAt p23 TT21 (Q.tab l) _ from hw.get (n := 0) rfl)).1) (i := (i : Int)) (by omega) (j := 0) rfl)) ?_
                  refine ops_y hH33 rfl rfl (yv_move rfl) (ops_y hH33 rfl rfl (yv_move rfl) ?_)
                  refine ops_y hH33 rfl rfl (yv_sub rfl rfl (by omega)) ?_
                  refine ops_y hH33 rfl rfl (yv_index T.sl30 rfl rfl (RowsAt.at ((show RowsAt p23 TT21 (Q.tab l) _ from hH33.get (n := 0) rfl)) (by omega) (by omega)).is (by omega)) ?_
                  refine ops_y hH33 rfl rfl (yv_load T.one2 rfl (fun _ hw => Rd.at (RowsAt.at ((show RowsAt p23 TT21 (Q.tab l) _ from hw.get (n := 0) rfl)) (by omega) (by omega)) (i := (k : Int) - (i : Int)) (by omega) (j := 0) rfl)) ?_
                  refine ops_y hH33 rfl rfl (yv_move rfl) (ops_y hH33 rfl rfl (yv_move rfl) ?_)
                  refine ops_y hH33 rfl rfl (yv_add rfl rfl (by omega)) ?_
                  refine ops_y hH33 rfl rfl (yv_neq rfl rfl) ?_
                  refine ops_nil (thn_n ?_)
                  have hc66 : ¬ (¬ ((nth (nth (Q.tab l) (i : Int)) ((k : Int) - (i : Int))) = ((Q.P l (i + j) - Q.P l i) + 0))) := by omega
                  refine cond_f rfl (not_decide_f hc66) ?_
                  refine skip (blk_n (thn_n (region (ops_y hH33 rfl rfl (yv_move rfl) ?_))))
                  refine ops_y hH33 rfl rfl (yv_add rfl rfl (by omega)) ?_
                  refine ops_y hH33 rfl rfl (yv_assign rfl) (ops_nil ?_)
                  refine lp_n (q + 1) (Sub.cons rfl (Sub.cons rfl (Sub.cons rfl (Sub.cons rfl (Sub.cons rfl (Sub.cons rfl (Sub.cons rfl (Sub.nil _)))))))) ?_ ?_
                  · exact ⟨hH33, by omega⟩
                  · first | (dsimp only; omega) | (show _ < _; omega)
          · skip
            refine cond_f rfl (decide_eq_false hc30) ?_
            refine exit (thn_x (lp_x (blk_here (thn_n (seq (seq (region (ops_y hH29 rfl rfl (yv_move rfl) (ops_y hH29 rfl rfl (yv_move rfl) ?_)))))))))
            refine ops_y hH29 rfl rfl (yv_eql rfl rfl) ?_
            refine ops_nil (thn_n ?_)
            by_cases hc67 : (i : Int) = (k : Int)
            · skip
              refine cond_t rfl (decide_eq_true hc67) ?_
              refine seq (region ?_)
              refine op_fnV rfl rfl rfl hH29 (c16) (fun w68 hH69 => ?_)
              refine ops_y hH69 rfl rfl (yv_assign rfl) (ops_nil (thn_n (ret (thn_r ?_))))
              have hH70 := (hH69.sub (List.Sublist.cons _ (List.Sublist.cons _ (List.Sublist.refl _))))
              refine fin hH70 (fun w' hf => (res1 rfl (show RV _ _ _ (.tmp 6) _ from rfl))) (fun w' hf => ?_)
              first | rfl | (exfalso; omega)
            · skip
              refine cond_f rfl (decide_eq_false hc67) ?_
              refine skip (thn_n (seq ?_))
              have hik2 : i < k := by omega
              have hR2 : Q.rootsR l (i : Int) ((k - 1 : Nat) : Int) = ((Q.rootsI l i k), 0) := by rw [Q.ro3 hc0 (by omega), Int.toNat_natCast, Int.toNat_natCast, show k - 1 + 1 = k by omega]
              have hR3 : Q.rootsR l ((i + 1 : Nat) : Int) (k : Int) = ((Q.rootsI l (i + 1) (k + 1)), 0) := by rw [Q.ro3 hc0 (by omega), Int.toNat_natCast, Int.toNat_natCast]
              have hro := Q.rooted (Q.nn_of hw) hik2
              have ro1 := hro.1
              have ro2 := hro.2.1
              have ro3 := hro.2.2.1
              have ro4 := hro.2.2.2
              have hp1 := Q.rootsI_pos (w := l) (i := i) (k := k) (by omega)
              have hp2 := Q.rootsI_pos (w := l) (i := i + 1) (k := k + 1) (by omega)
              refine region (ops_y hH29 rfl rfl (yv_move rfl) (ops_y hH29 rfl rfl (yv_move rfl) (ops_y hH29 rfl rfl (yv_move rfl) ?_)))
              refine ops_y hH29 rfl rfl (yv_cast (show _ = ((k - 1 : Nat) : Int) by omega) (yv_sub rfl rfl (by omega))) ?_
              refine op_fn rfl rfl rfl hH29 ((by have h := c47 (h0.now hH29 (n := 2) rfl) (by omega) (a := (i : Int)) (b := ((k - 1 : Nat) : Int)) (w := w28); simp only [hR2] at h; exact h)) (fun u73 w71 lo74 hi75 hH72 hv76 => ?_)
              obtain ⟨p78, hu, -⟩ := hv76
              subst hu
              have hH77 := Heap.tup2 hH72 (n := 0) rfl
              refine ops_y hH77 rfl rfl (yv_move rfl) (ops_y hH77 rfl rfl (yv_extract rfl rfl) (ops_y hH77 rfl rfl (yv_extract rfl rfl) (ops_y hH77 rfl rfl (yv_assign rfl) (ops_y hH77 rfl rfl (yv_assign rfl) (ops_nil (thn_n (seq (region (ops_y hH77 rfl rfl (yv_move rfl) ?_)))))))))
              refine ops_y hH77 rfl rfl (yv_move rfl) ?_
              refine ops_y hH77 rfl rfl (yv_cast (show _ = ((i + 1 : Nat) : Int) by omega) (yv_add rfl rfl (by omega))) ?_
              refine ops_y hH77 rfl rfl (yv_move rfl) ?_
              refine op_fn rfl rfl rfl hH77 ((by have h := c47 (h0.now hH77 (n := 3) rfl) (by omega) (a := ((i + 1 : Nat) : Int)) (b := (k : Int)) (w := w71); simp only [hR3] at h; exact h)) (fun u81 w79 lo82 hi83 hH80 hv84 => ?_)
              obtain ⟨p86, hu, -⟩ := hv84
              subst hu
              have hH85 := Heap.tup2 hH80 (n := 0) rfl
              refine ops_y hH85 rfl rfl (yv_move rfl) (ops_y hH85 rfl rfl (yv_extract rfl rfl) (ops_y hH85 rfl rfl (yv_extract rfl rfl) (ops_y hH85 rfl rfl (yv_assign rfl) (ops_y hH85 rfl rfl (yv_assign rfl) (ops_nil (thn_n (seq ?_)))))))
              refine region_draw (fun w' => Heap [ow lo82 hi83 3 1 encI p86 (Q.rootsI l (i + 1) (k + 1)), ow lo74 hi75 3 1 encI p78 (Q.rootsI l i k), ⟨lo18, hi19, RowsAt p23 TT21 (Q.tab l)⟩, ow lo10 hi11 3 1 encI p14 (Q.rootsI l i (k + 1)), base w] w') T.mixed (fun w87 hr88 => ?_)
              have hH89 := hH85.redrawn hr88
              refine any_takes [0, 1, 2, 3, 4, 5, 6, 7, 8, 9, 10, 11, 12, 13, 14, 15, 16, 17, 18, 19, 20, 21, 22, 23, 24, 25, 26, 27, 28, 29, 30, 31, 32, 33, 34, 35, 36, 37, 38, 39, 40, 41, 42, 43, 44, 45, 46, 47, 48, 49, 50, 51, 52, 53, 54, 55, 56, 57, 58, 59, 60, 61, 62, 63, 64] (by kernel_rfl) hH89 _ _ _ (by kernel_rfl) ?_
              refine qs_y rfl rfl (yv_move rfl) ?_
              refine qs_y rfl rfl (yv_castB rfl (yv_eql rfl rfl)) ?_
              refine qs_y rfl rfl (yv_move rfl) ?_
              refine qs_yes rfl rfl rfl rfl rfl (yv_move rfl) ?_
              refine qs_yes rfl rfl rfl rfl rfl (yv_castB rfl (yv_eql rfl rfl)) ?_
              refine qs_y rfl rfl (yv_pick_t rfl rfl rfl) ?_
              refine qs_y rfl rfl (yv_move rfl) ?_
              refine qs_yes rfl rfl rfl rfl rfl (yv_move rfl) ?_
              refine qs_yes rfl rfl rfl rfl rfl (yv_len T.sl22 rfl (Heap.rdw T.el22_encI hH89 (n := 1) rfl).is) ?_
              refine qs_yes rfl rfl rfl rfl rfl (yv_castB (decide_eq_true (by omega)) (yv_gtr rfl rfl)) ?_
              refine qs_y rfl rfl (yv_pick_t rfl rfl rfl) ?_
              refine qs_y rfl rfl (yv_move rfl) ?_
              refine qs_yes rfl rfl rfl rfl rfl (yv_move rfl) ?_
              refine qs_yes rfl rfl rfl rfl rfl (yv_len T.sl22 rfl (Heap.rdw T.el22_encI hH89 (n := 0) rfl).is) ?_
              refine qs_yes rfl rfl rfl rfl rfl (yv_castB (decide_eq_true (by omega)) (yv_gtr rfl rfl)) ?_
              refine qs_y rfl rfl (yv_pick_t rfl rfl rfl) ?_
              refine qs_y rfl rfl (yv_move rfl) ?_
              refine qs_yes rfl rfl rfl rfl rfl (yv_move rfl) ?_
              refine qs_yes rfl rfl rfl rfl rfl (yv_index T.sl22 rfl rfl (Heap.rdw T.el22_encI hH89 (n := 1) rfl).is (by omega)) ?_
              refine qs_yes rfl rfl rfl rfl rfl (yv_load T.one3 rfl (fun _ hw => Rd.at (Heap.rdw T.el22_encI hw (n := 1) rfl) (i := 0) (by omega) (j := 0) rfl)) ?_
              refine qs_yes rfl rfl rfl rfl rfl (yv_move rfl) ?_
              refine qs_yes rfl rfl rfl rfl rfl (yv_index T.sl22 rfl rfl (Heap.rdw T.el22_encI hH89 (n := 3) rfl).is (by omega)) ?_
              refine qs_yes rfl rfl rfl rfl rfl (yv_load T.one3 rfl (fun _ hw => Rd.at (Heap.rdw T.el22_encI hw (n := 3) rfl) (i := 0) (by omega) (j := 0) rfl)) ?_
              refine qs_yes rfl rfl rfl rfl rfl (yv_castB (decide_eq_true (ro1)) (yv_leq rfl rfl)) ?_
              refine qs_y rfl rfl (yv_pick_t rfl rfl rfl) ?_
              refine qs_y rfl rfl (yv_move rfl) ?_
              refine qs_yes rfl rfl rfl rfl rfl (yv_move rfl) ?_
              refine qs_yes rfl rfl rfl rfl rfl (yv_index T.sl22 rfl rfl (Heap.rdw T.el22_encI hH89 (n := 3) rfl).is (by omega)) ?_
              refine qs_yes rfl rfl rfl rfl rfl (yv_load T.one3 rfl (fun _ hw => Rd.at (Heap.rdw T.el22_encI hw (n := 3) rfl) (i := 0) (by omega) (j := 0) rfl)) ?_
              refine qs_yes rfl rfl rfl rfl rfl (yv_move rfl) ?_
              refine qs_yes rfl rfl rfl rfl rfl (yv_index T.sl22 rfl rfl (Heap.rdw T.el22_encI hH89 (n := 0) rfl).is (by omega)) ?_
              refine qs_yes rfl rfl rfl rfl rfl (yv_load T.one3 rfl (fun _ hw => Rd.at (Heap.rdw T.el22_encI hw (n := 0) rfl) (i := 0) (by omega) (j := 0) rfl)) ?_
              refine qs_yes rfl rfl rfl rfl rfl (yv_castB (decide_eq_true (ro2)) (yv_leq rfl rfl)) ?_
              refine qs_y rfl rfl (yv_pick_t rfl rfl rfl) ?_
              refine qs_y rfl rfl (yv_move rfl) ?_
              refine qs_yes rfl rfl rfl rfl rfl (yv_move rfl) ?_
              refine qs_yes rfl rfl rfl rfl rfl (yv_move rfl) ?_
              refine qs_yes rfl rfl rfl rfl rfl (yv_len T.sl22 rfl (Heap.rdw T.el22_encI hH89 (n := 1) rfl).is) ?_
              refine qs_yes rfl rfl rfl rfl rfl (yv_sub rfl rfl (by omega)) ?_
              refine qs_yes rfl rfl rfl rfl rfl (yv_index T.sl22 rfl rfl (Heap.rdw T.el22_encI hH89 (n := 1) rfl).is (by omega)) ?_
              refine qs_yes rfl rfl rfl rfl rfl (yv_load T.one3 rfl (fun _ hw => Rd.at (Heap.rdw T.el22_encI hw (n := 1) rfl) (i := ((Q.rootsI l i k).length : Int) - 1) (by omega) (j := 0) rfl)) ?_
              refine qs_yes rfl rfl rfl rfl rfl (yv_move rfl) ?_
              refine qs_yes rfl rfl rfl rfl rfl (yv_move rfl) ?_
              refine qs_yes rfl rfl rfl rfl rfl (yv_len T.sl22 rfl (Heap.rdw T.el22_encI hH89 (n := 3) rfl).is) ?_
              refine qs_yes rfl rfl rfl rfl rfl (yv_sub rfl rfl (by omega)) ?_
              refine qs_yes rfl rfl rfl rfl rfl (yv_index T.sl22 rfl rfl (Heap.rdw T.el22_encI hH89 (n := 3) rfl).is (by omega)) ?_
              refine qs_yes rfl rfl rfl rfl rfl (yv_load T.one3 rfl (fun _ hw => Rd.at (Heap.rdw T.el22_encI hw (n := 3) rfl) (i := ((Q.rootsI l i (k + 1)).length : Int) - 1) (by omega) (j := 0) rfl)) ?_
              refine qs_yes rfl rfl rfl rfl rfl (yv_castB (decide_eq_true (ro3)) (yv_leq rfl rfl)) ?_
              refine qs_y rfl rfl (yv_pick_t rfl rfl rfl) ?_
              refine qs_y rfl rfl (yv_move rfl) ?_
              refine qs_yes rfl rfl rfl rfl rfl (yv_move rfl) ?_
              refine qs_yes rfl rfl rfl rfl rfl (yv_move rfl) ?_
              refine qs_yes rfl rfl rfl rfl rfl (yv_len T.sl22 rfl (Heap.rdw T.el22_encI hH89 (n := 3) rfl).is) ?_
              refine qs_yes rfl rfl rfl rfl rfl (yv_sub rfl rfl (by omega)) ?_
              refine qs_yes rfl rfl rfl rfl rfl (yv_index T.sl22 rfl rfl (Heap.rdw T.el22_encI hH89 (n := 3) rfl).is (by omega)) ?_
              refine qs_yes rfl rfl rfl rfl rfl (yv_load T.one3 rfl (fun _ hw => Rd.at (Heap.rdw T.el22_encI hw (n := 3) rfl) (i := ((Q.rootsI l i (k + 1)).length : Int) - 1) (by omega) (j := 0) rfl)) ?_
              refine qs_yes rfl rfl rfl rfl rfl (yv_move rfl) ?_
              refine qs_yes rfl rfl rfl rfl rfl (yv_move rfl) ?_
              refine qs_yes rfl rfl rfl rfl rfl (yv_len T.sl22 rfl (Heap.rdw T.el22_encI hH89 (n := 0) rfl).is) ?_
              refine qs_yes rfl rfl rfl rfl rfl (yv_sub rfl rfl (by omega)) ?_
              refine qs_yes rfl rfl rfl rfl rfl (yv_index T.sl22 rfl rfl (Heap.rdw T.el22_encI hH89 (n := 0) rfl).is (by omega)) ?_
              refine qs_yes rfl rfl rfl rfl rfl (yv_load T.one3 rfl (fun _ hw => Rd.at (Heap.rdw T.el22_encI hw (n := 0) rfl) (i := ((Q.rootsI l (i + 1) (k + 1)).length : Int) - 1) (by omega) (j := 0) rfl)) ?_
              refine qs_yes rfl rfl rfl rfl rfl (yv_castB (decide_eq_true (ro4)) (yv_leq rfl rfl)) ?_
              refine qs_y rfl rfl (yv_pick_t rfl rfl rfl) ?_
              refine qs_y rfl rfl (yv_move rfl) (qs_nil ?_)
              refine any_all [65] (by kernel_rfl) rfl ?_
              refine ⟨⟨_, rfl, ?_⟩, trivial⟩
              · skip
                refine guard_yes rfl rfl rfl ?_
                refine op_fnV rfl rfl rfl hH89 (c16) (fun w90 hH91 => ?_)
                refine ops_nil ?_
                refine ⟨hH91, ?_⟩
                refine any_takes [66, 67] (by kernel_rfl) hH91 _ _ _ (by kernel_rfl) ?_
                refine qs_y rfl rfl (yv_pick_t rfl rfl rfl) ?_
                refine qs_y rfl rfl (yv_assign rfl) (qs_nil ?_)
                refine any_done (by kernel_rfl) ?_
                refine thn_n (ret ?_)
                have hH92 := (hH91.sub (List.Sublist.cons _ (List.Sublist.cons _ (List.Sublist.cons _ (List.Sublist.cons _ (List.Sublist.refl _))))))
                refine fin hH92 (fun w' hf => (res1 rfl (show RV _ _ _ (.tmp 6) _ from rfl))) (fun w' hf => ?_)
                first | rfl | (exfalso; omega)
  · skip
    have hcn : ¬ Q.ckW l = 0 := ‹_›
    refine region (ops_y hH rfl rfl (yv_move rfl) ?_)
    refine op_fnV rfl rfl rfl hH (c41 (h0.now hH (n := 0) rfl)) (fun w93 hH94 => ?_)
    refine ops_y hH94 rfl rfl (yv_castB (bnot_t (decide_eq_false hc1)) (yv_not rfl)) ?_
    refine ops_nil (thn_n ?_)
    refine cond_t rfl rfl ?_
    refine seq (region ?_)
    refine op_fnV rfl rfl rfl hH94 (c16) (fun w95 hH96 => ?_)
    refine ops_y hH96 rfl rfl (yv_assign rfl) (ops_nil (thn_n (ret (thn_r ?_))))
    refine fin hH96 (fun w' hf => (res1 rfl (show RV _ _ _ (.tmp 6) _ from rfl))) (fun w' hf => ?_)
    first | rfl | (exfalso; omega)

end Go.Fip
