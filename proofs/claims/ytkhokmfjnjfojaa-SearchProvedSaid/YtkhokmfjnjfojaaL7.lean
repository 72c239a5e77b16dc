/- Walks, by program (wip/tools). -/
import Derived.Test.YtkhokmfjnjfojaaL6
import Derived.Test.YtkhokmfjnjfojaaMJ
set_option linter.unusedVariables false
set_option linter.unusedSimpArgs false
set_option linter.unusedSectionVars false
set_option linter.unnecessarySimpa false
namespace Go.Fip
open Go.Proofs Go.RowKit

theorem c22w {vw : Value} {l : List Int} {w : World} (h : ∃ a c, vw = .slice a l.length c)  :
    Fn Try.prog 22 [vw].toArray w (fun u _ => u = .bool (decide (16 < (l.length : Int)))) := by
  refine fn_of' (args := [vw]) Try.func22 rfl (ent Try.func22 (by kernel_rfl) rfl) rfl rfl (fun hH => ?_)
  refine seq (region (ops_y hH rfl rfl (yv_assign rfl) (ops_nil (thn_n (seq (region (ops_y hH rfl rfl (yv_move rfl) ?_)))))))
  refine ops_y hH rfl rfl (yv_lenW T.sl30 rfl (h)) ?_
  refine ops_y hH rfl rfl (yv_gtr rfl rfl) ?_
  refine ops_y hH rfl rfl (yv_assign rfl) (ops_nil (thn_n (ret ?_)))
  refine fin hH (fun w' hf => (res1 rfl (show RV _ _ _ (.tmp 2) _ from rfl))) (fun w' hf => ?_)
  rfl

theorem c42u {u : Value} {VV : List SV} {RR : List (List Int)} {w : World} (ha : RowsU u VV RR w)  :
    Fn Try.prog 42 [u].toArray w (fun u _ => u = .bool (Q.wideB RR)) := by
  refine fn_of' (args := [u]) Try.func42 rfl (ent Try.func42 (by kernel_rfl) rfl) rfl rfl (fun hH => ?_)
  have hl1 := ha.2.1
  refine seq (region (ops_y hH rfl rfl (yv_assign rfl) (ops_nil (thn_n (seq (seq (region (ops_y hH rfl rfl (yv_move rfl) ?_))))))))
  refine ops_y hH rfl rfl (yv_len T.sl45 rfl ((ha.now hH (n := 0) rfl).1).is) ?_
  refine ops_y hH rfl rfl (yv_gtr rfl rfl) ?_
  refine ops_nil (thn_n ?_)
  by_cases hc1 : 16 < (VV.length : Int)
  · skip
    refine cond_t rfl (decide_eq_true hc1) ?_
    refine seq (region (ops_y hH rfl rfl (yv_assign rfl) (ops_nil (thn_n (ret (thn_r ?_))))))
    refine fin hH (fun w' hf => (res1 rfl (show RV _ _ _ (.tmp 2) _ from rfl))) (fun w' hf => ?_)
    first | exact congrArg Value.bool (Q.wide_yes (by omega)).symm | exact congrArg Value.bool (Q.wide_row (i := k) (by omega) hp).symm | exact congrArg Value.bool (Q.wide_no (by omega) (fun i hi => hall i (by omega))).symm
  · skip
    refine cond_f rfl (decide_eq_false hc1) ?_
    refine skip (thn_n (seq (seq (region (ops_y hH rfl rfl (yv_assign rfl) (ops_nil (thn_n (block ?_))))))))
    refine loop (S := Nat) (fun k => [(3, (.int .i64 (k : Int))), (0, u)]) (fun k w1 => Heap [base w] w1 ∧ k ≤ RR.length ∧ ∀ i : Nat, i < k → ¬ 16 < ((nth RR (i : Int)).length : Int)) (fun k => RR.length - k) (0) (Sub.cons rfl (Sub.cons rfl (Sub.nil _))) ?_ ?_
    · exact ⟨hH, by omega, fun i hi => absurd hi (Nat.not_lt_zero _)⟩
    · rintro k w2 ⟨hH3, hk, hall⟩
      show Holds _ _ _ _ _ [(3, (.int .i64 (k : Int))), (0, u)] _ _
      refine seq (seq (region (ops_y hH3 rfl rfl (yv_move rfl) (ops_y hH3 rfl rfl (yv_move rfl) ?_))))
      refine ops_y hH3 rfl rfl (yv_len T.sl45 rfl ((ha.now hH3 (n := 0) rfl).1).is) ?_
      refine ops_y hH3 rfl rfl (yv_lss rfl rfl) ?_
      refine ops_nil (thn_n ?_)
      by_cases hc4 : (k : Int) < (VV.length : Int)
      · skip
        refine cond_t rfl (decide_eq_true hc4) ?_
        refine skip (thn_n (seq (block (seq (region (ops_y hH3 rfl rfl (yv_move rfl) (ops_y hH3 rfl rfl (yv_move rfl) ?_)))))))
        refine ops_y hH3 rfl rfl (yv_index T.sl45 rfl rfl ((ha.now hH3 (n := 0) rfl).1).is (by omega)) ?_
        refine ops_y hH3 rfl rfl (yv_load T.one30 rfl (fun _ hw => Rd.at ((ha.now hw (n := 0) rfl).1) (i := (k : Int)) (by omega) (j := 0) rfl)) ?_
        refine op_fnV rfl rfl rfl hH3 (c22w (l := (nth RR (k : Int))) (RowsU.len (ha.now hH3 (n := 0) rfl) (by omega) (by omega))) (fun w5 hH6 => ?_)
        refine ops_nil (thn_n ?_)
        by_cases hc7 : 16 < ((nth RR (k : Int)).length : Int)
        · skip
          have hp : 16 < ((nth RR (k : Int)).length : Int) := by simpa using (decide_eq_true hc7)
          refine cond_t rfl (decide_eq_true hc7) ?_
          refine seq (region (ops_y hH6 rfl rfl (yv_assign rfl) (ops_nil (thn_n (ret (blk_r (thn_r (lp_r (blk_r ?_)))))))))
          refine thn_r ?_
          refine fin hH6 (fun w' hf => (res1 rfl (show RV _ _ _ (.tmp 2) _ from rfl))) (fun w' hf => ?_)
          first | exact congrArg Value.bool (Q.wide_yes (by omega)).symm | exact congrArg Value.bool (Q.wide_row (i := k) (by omega) hp).symm | exact congrArg Value.bool (Q.wide_no (by omega) (fun i hi => hall i (by omega))).symm
        · skip
          have hp : ¬ 16 < ((nth RR (k : Int)).length : Int) := by simpa using (decide_eq_false hc7)
          refine cond_f rfl (decide_eq_false hc7) ?_
          refine skip (blk_n (thn_n (region (ops_y hH6 rfl rfl (yv_move rfl) ?_))))
          refine ops_y hH6 rfl rfl (yv_add rfl rfl (by omega)) ?_
          refine ops_y hH6 rfl rfl (yv_assign rfl) (ops_nil ?_)
          refine lp_n (k + 1) (Sub.cons rfl (Sub.cons rfl (Sub.nil _))) ?_ ?_
          · exact ⟨hH6, by omega, fun i hi => by rcases Nat.lt_or_ge i k with h | h; exact hall i h; rw [show i = k by omega]; exact hp⟩
          · first | (dsimp only; omega) | (show _ < _; omega)
      · skip
        refine cond_f rfl (decide_eq_false hc4) ?_
        refine exit (thn_x (lp_x (blk_here (thn_n (seq (region (ops_y hH3 rfl rfl (yv_assign rfl) (ops_nil (thn_n ?_)))))))))
        refine ret ?_
        refine fin hH3 (fun w' hf => (res1 rfl (show RV _ _ _ (.tmp 2) _ from rfl))) (fun w' hf => ?_)
        first | exact congrArg Value.bool (Q.wide_yes (by omega)).symm | exact congrArg Value.bool (Q.wide_row (i := k) (by omega) hp).symm | exact congrArg Value.bool (Q.wide_no (by omega) (fun i hi => hall i (by omega))).symm

theorem c77u {b1 : Nat} {u : Value} {VV : List SV} {RR : List (List Int)} {w : World} (ha : RowsU u VV RR w) {a b : Int} (k1 : Bx b1 45 [u] w) (hle : a ≤ b) (ha0 : -1000000 ≤ a) (hb0 : b ≤ 1000000) (h1 : a < b → 0 ≤ a ∧ a < (RR.length : Int) ∧ b - a - 1 < ((nth RR a).length : Int))  :
    Fn Try.prog 77 [(.agg #[(.int .i64 a), (.int .i64 b)]), (.pointer (some ⟨b1, 0, none⟩))].toArray w (fun u _ => u = .int .i64 (Q.btw RR a b)) := by
  refine fn_of' (args := [(.agg #[(.int .i64 a), (.int .i64 b)]), (.pointer (some ⟨b1, 0, none⟩))]) Try.func77 rfl (ent Try.func77 (by kernel_rfl) rfl) rfl rfl (fun hH => ?_)
  have hl1 := ha.2.1
  refine seq (region ?_)
  refine op_box (us := [(.int .i64 a), (.int .i64 b)]) rfl rfl rfl hH (fun b1 w2 hH3 => ?_)
  refine ops_y hH3 rfl rfl (yv_assign rfl) (ops_nil (thn_n (seq (seq (region ?_)))))
  refine ops_y hH3 rfl rfl (yv_field T.f81_0 rfl) ?_
  refine ops_y hH3 rfl rfl (yv_load T.one3 rfl (fun _ hw => Heap.cellw hw (n := 0) rfl rfl)) ?_
  refine ops_y hH3 rfl rfl (yv_field T.f81_1 rfl) ?_
  refine ops_y hH3 rfl rfl (yv_load T.one3 rfl (fun _ hw => Heap.cellw hw (n := 0) rfl rfl)) ?_
  refine ops_y hH3 rfl rfl (yv_eql rfl rfl) ?_
  refine ops_nil (thn_n ?_)
  by_cases hc4 : a = b
  · skip
    refine cond_t rfl (decide_eq_true hc4) ?_
    refine seq (region (ops_y hH3 rfl rfl (yv_assign rfl) (ops_nil (thn_n (ret (thn_r ?_))))))
    have hH5 := (hH3.sub (List.Sublist.cons _ (List.Sublist.refl _)))
    refine fin hH5 (fun w' hf => (res1 rfl (show RV _ _ _ (.tmp 3) _ from rfl))) (fun w' hf => ?_)
    first | exact congrArg (Value.int .i64) (Q.btw_nil (by omega)).symm | exact congrArg (Value.int .i64) (Q.btw_at (by omega)).symm
  · skip
    refine cond_f rfl (decide_eq_false hc4) ?_
    refine skip (thn_n (seq ?_))
    obtain ⟨h2, h3, h4⟩ := h1 (by omega)
    have hne9 : 0 < (nth RR a).length := by omega
    refine region_draw (fun w' => Heap [bx b1 81 [(.int .i64 a), (.int .i64 b)], base w] w') T.mixed (fun w6 hr7 => ?_)
    have hH8 := hH3.redrawn hr7
    refine any_takes [0, 1, 2, 3, 4, 5, 6, 7, 8, 9, 10, 11, 12, 13] (by kernel_rfl) hH8 _ _ _ (by kernel_rfl) ?_
    refine qs_y rfl rfl (yv_load T.one45 rfl (fun _ hw => bx_cell (k1.now hw (n := 1) rfl) rfl)) ?_
    refine qs_y rfl rfl (yv_field T.f81_0 rfl) ?_
    refine qs_y rfl rfl (yv_load T.one3 rfl (fun _ hw => Heap.cellw hw (n := 0) rfl rfl)) ?_
    refine qs_y rfl rfl (yv_index T.sl45 rfl rfl ((ha.now hH8 (n := 1) rfl).1).is (by omega)) ?_
    refine qs_y rfl rfl (yv_load T.one30 rfl (fun _ hw => Rd.at ((ha.now hw (n := 1) rfl).1) (i := a) (by omega) (j := 0) rfl)) ?_
    refine qs_y rfl rfl (yv_field T.f81_1 rfl) ?_
    refine qs_y rfl rfl (yv_load T.one3 rfl (fun _ hw => Heap.cellw hw (n := 0) rfl rfl)) ?_
    refine qs_y rfl rfl (yv_field T.f81_0 rfl) ?_
    refine qs_y rfl rfl (yv_load T.one3 rfl (fun _ hw => Heap.cellw hw (n := 0) rfl rfl)) ?_
    refine qs_y rfl rfl (yv_sub rfl rfl (by omega)) ?_
    refine qs_y rfl rfl (yv_sub rfl rfl (by omega)) ?_
    refine qs_y rfl rfl (yv_index T.sl30 rfl rfl (RowsU.at (ha.now hH8 (n := 1) rfl) (by omega) (by omega) (by first | assumption | omega)).is (by omega)) ?_
    refine qs_y rfl rfl (yv_load T.one2 rfl (fun _ hw => Rd.at (RowsU.at (ha.now hw (n := 1) rfl) (by omega) (by omega) (by first | assumption | omega)) (i := (b - a) - 1) (by omega) (j := 0) rfl)) ?_
    refine qs_y rfl rfl (yv_assign rfl) (qs_nil ?_)
    refine any_done (by kernel_rfl) ?_
    refine thn_n (ret ?_)
    have hH9 := (hH8.sub (List.Sublist.cons _ (List.Sublist.refl _)))
    refine fin hH9 (fun w' hf => (res1 rfl (show RV _ _ _ (.tmp 3) _ from rfl))) (fun w' hf => ?_)
    first | exact congrArg (Value.int .i64) (Q.btw_nil (by omega)).symm | exact congrArg (Value.int .i64) (Q.btw_at (by omega)).symm

theorem c79u {u : Value} {VV : List SV} {RR : List (List Int)} {w : World} (ha : RowsU u VV RR w) {a b : Int} (hle : a ≤ b) (ha0 : -1000000 ≤ a) (hb0 : b ≤ 1000000) (h1 : a < b → 0 ≤ a ∧ a < (RR.length : Int) ∧ b - a - 1 < ((nth RR a).length : Int))  :
    Fn Try.prog 79 [u, (.int .i64 a), (.int .i64 b)].toArray w (fun u _ => u = .int .i64 (Q.btw RR a b)) := by
  refine fn_of' (args := [u, (.int .i64 a), (.int .i64 b)]) Try.func79 rfl (ent Try.func79 (by kernel_rfl) rfl) rfl rfl (fun hH => ?_)
  have hl1 := ha.2.1
  refine seq (region (ops_y hH rfl rfl (yv_assign rfl) (ops_nil (thn_n (seq (seq (region (ops_y hH rfl rfl (yv_move rfl) (ops_y hH rfl rfl (yv_move rfl) ?_)))))))))
  refine ops_y hH rfl rfl (yv_eql rfl rfl) ?_
  refine ops_nil (thn_n ?_)
  by_cases hc1 : a = b
  · skip
    refine cond_t rfl (decide_eq_true hc1) ?_
    refine seq (region (ops_y hH rfl rfl (yv_assign rfl) (ops_nil (thn_n (ret (thn_r ?_))))))
    refine fin hH (fun w' hf => (res1 rfl (show RV _ _ _ (.tmp 6) _ from rfl))) (fun w' hf => ?_)
    first | exact congrArg (Value.int .i64) (Q.btw_nil (by omega)).symm | exact congrArg (Value.int .i64) (Q.btw_at (by omega)).symm
  · skip
    refine cond_f rfl (decide_eq_false hc1) ?_
    refine skip (thn_n (seq ?_))
    obtain ⟨h2, h3, h4⟩ := h1 (by omega)
    have hne9 : 0 < (nth RR a).length := by omega
    refine region (ops_y hH rfl rfl (yv_move rfl) (ops_y hH rfl rfl (yv_move rfl) ?_))
    refine ops_y hH rfl rfl (yv_index T.sl45 rfl rfl ((ha.now hH (n := 0) rfl).1).is (by omega)) ?_
    refine ops_y hH rfl rfl (yv_load T.one30 rfl (fun _ hw => Rd.at ((ha.now hw (n := 0) rfl).1) (i := a) (by omega) (j := 0) rfl)) ?_
    refine ops_y hH rfl rfl (yv_move rfl) (ops_y hH rfl rfl (yv_move rfl) ?_)
    refine ops_y hH rfl rfl (yv_sub rfl rfl (by omega)) ?_
    refine ops_y hH rfl rfl (yv_sub rfl rfl (by omega)) ?_
    refine ops_y hH rfl rfl (yv_index T.sl30 rfl rfl (RowsU.at (ha.now hH (n := 0) rfl) (by omega) (by omega) (by first | assumption | omega)).is (by omega)) ?_
    refine ops_y hH rfl rfl (yv_load T.one2 rfl (fun _ hw => Rd.at (RowsU.at (ha.now hw (n := 0) rfl) (by omega) (by omega) (by first | assumption | omega)) (i := (b - a) - 1) (by omega) (j := 0) rfl)) ?_
    refine ops_y hH rfl rfl (yv_assign rfl) (ops_nil (thn_n (ret ?_)))
    refine fin hH (fun w' hf => (res1 rfl (show RV _ _ _ (.tmp 6) _ from rfl))) (fun w' hf => ?_)
    first | exact congrArg (Value.int .i64) (Q.btw_nil (by omega)).symm | exact congrArg (Value.int .i64) (Q.btw_at (by omega)).symm

theorem c44u {v u : Value} {l : List Int} {VV : List SV} {RR : List (List Int)} {w : World} (h0 : Rd encI 1 v l w) (ha : RowsU u VV RR w) (hn : l.length ≤ 1000000) (hn2 : RR.length ≤ 1000000) (he1 : ∀ i : Nat, i < RR.length → (nth RR (i : Int)).length ≤ 1000000)  :
    Fn Try.prog 44 [v, u].toArray w (fun u _ => u = .tuple #[.int .i64 (Q.ckB l RR).1, .int .i64 (Q.ckB l RR).2]) := by
  refine fn_of' (args := [v, u]) Try.func44 rfl (ent Try.func44 (by kernel_rfl) rfl) rfl rfl (fun hH => ?_)
  have hl1 := ha.2.1
  refine seq (region ?_)
  refine op_box (us := [u]) rfl (SliceIs.cells ((ha.now hH (n := 0) rfl).1).is) rfl hH (fun b1 w2 hH3 => ?_)
  refine ops_y hH3 rfl rfl (yv_assign rfl) (ops_y hH3 rfl rfl (yv_assign rfl) (ops_nil (thn_n (seq ?_))))
  by_cases hc4 : Q.ckW l = 0
  · skip
    have hc0 : Q.ckW l = 0 := ‹_›
    obtain ⟨hl12, hw⟩ := Q.ckW_w hc0
    refine region (ops_y hH3 rfl rfl (yv_move rfl) ?_)
    refine op_fn rfl rfl rfl hH3 (c64g (h0.now hH3 (n := 1) rfl) (by omega) hc0) (fun u7 w5 lo8 hi9 hH6 hv10 => ?_)
    obtain ⟨rbR, hu, hrowR⟩ := hv10
    subst hu
    obtain ⟨mbR, esR, clockR, mR, hentsR, hfullR, hH11⟩ := Heap.fixMap hH6 (n := 0) rfl (fun w' h => by obtain ⟨rb', e, h⟩ := h; cases e; exact h)
    refine ops_y hH11 rfl rfl (yv_move rfl) (ops_y hH11 rfl rfl (yv_extract rfl rfl) (ops_y hH11 rfl rfl (yv_extract rfl rfl) (ops_y hH11 rfl rfl (yv_assign rfl) (ops_y hH11 rfl rfl (yv_assign rfl) (ops_nil (thn_n (seq (block (seq ?_)))))))))
    refine region (ops_y hH11 rfl rfl (yv_move rfl) ?_)
    refine ops_y hH11 rfl rfl (yv_neq rfl rfl) ?_
    refine ops_y hH11 rfl rfl (yv_assign rfl) (ops_nil (thn_n ?_))
    refine cond_f rfl rfl ?_
    refine seq (region ?_)
    refine ops_y hH11 rfl rfl (yv_load T.one45 rfl (fun _ hw => Heap.cellw hw (n := 1) rfl rfl)) ?_
    refine ops_y hH11 rfl rfl (yv_len T.sl45 rfl ((ha.now hH11 (n := 2) rfl).1).is) ?_
    refine ops_y hH11 rfl rfl (yv_move rfl) ?_
    refine ops_y hH11 rfl rfl (yv_len T.sl30 rfl (h0.now hH11 (n := 2) rfl).is) ?_
    refine ops_y hH11 rfl rfl (yv_neq rfl rfl) ?_
    refine ops_y hH11 rfl rfl (yv_assign rfl) (ops_nil (thn_n ?_))
    by_cases hc12 : (VV.length : Int) = (l.length : Int)
    · skip
      refine cond_f rfl (not_decide_n hc12) ?_
      refine skip (blk_n (thn_n (seq (seq (region ?_)))))
      refine ops_y hH11 rfl rfl (yv_load T.one45 rfl (fun _ hw => Heap.cellw hw (n := 1) rfl rfl)) ?_
      refine ops_y hH11 rfl rfl (yv_len T.sl45 rfl ((ha.now hH11 (n := 2) rfl).1).is) ?_
      refine ops_y hH11 rfl rfl (yv_move rfl) (ops_nil (thn_n (block ?_)))
      refine loop (S := Nat) (fun k => [(32, (.int .i64 (k : Int))), (0, v), (3, (.pointer (some ⟨b1, 0, none⟩))), (6, (.pointer (some ⟨rbR, 0, none⟩))), (30, u), (31, (.int .i64 (VV.length : Int)))]) (fun k w1 => Heap [⟨lo8, hi9, RowAt 87 rbR v mbR esR clockR⟩, bx b1 45 [u], base w] w1 ∧ k ≤ RR.length ∧ ∀ i : Nat, i < k → (nth RR (i : Int)).length = l.length - i) (fun k => RR.length - k) (0) (Sub.cons rfl (Sub.cons rfl (Sub.cons rfl (Sub.cons rfl (Sub.cons rfl (Sub.cons rfl (Sub.nil _))))))) ?_ ?_
      · exact ⟨hH11, by omega, fun i hi => absurd hi (Nat.not_lt_zero _)⟩
      · rintro k w13 ⟨hH14, hk, hall⟩
        show Holds _ _ _ _ _ [(32, (.int .i64 (k : Int))), (0, v), (3, (.pointer (some ⟨b1, 0, none⟩))), (6, (.pointer (some ⟨rbR, 0, none⟩))), (30, u), (31, (.int .i64 (VV.length : Int)))] _ _
        refine seq (region ?_)
        refine ops_y hH14 rfl rfl (yv_lss rfl rfl) ?_
        refine ops_nil (thn_n (seq ?_))
        by_cases hc15 : (k : Int) < (VV.length : Int)
        · skip
          refine cond_t rfl (decide_eq_true hc15) ?_
          refine skip (thn_n (seq (block (seq (region (ops_y hH14 rfl rfl (yv_move rfl) ?_))))))
          refine ops_y hH14 rfl rfl (yv_index T.sl45 rfl rfl ((ha.now hH14 (n := 2) rfl).1).is (by omega)) ?_
          refine ops_y hH14 rfl rfl (yv_load T.one30 rfl (fun _ hw => Rd.at ((ha.now hw (n := 2) rfl).1) (i := (k : Int)) (by omega) (j := 0) rfl)) ?_
          refine ops_y hH14 rfl rfl (yv_assign rfl) (ops_y hH14 rfl rfl (yv_assign rfl) (ops_nil (thn_n (seq ?_))))
          have hek := he1 k (by omega)
          refine region (ops_y hH14 rfl rfl (yv_move rfl) ?_)
          refine ops_y hH14 rfl rfl (yv_lenW T.sl30 rfl (RowsU.len (ha.now hH14 (n := 2) rfl) (by omega) (by omega))) ?_
          refine ops_y hH14 rfl rfl (yv_move rfl) ?_
          refine ops_y hH14 rfl rfl (yv_len T.sl30 rfl (h0.now hH14 (n := 2) rfl).is) ?_
          refine ops_y hH14 rfl rfl (yv_move rfl) ?_
          refine ops_y hH14 rfl rfl (yv_sub rfl rfl (by omega)) ?_
          refine ops_y hH14 rfl rfl (yv_neq rfl rfl) ?_
          refine ops_nil (thn_n ?_)
          by_cases hc16 : ((nth RR (k : Int)).length : Int) = ((l.length : Int) - (k : Int))
          · skip
            refine cond_f rfl (not_decide_n hc16) ?_
            refine skip (blk_n (thn_n (region ?_)))
            refine ops_y hH14 rfl rfl (yv_add rfl rfl (by omega)) ?_
            refine ops_y hH14 rfl rfl (yv_move rfl) (ops_nil ?_)
            refine lp_n (k + 1) (Sub.cons rfl (Sub.cons rfl (Sub.cons rfl (Sub.cons rfl (Sub.cons rfl (Sub.cons rfl (Sub.nil _))))))) ?_ ?_
            · exact ⟨hH14, by omega, fun i hi => by rcases Nat.lt_or_ge i k with h | h; exact hall i h; rw [show i = k by omega]; omega⟩
            · first | (dsimp only; omega) | (show _ < _; omega)
          · skip
            have hns : ¬ Q.Shaped l RR := fun h => by have := h.2 k (by omega); omega
            refine cond_t rfl (not_decide_t hc16) ?_
            refine seq (region (ops_y hH14 rfl rfl (yv_assign rfl) (ops_y hH14 rfl rfl (yv_assign rfl) (ops_nil (thn_n (ret (blk_r (thn_r (lp_r ?_)))))))))
            refine blk_r (thn_r ?_)
            have hH17 := (hH14.sub (List.Sublist.cons _ (List.Sublist.cons _ (List.Sublist.refl _))))
            refine fin hH17 (fun w' hf => (res2 rfl (show RV _ _ _ (.tmp 4) _ from rfl) (show RV _ _ _ (.tmp 5) _ from rfl))) (fun w' hf => ?_)
            first | exact tup2 (Q.cb1 hcn) | exact tup2 (Q.cb2 hc0 hns) | exact tup2 (Q.cb3 hc0 hS hnz) | exact tup2 (Q.cb4 hc0 hS hZ hnh) | exact tup2 (Q.cb5 hc0 hS hZ hHeld)
        · skip
          refine cond_f rfl (decide_eq_false hc15) ?_
          refine exit (thn_x (lp_x (blk_here (thn_n (seq (seq ?_))))))
          have hS : Q.Shaped l RR := ⟨by omega, fun i hi => hall i (by omega)⟩
          refine region ?_
          refine ops_y hH14 rfl rfl (yv_load T.one45 rfl (fun _ hw => Heap.cellw hw (n := 1) rfl rfl)) ?_
          refine ops_y hH14 rfl rfl (yv_len T.sl45 rfl ((ha.now hH14 (n := 2) rfl).1).is) ?_
          refine ops_y hH14 rfl rfl (yv_move rfl) (ops_nil (thn_n (block ?_)))
          refine loop (S := Nat) (fun k => [(47, (.int .i64 (k : Int))), (3, (.pointer (some ⟨b1, 0, none⟩))), (6, (.pointer (some ⟨rbR, 0, none⟩))), (45, u), (46, (.int .i64 (VV.length : Int)))]) (fun k w1 => Heap [⟨lo8, hi9, RowAt 87 rbR v mbR esR clockR⟩, bx b1 45 [u], base w] w1 ∧ k ≤ RR.length ∧ ∀ i : Nat, i < k → ∀ x ∈ nth RR (i : Int), 0 ≤ x ∧ x ≤ 1099511627776) (fun k => RR.length - k) (0) (Sub.cons rfl (Sub.cons rfl (Sub.cons rfl (Sub.cons rfl (Sub.cons rfl (Sub.nil _)))))) ?_ ?_
          · exact ⟨hH14, by omega, fun i hi => absurd hi (Nat.not_lt_zero _)⟩
          · rintro k w18 ⟨hH19, hk, hall2⟩
            show Holds _ _ _ _ _ [(47, (.int .i64 (k : Int))), (3, (.pointer (some ⟨b1, 0, none⟩))), (6, (.pointer (some ⟨rbR, 0, none⟩))), (45, u), (46, (.int .i64 (VV.length : Int)))] _ _
            refine seq (region ?_)
            refine ops_y hH19 rfl rfl (yv_lss rfl rfl) ?_
            refine ops_nil (thn_n (seq ?_))
            by_cases hc20 : (k : Int) < (VV.length : Int)
            · skip
              refine cond_t rfl (decide_eq_true hc20) ?_
              refine skip (thn_n (seq (block (seq ?_))))
              have hshk := hS.2 k (by omega)
              have hne9 : 0 < (nth RR (k : Int)).length := by omega
              refine region ?_
              refine ops_y hH19 rfl rfl (yv_index T.sl45 rfl rfl ((ha.now hH19 (n := 2) rfl).1).is (by omega)) ?_
              refine ops_y hH19 rfl rfl (yv_load T.one30 rfl (fun _ hw => Rd.at ((ha.now hw (n := 2) rfl).1) (i := (k : Int)) (by omega) (j := 0) rfl)) ?_
              refine ops_y hH19 rfl rfl (yv_assign rfl) (ops_nil (thn_n (seq ?_)))
              have hek := he1 k (by omega)
              refine region (ops_y hH19 rfl rfl (yv_move rfl) ?_)
              refine op_fnV rfl rfl rfl hH19 (c58 (lo := 0) (hi := 1099511627776) (RowsU.at (ha.now hH19 (n := 2) rfl) (by omega) (by omega) (by first | assumption | omega)) (by omega)) (fun w21 hH22 => ?_)
              refine ops_y hH22 rfl rfl (yv_not rfl) ?_
              refine ops_nil (thn_n ?_)
              by_cases hc23 : ∀ x ∈ (nth RR (k : Int)), 0 ≤ x ∧ x ≤ 1099511627776
              · skip
                refine cond_f rfl (not_decide_n hc23) ?_
                refine skip (blk_n (thn_n (region ?_)))
                refine ops_y hH22 rfl rfl (yv_add rfl rfl (by omega)) ?_
                refine ops_y hH22 rfl rfl (yv_move rfl) (ops_nil ?_)
                refine lp_n (k + 1) (Sub.cons rfl (Sub.cons rfl (Sub.cons rfl (Sub.cons rfl (Sub.cons rfl (Sub.nil _)))))) ?_ ?_
                · exact ⟨hH22, by omega, fun i hi => by rcases Nat.lt_or_ge i k with h | h; exact hall2 i h; rw [show i = k by omega]; assumption⟩
                · first | (dsimp only; omega) | (show _ < _; omega)
              · skip
                have hnz : ¬ Q.Sized l RR := fun h => (show ¬ ∀ x ∈ nth RR (k : Int), 0 ≤ x ∧ x ≤ 1099511627776 by assumption) (h k (by omega))
                refine cond_t rfl (not_decide_t hc23) ?_
                refine seq (region (ops_y hH22 rfl rfl (yv_assign rfl) (ops_y hH22 rfl rfl (yv_assign rfl) (ops_nil (thn_n (ret (blk_r (thn_r (lp_r ?_)))))))))
                refine blk_r (thn_r ?_)
                have hH24 := (hH22.sub (List.Sublist.cons _ (List.Sublist.cons _ (List.Sublist.refl _))))
                refine fin hH24 (fun w' hf => (res2 rfl (show RV _ _ _ (.tmp 4) _ from rfl) (show RV _ _ _ (.tmp 5) _ from rfl))) (fun w' hf => ?_)
                first | exact tup2 (Q.cb1 hcn) | exact tup2 (Q.cb2 hc0 hns) | exact tup2 (Q.cb3 hc0 hS hnz) | exact tup2 (Q.cb4 hc0 hS hZ hnh) | exact tup2 (Q.cb5 hc0 hS hZ hHeld)
            · skip
              refine cond_f rfl (decide_eq_false hc20) ?_
              refine exit (thn_x (lp_x (blk_here (thn_n (seq ?_)))))
              have hZ : Q.Sized l RR := fun i hi => hall2 i (by omega)
              refine region ?_
              refine ops_y hH19 rfl rfl (yv_func rfl rfl) ?_
              refine ops_y hH19 rfl rfl (yv_assign rfl) (ops_nil (thn_n (seq (seq (region (ops_y hH19 rfl rfl (yv_move rfl) ?_))))))
              refine ops_y hH19 rfl rfl (yv_nilck rfl) ?_
              refine ops_y hH19 rfl rfl (yv_field T.f87_1 rfl) ?_
              refine ops_y hH19 rfl rfl (yv_load T.one85 rfl (fun _ hw => bx_cell ((show RowAt 87 rbR v mbR esR clockR _ from hw.get (n := 0) rfl).1) rfl)) ?_
              refine op_range T.m85.und rfl rfl hH19 (show RowAt 87 rbR v mbR esR clockR _ from hH19.get (n := 0) rfl).2 (fun r25 w26 hH27 => ?_)
              refine ops_nil (thn_n (block ?_))
              refine loop (S := Array Nat) (fun seen => [(6, (.pointer (some ⟨rbR, 0, none⟩))), (12, (.func (.func 77) #[] #[(.pointer (some ⟨b1, 0, none⟩))])), (60, (.pointer (some ⟨r25, 0, none⟩)))]) (fun seen w1 => Heap [raw r25 (.mapIter (some mbR) clockR seen clockR), ⟨lo8, hi9, RowAt 87 rbR v mbR esR clockR⟩, bx b1 45 [u], base w] w1 ∧ Q.Ups l RR esR seen) (fun seen => unseen esR seen) (#[]) (Sub.cons rfl (Sub.cons rfl (Sub.cons rfl (Sub.nil _)))) ?_ ?_
              · exact ⟨hH27, Q.Ups.start⟩
              · rintro seen w28 ⟨hH29, hU⟩
                show Holds _ _ _ _ _ [(6, (.pointer (some ⟨rbR, 0, none⟩))), (12, (.func (.func 77) #[] #[(.pointer (some ⟨b1, 0, none⟩))])), (60, (.pointer (some ⟨r25, 0, none⟩)))] _ _
                refine seq (region ?_)
                refine op_next rfl rfl hH29 (show RowAt 87 rbR v mbR esR clockR _ from hH29.get (n := 1) rfl).2 (k := 0) rfl hentsR.born (fun hall30 w34 hH35 => ?_) (fun e31 he32 hns33 w34 hH35 => ?_)
                · skip
                  have hHeld := hU.done hentsR hfullR hall30
                  refine ops_y hH35 rfl rfl (yv_extract rfl rfl) (ops_nil (thn_n (seq ?_)))
                  refine cond_f rfl rfl ?_
                  refine exit (thn_x (lp_x (blk_here (thn_n (seq ?_)))))
                  have hSl := hS.1
                  refine region (ops_y hH35 rfl rfl (yv_move rfl) (ops_y hH35 rfl rfl (yv_move rfl) ?_))
                  refine ops_y hH35 rfl rfl (yv_nilck rfl) ?_
                  refine ops_y hH35 rfl rfl (yv_field T.f87_0 rfl) ?_
                  refine ops_y hH35 rfl rfl (yv_loadA (cs := [v]) T.agg84 rfl rfl (fun _ hw => bx_cells ((show RowAt 87 rbR v mbR esR clockR _ from hw.get (n := 1) rfl).1) (k := 0) rfl)) ?_
                  refine op_fnV rfl rfl rfl hH35 (c66 (h0.now hH35 (n := 3) rfl)) (fun w36 hH37 => ?_)
                  refine op_fnV rfl rfl rfl hH37 (c77u (a := 0) (b := (l.length : Int)) (ha.now hH37 (n := 3) rfl) (Heap.bxw hH37 (n := 2) rfl) (by omega) (by omega) (by omega) (fun hab => hS.at (by omega) (by omega) hab)) (fun w38 hH39 => ?_)
                  refine ops_y hH39 rfl rfl (yv_assign rfl) (ops_y hH39 rfl rfl (yv_assign rfl) (ops_nil (thn_n (ret ?_))))
                  have hH40 := (hH39.sub (List.Sublist.cons _ (List.Sublist.cons _ (List.Sublist.cons _ (List.Sublist.refl _)))))
                  refine fin hH40 (fun w' hf => (res2 rfl (show RV _ _ _ (.tmp 4) _ from rfl) (show RV _ _ _ (.tmp 5) _ from rfl))) (fun w' hf => ?_)
                  first | exact tup2 (Q.cb1 hcn) | exact tup2 (Q.cb2 hc0 hns) | exact tup2 (Q.cb3 hc0 hS hnz) | exact tup2 (Q.cb4 hc0 hS hZ hnh) | exact tup2 (Q.cb5 hc0 hS hZ hHeld)
                · skip
                  obtain ⟨ai, ak, hkey, ⟨xv, hval⟩, hak1, hak2⟩ := Q.Full.entry hentsR hfullR he32
                  have hns := hns33
                  have hen := he32
                  refine ops_y hH35 rfl rfl (yv_extract rfl rfl) (ops_nil (thn_n (seq ?_)))
                  refine cond_t rfl rfl ?_
                  refine skip (thn_n (block (seq (region ?_))))
                  refine ops_y hH35 rfl rfl (yv_entryK hkey hval rfl he32 hentsR.bornNd (fun _ hw => (show RowAt 87 rbR v mbR esR clockR _ from hw.get (n := 1) rfl).2) (fun _ hw => Heap.raww hw (n := 0) rfl)) ?_
                  refine ops_y hH35 rfl rfl (yv_extract rfl rfl) ?_
                  refine op_alloc (z := (.agg #[(.int .i64 0), (.int .i64 0)])) (us := [(.int .i64 0), (.int .i64 0)]) (fun _ => by kernel_rfl) rfl rfl hH35 (fun b41 w42 hH43 => ?_)
                  refine op_store (n := 0) (j := 0) (us := [(.int .i64 (ai : Int)), (.int .i64 (ak : Int))]) rfl rfl hH43 rfl T.sz81 rfl rfl rfl (by rfl) (fun w44 hH45 => ?_)
                  refine ops_nil (thn_n (seq (region ?_)))
                  refine ops_y hH45 rfl rfl (yv_field T.f81_0 rfl) ?_
                  refine ops_y hH45 rfl rfl (yv_load T.one3 rfl (fun _ hw => Heap.cellw hw (n := 0) rfl rfl)) ?_
                  refine ops_y hH45 rfl rfl (yv_assign rfl) (ops_nil (thn_n (block ?_)))
                  refine loop (S := Nat) (fun j => [(14, (.int .i64 ((ai + j : Nat) : Int))), (6, (.pointer (some ⟨rbR, 0, none⟩))), (12, (.func (.func 77) #[] #[(.pointer (some ⟨b1, 0, none⟩))])), (13, (.pointer (some ⟨b41, 0, none⟩))), (60, (.pointer (some ⟨r25, 0, none⟩)))]) (fun j w1 => Heap [bx b41 81 [(.int .i64 (ai : Int)), (.int .i64 (ak : Int))], raw r25 (.mapIter (some mbR) clockR (seen.push e31.born) clockR), ⟨lo8, hi9, RowAt 87 rbR v mbR esR clockR⟩, bx b1 45 [u], base w] w1 ∧ j ≤ ak - ai ∧ ∀ r : Nat, r < ai + j → ai ≤ r → Q.btw RR ai ak ≤ (Q.P l ak - Q.P l ai) + Q.btw RR ai r + Q.btw RR (r + 1) ak) (fun j => ak - ai - j) (0) (Sub.cons (congrArg (fun z : Int => some (Value.int .i64 z)) (by omega)) (Sub.cons rfl (Sub.cons rfl (Sub.cons rfl (Sub.cons rfl (Sub.nil _)))))) ?_ ?_
                  · exact ⟨hH45, by omega, fun r h1 h2 => by omega⟩
                  · rintro j w46 ⟨hH47, hj, hkr⟩
                    show Holds _ _ _ _ _ [(14, (.int .i64 ((ai + j : Nat) : Int))), (6, (.pointer (some ⟨rbR, 0, none⟩))), (12, (.func (.func 77) #[] #[(.pointer (some ⟨b1, 0, none⟩))])), (13, (.pointer (some ⟨b41, 0, none⟩))), (60, (.pointer (some ⟨r25, 0, none⟩)))] _ _
                    refine seq (seq (region (ops_y hH47 rfl rfl (yv_move rfl) ?_)))
                    refine ops_y hH47 rfl rfl (yv_field T.f81_1 rfl) ?_
                    refine ops_y hH47 rfl rfl (yv_load T.one3 rfl (fun _ hw => Heap.cellw hw (n := 0) rfl rfl)) ?_
                    refine ops_y hH47 rfl rfl (yv_lss rfl rfl) ?_
                    refine ops_nil (thn_n ?_)
                    by_cases hc48 : ((ai + j : Nat) : Int) < (ak : Int)
                    · skip
                      refine cond_t rfl (decide_eq_true hc48) ?_
                      refine skip (thn_n (seq (block (seq ?_))))
                      have hpb := Q.P_bd hw (i := ai) (ak - ai) (by omega)
                      rw [show ai + (ak - ai) = ak by omega] at hpb
                      have hb1 := hZ.bd hS (a := ai) (b := ai + j) (by omega)
                      have hb2 : 0 ≤ Q.btw RR (((ai + j : Nat) : Int) + 1) (ak : Int) ∧ Q.btw RR (((ai + j : Nat) : Int) + 1) (ak : Int) ≤ 1099511627776 := hZ.bd hS (a := ai + j + 1) (b := ak) (by omega)
                      refine region_draw (fun w' => Heap [bx b41 81 [(.int .i64 (ai : Int)), (.int .i64 (ak : Int))], raw r25 (.mapIter (some mbR) clockR (seen.push e31.born) clockR), ⟨lo8, hi9, RowAt 87 rbR v mbR esR clockR⟩, bx b1 45 [u], base w] w') T.mixed (fun w49 hr50 => ?_)
                      have hH51 := hH47.redrawn hr50
                      refine any_takes [0, 1, 3, 4, 5, 6, 7, 9, 10, 11, 12, 13, 16, 17, 18, 19, 20, 21] (by kernel_rfl) hH51 _ _ _ (by kernel_rfl) ?_
                      refine qs_y rfl rfl (yv_move rfl) ?_
                      refine qs_y rfl rfl (yv_loadA (cs := [(.int .i64 (ai : Int)), (.int .i64 (ak : Int))]) T.agg81 rfl rfl (fun _ hw => Heap.cellsw hw (n := 0) rfl (k := 0) rfl)) ?_
                      refine qs_y rfl rfl (yv_move rfl) ?_
                      refine qs_y rfl rfl (yv_nilck rfl) ?_
                      refine qs_y rfl rfl (yv_field T.f87_0 rfl) ?_
                      refine qs_y rfl rfl (yv_loadA (cs := [v]) T.agg84 rfl rfl (fun _ hw => bx_cells ((show RowAt 87 rbR v mbR esR clockR _ from hw.get (n := 2) rfl).1) (k := 0) rfl)) ?_
                      refine qs_y rfl rfl (yv_loadA (cs := [(.int .i64 (ai : Int)), (.int .i64 (ak : Int))]) T.agg81 rfl rfl (fun _ hw => Heap.cellsw hw (n := 0) rfl (k := 0) rfl)) ?_
                      refine qs_y rfl rfl (yv_move rfl) ?_
                      refine qs_y rfl rfl (yv_field T.f81_0 rfl) ?_
                      refine qs_y rfl rfl (yv_load T.one3 rfl (fun _ hw => Heap.cellw hw (n := 0) rfl rfl)) ?_
                      refine qs_y rfl rfl (yv_move rfl) ?_
                      refine qs_y rfl rfl (yv_build (v := (.agg #[(.int .i64 (ai : Int)), (.int .i64 ((ai + j : Nat) : Int))])) (us := [(0, (.int .i64 (ai : Int))), (1, (.int .i64 ((ai + j : Nat) : Int)))]) (fun a ha => by simp [ha.ev (show ev _ (.tmp 84) = some _ from rfl), ha.ev (show ev _ (.tmp 85) = some _ from rfl)]) (fun w => by kernel_rfl)) ?_
                      refine qs_y rfl rfl (yv_move rfl) (qs_y rfl rfl (yv_move rfl) ?_)
                      refine qs_y rfl rfl (yv_add rfl rfl (by omega)) ?_
                      refine qs_y rfl rfl (yv_field T.f81_1 rfl) ?_
                      refine qs_y rfl rfl (yv_load T.one3 rfl (fun _ hw => Heap.cellw hw (n := 0) rfl rfl)) ?_
                      refine qs_y rfl rfl (yv_build (v := (.agg #[(.int .i64 (((ai + j : Nat) : Int) + 1)), (.int .i64 (ak : Int))])) (us := [(0, (.int .i64 (((ai + j : Nat) : Int) + 1))), (1, (.int .i64 (ak : Int)))]) (fun a ha => by simp [ha.ev (show ev _ (.tmp 91) = some _ from rfl), ha.ev (show ev _ (.tmp 93) = some _ from rfl)]) (fun w => by kernel_rfl)) ?_
                      refine qs_nil ?_
                      refine any_all [2] (by kernel_rfl) rfl ?_
                      refine ⟨⟨_, rfl, ?_⟩, trivial⟩
                      · skip
                        refine op_fnV rfl rfl rfl hH51 (c77u (a := (ai : Int)) (b := (ak : Int)) (ha.now hH51 (n := 4) rfl) (Heap.bxw hH51 (n := 3) rfl) (by omega) (by omega) (by omega) (fun hab => hS.at (by omega) (by omega) hab)) (fun w52 hH53 => ?_)
                        refine ops_nil ?_
                        refine ⟨hH53, ?_⟩
                        refine any_all [8] (by kernel_rfl) rfl ?_
                        refine ⟨⟨_, rfl, ?_⟩, trivial⟩
                        · skip
                          refine op_fnV rfl rfl rfl hH53 (c78 (i := ai) (k := ak) (h0.now hH53 (n := 4) rfl) hw (by omega) (by omega) (by omega)) (fun w54 hH55 => ?_)
                          refine ops_nil ?_
                          refine ⟨hH55, ?_⟩
                          refine any_all [14] (by kernel_rfl) rfl ?_
                          refine ⟨⟨_, rfl, ?_⟩, trivial⟩
                          · skip
                            refine op_fnV rfl rfl rfl hH55 (c77u (a := (ai : Int)) (b := ((ai + j : Nat) : Int)) (ha.now hH55 (n := 4) rfl) (Heap.bxw hH55 (n := 3) rfl) (by omega) (by omega) (by omega) (fun hab => hS.at (by omega) (by omega) hab)) (fun w56 hH57 => ?_)
                            refine ops_nil ?_
                            refine ⟨hH57, ?_⟩
                            refine any_takes [15] (by kernel_rfl) hH57 _ _ _ (by kernel_rfl) ?_
                            refine qs_y rfl rfl (yv_add rfl rfl (by omega)) ?_
                            refine qs_nil ?_
                            refine any_all [22] (by kernel_rfl) rfl ?_
                            refine ⟨⟨_, rfl, ?_⟩, trivial⟩
                            · skip
                              refine op_fnV rfl rfl rfl hH57 (c77u (a := ((ai + j : Nat) : Int) + 1) (b := (ak : Int)) (ha.now hH57 (n := 4) rfl) (Heap.bxw hH57 (n := 3) rfl) (by omega) (by omega) (by omega) (fun hab => hS.at (by omega) (by omega) hab)) (fun w58 hH59 => ?_)
                              refine ops_nil ?_
                              refine ⟨hH59, ?_⟩
                              refine any_takes [23, 24] (by kernel_rfl) hH59 _ _ _ (by kernel_rfl) ?_
                              refine qs_y rfl rfl (yv_add rfl rfl (by omega)) ?_
                              refine qs_y rfl rfl (yv_gtr rfl rfl) ?_
                              refine qs_nil ?_
                              refine any_done (by kernel_rfl) ?_
                              refine thn_n ?_
                              by_cases hc60 : (((Q.P l ak - Q.P l ai) + (Q.btw RR (ai : Int) ((ai + j : Nat) : Int))) + (Q.btw RR (((ai + j : Nat) : Int) + 1) (ak : Int))) < (Q.btw RR (ai : Int) (ak : Int))
                              · skip
                                have hnh : ¬ Q.Held l RR := fun h => by have := h ak (by omega) ai (by omega) (ai + j) (by omega) (by omega); omega
                                refine cond_t rfl (decide_eq_true hc60) ?_
                                refine seq (region (ops_y hH59 rfl rfl (yv_assign rfl) (ops_y hH59 rfl rfl (yv_assign rfl) (ops_nil (thn_n (ret (blk_r (thn_r (lp_r ?_)))))))))
                                refine blk_r (blk_r (lp_r (blk_r (thn_r ?_))))
                                have hH61 := (hH59.sub (List.Sublist.cons _ (List.Sublist.cons _ (List.Sublist.cons _ (List.Sublist.cons _ (List.Sublist.refl _))))))
                                refine fin hH61 (fun w' hf => (res2 rfl (show RV _ _ _ (.tmp 4) _ from rfl) (show RV _ _ _ (.tmp 5) _ from rfl))) (fun w' hf => ?_)
                                first | exact tup2 (Q.cb1 hcn) | exact tup2 (Q.cb2 hc0 hns) | exact tup2 (Q.cb3 hc0 hS hnz) | exact tup2 (Q.cb4 hc0 hS hZ hnh) | exact tup2 (Q.cb5 hc0 hS hZ hHeld)
                              · skip
                                refine cond_f rfl (decide_eq_false hc60) ?_
                                refine skip (blk_n (thn_n (region (ops_y hH59 rfl rfl (yv_move rfl) ?_))))
                                refine ops_y hH59 rfl rfl (yv_add rfl rfl (by omega)) ?_
                                refine ops_y hH59 rfl rfl (yv_assign rfl) (ops_nil ?_)
                                refine lp_n (j + 1) (Sub.cons (congrArg (fun z : Int => some (Value.int .i64 z)) (by omega)) (Sub.cons rfl (Sub.cons rfl (Sub.cons rfl (Sub.cons rfl (Sub.nil _)))))) ?_ ?_
                                · exact ⟨hH59, by omega, fun r h1 h2 => by rcases Nat.lt_or_ge r (ai + j) with h | h; exact hkr r h h2; rw [show r = ai + j by omega]; omega⟩
                                · first | (dsimp only; omega) | (show _ < _; omega)
                    · skip
                      refine cond_f rfl (decide_eq_false hc48) ?_
                      refine exit (thn_x (lp_x (blk_here (blk_n ?_))))
                      have hH62 := (hH47.sub (List.Sublist.cons _ (List.Sublist.refl _)))
                      refine lp_n (seen.push e31.born) (Sub.cons rfl (Sub.cons rfl (Sub.cons rfl (Sub.nil _)))) ?_ ?_
                      · exact ⟨hH62, hU.next hentsR hen hkey (fun r h1 h2 => hkr r (by omega) h2)⟩
                      · show _ < _; exact unseen_lt hen hns
    · skip
      have hns : ¬ Q.Shaped l RR := fun h => by have := h.1; omega
      refine cond_t rfl (not_decide_t hc12) ?_
      refine seq (region (ops_y hH11 rfl rfl (yv_assign rfl) (ops_y hH11 rfl rfl (yv_assign rfl) (ops_nil (thn_n (ret (blk_r (thn_r ?_))))))))
      have hH63 := (hH11.sub (List.Sublist.cons _ (List.Sublist.cons _ (List.Sublist.refl _))))
      refine fin hH63 (fun w' hf => (res2 rfl (show RV _ _ _ (.tmp 4) _ from rfl) (show RV _ _ _ (.tmp 5) _ from rfl))) (fun w' hf => ?_)
      first | exact tup2 (Q.cb1 hcn) | exact tup2 (Q.cb2 hc0 hns) | exact tup2 (Q.cb3 hc0 hS hnz) | exact tup2 (Q.cb4 hc0 hS hZ hnh) | exact tup2 (Q.cb5 hc0 hS hZ hHeld)
  · skip
    have hcn : ¬ Q.ckW l = 0 := ‹_›
    refine region (ops_y hH3 rfl rfl (yv_move rfl) ?_)
    refine op_fnV rfl rfl rfl hH3 (c64b (h0.now hH3 (n := 1) rfl) (by omega) hcn) (fun w64 hH65 => ?_)
    refine ops_y hH65 rfl rfl (yv_move rfl) (ops_y hH65 rfl rfl (yv_extract rfl rfl) (ops_y hH65 rfl rfl (yv_extract rfl rfl) (ops_y hH65 rfl rfl (yv_assign rfl) (ops_y hH65 rfl rfl (yv_assign rfl) (ops_nil (thn_n (seq (block (seq ?_)))))))))
    refine region (ops_y hH65 rfl rfl (yv_move rfl) ?_)
    refine ops_y hH65 rfl rfl (yv_neq rfl rfl) ?_
    refine ops_y hH65 rfl rfl (yv_assign rfl) (ops_nil (thn_n ?_))
    have hc66 : ¬ ((Q.ckW l) = 0) := hcn
    refine cond_t rfl (not_decide_t hc66) ?_
    refine seq (region (ops_y hH65 rfl rfl (yv_move rfl) (ops_y hH65 rfl rfl (yv_assign rfl) (ops_y hH65 rfl rfl (yv_assign rfl) (ops_nil (thn_n (ret (blk_r (thn_r ?_)))))))))
    have hH67 := (hH65.sub (List.Sublist.cons _ (List.Sublist.refl _)))
    refine fin hH67 (fun w' hf => (res2 rfl (show RV _ _ _ (.tmp 4) _ from rfl) (show RV _ _ _ (.tmp 5) _ from rfl))) (fun w' hf => ?_)
    first | exact tup2 (Q.cb1 hcn) | exact tup2 (Q.cb2 hc0 hns) | exact tup2 (Q.cb3 hc0 hS hnz) | exact tup2 (Q.cb4 hc0 hS hZ hnh) | exact tup2 (Q.cb5 hc0 hS hZ hHeld)

theorem c45u {v u : Value} {l : List Int} {VV : List SV} {RR : List (List Int)} {w : World} (h0 : Rd encI 1 v l w) (ha : RowsU u VV RR w) (hn : l.length ≤ 1000000) (hn2 : RR.length ≤ 1000000) (he1 : ∀ i : Nat, i < RR.length → (nth RR (i : Int)).length ≤ 1000000)  :
    Fn Try.prog 45 [v, u].toArray w (fun u _ => u = .tuple #[.int .i64 (Q.ckB l RR).1, .int .i64 (Q.ckB l RR).2]) := by
  refine fn_of' (args := [v, u]) Try.func45 rfl (ent Try.func45 (by kernel_rfl) rfl) rfl rfl (fun hH => ?_)
  have hl1 := ha.2.1
  refine seq (region (ops_y hH rfl rfl (yv_assign rfl) (ops_y hH rfl rfl (yv_assign rfl) (ops_nil (thn_n (seq (seq ?_)))))))
  by_cases hc1 : Q.ckW l = 0
  · skip
    have hc0 : Q.ckW l = 0 := ‹_›
    obtain ⟨hl12, hw⟩ := Q.ckW_w hc0
    refine region (ops_y hH rfl rfl (yv_move rfl) ?_)
    refine op_fnV rfl rfl rfl hH (c32 (h0.now hH (n := 0) rfl) (by omega)) (fun w2 hH3 => ?_)
    refine ops_y hH3 rfl rfl (yv_neq rfl rfl) ?_
    refine ops_nil (thn_n ?_)
    have hc4 : ¬ (¬ ((Q.ckW l) = 0)) := fun h => h hc0
    refine cond_f rfl (not_decide_f hc4) ?_
    refine skip (thn_n (seq (region (ops_y hH3 rfl rfl (yv_move rfl) ?_))))
    refine ops_y hH3 rfl rfl (yv_len T.sl30 rfl (h0.now hH3 (n := 0) rfl).is) ?_
    refine ops_y hH3 rfl rfl (yv_assign rfl) (ops_nil (thn_n (seq (seq (region (ops_y hH3 rfl rfl (yv_move rfl) ?_))))))
    refine ops_y hH3 rfl rfl (yv_len T.sl45 rfl ((ha.now hH3 (n := 0) rfl).1).is) ?_
    refine ops_y hH3 rfl rfl (yv_move rfl) ?_
    refine ops_y hH3 rfl rfl (yv_neq rfl rfl) ?_
    refine ops_nil (thn_n ?_)
    by_cases hc5 : (VV.length : Int) = (l.length : Int)
    · skip
      refine cond_f rfl (not_decide_n hc5) ?_
      refine skip (thn_n (seq (seq (region (ops_y hH3 rfl rfl (yv_assign rfl) (ops_nil (thn_n (block ?_))))))))
      refine loop (S := Nat) (fun k => [(7, (.int .i64 (k : Int))), (0, v), (1, u), (6, (.int .i64 (l.length : Int)))]) (fun k w1 => Heap [base w] w1 ∧ k ≤ l.length ∧ ∀ i : Nat, i < k → (nth RR (i : Int)).length = l.length - i) (fun k => l.length - k) (0) (Sub.cons rfl (Sub.cons rfl (Sub.cons rfl (Sub.cons rfl (Sub.nil _))))) ?_ ?_
      · exact ⟨hH3, by omega, fun i hi => absurd hi (Nat.not_lt_zero _)⟩
      · rintro k w6 ⟨hH7, hk, hall⟩
        show Holds _ _ _ _ _ [(7, (.int .i64 (k : Int))), (0, v), (1, u), (6, (.int .i64 (l.length : Int)))] _ _
        refine seq (seq (region (ops_y hH7 rfl rfl (yv_move rfl) (ops_y hH7 rfl rfl (yv_move rfl) ?_))))
        refine ops_y hH7 rfl rfl (yv_lss rfl rfl) ?_
        refine ops_nil (thn_n ?_)
        by_cases hc8 : (k : Int) < (l.length : Int)
        · skip
          refine cond_t rfl (decide_eq_true hc8) ?_
          refine skip (thn_n (seq (block (seq ?_))))
          have hek := he1 k (by omega)
          refine region (ops_y hH7 rfl rfl (yv_move rfl) (ops_y hH7 rfl rfl (yv_move rfl) ?_))
          refine ops_y hH7 rfl rfl (yv_index T.sl45 rfl rfl ((ha.now hH7 (n := 0) rfl).1).is (by omega)) ?_
          refine ops_y hH7 rfl rfl (yv_load T.one30 rfl (fun _ hw => Rd.at ((ha.now hw (n := 0) rfl).1) (i := (k : Int)) (by omega) (j := 0) rfl)) ?_
          refine ops_y hH7 rfl rfl (yv_lenW T.sl30 rfl (RowsU.len (ha.now hH7 (n := 0) rfl) (by omega) (by omega))) ?_
          refine ops_y hH7 rfl rfl (yv_move rfl) (ops_y hH7 rfl rfl (yv_move rfl) ?_)
          refine ops_y hH7 rfl rfl (yv_sub rfl rfl (by omega)) ?_
          refine ops_y hH7 rfl rfl (yv_neq rfl rfl) ?_
          refine ops_nil (thn_n ?_)
          by_cases hc9 : ((nth RR (k : Int)).length : Int) = ((l.length : Int) - (k : Int))
          · skip
            refine cond_f rfl (not_decide_n hc9) ?_
            refine skip (blk_n (thn_n (region (ops_y hH7 rfl rfl (yv_move rfl) ?_))))
            refine ops_y hH7 rfl rfl (yv_add rfl rfl (by omega)) ?_
            refine ops_y hH7 rfl rfl (yv_assign rfl) (ops_nil ?_)
            refine lp_n (k + 1) (Sub.cons rfl (Sub.cons rfl (Sub.cons rfl (Sub.cons rfl (Sub.nil _))))) ?_ ?_
            · exact ⟨hH7, by omega, fun i hi => by rcases Nat.lt_or_ge i k with h | h; exact hall i h; rw [show i = k by omega]; omega⟩
            · first | (dsimp only; omega) | (show _ < _; omega)
          · skip
            have hns : ¬ Q.Shaped l RR := fun h => by have := h.2 k (by omega); omega
            refine cond_t rfl (not_decide_t hc9) ?_
            refine seq (region (ops_y hH7 rfl rfl (yv_assign rfl) (ops_y hH7 rfl rfl (yv_assign rfl) (ops_nil (thn_n (ret (blk_r (thn_r (lp_r ?_)))))))))
            refine blk_r (thn_r ?_)
            refine fin hH7 (fun w' hf => (res2 rfl (show RV _ _ _ (.tmp 4) _ from rfl) (show RV _ _ _ (.tmp 5) _ from rfl))) (fun w' hf => ?_)
            first | exact tup2 (Q.cb1 hcn) | exact tup2 (Q.cb2 hc0 hns) | exact tup2 (Q.cb3 hc0 hS hnz) | exact tup2 (Q.cb4 hc0 hS hZ hnh) | exact tup2 (Q.cb5 hc0 hS hZ hHeld)
        · skip
          refine cond_f rfl (decide_eq_false hc8) ?_
          refine exit (thn_x (lp_x (blk_here (thn_n (seq (seq ?_))))))
          have hS : Q.Shaped l RR := ⟨by omega, fun i hi => hall i (by omega)⟩
          refine region (ops_y hH7 rfl rfl (yv_assign rfl) (ops_nil (thn_n (block ?_))))
          refine loop (S := Nat) (fun k => [(8, (.int .i64 (k : Int))), (0, v), (1, u), (6, (.int .i64 (l.length : Int)))]) (fun k w1 => Heap [base w] w1 ∧ k ≤ l.length ∧ ∀ i : Nat, i < k → ∀ x ∈ nth RR (i : Int), 0 ≤ x ∧ x ≤ 1099511627776) (fun k => l.length - k) (0) (Sub.cons rfl (Sub.cons rfl (Sub.cons rfl (Sub.cons rfl (Sub.nil _))))) ?_ ?_
          · exact ⟨hH7, by omega, fun i hi => absurd hi (Nat.not_lt_zero _)⟩
          · rintro k w10 ⟨hH11, hk, hall2⟩
            show Holds _ _ _ _ _ [(8, (.int .i64 (k : Int))), (0, v), (1, u), (6, (.int .i64 (l.length : Int)))] _ _
            refine seq (seq (region (ops_y hH11 rfl rfl (yv_move rfl) (ops_y hH11 rfl rfl (yv_move rfl) ?_))))
            refine ops_y hH11 rfl rfl (yv_lss rfl rfl) ?_
            refine ops_nil (thn_n ?_)
            by_cases hc12 : (k : Int) < (l.length : Int)
            · skip
              refine cond_t rfl (decide_eq_true hc12) ?_
              refine skip (thn_n (seq (block (seq ?_))))
              have hshk := hS.2 k (by omega)
              have hne9 : 0 < (nth RR (k : Int)).length := by omega
              have hek := he1 k (by omega)
              refine region (ops_y hH11 rfl rfl (yv_assign rfl) (ops_nil (thn_n (block ?_))))
              refine loop (S := Nat) (fun j => [(9, (.int .i64 (j : Int))), (0, v), (1, u), (6, (.int .i64 (l.length : Int))), (8, (.int .i64 (k : Int)))]) (fun j w1 => Heap [base w] w1 ∧ j ≤ (nth RR (k : Int)).length ∧ ∀ i : Nat, i < j → 0 ≤ nth (nth RR (k : Int)) (i : Int) ∧ nth (nth RR (k : Int)) (i : Int) ≤ 1099511627776) (fun j => (nth RR (k : Int)).length - j) (0) (Sub.cons rfl (Sub.cons rfl (Sub.cons rfl (Sub.cons rfl (Sub.cons rfl (Sub.nil _)))))) ?_ ?_
              · exact ⟨hH11, by omega, fun i hi => absurd hi (Nat.not_lt_zero _)⟩
              · rintro j w13 ⟨hH14, hj, hz⟩
                show Holds _ _ _ _ _ [(9, (.int .i64 (j : Int))), (0, v), (1, u), (6, (.int .i64 (l.length : Int))), (8, (.int .i64 (k : Int)))] _ _
                refine seq (seq (region (ops_y hH14 rfl rfl (yv_move rfl) (ops_y hH14 rfl rfl (yv_move rfl) (ops_y hH14 rfl rfl (yv_move rfl) ?_)))))
                refine ops_y hH14 rfl rfl (yv_index T.sl45 rfl rfl ((ha.now hH14 (n := 0) rfl).1).is (by omega)) ?_
                refine ops_y hH14 rfl rfl (yv_load T.one30 rfl (fun _ hw => Rd.at ((ha.now hw (n := 0) rfl).1) (i := (k : Int)) (by omega) (j := 0) rfl)) ?_
                refine ops_y hH14 rfl rfl (yv_lenW T.sl30 rfl (RowsU.len (ha.now hH14 (n := 0) rfl) (by omega) (by omega))) ?_
                refine ops_y hH14 rfl rfl (yv_lss rfl rfl) ?_
                refine ops_nil (thn_n ?_)
                by_cases hc15 : (j : Int) < ((nth RR (k : Int)).length : Int)
                · skip
                  refine cond_t rfl (decide_eq_true hc15) ?_
                  refine skip (thn_n (seq (block (seq (region (ops_y hH14 rfl rfl (yv_move rfl) (ops_y hH14 rfl rfl (yv_move rfl) ?_)))))))
                  refine ops_y hH14 rfl rfl (yv_index T.sl45 rfl rfl ((ha.now hH14 (n := 0) rfl).1).is (by omega)) ?_
                  refine ops_y hH14 rfl rfl (yv_load T.one30 rfl (fun _ hw => Rd.at ((ha.now hw (n := 0) rfl).1) (i := (k : Int)) (by omega) (j := 0) rfl)) ?_
                  refine ops_y hH14 rfl rfl (yv_move rfl) ?_
                  refine ops_y hH14 rfl rfl (yv_index T.sl30 rfl rfl (RowsU.at (ha.now hH14 (n := 0) rfl) (by omega) (by omega) (by first | assumption | omega)).is (by omega)) ?_
                  refine ops_y hH14 rfl rfl (yv_load T.one2 rfl (fun _ hw => Rd.at (RowsU.at (ha.now hw (n := 0) rfl) (by omega) (by omega) (by first | assumption | omega)) (i := (j : Int)) (by omega) (j := 0) rfl)) ?_
                  refine ops_y hH14 rfl rfl (yv_lss rfl rfl) ?_
                  refine ops_y hH14 rfl rfl (yv_move rfl) ?_
                  by_cases hc16 : (nth (nth RR (k : Int)) (j : Int)) < 0
                  · skip
                    have hnz : ¬ Q.Sized l RR := fun h => by have h9 := h k (by omega) (nth (nth RR (k : Int)) (j : Int)) (by rw [nth_nat (l := nth RR (k : Int)) (i := j) (by omega)]; exact List.getElem_mem (by omega)); omega
                    refine guard_no rfl rfl (decide_eq_true hc16) rfl ?_
                    refine guard_no rfl rfl (decide_eq_true hc16) rfl ?_
                    refine guard_no rfl rfl (decide_eq_true hc16) rfl ?_
                    refine guard_no rfl rfl (decide_eq_true hc16) rfl ?_
                    refine guard_no rfl rfl (decide_eq_true hc16) rfl ?_
                    refine guard_no rfl rfl (decide_eq_true hc16) rfl ?_
                    refine guard_no rfl rfl (decide_eq_true hc16) rfl ?_
                    refine guard_no rfl rfl (decide_eq_true hc16) rfl ?_
                    refine ops_y hH14 rfl rfl (yv_pick_t rfl (decide_eq_true hc16) rfl) ?_
                    refine ops_nil (thn_n ?_)
                    refine cond_t rfl rfl ?_
                    refine seq (region (ops_y hH14 rfl rfl (yv_assign rfl) (ops_y hH14 rfl rfl (yv_assign rfl) (ops_nil (thn_n (ret (blk_r (thn_r (lp_r ?_)))))))))
                    refine blk_r (blk_r (thn_r (lp_r (blk_r (thn_r ?_)))))
                    refine fin hH14 (fun w' hf => (res2 rfl (show RV _ _ _ (.tmp 4) _ from rfl) (show RV _ _ _ (.tmp 5) _ from rfl))) (fun w' hf => ?_)
                    first | exact tup2 (Q.cb1 hcn) | exact tup2 (Q.cb2 hc0 hns) | exact tup2 (Q.cb3 hc0 hS hnz) | exact tup2 (Q.cb4 hc0 hS hZ hnh) | exact tup2 (Q.cb5 hc0 hS hZ hHeld)
                  · skip
                    refine guard_yes rfl rfl (decide_eq_false hc16) ?_
                    refine ops_y hH14 rfl rfl (yv_move rfl) ?_
                    refine guard_yes rfl rfl (decide_eq_false hc16) ?_
                    refine ops_y hH14 rfl rfl (yv_move rfl) ?_
                    refine guard_yes rfl rfl (decide_eq_false hc16) ?_
                    refine ops_y hH14 rfl rfl (yv_index T.sl45 rfl rfl ((ha.now hH14 (n := 0) rfl).1).is (by omega)) ?_
                    refine guard_yes rfl rfl (decide_eq_false hc16) ?_
                    refine ops_y hH14 rfl rfl (yv_load T.one30 rfl (fun _ hw => Rd.at ((ha.now hw (n := 0) rfl).1) (i := (k : Int)) (by omega) (j := 0) rfl)) ?_
                    refine guard_yes rfl rfl (decide_eq_false hc16) ?_
                    refine ops_y hH14 rfl rfl (yv_move rfl) ?_
                    refine guard_yes rfl rfl (decide_eq_false hc16) ?_
                    refine ops_y hH14 rfl rfl (yv_index T.sl30 rfl rfl (RowsU.at (ha.now hH14 (n := 0) rfl) (by omega) (by omega) (by first | assumption | omega)).is (by omega)) ?_
                    refine guard_yes rfl rfl (decide_eq_false hc16) ?_
                    refine ops_y hH14 rfl rfl (yv_load T.one2 rfl (fun _ hw => Rd.at (RowsU.at (ha.now hw (n := 0) rfl) (by omega) (by omega) (by first | assumption | omega)) (i := (j : Int)) (by omega) (j := 0) rfl)) ?_
                    refine guard_yes rfl rfl (decide_eq_false hc16) ?_
                    refine ops_y hH14 rfl rfl (yv_gtr rfl rfl) ?_
                    refine ops_y hH14 rfl rfl (yv_pick_f rfl (decide_eq_false hc16) rfl) ?_
                    refine ops_nil (thn_n ?_)
                    by_cases hc17 : 1099511627776 < (nth (nth RR (k : Int)) (j : Int))
                    · skip
                      have hnz : ¬ Q.Sized l RR := fun h => by have h9 := h k (by omega) (nth (nth RR (k : Int)) (j : Int)) (by rw [nth_nat (l := nth RR (k : Int)) (i := j) (by omega)]; exact List.getElem_mem (by omega)); omega
                      refine cond_t rfl (decide_eq_true hc17) ?_
                      refine seq (region (ops_y hH14 rfl rfl (yv_assign rfl) (ops_y hH14 rfl rfl (yv_assign rfl) (ops_nil (thn_n (ret (blk_r (thn_r (lp_r ?_)))))))))
                      refine blk_r (blk_r (thn_r (lp_r (blk_r (thn_r ?_)))))
                      refine fin hH14 (fun w' hf => (res2 rfl (show RV _ _ _ (.tmp 4) _ from rfl) (show RV _ _ _ (.tmp 5) _ from rfl))) (fun w' hf => ?_)
                      first | exact tup2 (Q.cb1 hcn) | exact tup2 (Q.cb2 hc0 hns) | exact tup2 (Q.cb3 hc0 hS hnz) | exact tup2 (Q.cb4 hc0 hS hZ hnh) | exact tup2 (Q.cb5 hc0 hS hZ hHeld)
                    · skip
                      refine cond_f rfl (decide_eq_false hc17) ?_
                      refine skip (blk_n (thn_n (region (ops_y hH14 rfl rfl (yv_move rfl) ?_))))
                      refine ops_y hH14 rfl rfl (yv_add rfl rfl (by omega)) ?_
                      refine ops_y hH14 rfl rfl (yv_assign rfl) (ops_nil ?_)
                      refine lp_n (j + 1) (Sub.cons rfl (Sub.cons rfl (Sub.cons rfl (Sub.cons rfl (Sub.cons rfl (Sub.nil _)))))) ?_ ?_
                      · exact ⟨hH14, by omega, fun i hi => by rcases Nat.lt_or_ge i j with h | h; exact hz i h; rw [show i = j by omega]; omega⟩
                      · first | (dsimp only; omega) | (show _ < _; omega)
                · skip
                  refine cond_f rfl (decide_eq_false hc15) ?_
                  refine exit (thn_x (lp_x (blk_here (blk_n (thn_n ?_)))))
                  have hzk : ∀ x ∈ nth RR (k : Int), 0 ≤ x ∧ x ≤ 1099511627776 := fun x hx => by obtain ⟨i, hi, rfl⟩ := List.getElem_of_mem hx; have := hz i (by omega); rwa [nth_nat hi] at this
                  refine region (ops_y hH14 rfl rfl (yv_move rfl) ?_)
                  refine ops_y hH14 rfl rfl (yv_add rfl rfl (by omega)) ?_
                  refine ops_y hH14 rfl rfl (yv_assign rfl) (ops_nil ?_)
                  refine lp_n (k + 1) (Sub.cons rfl (Sub.cons rfl (Sub.cons rfl (Sub.cons rfl (Sub.nil _))))) ?_ ?_
                  · exact ⟨hH14, by omega, fun i hi => by rcases Nat.lt_or_ge i k with h | h; exact hall2 i h; rw [show i = k by omega]; exact hzk⟩
                  · first | (dsimp only; omega) | (show _ < _; omega)
            · skip
              refine cond_f rfl (decide_eq_false hc12) ?_
              refine exit (thn_x (lp_x (blk_here (thn_n (seq (seq ?_))))))
              have hZ : Q.Sized l RR := fun i hi => hall2 i (by omega)
              refine region (ops_y hH11 rfl rfl (yv_assign rfl) (ops_nil (thn_n (block ?_))))
              refine loop (S := Nat) (fun f => [(10, (.int .i64 (f : Int))), (0, v), (1, u), (6, (.int .i64 (l.length : Int)))]) (fun f w1 => Heap [base w] w1 ∧ f ≤ l.length ∧ ∀ s e : Nat, s < f → e ≤ l.length → Q.Kept l RR s e) (fun f => l.length - f) (0) (Sub.cons rfl (Sub.cons rfl (Sub.cons rfl (Sub.cons rfl (Sub.nil _))))) ?_ ?_
              · exact ⟨hH11, by omega, fun s e h1 h2 => absurd h1 (Nat.not_lt_zero _)⟩
              · rintro f w18 ⟨hH19, hf, hH4⟩
                show Holds _ _ _ _ _ [(10, (.int .i64 (f : Int))), (0, v), (1, u), (6, (.int .i64 (l.length : Int)))] _ _
                refine seq (seq (region (ops_y hH19 rfl rfl (yv_move rfl) (ops_y hH19 rfl rfl (yv_move rfl) ?_))))
                refine ops_y hH19 rfl rfl (yv_lss rfl rfl) ?_
                refine ops_nil (thn_n ?_)
                by_cases hc20 : (f : Int) < (l.length : Int)
                · skip
                  refine cond_t rfl (decide_eq_true hc20) ?_
                  refine skip (thn_n (seq (block (seq (region (ops_y hH19 rfl rfl (yv_assign rfl) (ops_nil (thn_n (seq ?_)))))))))
                  refine region (ops_y hH19 rfl rfl (yv_move rfl) ?_)
                  refine ops_y hH19 rfl rfl (yv_add rfl rfl (by omega)) ?_
                  refine ops_y hH19 rfl rfl (yv_assign rfl) (ops_nil (thn_n (block ?_)))
                  refine loop (S := Nat) (fun q => [(12, (.int .i64 ((f + 1 + q : Nat) : Int))), (11, (.int .i64 (Q.P l (f + q) - Q.P l f))), (0, v), (1, u), (6, (.int .i64 (l.length : Int))), (10, (.int .i64 (f : Int)))]) (fun q w1 => Heap [base w] w1 ∧ f + q ≤ l.length ∧ ∀ e : Nat, e < f + 1 + q → Q.Kept l RR f e) (fun q => l.length - f - q) (0) (Sub.cons (congrArg (fun z : Int => some (Value.int .i64 z)) (by omega)) (Sub.cons (congrArg (fun z : Int => some (Value.int .i64 z)) (by simp)) (Sub.cons rfl (Sub.cons rfl (Sub.cons rfl (Sub.cons rfl (Sub.nil _))))))) ?_ ?_
                  · exact ⟨hH19, by omega, (fun e he r h1 h2 => by have e1 : e ≤ f := (by omega); omega)⟩
                  · rintro q w21 ⟨hH22, hq, hE⟩
                    show Holds _ _ _ _ _ [(12, (.int .i64 ((f + 1 + q : Nat) : Int))), (11, (.int .i64 (Q.P l (f + q) - Q.P l f))), (0, v), (1, u), (6, (.int .i64 (l.length : Int))), (10, (.int .i64 (f : Int)))] _ _
                    refine seq (seq (region (ops_y hH22 rfl rfl (yv_move rfl) (ops_y hH22 rfl rfl (yv_move rfl) ?_))))
                    refine ops_y hH22 rfl rfl (yv_leq rfl rfl) ?_
                    refine ops_nil (thn_n ?_)
                    by_cases hc23 : ((f + 1 + q : Nat) : Int) ≤ (l.length : Int)
                    · skip
                      refine cond_t rfl (decide_eq_true hc23) ?_
                      refine skip (thn_n (seq (block (seq ?_))))
                      have hps := Q.P_succ (w := l) (k := f + q) (by omega)
                      have hidx : nth l (((f + 1 + q : Nat) : Int) - 1) = nth l ((f + q : Nat) : Int) := by rw [show ((f + 1 + q : Nat) : Int) - 1 = ((f + q : Nat) : Int) by omega]
                      have hpb := Q.P_bd hw (i := f) q (by omega)
                      have hwa := Q.of_all hw (i := f + q) (by omega)
                      have hpe : Q.P l (f + 1 + q) = Q.P l (f + q + 1) := by rw [show f + 1 + q = f + q + 1 by omega]
                      refine region (ops_y hH22 rfl rfl (yv_move rfl) (ops_y hH22 rfl rfl (yv_move rfl) (ops_y hH22 rfl rfl (yv_move rfl) ?_)))
                      refine ops_y hH22 rfl rfl (yv_sub rfl rfl (by omega)) ?_
                      refine ops_y hH22 rfl rfl (yv_index T.sl30 rfl rfl (h0.now hH22 (n := 0) rfl).is (by omega)) ?_
                      refine ops_y hH22 rfl rfl (yv_load T.one2 rfl (fun _ hw => Rd.at (h0.now hw (n := 0) rfl) (i := ((f + 1 + q : Nat) : Int) - 1) (by omega) (j := 0) rfl)) ?_
                      refine ops_y hH22 rfl rfl (yv_add rfl rfl (by omega)) ?_
                      refine ops_y hH22 rfl rfl (yv_assign rfl) (ops_nil (thn_n (seq (region (ops_y hH22 rfl rfl (yv_move rfl) (ops_y hH22 rfl rfl (yv_assign rfl) (ops_nil (thn_n (block ?_)))))))))
                      refine loop (S := Nat) (fun j => [(13, (.int .i64 ((f + j : Nat) : Int))), (0, v), (1, u), (6, (.int .i64 (l.length : Int))), (10, (.int .i64 (f : Int))), (11, (.int .i64 ((Q.P l (f + q) - Q.P l f) + (nth l (((f + 1 + q : Nat) : Int) - 1))))), (12, (.int .i64 ((f + 1 + q : Nat) : Int)))]) (fun j w1 => Heap [base w] w1 ∧ j ≤ q + 1 ∧ ∀ r : Nat, r < f + j → f ≤ r → Q.btw RR f ((f + 1 + q : Nat) : Int) ≤ (Q.P l (f + 1 + q) - Q.P l f) + Q.btw RR f r + Q.btw RR (r + 1) ((f + 1 + q : Nat) : Int)) (fun j => q + 1 - j) (0) (Sub.cons (congrArg (fun z : Int => some (Value.int .i64 z)) (by omega)) (Sub.cons rfl (Sub.cons rfl (Sub.cons rfl (Sub.cons rfl (Sub.cons rfl (Sub.cons rfl (Sub.nil _)))))))) ?_ ?_
                      · exact ⟨hH22, by omega, fun r h1 h2 => by omega⟩
                      · rintro j w24 ⟨hH25, hj6, hkr⟩
                        show Holds _ _ _ _ _ [(13, (.int .i64 ((f + j : Nat) : Int))), (0, v), (1, u), (6, (.int .i64 (l.length : Int))), (10, (.int .i64 (f : Int))), (11, (.int .i64 ((Q.P l (f + q) - Q.P l f) + (nth l (((f + 1 + q : Nat) : Int) - 1))))), (12, (.int .i64 ((f + 1 + q : Nat) : Int)))] _ _
                        refine seq (seq (region (ops_y hH25 rfl rfl (yv_move rfl) (ops_y hH25 rfl rfl (yv_move rfl) ?_))))
                        refine ops_y hH25 rfl rfl (yv_lss rfl rfl) ?_
                        refine ops_nil (thn_n ?_)
                        by_cases hc26 : ((f + j : Nat) : Int) < ((f + 1 + q : Nat) : Int)
                        · skip
                          refine cond_t rfl (decide_eq_true hc26) ?_
                          refine skip (thn_n (seq (block (seq ?_))))
                          have hb1 := hZ.bd hS (a := f) (b := f + j) (by omega)
                          have hb2 : 0 ≤ Q.btw RR (((f + j : Nat) : Int) + 1) ((f + 1 + q : Nat) : Int) ∧ Q.btw RR (((f + j : Nat) : Int) + 1) ((f + 1 + q : Nat) : Int) ≤ 1099511627776 := hZ.bd hS (a := f + j + 1) (b := f + 1 + q) (by omega)
                          refine region (ops_y hH25 rfl rfl (yv_move rfl) (ops_y hH25 rfl rfl (yv_move rfl) (ops_y hH25 rfl rfl (yv_move rfl) ?_)))
                          refine op_fnV rfl rfl rfl hH25 (c79u (a := (f : Int)) (b := ((f + 1 + q : Nat) : Int)) (ha.now hH25 (n := 0) rfl) (by omega) (by omega) (by omega) (fun hab => hS.at (by omega) (by omega) hab)) (fun w27 hH28 => ?_)
                          refine ops_y hH28 rfl rfl (yv_move rfl) (ops_y hH28 rfl rfl (yv_move rfl) (ops_y hH28 rfl rfl (yv_move rfl) (ops_y hH28 rfl rfl (yv_move rfl) ?_)))
                          refine op_fnV rfl rfl rfl hH28 (c79u (a := (f : Int)) (b := ((f + j : Nat) : Int)) (ha.now hH28 (n := 0) rfl) (by omega) (by omega) (by omega) (fun hab => hS.at (by omega) (by omega) hab)) (fun w29 hH30 => ?_)
                          refine ops_y hH30 rfl rfl (yv_add rfl rfl (by omega)) ?_
                          refine ops_y hH30 rfl rfl (yv_move rfl) (ops_y hH30 rfl rfl (yv_move rfl) ?_)
                          refine ops_y hH30 rfl rfl (yv_add rfl rfl (by omega)) ?_
                          refine ops_y hH30 rfl rfl (yv_move rfl) ?_
                          refine op_fnV rfl rfl rfl hH30 (c79u (a := ((f + j : Nat) : Int) + 1) (b := ((f + 1 + q : Nat) : Int)) (ha.now hH30 (n := 0) rfl) (by omega) (by omega) (by omega) (fun hab => hS.at (by omega) (by omega) hab)) (fun w31 hH32 => ?_)
                          refine ops_y hH32 rfl rfl (yv_add rfl rfl (by omega)) ?_
                          refine ops_y hH32 rfl rfl (yv_gtr rfl rfl) ?_
                          refine ops_nil (thn_n ?_)
                          by_cases hc33 : ((((Q.P l (f + q) - Q.P l f) + (nth l (((f + 1 + q : Nat) : Int) - 1))) + (Q.btw RR (f : Int) ((f + j : Nat) : Int))) + (Q.btw RR (((f + j : Nat) : Int) + 1) ((f + 1 + q : Nat) : Int))) < (Q.btw RR (f : Int) ((f + 1 + q : Nat) : Int))
                          · skip
                            have hnh : ¬ Q.Held l RR := fun h => by have := h (f + 1 + q) (by omega) f (by omega) (f + j) (by omega) (by omega); omega
                            refine cond_t rfl (decide_eq_true hc33) ?_
                            refine seq (region (ops_y hH32 rfl rfl (yv_assign rfl) (ops_y hH32 rfl rfl (yv_assign rfl) (ops_nil (thn_n (ret (blk_r (thn_r (lp_r ?_)))))))))
                            refine blk_r (blk_r (thn_r (lp_r (blk_r (blk_r (thn_r (lp_r (blk_r (thn_r ?_)))))))))
                            refine fin hH32 (fun w' hf => (res2 rfl (show RV _ _ _ (.tmp 4) _ from rfl) (show RV _ _ _ (.tmp 5) _ from rfl))) (fun w' hf => ?_)
                            first | exact tup2 (Q.cb1 hcn) | exact tup2 (Q.cb2 hc0 hns) | exact tup2 (Q.cb3 hc0 hS hnz) | exact tup2 (Q.cb4 hc0 hS hZ hnh) | exact tup2 (Q.cb5 hc0 hS hZ hHeld)
                          · skip
                            refine cond_f rfl (decide_eq_false hc33) ?_
                            refine skip (blk_n (thn_n (region (ops_y hH32 rfl rfl (yv_move rfl) ?_))))
                            refine ops_y hH32 rfl rfl (yv_add rfl rfl (by omega)) ?_
                            refine ops_y hH32 rfl rfl (yv_assign rfl) (ops_nil ?_)
                            refine lp_n (j + 1) (Sub.cons (congrArg (fun z : Int => some (Value.int .i64 z)) (by omega)) (Sub.cons rfl (Sub.cons rfl (Sub.cons rfl (Sub.cons rfl (Sub.cons rfl (Sub.cons rfl (Sub.nil _)))))))) ?_ ?_
                            · exact ⟨hH32, by omega, fun r h1 h2 => by rcases Nat.lt_or_ge r (f + j) with h | h; exact hkr r h h2; rw [show r = f + j by omega]; omega⟩
                            · first | (dsimp only; omega) | (show _ < _; omega)
                        · skip
                          refine cond_f rfl (decide_eq_false hc26) ?_
                          refine exit (thn_x (lp_x (blk_here (blk_n (thn_n (region (ops_y hH25 rfl rfl (yv_move rfl) ?_)))))))
                          refine ops_y hH25 rfl rfl (yv_add rfl rfl (by omega)) ?_
                          refine ops_y hH25 rfl rfl (yv_assign rfl) (ops_nil ?_)
                          refine lp_n (q + 1) (Sub.cons (congrArg (fun z : Int => some (Value.int .i64 z)) (by omega)) (Sub.cons (congrArg (fun z : Int => some (Value.int .i64 z)) (by rw [show f + (q + 1) = f + q + 1 by omega]; omega)) (Sub.cons rfl (Sub.cons rfl (Sub.cons rfl (Sub.cons rfl (Sub.nil _))))))) ?_ ?_
                          · exact ⟨hH25, by omega, fun e he => by rcases Nat.lt_or_ge e (f + 1 + q) with h | h; exact hE e h; rw [show e = f + 1 + q by omega]; exact (fun r h1 h2 => hkr r (by omega) h2)⟩
                          · first | (dsimp only; omega) | (show _ < _; omega)
                    · skip
                      refine cond_f rfl (decide_eq_false hc23) ?_
                      refine exit (thn_x (lp_x (blk_here (blk_n (thn_n (region (ops_y hH22 rfl rfl (yv_move rfl) ?_)))))))
                      refine ops_y hH22 rfl rfl (yv_add rfl rfl (by omega)) ?_
                      refine ops_y hH22 rfl rfl (yv_assign rfl) (ops_nil ?_)
                      refine lp_n (f + 1) (Sub.cons rfl (Sub.cons rfl (Sub.cons rfl (Sub.cons rfl (Sub.nil _))))) ?_ ?_
                      · exact ⟨hH22, by omega, fun s e h1 h2 => by rcases Nat.lt_or_ge s f with h | h; exact hH4 s e h h2; rw [show s = f by omega]; exact hE e (by omega)⟩
                      · first | (dsimp only; omega) | (show _ < _; omega)
                · skip
                  refine cond_f rfl (decide_eq_false hc20) ?_
                  refine exit (thn_x (lp_x (blk_here (thn_n (seq ?_)))))
                  have hHeld : Q.Held l RR := fun e he s hs r hr hsr => hH4 s e (by omega) (by omega) r hr hsr
                  refine region (ops_y hH19 rfl rfl (yv_move rfl) (ops_y hH19 rfl rfl (yv_move rfl) ?_))
                  refine op_fnV rfl rfl rfl hH19 (c79u (a := 0) (b := (l.length : Int)) (ha.now hH19 (n := 0) rfl) (by omega) (by omega) (by omega) (fun hab => hS.at (by omega) (by omega) hab)) (fun w34 hH35 => ?_)
                  refine ops_y hH35 rfl rfl (yv_assign rfl) (ops_y hH35 rfl rfl (yv_assign rfl) (ops_nil (thn_n (ret ?_))))
                  refine fin hH35 (fun w' hf => (res2 rfl (show RV _ _ _ (.tmp 4) _ from rfl) (show RV _ _ _ (.tmp 5) _ from rfl))) (fun w' hf => ?_)
                  first | exact tup2 (Q.cb1 hcn) | exact tup2 (Q.cb2 hc0 hns) | exact tup2 (Q.cb3 hc0 hS hnz) | exact tup2 (Q.cb4 hc0 hS hZ hnh) | exact tup2 (Q.cb5 hc0 hS hZ hHeld)
    · skip
      have hns : ¬ Q.Shaped l RR := fun h => by have := h.1; omega
      refine cond_t rfl (not_decide_t hc5) ?_
      refine seq (region (ops_y hH3 rfl rfl (yv_assign rfl) (ops_y hH3 rfl rfl (yv_assign rfl) (ops_nil (thn_n (ret (thn_r ?_)))))))
      refine fin hH3 (fun w' hf => (res2 rfl (show RV _ _ _ (.tmp 4) _ from rfl) (show RV _ _ _ (.tmp 5) _ from rfl))) (fun w' hf => ?_)
      first | exact tup2 (Q.cb1 hcn) | exact tup2 (Q.cb2 hc0 hns) | exact tup2 (Q.cb3 hc0 hS hnz) | exact tup2 (Q.cb4 hc0 hS hZ hnh) | exact tup2 (Q.cb5 hc0 hS hZ hHeld)
  · skip
    have hcn : ¬ Q.ckW l = 0 := ‹_›
    refine region (ops_y hH rfl rfl (yv_move rfl) ?_)
    refine op_fnV rfl rfl rfl hH (c32 (h0.now hH (n := 0) rfl) (by omega)) (fun w36 hH37 => ?_)
    refine ops_y hH37 rfl rfl (yv_neq rfl rfl) ?_
    refine ops_nil (thn_n ?_)
    have hc38 : ¬ ((Q.ckW l) = 0) := hcn
    refine cond_t rfl (not_decide_t hc38) ?_
    refine seq (region (ops_y hH37 rfl rfl (yv_move rfl) ?_))
    refine op_fnV rfl rfl rfl hH37 (c32 (h0.now hH37 (n := 0) rfl) (by omega)) (fun w39 hH40 => ?_)
    refine ops_y hH40 rfl rfl (yv_assign rfl) (ops_y hH40 rfl rfl (yv_assign rfl) (ops_nil (thn_n (ret (thn_r ?_)))))
    refine fin hH40 (fun w' hf => (res2 rfl (show RV _ _ _ (.tmp 4) _ from rfl) (show RV _ _ _ (.tmp 5) _ from rfl))) (fun w' hf => ?_)
    first | exact tup2 (Q.cb1 hcn) | exact tup2 (Q.cb2 hc0 hns) | exact tup2 (Q.cb3 hc0 hS hnz) | exact tup2 (Q.cb4 hc0 hS hZ hnh) | exact tup2 (Q.cb5 hc0 hS hZ hHeld)

end Go.Fip
