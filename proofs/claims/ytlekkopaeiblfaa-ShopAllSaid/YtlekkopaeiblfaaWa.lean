/- Walks, by program (wip/tools). -/
import Derived.Test.YtlekkopaeiblfaaTy
import Derived.Test.YtlekkopaeiblfaaSp
set_option linter.unusedVariables false
set_option linter.unusedSimpArgs false
set_option linter.unusedSectionVars false
set_option linter.unnecessarySimpa false
namespace Go.Fip
open Go.Proofs Go.RowKit

theorem c16 {v : Value} {js : List S.Pr} {w : World} (h0 : Rd encP 2 v js w)  :
    Fn Try.prog 16 [v].toArray w (fun u _ => u = .bool (decide (12 < (js.length : Int)))) := by
  refine fn_of' (args := [v]) Try.func16 rfl (ent Try.func16 (by kernel_rfl) rfl) rfl rfl (fun hH => ?_)
  refine seq ?_
  refine region ?_
  refine ops_y hH rfl rfl (yv_assign rfl) ?_
  refine ops_nil ?_
  refine thn_n ?_
  refine seq ?_
  refine region ?_
  refine ops_y hH rfl rfl (yv_move rfl) ?_
  refine ops_y hH rfl rfl (yv_len T.sl22 rfl (h0.now hH (n := 0) rfl).is) ?_
  refine ops_y hH rfl rfl (yv_gtr rfl rfl) ?_
  refine ops_y hH rfl rfl (yv_assign rfl) ?_
  refine ops_nil ?_
  refine thn_n ?_
  refine ret ?_
  refine fin hH (fun w' hf => (res1 rfl (show RV _ _ _ (.tmp 2) _ from rfl))) (fun w' hf => ?_)
  rfl

theorem c23 {v : Value} {js : List S.Pr} {w : World} (h0 : Rd encP 2 v js w) (hn : js.length ≤ 1000000)  :
    Fn Try.prog 23 [v].toArray w (fun u _ => u = .int .i64 (S.checkJobs js)) := by
  refine fn_of' (args := [v]) Try.func23 rfl (ent Try.func23 (by kernel_rfl) rfl) rfl rfl (fun hH => ?_)
  refine seq ?_
  refine region ?_
  refine ops_y hH rfl rfl (yv_assign rfl) ?_
  refine ops_nil ?_
  refine thn_n ?_
  refine seq ?_
  refine seq ?_
  refine region ?_
  refine ops_y hH rfl rfl (yv_move rfl) ?_
  refine ops_y hH rfl rfl (yv_len T.sl22 rfl (h0.now hH (n := 0) rfl).is) ?_
  refine ops_y hH rfl rfl (yv_lss rfl rfl) ?_
  refine ops_y hH rfl rfl (yv_move rfl) ?_
  by_cases hc1 : (js.length : Int) < 1
  · skip
    refine guard_no rfl rfl (decide_eq_true hc1) rfl ?_
    refine guard_no rfl rfl (decide_eq_true hc1) rfl ?_
    refine guard_no rfl rfl (decide_eq_true hc1) rfl ?_
    refine ops_y hH rfl rfl (yv_pick_t rfl (decide_eq_true hc1) rfl) ?_
    refine ops_nil ?_
    refine thn_n ?_
    refine cond_t rfl rfl ?_
    refine seq ?_
    refine region ?_
    refine ops_y hH rfl rfl (yv_assign rfl) ?_
    refine ops_nil ?_
    refine thn_n ?_
    refine ret ?_
    refine thn_r ?_
    refine fin hH (fun w' hf => (res1 rfl (show RV _ _ _ (.tmp 2) _ from rfl))) (fun w' hf => ?_)
    first | (show _ = _; unfold S.checkJobs; rw [if_pos (by omega)]; done) | (show _ = _; unfold S.checkJobs; rw [if_neg (by omega), if_pos (show S.AllJ js from fun i hi => hall i (by omega))]; done) | (show _ = _; unfold S.checkJobs; rw [if_neg (by omega), if_neg (fun h => hno (h k (by omega)))])
  · skip
    refine guard_yes rfl rfl (decide_eq_false hc1) ?_
    refine ops_y hH rfl rfl (yv_move rfl) ?_
    refine guard_yes rfl rfl (decide_eq_false hc1) ?_
    refine ops_y hH rfl rfl (yv_len T.sl22 rfl (h0.now hH (n := 0) rfl).is) ?_
    refine guard_yes rfl rfl (decide_eq_false hc1) ?_
    refine ops_y hH rfl rfl (yv_gtr rfl rfl) ?_
    refine ops_y hH rfl rfl (yv_pick_f rfl (decide_eq_false hc1) rfl) ?_
    refine ops_nil ?_
    refine thn_n ?_
    by_cases hc2 : 8 < (js.length : Int)
    · skip
      refine cond_t rfl (decide_eq_true hc2) ?_
      refine seq ?_
      refine region ?_
      refine ops_y hH rfl rfl (yv_assign rfl) ?_
      refine ops_nil ?_
      refine thn_n ?_
      refine ret ?_
      refine thn_r ?_
      refine fin hH (fun w' hf => (res1 rfl (show RV _ _ _ (.tmp 2) _ from rfl))) (fun w' hf => ?_)
      first | (show _ = _; unfold S.checkJobs; rw [if_pos (by omega)]; done) | (show _ = _; unfold S.checkJobs; rw [if_neg (by omega), if_pos (show S.AllJ js from fun i hi => hall i (by omega))]; done) | (show _ = _; unfold S.checkJobs; rw [if_neg (by omega), if_neg (fun h => hno (h k (by omega)))])
    · skip
      refine cond_f rfl (decide_eq_false hc2) ?_
      refine skip ?_
      refine thn_n ?_
      refine seq ?_
      refine seq ?_
      refine region ?_
      refine ops_y hH rfl rfl (yv_assign rfl) ?_
      refine ops_nil ?_
      refine thn_n ?_
      refine block ?_
      refine loop (S := Nat) (fun k => [(3, (.int .i64 (k : Int))), (0, v)]) (fun k w1 => Heap [base w] w1 ∧ k ≤ js.length ∧ ∀ i, i < k → S.okJob (nth js (i : Int))) (fun k => js.length - k) (0) (Sub.cons rfl (Sub.cons rfl (Sub.nil _))) ?_ ?_
      · exact ⟨hH, by omega, S.all_zero⟩
      · rintro k w3 ⟨hH4, hk, hall⟩
        show Holds _ _ _ _ _ [(3, (.int .i64 (k : Int))), (0, v)] _ _
        refine seq ?_
        refine seq ?_
        refine region ?_
        refine ops_y hH4 rfl rfl (yv_move rfl) ?_
        refine ops_y hH4 rfl rfl (yv_move rfl) ?_
        refine ops_y hH4 rfl rfl (yv_len T.sl22 rfl (h0.now hH4 (n := 0) rfl).is) ?_
        refine ops_y hH4 rfl rfl (yv_lss rfl rfl) ?_
        refine ops_nil ?_
        refine thn_n ?_
        by_cases hc5 : (k : Int) < (js.length : Int)
        · skip
          refine cond_t rfl (decide_eq_true hc5) ?_
          refine skip ?_
          refine thn_n ?_
          refine seq ?_
          refine block ?_
          refine seq ?_
          refine region ?_
          refine ops_y hH4 rfl rfl (yv_move rfl) ?_
          refine ops_y hH4 rfl rfl (yv_move rfl) ?_
          refine ops_y hH4 rfl rfl (yv_index T.sl22 rfl rfl (h0.now hH4 (n := 0) rfl).is (by omega)) ?_
          refine ops_y hH4 rfl rfl (yv_field T.f71_0 rfl) ?_
          refine ops_y hH4 rfl rfl (yv_load T.one2 rfl (fun _ hw => Rd.at (h0.now hw (n := 0) rfl) (i := (k : Int)) (by omega) (j := 0) rfl)) ?_
          refine ops_y hH4 rfl rfl (yv_lss rfl rfl) ?_
          refine ops_y hH4 rfl rfl (yv_move rfl) ?_
          by_cases hc6 : ((nth js (k : Int)).1) < 1
          · skip
            have hno : ¬ S.okJob (nth js (k : Int)) := by unfold S.okJob; omega
            refine guard_no rfl rfl (decide_eq_true hc6) rfl ?_
            refine guard_no rfl rfl (decide_eq_true hc6) rfl ?_
            refine guard_no rfl rfl (decide_eq_true hc6) rfl ?_
            refine guard_no rfl rfl (decide_eq_true hc6) rfl ?_
            refine guard_no rfl rfl (decide_eq_true hc6) rfl ?_
            refine guard_no rfl rfl (decide_eq_true hc6) rfl ?_
            refine ops_y hH4 rfl rfl (yv_pick_t rfl (decide_eq_true hc6) rfl) ?_
            refine ops_y hH4 rfl rfl (yv_move rfl) ?_
            refine guard_no rfl rfl rfl rfl ?_
            refine guard_no rfl rfl rfl rfl ?_
            refine guard_no rfl rfl rfl rfl ?_
            refine guard_no rfl rfl rfl rfl ?_
            refine guard_no rfl rfl rfl rfl ?_
            refine guard_no rfl rfl rfl rfl ?_
            refine ops_y hH4 rfl rfl (yv_pick_t rfl rfl rfl) ?_
            refine ops_y hH4 rfl rfl (yv_move rfl) ?_
            refine guard_no rfl rfl rfl rfl ?_
            refine guard_no rfl rfl rfl rfl ?_
            refine guard_no rfl rfl rfl rfl ?_
            refine guard_no rfl rfl rfl rfl ?_
            refine guard_no rfl rfl rfl rfl ?_
            refine guard_no rfl rfl rfl rfl ?_
            refine ops_y hH4 rfl rfl (yv_pick_t rfl rfl rfl) ?_
            refine ops_nil ?_
            refine thn_n ?_
            refine cond_t rfl rfl ?_
            refine seq ?_
            refine region ?_
            refine ops_y hH4 rfl rfl (yv_assign rfl) ?_
            refine ops_nil ?_
            refine thn_n ?_
            refine ret ?_
            refine blk_r ?_
            refine thn_r ?_
            refine lp_r ?_
            refine blk_r ?_
            refine thn_r ?_
            refine fin hH4 (fun w' hf => (res1 rfl (show RV _ _ _ (.tmp 2) _ from rfl))) (fun w' hf => ?_)
            first | (show _ = _; unfold S.checkJobs; rw [if_pos (by omega)]; done) | (show _ = _; unfold S.checkJobs; rw [if_neg (by omega), if_pos (show S.AllJ js from fun i hi => hall i (by omega))]; done) | (show _ = _; unfold S.checkJobs; rw [if_neg (by omega), if_neg (fun h => hno (h k (by omega)))])
          · skip
            refine guard_yes rfl rfl (decide_eq_false hc6) ?_
            refine ops_y hH4 rfl rfl (yv_move rfl) ?_
            refine guard_yes rfl rfl (decide_eq_false hc6) ?_
            refine ops_y hH4 rfl rfl (yv_move rfl) ?_
            refine guard_yes rfl rfl (decide_eq_false hc6) ?_
            refine ops_y hH4 rfl rfl (yv_index T.sl22 rfl rfl (h0.now hH4 (n := 0) rfl).is (by omega)) ?_
            refine guard_yes rfl rfl (decide_eq_false hc6) ?_
            refine ops_y hH4 rfl rfl (yv_field T.f71_0 rfl) ?_
            refine guard_yes rfl rfl (decide_eq_false hc6) ?_
            refine ops_y hH4 rfl rfl (yv_load T.one2 rfl (fun _ hw => Rd.at (h0.now hw (n := 0) rfl) (i := (k : Int)) (by omega) (j := 0) rfl)) ?_
            refine guard_yes rfl rfl (decide_eq_false hc6) ?_
            refine ops_y hH4 rfl rfl (yv_gtr rfl rfl) ?_
            refine ops_y hH4 rfl rfl (yv_pick_f rfl (decide_eq_false hc6) rfl) ?_
            refine ops_y hH4 rfl rfl (yv_move rfl) ?_
            by_cases hc7 : 500 < ((nth js (k : Int)).1)
            · skip
              have hno : ¬ S.okJob (nth js (k : Int)) := by unfold S.okJob; omega
              refine guard_no rfl rfl (decide_eq_true hc7) rfl ?_
              refine guard_no rfl rfl (decide_eq_true hc7) rfl ?_
              refine guard_no rfl rfl (decide_eq_true hc7) rfl ?_
              refine guard_no rfl rfl (decide_eq_true hc7) rfl ?_
              refine guard_no rfl rfl (decide_eq_true hc7) rfl ?_
              refine guard_no rfl rfl (decide_eq_true hc7) rfl ?_
              refine ops_y hH4 rfl rfl (yv_pick_t rfl (decide_eq_true hc7) rfl) ?_
              refine ops_y hH4 rfl rfl (yv_move rfl) ?_
              refine guard_no rfl rfl rfl rfl ?_
              refine guard_no rfl rfl rfl rfl ?_
              refine guard_no rfl rfl rfl rfl ?_
              refine guard_no rfl rfl rfl rfl ?_
              refine guard_no rfl rfl rfl rfl ?_
              refine guard_no rfl rfl rfl rfl ?_
              refine ops_y hH4 rfl rfl (yv_pick_t rfl rfl rfl) ?_
              refine ops_nil ?_
              refine thn_n ?_
              refine cond_t rfl rfl ?_
              refine seq ?_
              refine region ?_
              refine ops_y hH4 rfl rfl (yv_assign rfl) ?_
              refine ops_nil ?_
              refine thn_n ?_
              refine ret ?_
              refine blk_r ?_
              refine thn_r ?_
              refine lp_r ?_
              refine blk_r ?_
              refine thn_r ?_
              refine fin hH4 (fun w' hf => (res1 rfl (show RV _ _ _ (.tmp 2) _ from rfl))) (fun w' hf => ?_)
              first | (show _ = _; unfold S.checkJobs; rw [if_pos (by omega)]; done) | (show _ = _; unfold S.checkJobs; rw [if_neg (by omega), if_pos (show S.AllJ js from fun i hi => hall i (by omega))]; done) | (show _ = _; unfold S.checkJobs; rw [if_neg (by omega), if_neg (fun h => hno (h k (by omega)))])
            · skip
              refine guard_yes rfl rfl (decide_eq_false hc7) ?_
              refine ops_y hH4 rfl rfl (yv_move rfl) ?_
              refine guard_yes rfl rfl (decide_eq_false hc7) ?_
              refine ops_y hH4 rfl rfl (yv_move rfl) ?_
              refine guard_yes rfl rfl (decide_eq_false hc7) ?_
              refine ops_y hH4 rfl rfl (yv_index T.sl22 rfl rfl (h0.now hH4 (n := 0) rfl).is (by omega)) ?_
              refine guard_yes rfl rfl (decide_eq_false hc7) ?_
              refine ops_y hH4 rfl rfl (yv_field T.f71_1 rfl) ?_
              refine guard_yes rfl rfl (decide_eq_false hc7) ?_
              refine ops_y hH4 rfl rfl (yv_load T.one2 rfl (fun _ hw => Rd.at (h0.now hw (n := 0) rfl) (i := (k : Int)) (by omega) (j := 1) rfl)) ?_
              refine guard_yes rfl rfl (decide_eq_false hc7) ?_
              refine ops_y hH4 rfl rfl (yv_lss rfl rfl) ?_
              refine ops_y hH4 rfl rfl (yv_pick_f rfl (decide_eq_false hc7) rfl) ?_
              refine ops_y hH4 rfl rfl (yv_move rfl) ?_
              by_cases hc8 : ((nth js (k : Int)).2) < 1
              · skip
                have hno : ¬ S.okJob (nth js (k : Int)) := by unfold S.okJob; omega
                refine guard_no rfl rfl (decide_eq_true hc8) rfl ?_
                refine guard_no rfl rfl (decide_eq_true hc8) rfl ?_
                refine guard_no rfl rfl (decide_eq_true hc8) rfl ?_
                refine guard_no rfl rfl (decide_eq_true hc8) rfl ?_
                refine guard_no rfl rfl (decide_eq_true hc8) rfl ?_
                refine guard_no rfl rfl (decide_eq_true hc8) rfl ?_
                refine ops_y hH4 rfl rfl (yv_pick_t rfl (decide_eq_true hc8) rfl) ?_
                refine ops_nil ?_
                refine thn_n ?_
                refine cond_t rfl rfl ?_
                refine seq ?_
                refine region ?_
                refine ops_y hH4 rfl rfl (yv_assign rfl) ?_
                refine ops_nil ?_
                refine thn_n ?_
                refine ret ?_
                refine blk_r ?_
                refine thn_r ?_
                refine lp_r ?_
                refine blk_r ?_
                refine thn_r ?_
                refine fin hH4 (fun w' hf => (res1 rfl (show RV _ _ _ (.tmp 2) _ from rfl))) (fun w' hf => ?_)
                first | (show _ = _; unfold S.checkJobs; rw [if_pos (by omega)]; done) | (show _ = _; unfold S.checkJobs; rw [if_neg (by omega), if_pos (show S.AllJ js from fun i hi => hall i (by omega))]; done) | (show _ = _; unfold S.checkJobs; rw [if_neg (by omega), if_neg (fun h => hno (h k (by omega)))])
              · skip
                refine guard_yes rfl rfl (decide_eq_false hc8) ?_
                refine ops_y hH4 rfl rfl (yv_move rfl) ?_
                refine guard_yes rfl rfl (decide_eq_false hc8) ?_
                refine ops_y hH4 rfl rfl (yv_move rfl) ?_
                refine guard_yes rfl rfl (decide_eq_false hc8) ?_
                refine ops_y hH4 rfl rfl (yv_index T.sl22 rfl rfl (h0.now hH4 (n := 0) rfl).is (by omega)) ?_
                refine guard_yes rfl rfl (decide_eq_false hc8) ?_
                refine ops_y hH4 rfl rfl (yv_field T.f71_1 rfl) ?_
                refine guard_yes rfl rfl (decide_eq_false hc8) ?_
                refine ops_y hH4 rfl rfl (yv_load T.one2 rfl (fun _ hw => Rd.at (h0.now hw (n := 0) rfl) (i := (k : Int)) (by omega) (j := 1) rfl)) ?_
                refine guard_yes rfl rfl (decide_eq_false hc8) ?_
                refine ops_y hH4 rfl rfl (yv_gtr rfl rfl) ?_
                refine ops_y hH4 rfl rfl (yv_pick_f rfl (decide_eq_false hc8) rfl) ?_
                refine ops_nil ?_
                refine thn_n ?_
                by_cases hc9 : 500 < ((nth js (k : Int)).2)
                · skip
                  have hno : ¬ S.okJob (nth js (k : Int)) := by unfold S.okJob; omega
                  refine cond_t rfl (decide_eq_true hc9) ?_
                  refine seq ?_
                  refine region ?_
                  refine ops_y hH4 rfl rfl (yv_assign rfl) ?_
                  refine ops_nil ?_
                  refine thn_n ?_
                  refine ret ?_
                  refine blk_r ?_
                  refine thn_r ?_
                  refine lp_r ?_
                  refine blk_r ?_
                  refine thn_r ?_
                  refine fin hH4 (fun w' hf => (res1 rfl (show RV _ _ _ (.tmp 2) _ from rfl))) (fun w' hf => ?_)
                  first | (show _ = _; unfold S.checkJobs; rw [if_pos (by omega)]; done) | (show _ = _; unfold S.checkJobs; rw [if_neg (by omega), if_pos (show S.AllJ js from fun i hi => hall i (by omega))]; done) | (show _ = _; unfold S.checkJobs; rw [if_neg (by omega), if_neg (fun h => hno (h k (by omega)))])
                · skip
                  refine cond_f rfl (decide_eq_false hc9) ?_
                  refine skip ?_
                  refine blk_n ?_
                  refine thn_n ?_
                  refine region ?_
                  refine ops_y hH4 rfl rfl (yv_move rfl) ?_
                  refine ops_y hH4 rfl rfl (yv_add rfl rfl (by omega)) ?_
                  refine ops_y hH4 rfl rfl (yv_assign rfl) ?_
                  refine ops_nil ?_
                  refine lp_n (k + 1) (Sub.cons rfl (Sub.cons rfl (Sub.nil _))) ?_ ?_
                  · exact ⟨hH4, by omega, S.all_snoc hall (by unfold S.okJob; omega)⟩
                  · first | (dsimp only; omega) | (show _ < _; omega)
        · skip
          refine cond_f rfl (decide_eq_false hc5) ?_
          refine exit ?_
          refine thn_x ?_
          refine lp_x ?_
          refine blk_here ?_
          refine thn_n ?_
          refine seq ?_
          refine region ?_
          refine ops_y hH4 rfl rfl (yv_assign rfl) ?_
          refine ops_nil ?_
          refine thn_n ?_
          refine ret ?_
          refine fin hH4 (fun w' hf => (res1 rfl (show RV _ _ _ (.tmp 2) _ from rfl))) (fun w' hf => ?_)
          first | (show _ = _; unfold S.checkJobs; rw [if_pos (by omega)]; done) | (show _ = _; unfold S.checkJobs; rw [if_neg (by omega), if_pos (show S.AllJ js from fun i hi => hall i (by omega))]; done) | (show _ = _; unfold S.checkJobs; rw [if_neg (by omega), if_neg (fun h => hno (h k (by omega)))])

theorem c49 {v : Value} {js : List S.Pr} {x : Int} {w : World} (h0 : Rd encP 2 v js w) (hx : 0 ≤ x) (hx2 : x < 2 * (js.length : Int)) (hx3 : x ≤ 1000000)  :
    Fn Try.prog 49 [v, (.int .i64 x)].toArray w (fun u _ => u = .int .i64 (S.at2 js x)) := by
  refine fn_of' (args := [v, (.int .i64 x)]) Try.func49 rfl (ent Try.func49 (by kernel_rfl) rfl) rfl rfl (fun hH => ?_)
  refine seq ?_
  refine region ?_
  refine ops_y hH rfl rfl (yv_assign rfl) ?_
  refine ops_nil ?_
  refine thn_n ?_
  refine seq ?_
  refine seq ?_
  refine region ?_
  refine ops_y hH rfl rfl (yv_move rfl) ?_
  refine ops_y hH rfl rfl (yv_rem rfl rfl (by omega) (by omega)) ?_
  refine ops_y hH rfl rfl (yv_eql rfl rfl) ?_
  refine ops_nil ?_
  refine thn_n ?_
  by_cases hc1 : (x % 2) = 0
  · skip
    refine cond_t rfl (decide_eq_true hc1) ?_
    refine seq ?_
    refine region ?_
    refine ops_y hH rfl rfl (yv_move rfl) ?_
    refine ops_y hH rfl rfl (yv_move rfl) ?_
    refine ops_y hH rfl rfl (yv_quo rfl rfl (by omega) (by omega) (by omega)) ?_
    refine ops_y hH rfl rfl (yv_index T.sl22 rfl rfl (h0.now hH (n := 0) rfl).is (by omega)) ?_
    refine ops_y hH rfl rfl (yv_field T.f71_0 rfl) ?_
    refine ops_y hH rfl rfl (yv_load T.one2 rfl (fun _ hw => Rd.at (h0.now hw (n := 0) rfl) (i := x / 2) (by omega) (j := 0) rfl)) ?_
    refine ops_y hH rfl rfl (yv_assign rfl) ?_
    refine ops_nil ?_
    refine thn_n ?_
    refine ret ?_
    refine thn_r ?_
    refine fin hH (fun w' hf => (res1 rfl (show RV _ _ _ (.tmp 4) _ from rfl))) (fun w' hf => ?_)
    show _ = _; unfold S.at2; first | rw [if_pos ‹_›] | rw [if_neg ‹_›]
  · skip
    refine cond_f rfl (decide_eq_false hc1) ?_
    refine skip ?_
    refine thn_n ?_
    refine seq ?_
    refine region ?_
    refine ops_y hH rfl rfl (yv_move rfl) ?_
    refine ops_y hH rfl rfl (yv_move rfl) ?_
    refine ops_y hH rfl rfl (yv_quo rfl rfl (by omega) (by omega) (by omega)) ?_
    refine ops_y hH rfl rfl (yv_index T.sl22 rfl rfl (h0.now hH (n := 0) rfl).is (by omega)) ?_
    refine ops_y hH rfl rfl (yv_field T.f71_1 rfl) ?_
    refine ops_y hH rfl rfl (yv_load T.one2 rfl (fun _ hw => Rd.at (h0.now hw (n := 0) rfl) (i := x / 2) (by omega) (j := 1) rfl)) ?_
    refine ops_y hH rfl rfl (yv_assign rfl) ?_
    refine ops_nil ?_
    refine thn_n ?_
    refine ret ?_
    refine fin hH (fun w' hf => (res1 rfl (show RV _ _ _ (.tmp 4) _ from rfl))) (fun w' hf => ?_)
    show _ = _; unfold S.at2; first | rw [if_pos ‹_›] | rw [if_neg ‹_›]

theorem c47 {v : Value} {js : List S.Pr} {x : Int} {w : World} (h0 : Rd encP 2 v js w) (hx : 0 ≤ x) (hx2 : x < 2 * (js.length : Int)) (hx3 : x ≤ 1000000)  :
    Fn Try.prog 47 [v, (.int .i64 x)].toArray w (fun u _ => u = .int .i64 (S.at2 js x)) := by
  refine fn_of' (args := [v, (.int .i64 x)]) Try.func47 rfl (ent Try.func47 (by kernel_rfl) rfl) rfl rfl (fun hH => ?_)
  refine seq ?_
  refine region ?_
  refine ops_y hH rfl rfl (yv_assign rfl) ?_
  refine ops_nil ?_
  refine thn_n ?_
  refine seq ?_
  refine seq ?_
  refine region ?_
  refine ops_y hH rfl rfl (yv_move rfl) ?_
  refine ops_y hH rfl rfl (yv_rem rfl rfl (by omega) (by omega)) ?_
  refine ops_y hH rfl rfl (yv_eql rfl rfl) ?_
  refine ops_nil ?_
  refine thn_n ?_
  by_cases hc1 : (x % 2) = 0
  · skip
    refine cond_t rfl (decide_eq_true hc1) ?_
    refine seq ?_
    refine region ?_
    refine ops_y hH rfl rfl (yv_move rfl) ?_
    refine ops_y hH rfl rfl (yv_move rfl) ?_
    refine ops_y hH rfl rfl (yv_quo rfl rfl (by omega) (by omega) (by omega)) ?_
    refine ops_y hH rfl rfl (yv_index T.sl23 rfl rfl (h0.now hH (n := 0) rfl).is (by omega)) ?_
    refine ops_y hH rfl rfl (yv_field T.f73_0 rfl) ?_
    refine ops_y hH rfl rfl (yv_load T.one2 rfl (fun _ hw => Rd.at (h0.now hw (n := 0) rfl) (i := x / 2) (by omega) (j := 0) rfl)) ?_
    refine ops_y hH rfl rfl (yv_assign rfl) ?_
    refine ops_nil ?_
    refine thn_n ?_
    refine ret ?_
    refine thn_r ?_
    refine fin hH (fun w' hf => (res1 rfl (show RV _ _ _ (.tmp 4) _ from rfl))) (fun w' hf => ?_)
    show _ = _; unfold S.at2; first | rw [if_pos ‹_›] | rw [if_neg ‹_›]
  · skip
    refine cond_f rfl (decide_eq_false hc1) ?_
    refine skip ?_
    refine thn_n ?_
    refine seq ?_
    refine region ?_
    refine ops_y hH rfl rfl (yv_move rfl) ?_
    refine ops_y hH rfl rfl (yv_move rfl) ?_
    refine ops_y hH rfl rfl (yv_quo rfl rfl (by omega) (by omega) (by omega)) ?_
    refine ops_y hH rfl rfl (yv_index T.sl23 rfl rfl (h0.now hH (n := 0) rfl).is (by omega)) ?_
    refine ops_y hH rfl rfl (yv_field T.f73_1 rfl) ?_
    refine ops_y hH rfl rfl (yv_load T.one2 rfl (fun _ hw => Rd.at (h0.now hw (n := 0) rfl) (i := x / 2) (by omega) (j := 1) rfl)) ?_
    refine ops_y hH rfl rfl (yv_assign rfl) ?_
    refine ops_nil ?_
    refine thn_n ?_
    refine ret ?_
    refine fin hH (fun w' hf => (res1 rfl (show RV _ _ _ (.tmp 4) _ from rfl))) (fun w' hf => ?_)
    show _ = _; unfold S.at2; first | rw [if_pos ‹_›] | rw [if_neg ‹_›]

theorem c60 {v u : Value} {js ps : List S.Pr} {w : World} (h0 : Rd encP 2 v js w) (h1 : Rd encP 2 u ps w) (hj : S.Jobs js) (hp : S.AllT ps) (he : ps.length = js.length)  :
    Fn Try.prog 60 [v, u].toArray w (fun u _ => u = .int .i64 (S.endOf js ps)) := by
  refine fn_of' (args := [v, u]) Try.func60 rfl (ent Try.func60 (by kernel_rfl) rfl) rfl rfl (fun hH => ?_)
  have hl8 := hj.2.1
  refine seq ?_
  refine region ?_
  refine ops_y hH rfl rfl (yv_assign rfl) ?_
  refine ops_nil ?_
  refine thn_n ?_
  refine seq ?_
  refine region ?_
  refine ops_y hH rfl rfl (yv_assign rfl) ?_
  refine ops_nil ?_
  refine thn_n ?_
  refine seq ?_
  refine seq ?_
  refine region ?_
  refine ops_y hH rfl rfl (yv_assign rfl) ?_
  refine ops_nil ?_
  refine thn_n ?_
  refine block ?_
  refine loop (S := Nat) (fun k => [(5, (.int .i64 (S.endTo js ps k))), (6, (.int .i64 (k : Int))), (0, v), (1, u), (4, (.int .i64 0))]) (fun k w1 => Heap [base w] w1 ∧ k ≤ 2 * js.length) (fun k => 2 * js.length - k) (0) (Sub.cons rfl (Sub.cons rfl (Sub.cons rfl (Sub.cons rfl (Sub.cons rfl (Sub.nil _)))))) ?_ ?_
  · exact ⟨hH, by omega⟩
  · rintro k w1 ⟨hH2, hk⟩
    show Holds _ _ _ _ _ [(5, (.int .i64 (S.endTo js ps k))), (6, (.int .i64 (k : Int))), (0, v), (1, u), (4, (.int .i64 0))] _ _
    refine seq ?_
    refine seq ?_
    refine region ?_
    refine ops_y hH2 rfl rfl (yv_move rfl) ?_
    refine ops_y hH2 rfl rfl (yv_move rfl) ?_
    refine ops_y hH2 rfl rfl (yv_len T.sl22 rfl (h0.now hH2 (n := 0) rfl).is) ?_
    refine ops_y hH2 rfl rfl (yv_mul rfl rfl (by omega)) ?_
    refine ops_y hH2 rfl rfl (yv_lss rfl rfl) ?_
    refine ops_nil ?_
    refine thn_n ?_
    by_cases hc3 : (k : Int) < (2 * (js.length : Int))
    · skip
      refine cond_t rfl (decide_eq_true hc3) ?_
      refine skip ?_
      refine thn_n ?_
      refine seq ?_
      refine block ?_
      have hb1 := hj.at2 (w := (k : Int)) (by omega) (by omega)
      have hb2 := hp.at2 (w := (k : Int)) (by omega) (by omega)
      refine region ?_
      refine ops_y hH2 rfl rfl (yv_move rfl) ?_
      refine ops_y hH2 rfl rfl (yv_move rfl) ?_
      refine ops_y hH2 rfl rfl (yv_move rfl) ?_
      refine op_fnV rfl rfl rfl hH2 (c47 (h1.now hH2 (n := 0) rfl) (by omega) (by omega) (by omega)) (fun w4 hH5 => ?_)
      refine ops_y hH5 rfl rfl (yv_move rfl) ?_
      refine ops_y hH5 rfl rfl (yv_move rfl) ?_
      refine op_fnV rfl rfl rfl hH5 (c49 (h0.now hH5 (n := 0) rfl) (by omega) (by omega) (by omega)) (fun w6 hH7 => ?_)
      refine ops_y hH7 rfl rfl (yv_add rfl rfl (by omega)) ?_
      refine ops_y hH7 rfl rfl (yv_max rfl rfl) ?_
      refine ops_y hH7 rfl rfl (yv_assign rfl) ?_
      refine ops_nil ?_
      refine blk_n ?_
      refine thn_n ?_
      refine region ?_
      refine ops_y hH7 rfl rfl (yv_move rfl) ?_
      refine ops_y hH7 rfl rfl (yv_add rfl rfl (by omega)) ?_
      refine ops_y hH7 rfl rfl (yv_assign rfl) ?_
      refine ops_nil ?_
      refine lp_n (k + 1) (Sub.cons rfl (Sub.cons rfl (Sub.cons rfl (Sub.cons rfl (Sub.cons rfl (Sub.nil _)))))) ?_ ?_
      · exact ⟨hH7, by omega⟩
      · first | (dsimp only; omega) | (show _ < _; omega)
    · skip
      refine cond_f rfl (decide_eq_false hc3) ?_
      refine exit ?_
      refine thn_x ?_
      refine lp_x ?_
      refine blk_here ?_
      refine thn_n ?_
      refine seq ?_
      refine region ?_
      refine ops_y hH2 rfl rfl (yv_move rfl) ?_
      refine ops_y hH2 rfl rfl (yv_assign rfl) ?_
      refine ops_nil ?_
      refine thn_n ?_
      refine ret ?_
      refine fin hH2 (fun w' hf => (res1 rfl (show RV _ _ _ (.tmp 4) _ from rfl))) (fun w' hf => ?_)
      have hk2 : k = 2 * js.length := by omega
      subst hk2; rfl

theorem c62 {v : Value} {js : List S.Pr} {b : Int} {w : World} (h0 : Rd encP 2 v js w) (hj : S.Jobs js) (hb : 0 ≤ b) (hb2 : b ≤ 1)  :
    Fn Try.prog 62 [v, (.int .i64 b)].toArray w (fun u _ => u = .int .i64 (S.sumOf js b)) := by
  refine fn_of' (args := [v, (.int .i64 b)]) Try.func62 rfl (ent Try.func62 (by kernel_rfl) rfl) rfl rfl (fun hH => ?_)
  have hl8 := hj.2.1
  refine seq ?_
  refine region ?_
  refine ops_y hH rfl rfl (yv_assign rfl) ?_
  refine ops_nil ?_
  refine thn_n ?_
  refine seq ?_
  refine region ?_
  refine ops_y hH rfl rfl (yv_assign rfl) ?_
  refine ops_nil ?_
  refine thn_n ?_
  refine seq ?_
  refine seq ?_
  refine region ?_
  refine ops_y hH rfl rfl (yv_assign rfl) ?_
  refine ops_nil ?_
  refine thn_n ?_
  refine block ?_
  refine loop (S := Nat) (fun k => [(5, (.int .i64 (S.sumTo js b k))), (6, (.int .i64 (k : Int))), (0, v), (1, (.int .i64 b)), (4, (.int .i64 0))]) (fun k w1 => Heap [base w] w1 ∧ k ≤ js.length) (fun k => js.length - k) (0) (Sub.cons rfl (Sub.cons rfl (Sub.cons rfl (Sub.cons rfl (Sub.cons rfl (Sub.nil _)))))) ?_ ?_
  · exact ⟨hH, by omega⟩
  · rintro k w1 ⟨hH2, hk⟩
    show Holds _ _ _ _ _ [(5, (.int .i64 (S.sumTo js b k))), (6, (.int .i64 (k : Int))), (0, v), (1, (.int .i64 b)), (4, (.int .i64 0))] _ _
    refine seq ?_
    refine seq ?_
    refine region ?_
    refine ops_y hH2 rfl rfl (yv_move rfl) ?_
    refine ops_y hH2 rfl rfl (yv_move rfl) ?_
    refine ops_y hH2 rfl rfl (yv_len T.sl22 rfl (h0.now hH2 (n := 0) rfl).is) ?_
    refine ops_y hH2 rfl rfl (yv_lss rfl rfl) ?_
    refine ops_nil ?_
    refine thn_n ?_
    by_cases hc3 : (k : Int) < (js.length : Int)
    · skip
      refine cond_t rfl (decide_eq_true hc3) ?_
      refine skip ?_
      refine thn_n ?_
      refine seq ?_
      refine block ?_
      have hb1 := hj.at2 (w := 2 * (k : Int) + b) (by omega) (by omega)
      have hb3 := S.sumTo_bd hj hb hb2 k hk
      refine region ?_
      refine ops_y hH2 rfl rfl (yv_move rfl) ?_
      refine ops_y hH2 rfl rfl (yv_move rfl) ?_
      refine ops_y hH2 rfl rfl (yv_move rfl) ?_
      refine ops_y hH2 rfl rfl (yv_mul rfl rfl (by omega)) ?_
      refine ops_y hH2 rfl rfl (yv_move rfl) ?_
      refine ops_y hH2 rfl rfl (yv_add rfl rfl (by omega)) ?_
      refine op_fnV rfl rfl rfl hH2 (c49 (h0.now hH2 (n := 0) rfl) (by omega) (by omega) (by omega)) (fun w4 hH5 => ?_)
      refine ops_y hH5 rfl rfl (yv_add rfl rfl (by omega)) ?_
      refine ops_y hH5 rfl rfl (yv_assign rfl) ?_
      refine ops_nil ?_
      refine blk_n ?_
      refine thn_n ?_
      refine region ?_
      refine ops_y hH5 rfl rfl (yv_move rfl) ?_
      refine ops_y hH5 rfl rfl (yv_add rfl rfl (by omega)) ?_
      refine ops_y hH5 rfl rfl (yv_assign rfl) ?_
      refine ops_nil ?_
      refine lp_n (k + 1) (Sub.cons rfl (Sub.cons rfl (Sub.cons rfl (Sub.cons rfl (Sub.cons rfl (Sub.nil _)))))) ?_ ?_
      · exact ⟨hH5, by omega⟩
      · first | (dsimp only; omega) | (show _ < _; omega)
    · skip
      refine cond_f rfl (decide_eq_false hc3) ?_
      refine exit ?_
      refine thn_x ?_
      refine lp_x ?_
      refine blk_here ?_
      refine thn_n ?_
      refine seq ?_
      refine region ?_
      refine ops_y hH2 rfl rfl (yv_move rfl) ?_
      refine ops_y hH2 rfl rfl (yv_assign rfl) ?_
      refine ops_nil ?_
      refine thn_n ?_
      refine ret ?_
      refine fin hH2 (fun w' hf => (res1 rfl (show RV _ _ _ (.tmp 4) _ from rfl))) (fun w' hf => ?_)
      have hk2 : k = js.length := by omega
      subst hk2; rfl

theorem c66 {v : Value} {js : List S.Pr} {b i : Int} {w : World} (h0 : Rd encP 2 v js w) (hj : S.Jobs js) (hb : 0 ≤ b) (hb2 : b ≤ 2) (hi : 0 ≤ i) (hi2 : i < (js.length : Int))  :
    Fn Try.prog 66 [v, (.int .i64 b), (.int .i64 i)].toArray w (fun u _ => u = .int .i64 (S.boundOf js b i)) := by
  refine fn_of' (args := [v, (.int .i64 b), (.int .i64 i)]) Try.func66 rfl (ent Try.func66 (by kernel_rfl) rfl) rfl rfl (fun hH => ?_)
  have hl8 := hj.2.1
  have ho := hj.nth hi hi2
  unfold S.okJob at ho
  refine seq ?_
  refine region ?_
  refine ops_y hH rfl rfl (yv_assign rfl) ?_
  refine ops_nil ?_
  refine thn_n ?_
  refine seq ?_
  refine seq ?_
  refine region ?_
  refine ops_y hH rfl rfl (yv_move rfl) ?_
  refine ops_y hH rfl rfl (yv_eql rfl rfl) ?_
  refine ops_nil ?_
  refine thn_n ?_
  by_cases hc1 : b = 2
  · skip
    refine cond_t rfl (decide_eq_true hc1) ?_
    refine seq ?_
    refine region_draw (fun w' => Heap [base w] w') T.mixed (fun w2 hr3 => ?_)
    have hH4 := hH.redrawn hr3
    refine any_takes [0, 1, 2, 3, 4, 5, 6, 7, 8, 9, 10, 11] (by kernel_rfl) hH4 _ _ _ (by kernel_rfl) ?_
    refine qs_y rfl rfl (yv_move rfl) ?_
    refine qs_y rfl rfl (yv_move rfl) ?_
    refine qs_y rfl rfl (yv_index T.sl22 rfl rfl (h0.now hH4 (n := 0) rfl).is (by omega)) ?_
    refine qs_y rfl rfl (yv_field T.f71_0 rfl) ?_
    refine qs_y rfl rfl (yv_load T.one2 rfl (fun _ hw => Rd.at (h0.now hw (n := 0) rfl) (i := i) (by omega) (j := 0) rfl)) ?_
    refine qs_y rfl rfl (yv_move rfl) ?_
    refine qs_y rfl rfl (yv_move rfl) ?_
    refine qs_y rfl rfl (yv_index T.sl22 rfl rfl (h0.now hH4 (n := 0) rfl).is (by omega)) ?_
    refine qs_y rfl rfl (yv_field T.f71_1 rfl) ?_
    refine qs_y rfl rfl (yv_load T.one2 rfl (fun _ hw => Rd.at (h0.now hw (n := 0) rfl) (i := i) (by omega) (j := 1) rfl)) ?_
    refine qs_y rfl rfl (yv_add rfl rfl (by omega)) ?_
    refine qs_y rfl rfl (yv_assign rfl) ?_
    refine qs_nil ?_
    refine any_done (by kernel_rfl) ?_
    refine thn_n ?_
    refine ret ?_
    refine thn_r ?_
    refine fin hH4 (fun w' hf => (res1 rfl (show RV _ _ _ (.tmp 6) _ from rfl))) (fun w' hf => ?_)
    show _ = _; unfold S.boundOf; first | rw [if_pos ‹_›] | rw [if_neg ‹_›]
  · skip
    refine cond_f rfl (decide_eq_false hc1) ?_
    refine skip ?_
    refine thn_n ?_
    refine seq ?_
    refine region ?_
    refine ops_y hH rfl rfl (yv_move rfl) ?_
    refine ops_y hH rfl rfl (yv_move rfl) ?_
    refine op_fnV rfl rfl rfl hH (c62 (h0.now hH (n := 0) rfl) hj (by omega) (by omega)) (fun w5 hH6 => ?_)
    refine ops_y hH6 rfl rfl (yv_assign rfl) ?_
    refine ops_nil ?_
    refine thn_n ?_
    refine ret ?_
    refine fin hH6 (fun w' hf => (res1 rfl (show RV _ _ _ (.tmp 6) _ from rfl))) (fun w' hf => ?_)
    show _ = _; unfold S.boundOf; first | rw [if_pos ‹_›] | rw [if_neg ‹_›]

theorem c67 {v : Value} {js : List S.Pr} {w : World} (h0 : Rd encP 2 v js w) (hj : S.Jobs js)  :
    Fn Try.prog 67 [v].toArray w (fun u _ => u = .int .i64 (S.shortestOf js)) := by
  refine fn_of' (args := [v]) Try.func67 rfl (ent Try.func67 (by kernel_rfl) rfl) rfl rfl (fun hH => ?_)
  have hl8 := hj.2.1
  refine seq ?_
  refine region ?_
  refine ops_y hH rfl rfl (yv_assign rfl) ?_
  refine ops_nil ?_
  refine thn_n ?_
  refine seq ?_
  refine region ?_
  refine ops_y hH rfl rfl (yv_move rfl) ?_
  refine op_fnV rfl rfl rfl hH (c62 (h0.now hH (n := 0) rfl) hj (by omega) (by omega)) (fun w1 hH2 => ?_)
  refine ops_y hH2 rfl rfl (yv_move rfl) ?_
  refine op_fnV rfl rfl rfl hH2 (c62 (h0.now hH2 (n := 0) rfl) hj (by omega) (by omega)) (fun w3 hH4 => ?_)
  refine ops_y hH4 rfl rfl (yv_max rfl rfl) ?_
  refine ops_y hH4 rfl rfl (yv_assign rfl) ?_
  refine ops_nil ?_
  refine thn_n ?_
  refine seq ?_
  refine seq ?_
  refine region ?_
  refine ops_y hH4 rfl rfl (yv_assign rfl) ?_
  refine ops_nil ?_
  refine thn_n ?_
  refine block ?_
  refine loop (S := Nat) (fun k => [(3, (.int .i64 (S.shortTo js k))), (4, (.int .i64 (k : Int))), (0, v), (2, (.int .i64 0))]) (fun k w1 => Heap [base w] w1 ∧ k ≤ js.length) (fun k => js.length - k) (0) (Sub.cons rfl (Sub.cons rfl (Sub.cons rfl (Sub.cons rfl (Sub.nil _))))) ?_ ?_
  · exact ⟨hH4, by omega⟩
  · rintro k w5 ⟨hH6, hk⟩
    show Holds _ _ _ _ _ [(3, (.int .i64 (S.shortTo js k))), (4, (.int .i64 (k : Int))), (0, v), (2, (.int .i64 0))] _ _
    refine seq ?_
    refine seq ?_
    refine region ?_
    refine ops_y hH6 rfl rfl (yv_move rfl) ?_
    refine ops_y hH6 rfl rfl (yv_move rfl) ?_
    refine ops_y hH6 rfl rfl (yv_len T.sl22 rfl (h0.now hH6 (n := 0) rfl).is) ?_
    refine ops_y hH6 rfl rfl (yv_lss rfl rfl) ?_
    refine ops_nil ?_
    refine thn_n ?_
    by_cases hc7 : (k : Int) < (js.length : Int)
    · skip
      refine cond_t rfl (decide_eq_true hc7) ?_
      refine skip ?_
      refine thn_n ?_
      refine seq ?_
      refine block ?_
      have ho := hj.nth (i := (k : Int)) (by omega) (by omega)
      unfold S.okJob at ho
      refine region_draw (fun w' => Heap [base w] w') T.mixed (fun w8 hr9 => ?_)
      have hH10 := hH6.redrawn hr9
      refine any_takes [0, 1, 2, 3, 4, 5, 6, 7, 8, 9, 10, 11, 12, 13] (by kernel_rfl) hH10 _ _ _ (by kernel_rfl) ?_
      refine qs_y rfl rfl (yv_move rfl) ?_
      refine qs_y rfl rfl (yv_move rfl) ?_
      refine qs_y rfl rfl (yv_move rfl) ?_
      refine qs_y rfl rfl (yv_index T.sl22 rfl rfl (h0.now hH10 (n := 0) rfl).is (by omega)) ?_
      refine qs_y rfl rfl (yv_field T.f71_0 rfl) ?_
      refine qs_y rfl rfl (yv_load T.one2 rfl (fun _ hw => Rd.at (h0.now hw (n := 0) rfl) (i := (k : Int)) (by omega) (j := 0) rfl)) ?_
      refine qs_y rfl rfl (yv_move rfl) ?_
      refine qs_y rfl rfl (yv_move rfl) ?_
      refine qs_y rfl rfl (yv_index T.sl22 rfl rfl (h0.now hH10 (n := 0) rfl).is (by omega)) ?_
      refine qs_y rfl rfl (yv_field T.f71_1 rfl) ?_
      refine qs_y rfl rfl (yv_load T.one2 rfl (fun _ hw => Rd.at (h0.now hw (n := 0) rfl) (i := (k : Int)) (by omega) (j := 1) rfl)) ?_
      refine qs_y rfl rfl (yv_add rfl rfl (by omega)) ?_
      refine qs_y rfl rfl (yv_max rfl rfl) ?_
      refine qs_y rfl rfl (yv_assign rfl) ?_
      refine qs_nil ?_
      refine any_done (by kernel_rfl) ?_
      refine blk_n ?_
      refine thn_n ?_
      refine region ?_
      refine ops_y hH10 rfl rfl (yv_move rfl) ?_
      refine ops_y hH10 rfl rfl (yv_add rfl rfl (by omega)) ?_
      refine ops_y hH10 rfl rfl (yv_assign rfl) ?_
      refine ops_nil ?_
      refine lp_n (k + 1) (Sub.cons rfl (Sub.cons rfl (Sub.cons rfl (Sub.cons rfl (Sub.nil _))))) ?_ ?_
      · exact ⟨hH10, by omega⟩
      · first | (dsimp only; omega) | (show _ < _; omega)
    · skip
      refine cond_f rfl (decide_eq_false hc7) ?_
      refine exit ?_
      refine thn_x ?_
      refine lp_x ?_
      refine blk_here ?_
      refine thn_n ?_
      refine seq ?_
      refine region ?_
      refine ops_y hH6 rfl rfl (yv_move rfl) ?_
      refine ops_y hH6 rfl rfl (yv_assign rfl) ?_
      refine ops_nil ?_
      refine thn_n ?_
      refine ret ?_
      refine fin hH6 (fun w' hf => (res1 rfl (show RV _ _ _ (.tmp 2) _ from rfl))) (fun w' hf => ?_)
      have hk2 : k = js.length := by omega
      subst hk2; rfl

end Go.Fip
