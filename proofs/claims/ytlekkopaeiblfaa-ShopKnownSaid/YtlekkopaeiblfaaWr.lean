/- Walks, by program (wip/tools). -/
import Derived.Test.YtlekkopaeiblfaaWq
set_option linter.unusedVariables false
set_option linter.unusedSimpArgs false
set_option linter.unusedSectionVars false
set_option linter.unnecessarySimpa false
namespace Go.Fip
open Go.Proofs Go.RowKit

theorem c3 {v u : Value} {js ps : List S.Pr} {b : Int} {w : World} (h0 : Rd encP 2 v js w) (h1 : Rd encP 2 u ps w)  :
    Fn Try.prog 3 [v, u, (.int .i64 b)].toArray w (fun u _ => u = .bool true) := by
  refine fn_of' (args := [v, u, (.int .i64 b)]) Try.func3 rfl (ent Try.func3 (by kernel_rfl) rfl) rfl rfl (fun hH => ?_)
  refine seq ?_
  refine region ?_
  refine ops_y hH rfl rfl (yv_assign rfl) ?_
  refine ops_nil ?_
  refine thn_n ?_
  refine seq ?_
  refine seq ?_
  refine region ?_
  refine ops_y hH rfl rfl (yv_move rfl) ?_
  refine op_fnV rfl rfl rfl hH (c16 (h0.now hH (n := 0) rfl)) (fun w1 hH2 => ?_)
  refine ops_y hH2 rfl rfl (yv_move rfl) ?_
  by_cases hc3 : 12 < (js.length : Int)
  · skip
    refine guard_no rfl rfl (decide_eq_true hc3) rfl ?_
    refine guard_no rfl rfl (decide_eq_true hc3) rfl ?_
    refine guard_no rfl rfl (decide_eq_true hc3) rfl ?_
    refine ops_y hH2 rfl rfl (yv_pick_t rfl (decide_eq_true hc3) rfl) ?_
    refine ops_nil ?_
    refine thn_n ?_
    refine cond_t rfl rfl ?_
    refine seq ?_
    refine region ?_
    refine op_fnV rfl rfl rfl hH2 (c17) (fun w4 hH5 => ?_)
    refine ops_y hH5 rfl rfl (yv_assign rfl) ?_
    refine ops_nil ?_
    refine thn_n ?_
    refine ret ?_
    refine thn_r ?_
    refine fin hH5 (fun w' hf => (res1 rfl (show RV _ _ _ (.tmp 6) _ from rfl))) (fun w' hf => ?_)
    rfl
  · skip
    refine guard_yes rfl rfl (decide_eq_false hc3) ?_
    refine ops_y hH2 rfl rfl (yv_move rfl) ?_
    refine guard_yes rfl rfl (decide_eq_false hc3) ?_
    refine ops_y hH2 rfl rfl (yv_len T.sl23 rfl (h1.now hH2 (n := 0) rfl).is) ?_
    refine guard_yes rfl rfl (decide_eq_false hc3) ?_
    refine ops_y hH2 rfl rfl (yv_gtr rfl rfl) ?_
    refine ops_y hH2 rfl rfl (yv_pick_f rfl (decide_eq_false hc3) rfl) ?_
    refine ops_nil ?_
    refine thn_n ?_
    by_cases hc6 : 12 < (ps.length : Int)
    · skip
      refine cond_t rfl (decide_eq_true hc6) ?_
      refine seq ?_
      refine region ?_
      refine op_fnV rfl rfl rfl hH2 (c17) (fun w7 hH8 => ?_)
      refine ops_y hH8 rfl rfl (yv_assign rfl) ?_
      refine ops_nil ?_
      refine thn_n ?_
      refine ret ?_
      refine thn_r ?_
      refine fin hH8 (fun w' hf => (res1 rfl (show RV _ _ _ (.tmp 6) _ from rfl))) (fun w' hf => ?_)
      rfl
    · skip
      refine cond_f rfl (decide_eq_false hc6) ?_
      refine skip ?_
      refine thn_n ?_
      refine seq ?_
      refine region ?_
      refine ops_y hH2 rfl rfl (yv_move rfl) ?_
      refine ops_y hH2 rfl rfl (yv_move rfl) ?_
      refine op_fnV rfl rfl rfl hH2 (c18 (h0.now hH2 (n := 0) rfl) (h1.now hH2 (n := 0) rfl) (by omega) (by omega)) (fun w9 hH10 => ?_)
      refine ops_y hH10 rfl rfl (yv_move rfl) ?_
      refine ops_y hH10 rfl rfl (yv_extract rfl rfl) ?_
      refine ops_y hH10 rfl rfl (yv_extract rfl rfl) ?_
      refine ops_y hH10 rfl rfl (yv_assign rfl) ?_
      refine ops_y hH10 rfl rfl (yv_assign rfl) ?_
      refine ops_nil ?_
      refine thn_n ?_
      refine seq ?_
      refine region ?_
      refine ops_y hH10 rfl rfl (yv_move rfl) ?_
      refine ops_y hH10 rfl rfl (yv_move rfl) ?_
      refine op_fnV rfl rfl rfl hH10 (c19 (h0.now hH10 (n := 0) rfl) (h1.now hH10 (n := 0) rfl) (by omega) (by omega)) (fun w11 hH12 => ?_)
      refine ops_y hH12 rfl rfl (yv_move rfl) ?_
      refine ops_y hH12 rfl rfl (yv_extract rfl rfl) ?_
      refine ops_y hH12 rfl rfl (yv_extract rfl rfl) ?_
      refine ops_y hH12 rfl rfl (yv_assign rfl) ?_
      refine ops_y hH12 rfl rfl (yv_assign rfl) ?_
      refine ops_nil ?_
      refine thn_n ?_
      refine seq ?_
      refine region ?_
      refine ops_y hH12 rfl rfl (yv_move rfl) ?_
      refine ops_y hH12 rfl rfl (yv_move rfl) ?_
      refine ops_y hH12 rfl rfl (yv_move rfl) ?_
      refine op_fnV rfl rfl rfl hH12 (c20 (h0.now hH12 (n := 0) rfl) (h1.now hH12 (n := 0) rfl) (by omega) (by omega)) (fun w13 hH14 => ?_)
      refine ops_y hH14 rfl rfl (yv_move rfl) ?_
      refine ops_y hH14 rfl rfl (yv_extract rfl rfl) ?_
      refine ops_y hH14 rfl rfl (yv_extract rfl rfl) ?_
      refine ops_y hH14 rfl rfl (yv_assign rfl) ?_
      refine ops_y hH14 rfl rfl (yv_assign rfl) ?_
      refine ops_nil ?_
      refine thn_n ?_
      refine seq ?_
      refine region ?_
      refine ops_y hH14 rfl rfl (yv_move rfl) ?_
      refine ops_y hH14 rfl rfl (yv_move rfl) ?_
      refine ops_y hH14 rfl rfl (yv_move rfl) ?_
      refine op_fnV rfl rfl rfl hH14 (c21 (h0.now hH14 (n := 0) rfl) (h1.now hH14 (n := 0) rfl) (by omega) (by omega)) (fun w15 hH16 => ?_)
      refine ops_y hH16 rfl rfl (yv_move rfl) ?_
      refine ops_y hH16 rfl rfl (yv_extract rfl rfl) ?_
      refine ops_y hH16 rfl rfl (yv_extract rfl rfl) ?_
      refine ops_y hH16 rfl rfl (yv_assign rfl) ?_
      refine ops_y hH16 rfl rfl (yv_assign rfl) ?_
      refine ops_nil ?_
      refine thn_n ?_
      refine seq ?_
      refine region ?_
      refine ops_y hH16 rfl rfl (yv_move rfl) ?_
      refine op_fnV rfl rfl rfl hH16 (c22 (h0.now hH16 (n := 0) rfl) (by omega)) (fun w17 hH18 => ?_)
      refine ops_y hH18 rfl rfl (yv_move rfl) ?_
      refine op_fnV rfl rfl rfl hH18 (c23 (h0.now hH18 (n := 0) rfl) (by omega)) (fun w19 hH20 => ?_)
      refine ops_y hH20 rfl rfl (yv_castB (decide_eq_true rfl) (yv_eql rfl rfl)) ?_
      refine ops_y hH20 rfl rfl (yv_move rfl) ?_
      refine guard_yes rfl rfl rfl ?_
      refine ops_y hH20 rfl rfl (yv_move rfl) ?_
      refine guard_yes rfl rfl rfl ?_
      refine ops_y hH20 rfl rfl (yv_move rfl) ?_
      refine guard_yes rfl rfl rfl ?_
      refine ops_y hH20 rfl rfl (yv_castB (decide_eq_true rfl) (yv_eql rfl rfl)) ?_
      refine ops_y hH20 rfl rfl (yv_pick_t rfl rfl rfl) ?_
      refine ops_y hH20 rfl rfl (yv_move rfl) ?_
      refine guard_yes rfl rfl rfl ?_
      refine ops_y hH20 rfl rfl (yv_move rfl) ?_
      refine guard_yes rfl rfl rfl ?_
      refine ops_y hH20 rfl rfl (yv_move rfl) ?_
      refine guard_yes rfl rfl rfl ?_
      refine ops_y hH20 rfl rfl (yv_castB (decide_eq_true rfl) (yv_eql rfl rfl)) ?_
      refine ops_y hH20 rfl rfl (yv_pick_t rfl rfl rfl) ?_
      refine ops_y hH20 rfl rfl (yv_move rfl) ?_
      refine guard_yes rfl rfl rfl ?_
      refine ops_y hH20 rfl rfl (yv_move rfl) ?_
      refine guard_yes rfl rfl rfl ?_
      refine ops_y hH20 rfl rfl (yv_move rfl) ?_
      refine guard_yes rfl rfl rfl ?_
      refine ops_y hH20 rfl rfl (yv_castB (decide_eq_true rfl) (yv_eql rfl rfl)) ?_
      refine ops_y hH20 rfl rfl (yv_pick_t rfl rfl rfl) ?_
      refine ops_y hH20 rfl rfl (yv_move rfl) ?_
      refine guard_yes rfl rfl rfl ?_
      refine ops_y hH20 rfl rfl (yv_move rfl) ?_
      refine guard_yes rfl rfl rfl ?_
      refine ops_y hH20 rfl rfl (yv_move rfl) ?_
      refine guard_yes rfl rfl rfl ?_
      refine ops_y hH20 rfl rfl (yv_castB (decide_eq_true rfl) (yv_eql rfl rfl)) ?_
      refine ops_y hH20 rfl rfl (yv_pick_t rfl rfl rfl) ?_
      refine ops_y hH20 rfl rfl (yv_move rfl) ?_
      refine guard_yes rfl rfl rfl ?_
      refine op_fnV rfl rfl rfl hH20 (c17) (fun w21 hH22 => ?_)
      refine ops_y hH22 rfl rfl (yv_pick_t rfl rfl rfl) ?_
      refine ops_y hH22 rfl rfl (yv_assign rfl) ?_
      refine ops_nil ?_
      refine thn_n ?_
      refine ret ?_
      refine fin hH22 (fun w' hf => (res1 rfl (show RV _ _ _ (.tmp 6) _ from rfl))) (fun w' hf => ?_)
      rfl

end Go.Fip
