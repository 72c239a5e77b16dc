/- Walks, by program (wip/tools). -/
import Derived.Test.YtlekkopaeiblfaaWb
set_option linter.unusedVariables false
set_option linter.unusedSimpArgs false
set_option linter.unusedSectionVars false
set_option linter.unnecessarySimpa false
namespace Go.Fip
open Go.Proofs Go.RowKit

theorem tup2 {p : Int × Int} {a b : Int} {k k' : IntKind} (h : p = (a, b)) : Value.tuple #[.int k a, .int k' b] = .tuple #[.int k p.1, .int k' p.2] := by subst h; rfl

theorem c59 {v : Value} {js : List S.Pr} {x : Int} {w : World} (h0 : Rd encP 2 v js w) (hx : 0 ≤ x) (hx2 : x < 2 * (js.length : Int)) (hx3 : x ≤ 1000000)  :
    Fn Try.prog 59 [v, (.int .i64 x)].toArray w (fun u _ => u = .int .i64 (S.at2 js x)) := by
  refine fn_of' (args := [v, (.int .i64 x)]) Try.func59 rfl (ent Try.func59 (by kernel_rfl) rfl) rfl rfl (fun hH => ?_)
  refine seq ?_
  refine region ?_
  refine ops_y hH rfl rfl (yv_assign rfl) ?_
  refine ops_nil ?_
  refine thn_n ?_
  refine seq ?_
  refine region_draw (fun w' => Heap [base w] w') T.mixed (fun w1 hr2 => ?_)
  have hH3 := hH.redrawn hr2
  refine any_takes [0, 1, 2, 3, 4, 5, 6, 7, 8, 9, 10, 11, 12, 13, 14, 15, 16] (by kernel_rfl) hH3 _ _ _ (by kernel_rfl) ?_
  refine qs_y rfl rfl (yv_move rfl) ?_
  refine qs_y rfl rfl (yv_move rfl) ?_
  refine qs_y rfl rfl (yv_quo rfl rfl (by omega) (by omega) (by omega)) ?_
  refine qs_y rfl rfl (yv_index T.sl22 rfl rfl (h0.now hH3 (n := 0) rfl).is (by omega)) ?_
  refine qs_y rfl rfl (yv_field T.f71_0 rfl) ?_
  refine qs_y rfl rfl (yv_load T.one2 rfl (fun _ hw => Rd.at (h0.now hw (n := 0) rfl) (i := x / 2) (by omega) (j := 0) rfl)) ?_
  refine qs_y rfl rfl (yv_move rfl) ?_
  refine qs_y rfl rfl (yv_move rfl) ?_
  refine qs_y rfl rfl (yv_quo rfl rfl (by omega) (by omega) (by omega)) ?_
  refine qs_y rfl rfl (yv_index T.sl22 rfl rfl (h0.now hH3 (n := 0) rfl).is (by omega)) ?_
  refine qs_y rfl rfl (yv_field T.f71_1 rfl) ?_
  refine qs_y rfl rfl (yv_load T.one2 rfl (fun _ hw => Rd.at (h0.now hw (n := 0) rfl) (i := x / 2) (by omega) (j := 1) rfl)) ?_
  refine qs_y rfl rfl (yv_build (v := (.agg #[(.int .i64 ((nth js (x / 2)).1)), (.int .i64 ((nth js (x / 2)).2))])) (us := [(0, (.int .i64 ((nth js (x / 2)).1))), (1, (.int .i64 ((nth js (x / 2)).2)))]) (fun a ha => by simp [ha.ev (show ev _ (.tmp 10) = some _ from rfl), ha.ev (show ev _ (.tmp 16) = some _ from rfl)]) (fun w => by kernel_rfl)) ?_
  refine qs_y rfl rfl (yv_move rfl) ?_
  refine qs_y rfl rfl (yv_rem rfl rfl (by omega) (by omega)) ?_
  refine qs_y rfl rfl (yv_idx2 T.arr84 T.one2 rfl rfl (by omega)) ?_
  refine qs_y rfl rfl (yv_assign rfl) ?_
  refine qs_nil ?_
  refine any_done (by kernel_rfl) ?_
  refine thn_n ?_
  refine ret ?_
  refine fin hH3 (fun w' hf => (res1 rfl (show RV _ _ _ (.tmp 4) _ from rfl))) (fun w' hf => ?_)
  rfl

theorem c58 {v : Value} {js : List S.Pr} {x : Int} {w : World} (h0 : Rd encP 2 v js w) (hx : 0 ≤ x) (hx2 : x < 2 * (js.length : Int)) (hx3 : x ≤ 1000000)  :
    Fn Try.prog 58 [v, (.int .i64 x)].toArray w (fun u _ => u = .int .i64 (S.at2 js x)) := by
  refine fn_of' (args := [v, (.int .i64 x)]) Try.func58 rfl (ent Try.func58 (by kernel_rfl) rfl) rfl rfl (fun hH => ?_)
  refine seq ?_
  refine region ?_
  refine ops_y hH rfl rfl (yv_assign rfl) ?_
  refine ops_nil ?_
  refine thn_n ?_
  refine seq ?_
  refine region_draw (fun w' => Heap [base w] w') T.mixed (fun w1 hr2 => ?_)
  have hH3 := hH.redrawn hr2
  refine any_takes [0, 1, 2, 3, 4, 5, 6, 7, 8, 9, 10, 11, 12, 13, 14, 15, 16] (by kernel_rfl) hH3 _ _ _ (by kernel_rfl) ?_
  refine qs_y rfl rfl (yv_move rfl) ?_
  refine qs_y rfl rfl (yv_move rfl) ?_
  refine qs_y rfl rfl (yv_quo rfl rfl (by omega) (by omega) (by omega)) ?_
  refine qs_y rfl rfl (yv_index T.sl23 rfl rfl (h0.now hH3 (n := 0) rfl).is (by omega)) ?_
  refine qs_y rfl rfl (yv_field T.f73_0 rfl) ?_
  refine qs_y rfl rfl (yv_load T.one2 rfl (fun _ hw => Rd.at (h0.now hw (n := 0) rfl) (i := x / 2) (by omega) (j := 0) rfl)) ?_
  refine qs_y rfl rfl (yv_move rfl) ?_
  refine qs_y rfl rfl (yv_move rfl) ?_
  refine qs_y rfl rfl (yv_quo rfl rfl (by omega) (by omega) (by omega)) ?_
  refine qs_y rfl rfl (yv_index T.sl23 rfl rfl (h0.now hH3 (n := 0) rfl).is (by omega)) ?_
  refine qs_y rfl rfl (yv_field T.f73_1 rfl) ?_
  refine qs_y rfl rfl (yv_load T.one2 rfl (fun _ hw => Rd.at (h0.now hw (n := 0) rfl) (i := x / 2) (by omega) (j := 1) rfl)) ?_
  refine qs_y rfl rfl (yv_build (v := (.agg #[(.int .i64 ((nth js (x / 2)).1)), (.int .i64 ((nth js (x / 2)).2))])) (us := [(0, (.int .i64 ((nth js (x / 2)).1))), (1, (.int .i64 ((nth js (x / 2)).2)))]) (fun a ha => by simp [ha.ev (show ev _ (.tmp 10) = some _ from rfl), ha.ev (show ev _ (.tmp 16) = some _ from rfl)]) (fun w => by kernel_rfl)) ?_
  refine qs_y rfl rfl (yv_move rfl) ?_
  refine qs_y rfl rfl (yv_rem rfl rfl (by omega) (by omega)) ?_
  refine qs_y rfl rfl (yv_idx2 T.arr84 T.one2 rfl rfl (by omega)) ?_
  refine qs_y rfl rfl (yv_assign rfl) ?_
  refine qs_nil ?_
  refine any_done (by kernel_rfl) ?_
  refine thn_n ?_
  refine ret ?_
  refine fin hH3 (fun w' hf => (res1 rfl (show RV _ _ _ (.tmp 4) _ from rfl))) (fun w' hf => ?_)
  rfl

theorem c18 {v u : Value} {js ps : List S.Pr} {w : World} (h0 : Rd encP 2 v js w) (h1 : Rd encP 2 u ps w) (hn : js.length ≤ 1000000) (hn2 : ps.length ≤ 1000000)  :
    Fn Try.prog 18 [v, u].toArray w (fun u _ => u = .tuple #[.int .i64 (S.checkPlan js ps).1, .int .i64 (S.checkPlan js ps).2]) := by
  refine fn_of' (args := [v, u]) Try.func18 rfl (ent Try.func18 (by kernel_rfl) rfl) rfl rfl (fun hH => ?_)
  refine seq ?_
  refine region ?_
  refine ops_y hH rfl rfl (yv_assign rfl) ?_
  refine ops_y hH rfl rfl (yv_assign rfl) ?_
  refine ops_nil ?_
  refine thn_n ?_
  refine seq ?_
  refine region ?_
  refine ops_y hH rfl rfl (yv_move rfl) ?_
  refine op_fnV rfl rfl rfl hH (c22 (h0.now hH (n := 0) rfl) (by omega)) (fun w1 hH2 => ?_)
  refine ops_y hH2 rfl rfl (yv_assign rfl) ?_
  refine ops_nil ?_
  refine thn_n ?_
  refine seq ?_
  refine region ?_
  refine ops_y hH2 rfl rfl (yv_assign rfl) ?_
  refine ops_nil ?_
  refine thn_n ?_
  refine seq ?_
  refine block ?_
  refine seq ?_
  refine region ?_
  refine ops_y hH2 rfl rfl (yv_move rfl) ?_
  refine ops_y hH2 rfl rfl (yv_neq rfl rfl) ?_
  refine ops_y hH2 rfl rfl (yv_assign rfl) ?_
  refine ops_nil ?_
  refine thn_n ?_
  by_cases hc3 : (S.checkJobs js) = 0
  · skip
    refine cond_f rfl (not_decide_n hc3) ?_
    refine seq ?_
    refine region ?_
    refine ops_y hH2 rfl rfl (yv_move rfl) ?_
    refine ops_y hH2 rfl rfl (yv_len T.sl23 rfl (h1.now hH2 (n := 0) rfl).is) ?_
    refine ops_y hH2 rfl rfl (yv_move rfl) ?_
    refine ops_y hH2 rfl rfl (yv_len T.sl22 rfl (h0.now hH2 (n := 0) rfl).is) ?_
    refine ops_y hH2 rfl rfl (yv_neq rfl rfl) ?_
    refine ops_y hH2 rfl rfl (yv_assign rfl) ?_
    refine ops_nil ?_
    refine thn_n ?_
    by_cases hc4 : (ps.length : Int) = (js.length : Int)
    · skip
      refine cond_f rfl (not_decide_n hc4) ?_
      refine seq ?_
      refine region ?_
      refine ops_y hH2 rfl rfl (yv_move rfl) ?_
      refine ops_y hH2 rfl rfl (yv_move rfl) ?_
      refine op_fnV rfl rfl rfl hH2 (c57 (h1.now hH2 (n := 0) rfl) hn2) (fun w5 hH6 => ?_)
      refine ops_y hH6 rfl rfl (yv_assign rfl) ?_
      refine ops_nil ?_
      refine thn_n ?_
      by_cases hc7 : has (fun x : S.Pr => !decide (S.okTime x)) ps = true
      · skip
        have hT := odd_time ‹_›
        refine cond_t rfl hc7 ?_
        refine seq ?_
        refine region ?_
        refine ops_y hH6 rfl rfl (yv_assign rfl) ?_
        refine ops_y hH6 rfl rfl (yv_assign rfl) ?_
        refine ops_nil ?_
        refine thn_n ?_
        refine ret ?_
        refine blk_r ?_
        refine thn_r ?_
        refine fin hH6 (fun w' hf => (res2 rfl (show RV _ _ _ (.tmp 4) _ from rfl) (show RV _ _ _ (.tmp 5) _ from rfl))) (fun w' hf => ?_)
        first | (have hk2 : k = 2 * js.length := by omega
                 have hR := S.right_of_not_bad hj (ps := ps) (fun i hi => hall i (by omega))
                 subst hk2
                 exact tup2 (S.cp5 hc0 (by omega) hT hR)) | first | exact tup2 (S.cp1 (by assumption)) | exact tup2 (S.cp2 (by assumption) (by omega)) | exact tup2 (S.cp3 (by assumption) (by omega) (by assumption)) | exact tup2 (S.cp4 (by assumption) (by omega) (by assumption) (by assumption)) | exact tup2 (S.cp5 (by assumption) (by omega) (by assumption) (by assumption))
      · skip
        have hT := not_odd_time ‹_›
        have hc0 : S.checkJobs js = 0 := by omega
        have hj := S.checkJobs_iff.1 hc0
        have hl8 := hj.2.1
        refine cond_f rfl (Bool.eq_false_iff.2 hc7) ?_
        refine skip ?_
        refine blk_n ?_
        refine thn_n ?_
        refine seq ?_
        refine region ?_
        refine ops_y hH6 rfl rfl (yv_assign rfl) ?_
        refine ops_nil ?_
        refine thn_n ?_
        refine seq ?_
        refine seq ?_
        refine region ?_
        refine ops_y hH6 rfl rfl (yv_move rfl) ?_
        refine ops_y hH6 rfl rfl (yv_len T.sl22 rfl (h0.now hH6 (n := 0) rfl).is) ?_
        refine ops_y hH6 rfl rfl (yv_mul rfl rfl (by omega)) ?_
        refine ops_y hH6 rfl rfl (yv_move rfl) ?_
        refine ops_nil ?_
        refine thn_n ?_
        refine block ?_
        refine loop (S := Nat) (fun k => [(31, (.int .i64 (k : Int))), (8, (.int .i64 (S.endTo js ps k))), (0, v), (1, u), (30, (.int .i64 (2 * (js.length : Int))))]) (fun k w1 => Heap [base w] w1 ∧ k ≤ 2 * js.length ∧ ∀ i, i < k → ∀ j, j < 2 * js.length → ¬ S.bad js ps (i : Int) (j : Int)) (fun k => 2 * js.length - k) (0) (Sub.cons rfl (Sub.cons rfl (Sub.cons rfl (Sub.cons rfl (Sub.cons rfl (Sub.nil _)))))) ?_ ?_
        · exact ⟨hH6, by omega, S.all_zero⟩
        · rintro k w8 ⟨hH9, hk, hall⟩
          show Holds _ _ _ _ _ [(31, (.int .i64 (k : Int))), (8, (.int .i64 (S.endTo js ps k))), (0, v), (1, u), (30, (.int .i64 (2 * (js.length : Int))))] _ _
          refine seq ?_
          refine region ?_
          refine ops_y hH9 rfl rfl (yv_lss rfl rfl) ?_
          refine ops_nil ?_
          refine thn_n ?_
          refine seq ?_
          by_cases hc10 : (k : Int) < (2 * (js.length : Int))
          · skip
            refine cond_t rfl (decide_eq_true hc10) ?_
            refine skip ?_
            refine thn_n ?_
            refine seq ?_
            refine block ?_
            refine seq ?_
            refine region ?_
            refine ops_y hH9 rfl rfl (yv_move rfl) ?_
            refine ops_y hH9 rfl rfl (yv_assign rfl) ?_
            refine ops_nil ?_
            refine thn_n ?_
            refine seq ?_
            have hb1 := hj.at2 (w := (k : Int)) (by omega) (by omega)
            have hb2 := hT.at2 (w := (k : Int)) (by omega) (by omega)
            have hb3 := S.endTo_bd hj hT (by omega) k (by omega)
            refine region ?_
            refine ops_y hH9 rfl rfl (yv_move rfl) ?_
            refine ops_y hH9 rfl rfl (yv_move rfl) ?_
            refine op_fnV rfl rfl rfl hH9 (c58 (h1.now hH9 (n := 0) rfl) (by omega) (by omega) (by omega)) (fun w11 hH12 => ?_)
            refine ops_y hH12 rfl rfl (yv_move rfl) ?_
            refine ops_y hH12 rfl rfl (yv_move rfl) ?_
            refine op_fnV rfl rfl rfl hH12 (c59 (h0.now hH12 (n := 0) rfl) (by omega) (by omega) (by omega)) (fun w13 hH14 => ?_)
            refine ops_y hH14 rfl rfl (yv_add rfl rfl (by omega)) ?_
            refine ops_y hH14 rfl rfl (yv_assign rfl) ?_
            refine ops_nil ?_
            refine thn_n ?_
            refine seq ?_
            refine region ?_
            refine ops_y hH14 rfl rfl (yv_move rfl) ?_
            refine ops_y hH14 rfl rfl (yv_move rfl) ?_
            refine ops_y hH14 rfl rfl (yv_max rfl rfl) ?_
            refine ops_y hH14 rfl rfl (yv_assign rfl) ?_
            refine ops_nil ?_
            refine thn_n ?_
            refine seq ?_
            refine region ?_
            refine ops_y hH14 rfl rfl (yv_move rfl) ?_
            refine ops_y hH14 rfl rfl (yv_len T.sl22 rfl (h0.now hH14 (n := 0) rfl).is) ?_
            refine ops_y hH14 rfl rfl (yv_mul rfl rfl (by omega)) ?_
            refine ops_y hH14 rfl rfl (yv_move rfl) ?_
            refine ops_nil ?_
            refine thn_n ?_
            refine block ?_
            refine loop (S := Nat) (fun j => [(47, (.int .i64 (j : Int))), (0, v), (1, u), (8, (.int .i64 (max (S.endTo js ps k) ((S.at2 ps (k : Int)) + (S.at2 js (k : Int)))))), (9, (.int .i64 (k : Int))), (10, (.int .i64 ((S.at2 ps (k : Int)) + (S.at2 js (k : Int))))), (30, (.int .i64 (2 * (js.length : Int)))), (31, (.int .i64 (k : Int))), (46, (.int .i64 (2 * (js.length : Int))))]) (fun j w1 => Heap [base w] w1 ∧ j ≤ 2 * js.length ∧ ∀ i, i < j → ¬ S.bad js ps (k : Int) (i : Int)) (fun j => 2 * js.length - j) (0) (Sub.cons rfl (Sub.cons rfl (Sub.cons rfl (Sub.cons rfl (Sub.cons rfl (Sub.cons rfl (Sub.cons rfl (Sub.cons rfl (Sub.cons rfl (Sub.nil _)))))))))) ?_ ?_
            · exact ⟨hH14, by omega, S.all_zero⟩
            · rintro j w15 ⟨hH16, hj2, hall2⟩
              show Holds _ _ _ _ _ [(47, (.int .i64 (j : Int))), (0, v), (1, u), (8, (.int .i64 (max (S.endTo js ps k) ((S.at2 ps (k : Int)) + (S.at2 js (k : Int)))))), (9, (.int .i64 (k : Int))), (10, (.int .i64 ((S.at2 ps (k : Int)) + (S.at2 js (k : Int))))), (30, (.int .i64 (2 * (js.length : Int)))), (31, (.int .i64 (k : Int))), (46, (.int .i64 (2 * (js.length : Int))))] _ _
              refine seq ?_
              refine region ?_
              refine ops_y hH16 rfl rfl (yv_lss rfl rfl) ?_
              refine ops_nil ?_
              refine thn_n ?_
              refine seq ?_
              by_cases hc17 : (j : Int) < (2 * (js.length : Int))
              · skip
                refine cond_t rfl (decide_eq_true hc17) ?_
                refine skip ?_
                refine thn_n ?_
                refine seq ?_
                refine block ?_
                refine seq ?_
                refine region ?_
                refine ops_y hH16 rfl rfl (yv_move rfl) ?_
                refine ops_y hH16 rfl rfl (yv_assign rfl) ?_
                refine ops_nil ?_
                refine thn_n ?_
                refine seq ?_
                refine region ?_
                refine ops_y hH16 rfl rfl (yv_move rfl) ?_
                refine ops_y hH16 rfl rfl (yv_move rfl) ?_
                refine ops_y hH16 rfl rfl (yv_neq rfl rfl) ?_
                refine ops_y hH16 rfl rfl (yv_move rfl) ?_
                by_cases hc18 : (j : Int) = (k : Int)
                · skip
                  refine guard_no rfl rfl (not_decide_n hc18) rfl ?_
                  refine guard_no rfl rfl (not_decide_n hc18) rfl ?_
                  refine guard_no rfl rfl (not_decide_n hc18) rfl ?_
                  refine guard_no rfl rfl (not_decide_n hc18) rfl ?_
                  refine guard_no rfl rfl (not_decide_n hc18) rfl ?_
                  refine guard_no rfl rfl (not_decide_n hc18) rfl ?_
                  refine guard_none rfl rfl rfl ?_
                  refine guard_none rfl rfl rfl ?_
                  refine guard_none rfl rfl rfl ?_
                  refine guard_none rfl rfl rfl ?_
                  refine guard_none rfl rfl rfl ?_
                  refine guard_no rfl rfl (not_decide_n hc18) rfl ?_
                  refine ops_y hH16 rfl rfl (yv_pick_f rfl (not_decide_n hc18) rfl) ?_
                  refine ops_y hH16 rfl rfl (yv_move rfl) ?_
                  refine guard_no rfl rfl rfl rfl ?_
                  refine guard_no rfl rfl rfl rfl ?_
                  refine guard_no rfl rfl rfl rfl ?_
                  refine guard_no rfl rfl rfl rfl ?_
                  refine guard_no rfl rfl rfl rfl ?_
                  refine guard_no rfl rfl rfl rfl ?_
                  refine guard_no rfl rfl rfl rfl ?_
                  refine ops_y hH16 rfl rfl (yv_pick_f rfl rfl rfl) ?_
                  refine ops_y hH16 rfl rfl (yv_move rfl) ?_
                  refine guard_no rfl rfl rfl rfl ?_
                  refine guard_no rfl rfl rfl rfl ?_
                  refine guard_no rfl rfl rfl rfl ?_
                  refine guard_no rfl rfl rfl rfl ?_
                  refine guard_no rfl rfl rfl rfl ?_
                  refine ops_y hH16 rfl rfl (yv_pick_f rfl rfl rfl) ?_
                  refine ops_nil ?_
                  refine thn_n ?_
                  refine cond_f rfl rfl ?_
                  refine skip ?_
                  refine blk_n ?_
                  refine thn_n ?_
                  refine region ?_
                  refine ops_y hH16 rfl rfl (yv_add rfl rfl (by omega)) ?_
                  refine ops_y hH16 rfl rfl (yv_move rfl) ?_
                  refine ops_nil ?_
                  refine lp_n (j + 1) (Sub.cons rfl (Sub.cons rfl (Sub.cons rfl (Sub.cons rfl (Sub.cons rfl (Sub.cons rfl (Sub.cons rfl (Sub.cons rfl (Sub.cons rfl (Sub.nil _)))))))))) ?_ ?_
                  · exact ⟨hH16, by omega, S.all_snoc hall2 (by unfold S.bad; omega)⟩
                  · first | (dsimp only; omega) | (show _ < _; omega)
                · skip
                  refine guard_yes rfl rfl (not_decide_t hc18) ?_
                  refine ops_y hH16 rfl rfl (yv_move rfl) ?_
                  refine guard_yes rfl rfl (not_decide_t hc18) ?_
                  refine ops_y hH16 rfl rfl (yv_quo rfl rfl (by omega) (by omega) (by omega)) ?_
                  refine guard_yes rfl rfl (not_decide_t hc18) ?_
                  refine ops_y hH16 rfl rfl (yv_move rfl) ?_
                  refine guard_yes rfl rfl (not_decide_t hc18) ?_
                  refine ops_y hH16 rfl rfl (yv_quo rfl rfl (by omega) (by omega) (by omega)) ?_
                  refine guard_yes rfl rfl (not_decide_t hc18) ?_
                  refine ops_y hH16 rfl rfl (yv_eql rfl rfl) ?_
                  refine guard_yes rfl rfl (not_decide_t hc18) ?_
                  refine ops_y hH16 rfl rfl (yv_move rfl) ?_
                  by_cases hc19 : ((j : Int) / 2) = ((k : Int) / 2)
                  · skip
                    refine guard_no rfl rfl (decide_eq_true hc19) rfl ?_
                    refine guard_no rfl rfl (decide_eq_true hc19) rfl ?_
                    refine guard_no rfl rfl (decide_eq_true hc19) rfl ?_
                    refine guard_no rfl rfl (decide_eq_true hc19) rfl ?_
                    refine guard_no rfl rfl (decide_eq_true hc19) rfl ?_
                    refine guard_yes rfl rfl (not_decide_t hc18) ?_
                    refine ops_y hH16 rfl rfl (yv_pick_t rfl (decide_eq_true hc19) rfl) ?_
                    refine ops_y hH16 rfl rfl (yv_pick_t rfl (not_decide_t hc18) rfl) ?_
                    refine ops_y hH16 rfl rfl (yv_move rfl) ?_
                    refine guard_yes rfl rfl rfl ?_
                    refine ops_y hH16 rfl rfl (yv_move rfl) ?_
                    refine guard_yes rfl rfl rfl ?_
                    refine ops_y hH16 rfl rfl (yv_move rfl) ?_
                    refine guard_yes rfl rfl rfl ?_
                    refine op_fnV rfl rfl rfl hH16 (c58 (h1.now hH16 (n := 0) rfl) (by omega) (by omega) (by omega)) (fun w20 hH21 => ?_)
                    refine guard_yes rfl rfl rfl ?_
                    refine ops_y hH21 rfl rfl (yv_move rfl) ?_
                    refine guard_yes rfl rfl rfl ?_
                    refine ops_y hH21 rfl rfl (yv_move rfl) ?_
                    refine guard_yes rfl rfl rfl ?_
                    refine op_fnV rfl rfl rfl hH21 (c58 (h1.now hH21 (n := 0) rfl) (by omega) (by omega) (by omega)) (fun w22 hH23 => ?_)
                    refine guard_yes rfl rfl rfl ?_
                    refine ops_y hH23 rfl rfl (yv_geq rfl rfl) ?_
                    refine ops_y hH23 rfl rfl (yv_pick_t rfl rfl rfl) ?_
                    refine ops_y hH23 rfl rfl (yv_move rfl) ?_
                    by_cases hc24 : (S.at2 ps (k : Int)) ≤ (S.at2 ps (j : Int))
                    · skip
                      refine guard_yes rfl rfl (decide_eq_true hc24) ?_
                      refine ops_y hH23 rfl rfl (yv_move rfl) ?_
                      refine guard_yes rfl rfl (decide_eq_true hc24) ?_
                      refine ops_y hH23 rfl rfl (yv_move rfl) ?_
                      refine guard_yes rfl rfl (decide_eq_true hc24) ?_
                      refine op_fnV rfl rfl rfl hH23 (c58 (h1.now hH23 (n := 0) rfl) (by omega) (by omega) (by omega)) (fun w25 hH26 => ?_)
                      refine guard_yes rfl rfl (decide_eq_true hc24) ?_
                      refine ops_y hH26 rfl rfl (yv_move rfl) ?_
                      refine guard_yes rfl rfl (decide_eq_true hc24) ?_
                      refine ops_y hH26 rfl rfl (yv_lss rfl rfl) ?_
                      refine ops_y hH26 rfl rfl (yv_pick_t rfl (decide_eq_true hc24) rfl) ?_
                      refine ops_nil ?_
                      refine thn_n ?_
                      by_cases hc27 : (S.at2 ps (j : Int)) < ((S.at2 ps (k : Int)) + (S.at2 js (k : Int)))
                      · skip
                        have hbad : S.bad js ps (k : Int) (j : Int) := by unfold S.bad; omega
                        have hR := S.not_right_of_bad hj (by omega) (by omega) hbad
                        refine cond_t rfl (decide_eq_true hc27) ?_
                        refine seq ?_
                        refine region ?_
                        refine ops_y hH26 rfl rfl (yv_assign rfl) ?_
                        refine ops_y hH26 rfl rfl (yv_assign rfl) ?_
                        refine ops_nil ?_
                        refine thn_n ?_
                        refine ret ?_
                        refine blk_r ?_
                        refine thn_r ?_
                        refine lp_r ?_
                        refine blk_r ?_
                        refine blk_r ?_
                        refine thn_r ?_
                        refine lp_r ?_
                        refine blk_r ?_
                        refine thn_r ?_
                        refine fin hH26 (fun w' hf => (res2 rfl (show RV _ _ _ (.tmp 4) _ from rfl) (show RV _ _ _ (.tmp 5) _ from rfl))) (fun w' hf => ?_)
                        first | (have hk2 : k = 2 * js.length := by omega
                                 have hR := S.right_of_not_bad hj (ps := ps) (fun i hi => hall i (by omega))
                                 subst hk2
                                 exact tup2 (S.cp5 hc0 (by omega) hT hR)) | first | exact tup2 (S.cp1 (by assumption)) | exact tup2 (S.cp2 (by assumption) (by omega)) | exact tup2 (S.cp3 (by assumption) (by omega) (by assumption)) | exact tup2 (S.cp4 (by assumption) (by omega) (by assumption) (by assumption)) | exact tup2 (S.cp5 (by assumption) (by omega) (by assumption) (by assumption))
                      · skip
                        refine cond_f rfl (decide_eq_false hc27) ?_
                        refine skip ?_
                        refine blk_n ?_
                        refine thn_n ?_
                        refine region ?_
                        refine ops_y hH26 rfl rfl (yv_add rfl rfl (by omega)) ?_
                        refine ops_y hH26 rfl rfl (yv_move rfl) ?_
                        refine ops_nil ?_
                        refine lp_n (j + 1) (Sub.cons rfl (Sub.cons rfl (Sub.cons rfl (Sub.cons rfl (Sub.cons rfl (Sub.cons rfl (Sub.cons rfl (Sub.cons rfl (Sub.cons rfl (Sub.nil _)))))))))) ?_ ?_
                        · exact ⟨hH26, by omega, S.all_snoc hall2 (by unfold S.bad; omega)⟩
                        · first | (dsimp only; omega) | (show _ < _; omega)
                    · skip
                      refine guard_no rfl rfl (decide_eq_false hc24) rfl ?_
                      refine guard_no rfl rfl (decide_eq_false hc24) rfl ?_
                      refine guard_no rfl rfl (decide_eq_false hc24) rfl ?_
                      refine guard_no rfl rfl (decide_eq_false hc24) rfl ?_
                      refine guard_no rfl rfl (decide_eq_false hc24) rfl ?_
                      refine ops_y hH23 rfl rfl (yv_pick_f rfl (decide_eq_false hc24) rfl) ?_
                      refine ops_nil ?_
                      refine thn_n ?_
                      refine cond_f rfl rfl ?_
                      refine skip ?_
                      refine blk_n ?_
                      refine thn_n ?_
                      refine region ?_
                      refine ops_y hH23 rfl rfl (yv_add rfl rfl (by omega)) ?_
                      refine ops_y hH23 rfl rfl (yv_move rfl) ?_
                      refine ops_nil ?_
                      refine lp_n (j + 1) (Sub.cons rfl (Sub.cons rfl (Sub.cons rfl (Sub.cons rfl (Sub.cons rfl (Sub.cons rfl (Sub.cons rfl (Sub.cons rfl (Sub.cons rfl (Sub.nil _)))))))))) ?_ ?_
                      · exact ⟨hH23, by omega, S.all_snoc hall2 (by unfold S.bad; omega)⟩
                      · first | (dsimp only; omega) | (show _ < _; omega)
                  · skip
                    refine guard_yes rfl rfl (decide_eq_false hc19) ?_
                    refine ops_y hH16 rfl rfl (yv_move rfl) ?_
                    refine guard_yes rfl rfl (decide_eq_false hc19) ?_
                    refine ops_y hH16 rfl rfl (yv_rem rfl rfl (by omega) (by omega)) ?_
                    refine guard_yes rfl rfl (decide_eq_false hc19) ?_
                    refine ops_y hH16 rfl rfl (yv_move rfl) ?_
                    refine guard_yes rfl rfl (decide_eq_false hc19) ?_
                    refine ops_y hH16 rfl rfl (yv_rem rfl rfl (by omega) (by omega)) ?_
                    refine guard_yes rfl rfl (decide_eq_false hc19) ?_
                    refine ops_y hH16 rfl rfl (yv_eql rfl rfl) ?_
                    refine guard_yes rfl rfl (not_decide_t hc18) ?_
                    refine ops_y hH16 rfl rfl (yv_pick_f rfl (decide_eq_false hc19) rfl) ?_
                    refine ops_y hH16 rfl rfl (yv_pick_t rfl (not_decide_t hc18) rfl) ?_
                    refine ops_y hH16 rfl rfl (yv_move rfl) ?_
                    by_cases hc28 : ((j : Int) % 2) = ((k : Int) % 2)
                    · skip
                      refine guard_yes rfl rfl (decide_eq_true hc28) ?_
                      refine ops_y hH16 rfl rfl (yv_move rfl) ?_
                      refine guard_yes rfl rfl (decide_eq_true hc28) ?_
                      refine ops_y hH16 rfl rfl (yv_move rfl) ?_
                      refine guard_yes rfl rfl (decide_eq_true hc28) ?_
                      refine op_fnV rfl rfl rfl hH16 (c58 (h1.now hH16 (n := 0) rfl) (by omega) (by omega) (by omega)) (fun w29 hH30 => ?_)
                      refine guard_yes rfl rfl (decide_eq_true hc28) ?_
                      refine ops_y hH30 rfl rfl (yv_move rfl) ?_
                      refine guard_yes rfl rfl (decide_eq_true hc28) ?_
                      refine ops_y hH30 rfl rfl (yv_move rfl) ?_
                      refine guard_yes rfl rfl (decide_eq_true hc28) ?_
                      refine op_fnV rfl rfl rfl hH30 (c58 (h1.now hH30 (n := 0) rfl) (by omega) (by omega) (by omega)) (fun w31 hH32 => ?_)
                      refine guard_yes rfl rfl (decide_eq_true hc28) ?_
                      refine ops_y hH32 rfl rfl (yv_geq rfl rfl) ?_
                      refine ops_y hH32 rfl rfl (yv_pick_t rfl (decide_eq_true hc28) rfl) ?_
                      refine ops_y hH32 rfl rfl (yv_move rfl) ?_
                      by_cases hc33 : (S.at2 ps (k : Int)) ≤ (S.at2 ps (j : Int))
                      · skip
                        refine guard_yes rfl rfl (decide_eq_true hc33) ?_
                        refine ops_y hH32 rfl rfl (yv_move rfl) ?_
                        refine guard_yes rfl rfl (decide_eq_true hc33) ?_
                        refine ops_y hH32 rfl rfl (yv_move rfl) ?_
                        refine guard_yes rfl rfl (decide_eq_true hc33) ?_
                        refine op_fnV rfl rfl rfl hH32 (c58 (h1.now hH32 (n := 0) rfl) (by omega) (by omega) (by omega)) (fun w34 hH35 => ?_)
                        refine guard_yes rfl rfl (decide_eq_true hc33) ?_
                        refine ops_y hH35 rfl rfl (yv_move rfl) ?_
                        refine guard_yes rfl rfl (decide_eq_true hc33) ?_
                        refine ops_y hH35 rfl rfl (yv_lss rfl rfl) ?_
                        refine ops_y hH35 rfl rfl (yv_pick_t rfl (decide_eq_true hc33) rfl) ?_
                        refine ops_nil ?_
                        refine thn_n ?_
                        by_cases hc36 : (S.at2 ps (j : Int)) < ((S.at2 ps (k : Int)) + (S.at2 js (k : Int)))
                        · skip
                          have hbad : S.bad js ps (k : Int) (j : Int) := by unfold S.bad; omega
                          have hR := S.not_right_of_bad hj (by omega) (by omega) hbad
                          refine cond_t rfl (decide_eq_true hc36) ?_
                          refine seq ?_
                          refine region ?_
                          refine ops_y hH35 rfl rfl (yv_assign rfl) ?_
                          refine ops_y hH35 rfl rfl (yv_assign rfl) ?_
                          refine ops_nil ?_
                          refine thn_n ?_
                          refine ret ?_
                          refine blk_r ?_
                          refine thn_r ?_
                          refine lp_r ?_
                          refine blk_r ?_
                          refine blk_r ?_
                          refine thn_r ?_
                          refine lp_r ?_
                          refine blk_r ?_
                          refine thn_r ?_
                          refine fin hH35 (fun w' hf => (res2 rfl (show RV _ _ _ (.tmp 4) _ from rfl) (show RV _ _ _ (.tmp 5) _ from rfl))) (fun w' hf => ?_)
                          first | (have hk2 : k = 2 * js.length := by omega
                                   have hR := S.right_of_not_bad hj (ps := ps) (fun i hi => hall i (by omega))
                                   subst hk2
                                   exact tup2 (S.cp5 hc0 (by omega) hT hR)) | first | exact tup2 (S.cp1 (by assumption)) | exact tup2 (S.cp2 (by assumption) (by omega)) | exact tup2 (S.cp3 (by assumption) (by omega) (by assumption)) | exact tup2 (S.cp4 (by assumption) (by omega) (by assumption) (by assumption)) | exact tup2 (S.cp5 (by assumption) (by omega) (by assumption) (by assumption))
                        · skip
                          refine cond_f rfl (decide_eq_false hc36) ?_
                          refine skip ?_
                          refine blk_n ?_
                          refine thn_n ?_
                          refine region ?_
                          refine ops_y hH35 rfl rfl (yv_add rfl rfl (by omega)) ?_
                          refine ops_y hH35 rfl rfl (yv_move rfl) ?_
                          refine ops_nil ?_
                          refine lp_n (j + 1) (Sub.cons rfl (Sub.cons rfl (Sub.cons rfl (Sub.cons rfl (Sub.cons rfl (Sub.cons rfl (Sub.cons rfl (Sub.cons rfl (Sub.cons rfl (Sub.nil _)))))))))) ?_ ?_
                          · exact ⟨hH35, by omega, S.all_snoc hall2 (by unfold S.bad; omega)⟩
                          · first | (dsimp only; omega) | (show _ < _; omega)
                      · skip
                        refine guard_no rfl rfl (decide_eq_false hc33) rfl ?_
                        refine guard_no rfl rfl (decide_eq_false hc33) rfl ?_
                        refine guard_no rfl rfl (decide_eq_false hc33) rfl ?_
                        refine guard_no rfl rfl (decide_eq_false hc33) rfl ?_
                        refine guard_no rfl rfl (decide_eq_false hc33) rfl ?_
                        refine ops_y hH32 rfl rfl (yv_pick_f rfl (decide_eq_false hc33) rfl) ?_
                        refine ops_nil ?_
                        refine thn_n ?_
                        refine cond_f rfl rfl ?_
                        refine skip ?_
                        refine blk_n ?_
                        refine thn_n ?_
                        refine region ?_
                        refine ops_y hH32 rfl rfl (yv_add rfl rfl (by omega)) ?_
                        refine ops_y hH32 rfl rfl (yv_move rfl) ?_
                        refine ops_nil ?_
                        refine lp_n (j + 1) (Sub.cons rfl (Sub.cons rfl (Sub.cons rfl (Sub.cons rfl (Sub.cons rfl (Sub.cons rfl (Sub.cons rfl (Sub.cons rfl (Sub.cons rfl (Sub.nil _)))))))))) ?_ ?_
                        · exact ⟨hH32, by omega, S.all_snoc hall2 (by unfold S.bad; omega)⟩
                        · first | (dsimp only; omega) | (show _ < _; omega)
                    · skip
                      refine guard_no rfl rfl (decide_eq_false hc28) rfl ?_
                      refine guard_no rfl rfl (decide_eq_false hc28) rfl ?_
                      refine guard_no rfl rfl (decide_eq_false hc28) rfl ?_
                      refine guard_no rfl rfl (decide_eq_false hc28) rfl ?_
                      refine guard_no rfl rfl (decide_eq_false hc28) rfl ?_
                      refine guard_no rfl rfl (decide_eq_false hc28) rfl ?_
                      refine guard_no rfl rfl (decide_eq_false hc28) rfl ?_
                      refine ops_y hH16 rfl rfl (yv_pick_f rfl (decide_eq_false hc28) rfl) ?_
                      refine ops_y hH16 rfl rfl (yv_move rfl) ?_
                      refine guard_no rfl rfl rfl rfl ?_
                      refine guard_no rfl rfl rfl rfl ?_
                      refine guard_no rfl rfl rfl rfl ?_
                      refine guard_no rfl rfl rfl rfl ?_
                      refine guard_no rfl rfl rfl rfl ?_
                      refine ops_y hH16 rfl rfl (yv_pick_f rfl rfl rfl) ?_
                      refine ops_nil ?_
                      refine thn_n ?_
                      refine cond_f rfl rfl ?_
                      refine skip ?_
                      refine blk_n ?_
                      refine thn_n ?_
                      refine region ?_
                      refine ops_y hH16 rfl rfl (yv_add rfl rfl (by omega)) ?_
                      refine ops_y hH16 rfl rfl (yv_move rfl) ?_
                      refine ops_nil ?_
                      refine lp_n (j + 1) (Sub.cons rfl (Sub.cons rfl (Sub.cons rfl (Sub.cons rfl (Sub.cons rfl (Sub.cons rfl (Sub.cons rfl (Sub.cons rfl (Sub.cons rfl (Sub.nil _)))))))))) ?_ ?_
                      · exact ⟨hH16, by omega, S.all_snoc hall2 (by unfold S.bad; omega)⟩
                      · first | (dsimp only; omega) | (show _ < _; omega)
              · skip
                refine cond_f rfl (decide_eq_false hc17) ?_
                refine exit ?_
                refine thn_x ?_
                refine lp_x ?_
                refine blk_here ?_
                refine blk_n ?_
                refine thn_n ?_
                refine region ?_
                refine ops_y hH16 rfl rfl (yv_add rfl rfl (by omega)) ?_
                refine ops_y hH16 rfl rfl (yv_move rfl) ?_
                refine ops_nil ?_
                refine lp_n (k + 1) (Sub.cons rfl (Sub.cons rfl (Sub.cons rfl (Sub.cons rfl (Sub.cons rfl (Sub.nil _)))))) ?_ ?_
                · exact ⟨hH16, by omega, S.all_snoc hall (fun j hj => hall2 j (by omega))⟩
                · first | (dsimp only; omega) | (show _ < _; omega)
          · skip
            refine cond_f rfl (decide_eq_false hc10) ?_
            refine exit ?_
            refine thn_x ?_
            refine lp_x ?_
            refine blk_here ?_
            refine thn_n ?_
            refine seq ?_
            refine region ?_
            refine ops_y hH9 rfl rfl (yv_move rfl) ?_
            refine ops_y hH9 rfl rfl (yv_assign rfl) ?_
            refine ops_y hH9 rfl rfl (yv_assign rfl) ?_
            refine ops_nil ?_
            refine thn_n ?_
            refine ret ?_
            refine fin hH9 (fun w' hf => (res2 rfl (show RV _ _ _ (.tmp 4) _ from rfl) (show RV _ _ _ (.tmp 5) _ from rfl))) (fun w' hf => ?_)
            first | (have hk2 : k = 2 * js.length := by omega
                     have hR := S.right_of_not_bad hj (ps := ps) (fun i hi => hall i (by omega))
                     subst hk2
                     exact tup2 (S.cp5 hc0 (by omega) hT hR)) | first | exact tup2 (S.cp1 (by assumption)) | exact tup2 (S.cp2 (by assumption) (by omega)) | exact tup2 (S.cp3 (by assumption) (by omega) (by assumption)) | exact tup2 (S.cp4 (by assumption) (by omega) (by assumption) (by assumption)) | exact tup2 (S.cp5 (by assumption) (by omega) (by assumption) (by assumption))
    · skip
      refine cond_t rfl (not_decide_t hc4) ?_
      refine seq ?_
      refine region ?_
      refine ops_y hH2 rfl rfl (yv_assign rfl) ?_
      refine ops_y hH2 rfl rfl (yv_assign rfl) ?_
      refine ops_nil ?_
      refine thn_n ?_
      refine ret ?_
      refine blk_r ?_
      refine thn_r ?_
      refine fin hH2 (fun w' hf => (res2 rfl (show RV _ _ _ (.tmp 4) _ from rfl) (show RV _ _ _ (.tmp 5) _ from rfl))) (fun w' hf => ?_)
      first | (have hk2 : k = 2 * js.length := by omega
               have hR := S.right_of_not_bad hj (ps := ps) (fun i hi => hall i (by omega))
               subst hk2
               exact tup2 (S.cp5 hc0 (by omega) hT hR)) | first | exact tup2 (S.cp1 (by assumption)) | exact tup2 (S.cp2 (by assumption) (by omega)) | exact tup2 (S.cp3 (by assumption) (by omega) (by assumption)) | exact tup2 (S.cp4 (by assumption) (by omega) (by assumption) (by assumption)) | exact tup2 (S.cp5 (by assumption) (by omega) (by assumption) (by assumption))
  · skip
    refine cond_t rfl (not_decide_t hc3) ?_
    refine seq ?_
    refine region ?_
    refine ops_y hH2 rfl rfl (yv_move rfl) ?_
    refine ops_y hH2 rfl rfl (yv_assign rfl) ?_
    refine ops_y hH2 rfl rfl (yv_assign rfl) ?_
    refine ops_nil ?_
    refine thn_n ?_
    refine ret ?_
    refine blk_r ?_
    refine thn_r ?_
    refine fin hH2 (fun w' hf => (res2 rfl (show RV _ _ _ (.tmp 4) _ from rfl) (show RV _ _ _ (.tmp 5) _ from rfl))) (fun w' hf => ?_)
    first | (have hk2 : k = 2 * js.length := by omega
             have hR := S.right_of_not_bad hj (ps := ps) (fun i hi => hall i (by omega))
             subst hk2
             exact tup2 (S.cp5 hc0 (by omega) hT hR)) | first | exact tup2 (S.cp1 (by assumption)) | exact tup2 (S.cp2 (by assumption) (by omega)) | exact tup2 (S.cp3 (by assumption) (by omega) (by assumption)) | exact tup2 (S.cp4 (by assumption) (by omega) (by assumption) (by assumption)) | exact tup2 (S.cp5 (by assumption) (by omega) (by assumption) (by assumption))

theorem c19 {v u : Value} {js ps : List S.Pr} {w : World} (h0 : Rd encP 2 v js w) (h1 : Rd encP 2 u ps w) (hn : js.length ≤ 1000000) (hn2 : ps.length ≤ 1000000)  :
    Fn Try.prog 19 [v, u].toArray w (fun u _ => u = .tuple #[.int .i64 (S.checkPlan js ps).1, .int .i64 (S.checkPlan js ps).2]) := by
  refine fn_of' (args := [v, u]) Try.func19 rfl (ent Try.func19 (by kernel_rfl) rfl) rfl rfl (fun hH => ?_)
  refine seq ?_
  refine region ?_
  refine ops_y hH rfl rfl (yv_assign rfl) ?_
  refine ops_y hH rfl rfl (yv_assign rfl) ?_
  refine ops_nil ?_
  refine thn_n ?_
  refine seq ?_
  refine seq ?_
  refine region ?_
  refine ops_y hH rfl rfl (yv_move rfl) ?_
  refine op_fnV rfl rfl rfl hH (c23 (h0.now hH (n := 0) rfl) (by omega)) (fun w1 hH2 => ?_)
  refine ops_y hH2 rfl rfl (yv_neq rfl rfl) ?_
  refine ops_nil ?_
  refine thn_n ?_
  by_cases hc3 : (S.checkJobs js) = 0
  · skip
    have hc0 : S.checkJobs js = 0 := by omega
    have hj := S.checkJobs_iff.1 hc0
    have hl8 := hj.2.1
    refine cond_f rfl (not_decide_n hc3) ?_
    refine skip ?_
    refine thn_n ?_
    refine seq ?_
    refine seq ?_
    refine region ?_
    refine ops_y hH2 rfl rfl (yv_move rfl) ?_
    refine ops_y hH2 rfl rfl (yv_len T.sl23 rfl (h1.now hH2 (n := 0) rfl).is) ?_
    refine ops_y hH2 rfl rfl (yv_move rfl) ?_
    refine ops_y hH2 rfl rfl (yv_len T.sl22 rfl (h0.now hH2 (n := 0) rfl).is) ?_
    refine ops_y hH2 rfl rfl (yv_neq rfl rfl) ?_
    refine ops_nil ?_
    refine thn_n ?_
    by_cases hc4 : (ps.length : Int) = (js.length : Int)
    · skip
      refine cond_f rfl (not_decide_n hc4) ?_
      refine skip ?_
      refine thn_n ?_
      refine seq ?_
      refine seq ?_
      refine region ?_
      refine ops_y hH2 rfl rfl (yv_assign rfl) ?_
      refine ops_nil ?_
      refine thn_n ?_
      refine block ?_
      refine loop (S := Nat) (fun k => [(6, (.int .i64 (k : Int))), (0, v), (1, u)]) (fun k w1 => Heap [base w] w1 ∧ k ≤ ps.length ∧ ∀ i, i < k → S.okTime (nth ps (i : Int))) (fun k => ps.length - k) (0) (Sub.cons rfl (Sub.cons rfl (Sub.cons rfl (Sub.nil _)))) ?_ ?_
      · exact ⟨hH2, by omega, S.all_zero⟩
      · rintro k w5 ⟨hH6, hk, hall⟩
        show Holds _ _ _ _ _ [(6, (.int .i64 (k : Int))), (0, v), (1, u)] _ _
        refine seq ?_
        refine seq ?_
        refine region ?_
        refine ops_y hH6 rfl rfl (yv_move rfl) ?_
        refine ops_y hH6 rfl rfl (yv_move rfl) ?_
        refine ops_y hH6 rfl rfl (yv_len T.sl23 rfl (h1.now hH6 (n := 0) rfl).is) ?_
        refine ops_y hH6 rfl rfl (yv_lss rfl rfl) ?_
        refine ops_nil ?_
        refine thn_n ?_
        by_cases hc7 : (k : Int) < (ps.length : Int)
        · skip
          refine cond_t rfl (decide_eq_true hc7) ?_
          refine skip ?_
          refine thn_n ?_
          refine seq ?_
          refine block ?_
          refine seq ?_
          refine region ?_
          refine ops_y hH6 rfl rfl (yv_move rfl) ?_
          refine ops_y hH6 rfl rfl (yv_move rfl) ?_
          refine ops_y hH6 rfl rfl (yv_index T.sl23 rfl rfl (h1.now hH6 (n := 0) rfl).is (by omega)) ?_
          refine ops_y hH6 rfl rfl (yv_field T.f73_0 rfl) ?_
          refine ops_y hH6 rfl rfl (yv_load T.one2 rfl (fun _ hw => Rd.at (h1.now hw (n := 0) rfl) (i := (k : Int)) (by omega) (j := 0) rfl)) ?_
          refine ops_y hH6 rfl rfl (yv_lss rfl rfl) ?_
          refine ops_y hH6 rfl rfl (yv_move rfl) ?_
          by_cases hc8 : ((nth ps (k : Int)).1) < 0
          · skip
            have hT : ¬ S.AllT ps := fun h => (show ¬ S.okTime (nth ps (k : Int)) by unfold S.okTime; omega) (h k (by omega))
            refine guard_no rfl rfl (decide_eq_true hc8) rfl ?_
            refine guard_no rfl rfl (decide_eq_true hc8) rfl ?_
            refine guard_no rfl rfl (decide_eq_true hc8) rfl ?_
            refine guard_no rfl rfl (decide_eq_true hc8) rfl ?_
            refine guard_no rfl rfl (decide_eq_true hc8) rfl ?_
            refine guard_no rfl rfl (decide_eq_true hc8) rfl ?_
            refine ops_y hH6 rfl rfl (yv_pick_t rfl (decide_eq_true hc8) rfl) ?_
            refine ops_y hH6 rfl rfl (yv_move rfl) ?_
            refine guard_no rfl rfl rfl rfl ?_
            refine guard_no rfl rfl rfl rfl ?_
            refine guard_no rfl rfl rfl rfl ?_
            refine guard_no rfl rfl rfl rfl ?_
            refine guard_no rfl rfl rfl rfl ?_
            refine guard_no rfl rfl rfl rfl ?_
            refine ops_y hH6 rfl rfl (yv_pick_t rfl rfl rfl) ?_
            refine ops_y hH6 rfl rfl (yv_move rfl) ?_
            refine guard_no rfl rfl rfl rfl ?_
            refine guard_no rfl rfl rfl rfl ?_
            refine guard_no rfl rfl rfl rfl ?_
            refine guard_no rfl rfl rfl rfl ?_
            refine guard_no rfl rfl rfl rfl ?_
            refine guard_no rfl rfl rfl rfl ?_
            refine ops_y hH6 rfl rfl (yv_pick_t rfl rfl rfl) ?_
            refine ops_nil ?_
            refine thn_n ?_
            refine cond_t rfl rfl ?_
            refine seq ?_
            refine region ?_
            refine ops_y hH6 rfl rfl (yv_assign rfl) ?_
            refine ops_y hH6 rfl rfl (yv_assign rfl) ?_
            refine ops_nil ?_
            refine thn_n ?_
            refine ret ?_
            refine blk_r ?_
            refine thn_r ?_
            refine lp_r ?_
            refine blk_r ?_
            refine thn_r ?_
            refine fin hH6 (fun w' hf => (res2 rfl (show RV _ _ _ (.tmp 4) _ from rfl) (show RV _ _ _ (.tmp 5) _ from rfl))) (fun w' hf => ?_)
            first | exact tup2 (S.cp1 (by assumption)) | exact tup2 (S.cp2 (by assumption) (by omega)) | exact tup2 (S.cp3 (by assumption) (by omega) (by assumption)) | exact tup2 (S.cp4 (by assumption) (by omega) (by assumption) (by assumption)) | exact tup2 (S.cp5 (by assumption) (by omega) (by assumption) (by assumption))
          · skip
            refine guard_yes rfl rfl (decide_eq_false hc8) ?_
            refine ops_y hH6 rfl rfl (yv_move rfl) ?_
            refine guard_yes rfl rfl (decide_eq_false hc8) ?_
            refine ops_y hH6 rfl rfl (yv_move rfl) ?_
            refine guard_yes rfl rfl (decide_eq_false hc8) ?_
            refine ops_y hH6 rfl rfl (yv_index T.sl23 rfl rfl (h1.now hH6 (n := 0) rfl).is (by omega)) ?_
            refine guard_yes rfl rfl (decide_eq_false hc8) ?_
            refine ops_y hH6 rfl rfl (yv_field T.f73_0 rfl) ?_
            refine guard_yes rfl rfl (decide_eq_false hc8) ?_
            refine ops_y hH6 rfl rfl (yv_load T.one2 rfl (fun _ hw => Rd.at (h1.now hw (n := 0) rfl) (i := (k : Int)) (by omega) (j := 0) rfl)) ?_
            refine guard_yes rfl rfl (decide_eq_false hc8) ?_
            refine ops_y hH6 rfl rfl (yv_gtr rfl rfl) ?_
            refine ops_y hH6 rfl rfl (yv_pick_f rfl (decide_eq_false hc8) rfl) ?_
            refine ops_y hH6 rfl rfl (yv_move rfl) ?_
            by_cases hc9 : 100000 < ((nth ps (k : Int)).1)
            · skip
              have hT : ¬ S.AllT ps := fun h => (show ¬ S.okTime (nth ps (k : Int)) by unfold S.okTime; omega) (h k (by omega))
              refine guard_no rfl rfl (decide_eq_true hc9) rfl ?_
              refine guard_no rfl rfl (decide_eq_true hc9) rfl ?_
              refine guard_no rfl rfl (decide_eq_true hc9) rfl ?_
              refine guard_no rfl rfl (decide_eq_true hc9) rfl ?_
              refine guard_no rfl rfl (decide_eq_true hc9) rfl ?_
              refine guard_no rfl rfl (decide_eq_true hc9) rfl ?_
              refine ops_y hH6 rfl rfl (yv_pick_t rfl (decide_eq_true hc9) rfl) ?_
              refine ops_y hH6 rfl rfl (yv_move rfl) ?_
              refine guard_no rfl rfl rfl rfl ?_
              refine guard_no rfl rfl rfl rfl ?_
              refine guard_no rfl rfl rfl rfl ?_
              refine guard_no rfl rfl rfl rfl ?_
              refine guard_no rfl rfl rfl rfl ?_
              refine guard_no rfl rfl rfl rfl ?_
              refine ops_y hH6 rfl rfl (yv_pick_t rfl rfl rfl) ?_
              refine ops_nil ?_
              refine thn_n ?_
              refine cond_t rfl rfl ?_
              refine seq ?_
              refine region ?_
              refine ops_y hH6 rfl rfl (yv_assign rfl) ?_
              refine ops_y hH6 rfl rfl (yv_assign rfl) ?_
              refine ops_nil ?_
              refine thn_n ?_
              refine ret ?_
              refine blk_r ?_
              refine thn_r ?_
              refine lp_r ?_
              refine blk_r ?_
              refine thn_r ?_
              refine fin hH6 (fun w' hf => (res2 rfl (show RV _ _ _ (.tmp 4) _ from rfl) (show RV _ _ _ (.tmp 5) _ from rfl))) (fun w' hf => ?_)
              first | exact tup2 (S.cp1 (by assumption)) | exact tup2 (S.cp2 (by assumption) (by omega)) | exact tup2 (S.cp3 (by assumption) (by omega) (by assumption)) | exact tup2 (S.cp4 (by assumption) (by omega) (by assumption) (by assumption)) | exact tup2 (S.cp5 (by assumption) (by omega) (by assumption) (by assumption))
            · skip
              refine guard_yes rfl rfl (decide_eq_false hc9) ?_
              refine ops_y hH6 rfl rfl (yv_move rfl) ?_
              refine guard_yes rfl rfl (decide_eq_false hc9) ?_
              refine ops_y hH6 rfl rfl (yv_move rfl) ?_
              refine guard_yes rfl rfl (decide_eq_false hc9) ?_
              refine ops_y hH6 rfl rfl (yv_index T.sl23 rfl rfl (h1.now hH6 (n := 0) rfl).is (by omega)) ?_
              refine guard_yes rfl rfl (decide_eq_false hc9) ?_
              refine ops_y hH6 rfl rfl (yv_field T.f73_1 rfl) ?_
              refine guard_yes rfl rfl (decide_eq_false hc9) ?_
              refine ops_y hH6 rfl rfl (yv_load T.one2 rfl (fun _ hw => Rd.at (h1.now hw (n := 0) rfl) (i := (k : Int)) (by omega) (j := 1) rfl)) ?_
              refine guard_yes rfl rfl (decide_eq_false hc9) ?_
              refine ops_y hH6 rfl rfl (yv_lss rfl rfl) ?_
              refine ops_y hH6 rfl rfl (yv_pick_f rfl (decide_eq_false hc9) rfl) ?_
              refine ops_y hH6 rfl rfl (yv_move rfl) ?_
              by_cases hc10 : ((nth ps (k : Int)).2) < 0
              · skip
                have hT : ¬ S.AllT ps := fun h => (show ¬ S.okTime (nth ps (k : Int)) by unfold S.okTime; omega) (h k (by omega))
                refine guard_no rfl rfl (decide_eq_true hc10) rfl ?_
                refine guard_no rfl rfl (decide_eq_true hc10) rfl ?_
                refine guard_no rfl rfl (decide_eq_true hc10) rfl ?_
                refine guard_no rfl rfl (decide_eq_true hc10) rfl ?_
                refine guard_no rfl rfl (decide_eq_true hc10) rfl ?_
                refine guard_no rfl rfl (decide_eq_true hc10) rfl ?_
                refine ops_y hH6 rfl rfl (yv_pick_t rfl (decide_eq_true hc10) rfl) ?_
                refine ops_nil ?_
                refine thn_n ?_
                refine cond_t rfl rfl ?_
                refine seq ?_
                refine region ?_
                refine ops_y hH6 rfl rfl (yv_assign rfl) ?_
                refine ops_y hH6 rfl rfl (yv_assign rfl) ?_
                refine ops_nil ?_
                refine thn_n ?_
                refine ret ?_
                refine blk_r ?_
                refine thn_r ?_
                refine lp_r ?_
                refine blk_r ?_
                refine thn_r ?_
                refine fin hH6 (fun w' hf => (res2 rfl (show RV _ _ _ (.tmp 4) _ from rfl) (show RV _ _ _ (.tmp 5) _ from rfl))) (fun w' hf => ?_)
                first | exact tup2 (S.cp1 (by assumption)) | exact tup2 (S.cp2 (by assumption) (by omega)) | exact tup2 (S.cp3 (by assumption) (by omega) (by assumption)) | exact tup2 (S.cp4 (by assumption) (by omega) (by assumption) (by assumption)) | exact tup2 (S.cp5 (by assumption) (by omega) (by assumption) (by assumption))
              · skip
                refine guard_yes rfl rfl (decide_eq_false hc10) ?_
                refine ops_y hH6 rfl rfl (yv_move rfl) ?_
                refine guard_yes rfl rfl (decide_eq_false hc10) ?_
                refine ops_y hH6 rfl rfl (yv_move rfl) ?_
                refine guard_yes rfl rfl (decide_eq_false hc10) ?_
                refine ops_y hH6 rfl rfl (yv_index T.sl23 rfl rfl (h1.now hH6 (n := 0) rfl).is (by omega)) ?_
                refine guard_yes rfl rfl (decide_eq_false hc10) ?_
                refine ops_y hH6 rfl rfl (yv_field T.f73_1 rfl) ?_
                refine guard_yes rfl rfl (decide_eq_false hc10) ?_
                refine ops_y hH6 rfl rfl (yv_load T.one2 rfl (fun _ hw => Rd.at (h1.now hw (n := 0) rfl) (i := (k : Int)) (by omega) (j := 1) rfl)) ?_
                refine guard_yes rfl rfl (decide_eq_false hc10) ?_
                refine ops_y hH6 rfl rfl (yv_gtr rfl rfl) ?_
                refine ops_y hH6 rfl rfl (yv_pick_f rfl (decide_eq_false hc10) rfl) ?_
                refine ops_nil ?_
                refine thn_n ?_
                by_cases hc11 : 100000 < ((nth ps (k : Int)).2)
                · skip
                  have hT : ¬ S.AllT ps := fun h => (show ¬ S.okTime (nth ps (k : Int)) by unfold S.okTime; omega) (h k (by omega))
                  refine cond_t rfl (decide_eq_true hc11) ?_
                  refine seq ?_
                  refine region ?_
                  refine ops_y hH6 rfl rfl (yv_assign rfl) ?_
                  refine ops_y hH6 rfl rfl (yv_assign rfl) ?_
                  refine ops_nil ?_
                  refine thn_n ?_
                  refine ret ?_
                  refine blk_r ?_
                  refine thn_r ?_
                  refine lp_r ?_
                  refine blk_r ?_
                  refine thn_r ?_
                  refine fin hH6 (fun w' hf => (res2 rfl (show RV _ _ _ (.tmp 4) _ from rfl) (show RV _ _ _ (.tmp 5) _ from rfl))) (fun w' hf => ?_)
                  first | exact tup2 (S.cp1 (by assumption)) | exact tup2 (S.cp2 (by assumption) (by omega)) | exact tup2 (S.cp3 (by assumption) (by omega) (by assumption)) | exact tup2 (S.cp4 (by assumption) (by omega) (by assumption) (by assumption)) | exact tup2 (S.cp5 (by assumption) (by omega) (by assumption) (by assumption))
                · skip
                  refine cond_f rfl (decide_eq_false hc11) ?_
                  refine skip ?_
                  refine blk_n ?_
                  refine thn_n ?_
                  refine region ?_
                  refine ops_y hH6 rfl rfl (yv_move rfl) ?_
                  refine ops_y hH6 rfl rfl (yv_add rfl rfl (by omega)) ?_
                  refine ops_y hH6 rfl rfl (yv_assign rfl) ?_
                  refine ops_nil ?_
                  refine lp_n (k + 1) (Sub.cons rfl (Sub.cons rfl (Sub.cons rfl (Sub.nil _)))) ?_ ?_
                  · exact ⟨hH6, by omega, S.all_snoc hall (by unfold S.okTime; omega)⟩
                  · first | (dsimp only; omega) | (show _ < _; omega)
        · skip
          have hT : S.AllT ps := fun i hi => hall i (by omega)
          refine cond_f rfl (decide_eq_false hc7) ?_
          refine exit ?_
          refine thn_x ?_
          refine lp_x ?_
          refine blk_here ?_
          refine thn_n ?_
          refine seq ?_
          refine seq ?_
          refine region ?_
          refine ops_y hH6 rfl rfl (yv_assign rfl) ?_
          refine ops_nil ?_
          refine thn_n ?_
          refine block ?_
          refine loop (S := Nat) (fun a => [(7, (.int .i64 (a : Int))), (0, v), (1, u)]) (fun a w1 => Heap [base w] w1 ∧ a ≤ 2 * js.length ∧ ∀ i, i < a → ∀ j, j < i → ¬ S.clash js ps (i : Int) (j : Int)) (fun a => 2 * js.length - a) (0) (Sub.cons rfl (Sub.cons rfl (Sub.cons rfl (Sub.nil _)))) ?_ ?_
          · exact ⟨hH6, by omega, S.all_zero⟩
          · rintro a w12 ⟨hH13, ha, halla⟩
            show Holds _ _ _ _ _ [(7, (.int .i64 (a : Int))), (0, v), (1, u)] _ _
            refine seq ?_
            refine seq ?_
            refine region ?_
            refine ops_y hH13 rfl rfl (yv_move rfl) ?_
            refine ops_y hH13 rfl rfl (yv_move rfl) ?_
            refine ops_y hH13 rfl rfl (yv_len T.sl22 rfl (h0.now hH13 (n := 0) rfl).is) ?_
            refine ops_y hH13 rfl rfl (yv_mul rfl rfl (by omega)) ?_
            refine ops_y hH13 rfl rfl (yv_lss rfl rfl) ?_
            refine ops_nil ?_
            refine thn_n ?_
            by_cases hc14 : (a : Int) < (2 * (js.length : Int))
            · skip
              refine cond_t rfl (decide_eq_true hc14) ?_
              refine skip ?_
              refine thn_n ?_
              refine seq ?_
              refine block ?_
              refine seq ?_
              refine region ?_
              refine ops_y hH13 rfl rfl (yv_assign rfl) ?_
              refine ops_nil ?_
              refine thn_n ?_
              refine block ?_
              refine loop (S := Nat) (fun b => [(8, (.int .i64 (b : Int))), (0, v), (1, u), (7, (.int .i64 (a : Int)))]) (fun b w1 => Heap [base w] w1 ∧ b ≤ a ∧ ∀ i, i < b → ¬ S.clash js ps (a : Int) (i : Int)) (fun b => a - b) (0) (Sub.cons rfl (Sub.cons rfl (Sub.cons rfl (Sub.cons rfl (Sub.nil _))))) ?_ ?_
              · exact ⟨hH13, by omega, S.all_zero⟩
              · rintro b w15 ⟨hH16, hb, hallb⟩
                show Holds _ _ _ _ _ [(8, (.int .i64 (b : Int))), (0, v), (1, u), (7, (.int .i64 (a : Int)))] _ _
                refine seq ?_
                refine seq ?_
                refine region ?_
                refine ops_y hH16 rfl rfl (yv_move rfl) ?_
                refine ops_y hH16 rfl rfl (yv_move rfl) ?_
                refine ops_y hH16 rfl rfl (yv_lss rfl rfl) ?_
                refine ops_nil ?_
                refine thn_n ?_
                by_cases hc17 : (b : Int) < (a : Int)
                · skip
                  refine cond_t rfl (decide_eq_true hc17) ?_
                  refine skip ?_
                  refine thn_n ?_
                  refine seq ?_
                  refine block ?_
                  refine seq ?_
                  refine seq ?_
                  refine region ?_
                  refine ops_y hH16 rfl rfl (yv_move rfl) ?_
                  refine ops_y hH16 rfl rfl (yv_rem rfl rfl (by omega) (by omega)) ?_
                  refine ops_y hH16 rfl rfl (yv_move rfl) ?_
                  refine ops_y hH16 rfl rfl (yv_rem rfl rfl (by omega) (by omega)) ?_
                  refine ops_y hH16 rfl rfl (yv_neq rfl rfl) ?_
                  refine ops_y hH16 rfl rfl (yv_move rfl) ?_
                  by_cases hc18 : ((a : Int) % 2) = ((b : Int) % 2)
                  · skip
                    refine guard_no rfl rfl (not_decide_n hc18) rfl ?_
                    refine guard_no rfl rfl (not_decide_n hc18) rfl ?_
                    refine guard_no rfl rfl (not_decide_n hc18) rfl ?_
                    refine guard_no rfl rfl (not_decide_n hc18) rfl ?_
                    refine guard_no rfl rfl (not_decide_n hc18) rfl ?_
                    refine ops_y hH16 rfl rfl (yv_pick_f rfl (not_decide_n hc18) rfl) ?_
                    refine ops_nil ?_
                    refine thn_n ?_
                    refine cond_f rfl rfl ?_
                    refine skip ?_
                    refine thn_n ?_
                    refine seq ?_
                    have hb1 := hj.at2 (w := (a : Int)) (by omega) (by omega)
                    have hb2 := hT.at2 (w := (a : Int)) (by omega) (by omega)
                    have hb3 := hj.at2 (w := (b : Int)) (by omega) (by omega)
                    have hb4 := hT.at2 (w := (b : Int)) (by omega) (by omega)
                    refine region ?_
                    refine ops_y hH16 rfl rfl (yv_move rfl) ?_
                    refine ops_y hH16 rfl rfl (yv_move rfl) ?_
                    refine op_fnV rfl rfl rfl hH16 (c47 (h1.now hH16 (n := 0) rfl) (by omega) (by omega) (by omega)) (fun w19 hH20 => ?_)
                    refine ops_y hH20 rfl rfl (yv_move rfl) ?_
                    refine ops_y hH20 rfl rfl (yv_move rfl) ?_
                    refine op_fnV rfl rfl rfl hH20 (c47 (h1.now hH20 (n := 0) rfl) (by omega) (by omega) (by omega)) (fun w21 hH22 => ?_)
                    refine ops_y hH22 rfl rfl (yv_move rfl) ?_
                    refine ops_y hH22 rfl rfl (yv_move rfl) ?_
                    refine op_fnV rfl rfl rfl hH22 (c49 (h0.now hH22 (n := 0) rfl) (by omega) (by omega) (by omega)) (fun w23 hH24 => ?_)
                    refine ops_y hH24 rfl rfl (yv_add rfl rfl (by omega)) ?_
                    refine ops_y hH24 rfl rfl (yv_lss rfl rfl) ?_
                    refine ops_y hH24 rfl rfl (yv_move rfl) ?_
                    by_cases hc25 : (S.at2 ps (a : Int)) < ((S.at2 ps (b : Int)) + (S.at2 js (b : Int)))
                    · skip
                      refine guard_yes rfl rfl (decide_eq_true hc25) ?_
                      refine ops_y hH24 rfl rfl (yv_move rfl) ?_
                      refine guard_yes rfl rfl (decide_eq_true hc25) ?_
                      refine ops_y hH24 rfl rfl (yv_move rfl) ?_
                      refine guard_yes rfl rfl (decide_eq_true hc25) ?_
                      refine op_fnV rfl rfl rfl hH24 (c47 (h1.now hH24 (n := 0) rfl) (by omega) (by omega) (by omega)) (fun w26 hH27 => ?_)
                      refine guard_yes rfl rfl (decide_eq_true hc25) ?_
                      refine ops_y hH27 rfl rfl (yv_move rfl) ?_
                      refine guard_yes rfl rfl (decide_eq_true hc25) ?_
                      refine ops_y hH27 rfl rfl (yv_move rfl) ?_
                      refine guard_yes rfl rfl (decide_eq_true hc25) ?_
                      refine op_fnV rfl rfl rfl hH27 (c47 (h1.now hH27 (n := 0) rfl) (by omega) (by omega) (by omega)) (fun w28 hH29 => ?_)
                      refine guard_yes rfl rfl (decide_eq_true hc25) ?_
                      refine ops_y hH29 rfl rfl (yv_move rfl) ?_
                      refine guard_yes rfl rfl (decide_eq_true hc25) ?_
                      refine ops_y hH29 rfl rfl (yv_move rfl) ?_
                      refine guard_yes rfl rfl (decide_eq_true hc25) ?_
                      refine op_fnV rfl rfl rfl hH29 (c49 (h0.now hH29 (n := 0) rfl) (by omega) (by omega) (by omega)) (fun w30 hH31 => ?_)
                      refine guard_yes rfl rfl (decide_eq_true hc25) ?_
                      refine ops_y hH31 rfl rfl (yv_add rfl rfl (by omega)) ?_
                      refine guard_yes rfl rfl (decide_eq_true hc25) ?_
                      refine ops_y hH31 rfl rfl (yv_lss rfl rfl) ?_
                      refine ops_y hH31 rfl rfl (yv_pick_t rfl (decide_eq_true hc25) rfl) ?_
                      refine ops_nil ?_
                      refine thn_n ?_
                      by_cases hc32 : (S.at2 ps (b : Int)) < ((S.at2 ps (a : Int)) + (S.at2 js (a : Int)))
                      · skip
                        have hR : ¬ S.Right js ps := fun h => h a (by omega) b (by omega) (by unfold S.clash; omega)
                        refine cond_t rfl (decide_eq_true hc32) ?_
                        refine seq ?_
                        refine region ?_
                        refine ops_y hH31 rfl rfl (yv_assign rfl) ?_
                        refine ops_y hH31 rfl rfl (yv_assign rfl) ?_
                        refine ops_nil ?_
                        refine thn_n ?_
                        refine ret ?_
                        refine blk_r ?_
                        refine thn_r ?_
                        refine lp_r ?_
                        refine blk_r ?_
                        refine blk_r ?_
                        refine thn_r ?_
                        refine lp_r ?_
                        refine blk_r ?_
                        refine thn_r ?_
                        refine fin hH31 (fun w' hf => (res2 rfl (show RV _ _ _ (.tmp 4) _ from rfl) (show RV _ _ _ (.tmp 5) _ from rfl))) (fun w' hf => ?_)
                        first | exact tup2 (S.cp1 (by assumption)) | exact tup2 (S.cp2 (by assumption) (by omega)) | exact tup2 (S.cp3 (by assumption) (by omega) (by assumption)) | exact tup2 (S.cp4 (by assumption) (by omega) (by assumption) (by assumption)) | exact tup2 (S.cp5 (by assumption) (by omega) (by assumption) (by assumption))
                      · skip
                        refine cond_f rfl (decide_eq_false hc32) ?_
                        refine skip ?_
                        refine blk_n ?_
                        refine thn_n ?_
                        refine region ?_
                        refine ops_y hH31 rfl rfl (yv_move rfl) ?_
                        refine ops_y hH31 rfl rfl (yv_add rfl rfl (by omega)) ?_
                        refine ops_y hH31 rfl rfl (yv_assign rfl) ?_
                        refine ops_nil ?_
                        refine lp_n (b + 1) (Sub.cons rfl (Sub.cons rfl (Sub.cons rfl (Sub.cons rfl (Sub.nil _))))) ?_ ?_
                        · exact ⟨hH31, by omega, S.all_snoc hallb (by unfold S.clash; omega)⟩
                        · first | (dsimp only; omega) | (show _ < _; omega)
                    · skip
                      refine guard_no rfl rfl (decide_eq_false hc25) rfl ?_
                      refine guard_no rfl rfl (decide_eq_false hc25) rfl ?_
                      refine guard_no rfl rfl (decide_eq_false hc25) rfl ?_
                      refine guard_no rfl rfl (decide_eq_false hc25) rfl ?_
                      refine guard_no rfl rfl (decide_eq_false hc25) rfl ?_
                      refine guard_no rfl rfl (decide_eq_false hc25) rfl ?_
                      refine guard_no rfl rfl (decide_eq_false hc25) rfl ?_
                      refine guard_no rfl rfl (decide_eq_false hc25) rfl ?_
                      refine guard_no rfl rfl (decide_eq_false hc25) rfl ?_
                      refine guard_no rfl rfl (decide_eq_false hc25) rfl ?_
                      refine guard_no rfl rfl (decide_eq_false hc25) rfl ?_
                      refine ops_y hH24 rfl rfl (yv_pick_f rfl (decide_eq_false hc25) rfl) ?_
                      refine ops_nil ?_
                      refine thn_n ?_
                      refine cond_f rfl rfl ?_
                      refine skip ?_
                      refine blk_n ?_
                      refine thn_n ?_
                      refine region ?_
                      refine ops_y hH24 rfl rfl (yv_move rfl) ?_
                      refine ops_y hH24 rfl rfl (yv_add rfl rfl (by omega)) ?_
                      refine ops_y hH24 rfl rfl (yv_assign rfl) ?_
                      refine ops_nil ?_
                      refine lp_n (b + 1) (Sub.cons rfl (Sub.cons rfl (Sub.cons rfl (Sub.cons rfl (Sub.nil _))))) ?_ ?_
                      · exact ⟨hH24, by omega, S.all_snoc hallb (by unfold S.clash; omega)⟩
                      · first | (dsimp only; omega) | (show _ < _; omega)
                  · skip
                    refine guard_yes rfl rfl (not_decide_t hc18) ?_
                    refine ops_y hH16 rfl rfl (yv_move rfl) ?_
                    refine guard_yes rfl rfl (not_decide_t hc18) ?_
                    refine ops_y hH16 rfl rfl (yv_quo rfl rfl (by omega) (by omega) (by omega)) ?_
                    refine guard_yes rfl rfl (not_decide_t hc18) ?_
                    refine ops_y hH16 rfl rfl (yv_move rfl) ?_
                    refine guard_yes rfl rfl (not_decide_t hc18) ?_
                    refine ops_y hH16 rfl rfl (yv_quo rfl rfl (by omega) (by omega) (by omega)) ?_
                    refine guard_yes rfl rfl (not_decide_t hc18) ?_
                    refine ops_y hH16 rfl rfl (yv_neq rfl rfl) ?_
                    refine ops_y hH16 rfl rfl (yv_pick_t rfl (not_decide_t hc18) rfl) ?_
                    refine ops_nil ?_
                    refine thn_n ?_
                    by_cases hc33 : ((a : Int) / 2) = ((b : Int) / 2)
                    · skip
                      refine cond_f rfl (not_decide_n hc33) ?_
                      refine skip ?_
                      refine thn_n ?_
                      refine seq ?_
                      have hb1 := hj.at2 (w := (a : Int)) (by omega) (by omega)
                      have hb2 := hT.at2 (w := (a : Int)) (by omega) (by omega)
                      have hb3 := hj.at2 (w := (b : Int)) (by omega) (by omega)
                      have hb4 := hT.at2 (w := (b : Int)) (by omega) (by omega)
                      refine region ?_
                      refine ops_y hH16 rfl rfl (yv_move rfl) ?_
                      refine ops_y hH16 rfl rfl (yv_move rfl) ?_
                      refine op_fnV rfl rfl rfl hH16 (c47 (h1.now hH16 (n := 0) rfl) (by omega) (by omega) (by omega)) (fun w34 hH35 => ?_)
                      refine ops_y hH35 rfl rfl (yv_move rfl) ?_
                      refine ops_y hH35 rfl rfl (yv_move rfl) ?_
                      refine op_fnV rfl rfl rfl hH35 (c47 (h1.now hH35 (n := 0) rfl) (by omega) (by omega) (by omega)) (fun w36 hH37 => ?_)
                      refine ops_y hH37 rfl rfl (yv_move rfl) ?_
                      refine ops_y hH37 rfl rfl (yv_move rfl) ?_
                      refine op_fnV rfl rfl rfl hH37 (c49 (h0.now hH37 (n := 0) rfl) (by omega) (by omega) (by omega)) (fun w38 hH39 => ?_)
                      refine ops_y hH39 rfl rfl (yv_add rfl rfl (by omega)) ?_
                      refine ops_y hH39 rfl rfl (yv_lss rfl rfl) ?_
                      refine ops_y hH39 rfl rfl (yv_move rfl) ?_
                      by_cases hc40 : (S.at2 ps (a : Int)) < ((S.at2 ps (b : Int)) + (S.at2 js (b : Int)))
                      · skip
                        refine guard_yes rfl rfl (decide_eq_true hc40) ?_
                        refine ops_y hH39 rfl rfl (yv_move rfl) ?_
                        refine guard_yes rfl rfl (decide_eq_true hc40) ?_
                        refine ops_y hH39 rfl rfl (yv_move rfl) ?_
                        refine guard_yes rfl rfl (decide_eq_true hc40) ?_
                        refine op_fnV rfl rfl rfl hH39 (c47 (h1.now hH39 (n := 0) rfl) (by omega) (by omega) (by omega)) (fun w41 hH42 => ?_)
                        refine guard_yes rfl rfl (decide_eq_true hc40) ?_
                        refine ops_y hH42 rfl rfl (yv_move rfl) ?_
                        refine guard_yes rfl rfl (decide_eq_true hc40) ?_
                        refine ops_y hH42 rfl rfl (yv_move rfl) ?_
                        refine guard_yes rfl rfl (decide_eq_true hc40) ?_
                        refine op_fnV rfl rfl rfl hH42 (c47 (h1.now hH42 (n := 0) rfl) (by omega) (by omega) (by omega)) (fun w43 hH44 => ?_)
                        refine guard_yes rfl rfl (decide_eq_true hc40) ?_
                        refine ops_y hH44 rfl rfl (yv_move rfl) ?_
                        refine guard_yes rfl rfl (decide_eq_true hc40) ?_
                        refine ops_y hH44 rfl rfl (yv_move rfl) ?_
                        refine guard_yes rfl rfl (decide_eq_true hc40) ?_
                        refine op_fnV rfl rfl rfl hH44 (c49 (h0.now hH44 (n := 0) rfl) (by omega) (by omega) (by omega)) (fun w45 hH46 => ?_)
                        refine guard_yes rfl rfl (decide_eq_true hc40) ?_
                        refine ops_y hH46 rfl rfl (yv_add rfl rfl (by omega)) ?_
                        refine guard_yes rfl rfl (decide_eq_true hc40) ?_
                        refine ops_y hH46 rfl rfl (yv_lss rfl rfl) ?_
                        refine ops_y hH46 rfl rfl (yv_pick_t rfl (decide_eq_true hc40) rfl) ?_
                        refine ops_nil ?_
                        refine thn_n ?_
                        by_cases hc47 : (S.at2 ps (b : Int)) < ((S.at2 ps (a : Int)) + (S.at2 js (a : Int)))
                        · skip
                          have hR : ¬ S.Right js ps := fun h => h a (by omega) b (by omega) (by unfold S.clash; omega)
                          refine cond_t rfl (decide_eq_true hc47) ?_
                          refine seq ?_
                          refine region ?_
                          refine ops_y hH46 rfl rfl (yv_assign rfl) ?_
                          refine ops_y hH46 rfl rfl (yv_assign rfl) ?_
                          refine ops_nil ?_
                          refine thn_n ?_
                          refine ret ?_
                          refine blk_r ?_
                          refine thn_r ?_
                          refine lp_r ?_
                          refine blk_r ?_
                          refine blk_r ?_
                          refine thn_r ?_
                          refine lp_r ?_
                          refine blk_r ?_
                          refine thn_r ?_
                          refine fin hH46 (fun w' hf => (res2 rfl (show RV _ _ _ (.tmp 4) _ from rfl) (show RV _ _ _ (.tmp 5) _ from rfl))) (fun w' hf => ?_)
                          first | exact tup2 (S.cp1 (by assumption)) | exact tup2 (S.cp2 (by assumption) (by omega)) | exact tup2 (S.cp3 (by assumption) (by omega) (by assumption)) | exact tup2 (S.cp4 (by assumption) (by omega) (by assumption) (by assumption)) | exact tup2 (S.cp5 (by assumption) (by omega) (by assumption) (by assumption))
                        · skip
                          refine cond_f rfl (decide_eq_false hc47) ?_
                          refine skip ?_
                          refine blk_n ?_
                          refine thn_n ?_
                          refine region ?_
                          refine ops_y hH46 rfl rfl (yv_move rfl) ?_
                          refine ops_y hH46 rfl rfl (yv_add rfl rfl (by omega)) ?_
                          refine ops_y hH46 rfl rfl (yv_assign rfl) ?_
                          refine ops_nil ?_
                          refine lp_n (b + 1) (Sub.cons rfl (Sub.cons rfl (Sub.cons rfl (Sub.cons rfl (Sub.nil _))))) ?_ ?_
                          · exact ⟨hH46, by omega, S.all_snoc hallb (by unfold S.clash; omega)⟩
                          · first | (dsimp only; omega) | (show _ < _; omega)
                      · skip
                        refine guard_no rfl rfl (decide_eq_false hc40) rfl ?_
                        refine guard_no rfl rfl (decide_eq_false hc40) rfl ?_
                        refine guard_no rfl rfl (decide_eq_false hc40) rfl ?_
                        refine guard_no rfl rfl (decide_eq_false hc40) rfl ?_
                        refine guard_no rfl rfl (decide_eq_false hc40) rfl ?_
                        refine guard_no rfl rfl (decide_eq_false hc40) rfl ?_
                        refine guard_no rfl rfl (decide_eq_false hc40) rfl ?_
                        refine guard_no rfl rfl (decide_eq_false hc40) rfl ?_
                        refine guard_no rfl rfl (decide_eq_false hc40) rfl ?_
                        refine guard_no rfl rfl (decide_eq_false hc40) rfl ?_
                        refine guard_no rfl rfl (decide_eq_false hc40) rfl ?_
                        refine ops_y hH39 rfl rfl (yv_pick_f rfl (decide_eq_false hc40) rfl) ?_
                        refine ops_nil ?_
                        refine thn_n ?_
                        refine cond_f rfl rfl ?_
                        refine skip ?_
                        refine blk_n ?_
                        refine thn_n ?_
                        refine region ?_
                        refine ops_y hH39 rfl rfl (yv_move rfl) ?_
                        refine ops_y hH39 rfl rfl (yv_add rfl rfl (by omega)) ?_
                        refine ops_y hH39 rfl rfl (yv_assign rfl) ?_
                        refine ops_nil ?_
                        refine lp_n (b + 1) (Sub.cons rfl (Sub.cons rfl (Sub.cons rfl (Sub.cons rfl (Sub.nil _))))) ?_ ?_
                        · exact ⟨hH39, by omega, S.all_snoc hallb (by unfold S.clash; omega)⟩
                        · first | (dsimp only; omega) | (show _ < _; omega)
                    · skip
                      refine cond_t rfl (not_decide_t hc33) ?_
                      refine exit ?_
                      refine thn_x ?_
                      refine blk_here ?_
                      refine thn_n ?_
                      refine region ?_
                      refine ops_y hH16 rfl rfl (yv_move rfl) ?_
                      refine ops_y hH16 rfl rfl (yv_add rfl rfl (by omega)) ?_
                      refine ops_y hH16 rfl rfl (yv_assign rfl) ?_
                      refine ops_nil ?_
                      refine lp_n (b + 1) (Sub.cons rfl (Sub.cons rfl (Sub.cons rfl (Sub.cons rfl (Sub.nil _))))) ?_ ?_
                      · exact ⟨hH16, by omega, S.all_snoc hallb (by unfold S.clash; omega)⟩
                      · first | (dsimp only; omega) | (show _ < _; omega)
                · skip
                  refine cond_f rfl (decide_eq_false hc17) ?_
                  refine exit ?_
                  refine thn_x ?_
                  refine lp_x ?_
                  refine blk_here ?_
                  refine blk_n ?_
                  refine thn_n ?_
                  refine region ?_
                  refine ops_y hH16 rfl rfl (yv_move rfl) ?_
                  refine ops_y hH16 rfl rfl (yv_add rfl rfl (by omega)) ?_
                  refine ops_y hH16 rfl rfl (yv_assign rfl) ?_
                  refine ops_nil ?_
                  refine lp_n (a + 1) (Sub.cons rfl (Sub.cons rfl (Sub.cons rfl (Sub.nil _)))) ?_ ?_
                  · exact ⟨hH16, by omega, S.all_snoc halla (fun j hj => hallb j (by omega))⟩
                  · first | (dsimp only; omega) | (show _ < _; omega)
            · skip
              have hR : S.Right js ps := fun i hi => halla i (by omega)
              refine cond_f rfl (decide_eq_false hc14) ?_
              refine exit ?_
              refine thn_x ?_
              refine lp_x ?_
              refine blk_here ?_
              refine thn_n ?_
              refine seq ?_
              refine region ?_
              refine ops_y hH13 rfl rfl (yv_move rfl) ?_
              refine ops_y hH13 rfl rfl (yv_move rfl) ?_
              refine op_fnV rfl rfl rfl hH13 (c60 (h0.now hH13 (n := 0) rfl) (h1.now hH13 (n := 0) rfl) hj hT (by omega)) (fun w48 hH49 => ?_)
              refine ops_y hH49 rfl rfl (yv_assign rfl) ?_
              refine ops_y hH49 rfl rfl (yv_assign rfl) ?_
              refine ops_nil ?_
              refine thn_n ?_
              refine ret ?_
              refine fin hH49 (fun w' hf => (res2 rfl (show RV _ _ _ (.tmp 4) _ from rfl) (show RV _ _ _ (.tmp 5) _ from rfl))) (fun w' hf => ?_)
              first | exact tup2 (S.cp1 (by assumption)) | exact tup2 (S.cp2 (by assumption) (by omega)) | exact tup2 (S.cp3 (by assumption) (by omega) (by assumption)) | exact tup2 (S.cp4 (by assumption) (by omega) (by assumption) (by assumption)) | exact tup2 (S.cp5 (by assumption) (by omega) (by assumption) (by assumption))
    · skip
      refine cond_t rfl (not_decide_t hc4) ?_
      refine seq ?_
      refine region ?_
      refine ops_y hH2 rfl rfl (yv_assign rfl) ?_
      refine ops_y hH2 rfl rfl (yv_assign rfl) ?_
      refine ops_nil ?_
      refine thn_n ?_
      refine ret ?_
      refine thn_r ?_
      refine fin hH2 (fun w' hf => (res2 rfl (show RV _ _ _ (.tmp 4) _ from rfl) (show RV _ _ _ (.tmp 5) _ from rfl))) (fun w' hf => ?_)
      first | exact tup2 (S.cp1 (by assumption)) | exact tup2 (S.cp2 (by assumption) (by omega)) | exact tup2 (S.cp3 (by assumption) (by omega) (by assumption)) | exact tup2 (S.cp4 (by assumption) (by omega) (by assumption) (by assumption)) | exact tup2 (S.cp5 (by assumption) (by omega) (by assumption) (by assumption))
  · skip
    refine cond_t rfl (not_decide_t hc3) ?_
    refine seq ?_
    refine region ?_
    refine ops_y hH2 rfl rfl (yv_move rfl) ?_
    refine op_fnV rfl rfl rfl hH2 (c23 (h0.now hH2 (n := 0) rfl) (by omega)) (fun w50 hH51 => ?_)
    refine ops_y hH51 rfl rfl (yv_assign rfl) ?_
    refine ops_y hH51 rfl rfl (yv_assign rfl) ?_
    refine ops_nil ?_
    refine thn_n ?_
    refine ret ?_
    refine thn_r ?_
    refine fin hH51 (fun w' hf => (res2 rfl (show RV _ _ _ (.tmp 4) _ from rfl) (show RV _ _ _ (.tmp 5) _ from rfl))) (fun w' hf => ?_)
    first | exact tup2 (S.cp1 (by assumption)) | exact tup2 (S.cp2 (by assumption) (by omega)) | exact tup2 (S.cp3 (by assumption) (by omega) (by assumption)) | exact tup2 (S.cp4 (by assumption) (by omega) (by assumption) (by assumption)) | exact tup2 (S.cp5 (by assumption) (by omega) (by assumption) (by assumption))

end Go.Fip
