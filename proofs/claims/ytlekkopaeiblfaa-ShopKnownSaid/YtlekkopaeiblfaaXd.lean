/- Walks, by program (wip/tools). -/
import Derived.Test.YtlekkopaeiblfaaXb
import Derived.Test.YtlekkopaeiblfaaSv
set_option linter.unusedVariables false
set_option linter.unusedSimpArgs false
set_option linter.unusedSectionVars false
set_option linter.unnecessarySimpa false
namespace Go.Fip
open Go.Proofs Go.RowKit

theorem c41b {v : Value} {js : List S.Pr} {w : World} (h0 : Rd encP 2 v js w)  :
    Fn Try.prog 41 [v].toArray w (fun u _ => u = .bool (decide (S.Jobs js))) := by
  refine fn_of' (args := [v]) Try.func41 rfl (ent Try.func41 (by kernel_rfl) rfl) rfl rfl (fun hH => ?_)
  refine seq ?_
  refine region ?_
  refine ops_y hH rfl rfl (yv_assign rfl) ?_
  refine ops_nil ?_
  refine thn_n ?_
  refine seq ?_
  refine region ?_
  refine ops_y hH rfl rfl (yv_move rfl) ?_
  refine op_fnV rfl rfl rfl hH (c16 (h0.now hH (n := 0) rfl)) (fun w1 hH2 => ?_)
  refine ops_y hH2 rfl rfl (yv_not rfl) ?_
  refine ops_y hH2 rfl rfl (yv_move rfl) ?_
  by_cases hc3 : 12 < (js.length : Int)
  · skip
    refine guard_no rfl rfl (not_decide_n hc3) rfl ?_
    refine guard_no rfl rfl (not_decide_n hc3) rfl ?_
    refine guard_no rfl rfl (not_decide_n hc3) rfl ?_
    refine ops_y hH2 rfl rfl (yv_pick_f rfl (not_decide_n hc3) rfl) ?_
    refine ops_y hH2 rfl rfl (yv_assign rfl) ?_
    refine ops_nil ?_
    refine thn_n ?_
    refine ret ?_
    refine fin hH2 (fun w' hf => (res1 rfl (show RV _ _ _ (.tmp 2) _ from rfl))) (fun w' hf => ?_)
    show Value.bool _ = Value.bool _; congr 1; rw [Bool.eq_iff_iff, decide_eq_true_eq (p := S.Jobs js), ← S.checkJobs_iff]; first | (simp; done) | (simp only [decide_eq_true_eq]; done) | (constructor <;> intro h <;> first | omega | (have := (S.checkJobs_iff.1 h).2.1; omega) | cases h)
  · skip
    refine guard_yes rfl rfl (not_decide_t hc3) ?_
    refine ops_y hH2 rfl rfl (yv_move rfl) ?_
    refine guard_yes rfl rfl (not_decide_t hc3) ?_
    refine op_fnV rfl rfl rfl hH2 (c23 (h0.now hH2 (n := 0) rfl) (by omega)) (fun w4 hH5 => ?_)
    refine guard_yes rfl rfl (not_decide_t hc3) ?_
    refine ops_y hH5 rfl rfl (yv_eql rfl rfl) ?_
    refine ops_y hH5 rfl rfl (yv_pick_t rfl (not_decide_t hc3) rfl) ?_
    refine ops_y hH5 rfl rfl (yv_assign rfl) ?_
    refine ops_nil ?_
    refine thn_n ?_
    refine ret ?_
    refine fin hH5 (fun w' hf => (res1 rfl (show RV _ _ _ (.tmp 2) _ from rfl))) (fun w' hf => ?_)
    show Value.bool _ = Value.bool _; congr 1; rw [Bool.eq_iff_iff, decide_eq_true_eq (p := S.Jobs js), ← S.checkJobs_iff]; first | (simp; done) | (simp only [decide_eq_true_eq]; done) | (constructor <;> intro h <;> first | omega | (have := (S.checkJobs_iff.1 h).2.1; omega) | cases h)

theorem c7 {v u : Value} {js ps : List S.Pr} {a b : Int} {w : World} (h0 : Rd encP 2 v js w) (h1 : Rd encP 2 u ps w) (ha : 0 ≤ a ∧ a ≤ 255) (hb : 0 ≤ b ∧ b ≤ 255)  :
    Fn Try.prog 7 [v, u, (.int .u8 a), (.int .u8 b)].toArray w (fun u _ => u = .bool true) := by
  refine fn_of' (args := [v, u, (.int .u8 a), (.int .u8 b)]) Try.func7 rfl (ent Try.func7 (by kernel_rfl) rfl) rfl rfl (fun hH => ?_)
  refine seq ?_
  refine region ?_
  refine ops_y hH rfl rfl (yv_assign rfl) ?_
  refine ops_nil ?_
  refine thn_n ?_
  refine seq ?_
  refine seq ?_
  by_cases hc1 : S.Jobs js
  · skip
    have hj : S.Jobs js := ‹_›
    have hl1 := hj.1
    have hl8 := hj.2.1
    have hc0 := S.checkJobs_iff.2 hj
    refine region ?_
    refine ops_y hH rfl rfl (yv_move rfl) ?_
    refine op_fnV rfl rfl rfl hH (c41b (h0.now hH (n := 0) rfl)) (fun w2 hH3 => ?_)
    refine ops_y hH3 rfl rfl (yv_castB (bnot_f (decide_eq_true hc1)) (yv_not rfl)) ?_
    refine ops_y hH3 rfl rfl (yv_move rfl) ?_
    refine guard_yes rfl rfl rfl ?_
    refine ops_y hH3 rfl rfl (yv_move rfl) ?_
    refine guard_yes rfl rfl rfl ?_
    refine ops_y hH3 rfl rfl (yv_len T.sl23 rfl (h1.now hH3 (n := 0) rfl).is) ?_
    refine guard_yes rfl rfl rfl ?_
    refine ops_y hH3 rfl rfl (yv_gtr rfl rfl) ?_
    refine ops_y hH3 rfl rfl (yv_pick_f rfl rfl rfl) ?_
    refine ops_nil ?_
    refine thn_n ?_
    by_cases hc4 : 12 < (ps.length : Int)
    · skip
      refine cond_t rfl (decide_eq_true hc4) ?_
      refine seq ?_
      refine region ?_
      refine op_fnV rfl rfl rfl hH3 (c17) (fun w5 hH6 => ?_)
      refine ops_y hH6 rfl rfl (yv_assign rfl) ?_
      refine ops_nil ?_
      refine thn_n ?_
      refine ret ?_
      refine thn_r ?_
      refine fin hH6 (fun w' hf => (res1 rfl (show RV _ _ _ (.tmp 8) _ from rfl))) (fun w' hf => ?_)
      rfl
    · skip
      refine cond_f rfl (decide_eq_false hc4) ?_
      refine skip ?_
      refine thn_n ?_
      refine seq ?_
      refine region ?_
      refine ops_y hH3 rfl rfl (yv_move rfl) ?_
      refine op_fn rfl rfl rfl hH3 (c42 (h0.now hH3 (n := 0) rfl) hj) (fun u9 w7 lo10 hi11 hH8 hv12 => ?_)
      obtain ⟨q13, p14, hu, ho16, hp17⟩ := hv12
      subst hu
      have hH15 := Heap.toOwAny hH8 (n := 0) rfl (fun w' h => by obtain ⟨_, ys, e, h, _⟩ := h; cases e; exact ⟨ys, h⟩) ho16
      refine ops_y hH15 rfl rfl (yv_move rfl) ?_
      refine ops_y hH15 rfl rfl (yv_extract rfl rfl) ?_
      refine ops_y hH15 rfl rfl (yv_extract rfl rfl) ?_
      refine ops_y hH15 rfl rfl (yv_extract rfl rfl) ?_
      refine ops_y hH15 rfl rfl (yv_assign rfl) ?_
      refine ops_y hH15 rfl rfl (yv_assign rfl) ?_
      refine ops_y hH15 rfl rfl (yv_assign rfl) ?_
      refine ops_nil ?_
      refine thn_n ?_
      refine seq ?_
      have hte : (S.tight js).2.2 = 0 := Classical.byContradiction fun h => S.tight_err.1 h hc0
      have hto := S.tight_ok2 hj
      refine region ?_
      refine ops_y hH15 rfl rfl (yv_move rfl) ?_
      have hev20 : Fn Try.prog 28 [v].toArray _ _ := c28 (h0.now hH15 (n := 1) rfl) (by omega)
      simp only [hte] at hev20
      refine op_fnV rfl rfl rfl hH15 (hev20) (fun w18 hH19 => ?_)
      refine ops_y hH19 rfl rfl (yv_move rfl) ?_
      refine ops_y hH19 rfl rfl (yv_extract rfl rfl) ?_
      refine ops_y hH19 rfl rfl (yv_extract rfl rfl) ?_
      refine ops_y hH19 rfl rfl (yv_extract rfl rfl) ?_
      refine ops_y hH19 rfl rfl (yv_assign rfl) ?_
      refine ops_y hH19 rfl rfl (yv_assign rfl) ?_
      refine ops_y hH19 rfl rfl (yv_assign rfl) ?_
      refine ops_nil ?_
      refine thn_n ?_
      refine seq ?_
      refine seq ?_
      refine region ?_
      refine ops_y hH19 rfl rfl (yv_move rfl) ?_
      refine ops_y hH19 rfl rfl (yv_not rfl) ?_
      refine ops_y hH19 rfl rfl (yv_move rfl) ?_
      refine guard_yes rfl rfl rfl ?_
      refine ops_y hH19 rfl rfl (yv_move rfl) ?_
      refine guard_yes rfl rfl rfl ?_
      refine ops_y hH19 rfl rfl (yv_castB rfl (yv_neq rfl rfl)) ?_
      refine ops_y hH19 rfl rfl (yv_pick_f rfl rfl rfl) ?_
      refine ops_nil ?_
      refine thn_n ?_
      refine cond_f rfl rfl ?_
      refine skip ?_
      refine thn_n ?_
      refine seq ?_
      have hb1 : S.bound js (S.tight js).1 (S.tight js).2.1 = (S.shortestOf js, 0) := by rw [S.bd3 hc0 (by omega), hto.1]
      refine region ?_
      refine ops_y hH19 rfl rfl (yv_move rfl) ?_
      refine ops_y hH19 rfl rfl (yv_move rfl) ?_
      refine ops_y hH19 rfl rfl (yv_move rfl) ?_
      have hev23 : Fn Try.prog 24 [v, (.int .i64 ((S.tight js).1)), (.int .i64 ((S.tight js).2.1))].toArray _ _ := c24 (h0.now hH19 (n := 1) rfl) (by omega)
      simp only [hb1] at hev23
      refine op_fnV rfl rfl rfl hH19 (hev23) (fun w21 hH22 => ?_)
      refine ops_y hH22 rfl rfl (yv_move rfl) ?_
      refine ops_y hH22 rfl rfl (yv_extract rfl rfl) ?_
      refine ops_y hH22 rfl rfl (yv_extract rfl rfl) ?_
      refine ops_y hH22 rfl rfl (yv_assign rfl) ?_
      refine ops_y hH22 rfl rfl (yv_assign rfl) ?_
      refine ops_nil ?_
      refine thn_n ?_
      refine seq ?_
      have hm1 : 0 ≤ b % (js.length : Int) ∧ b % (js.length : Int) < (js.length : Int) := ⟨Int.emod_nonneg _ (by omega), Int.emod_lt_of_pos _ (by omega)⟩
      have hm0 : 0 ≤ a % 3 ∧ a % 3 ≤ 2 := by omega
      have hb2 : S.bound js (a % 3) (b % (js.length : Int)) = (S.boundOf js (a % 3) (b % (js.length : Int)), 0) := S.bd3 hc0 (by omega)
      have hble := S.bound_le_shortest hj hm0.1 hm0.2 hm1.1 hm1.2
      refine region ?_
      refine ops_y hH22 rfl rfl (yv_move rfl) ?_
      refine ops_y hH22 rfl rfl (yv_move rfl) ?_
      refine ops_y hH22 rfl rfl (yv_rem rfl rfl (by omega) (by omega)) ?_
      refine ops_y hH22 rfl rfl (yv_conv Try.underlying5 Try.underlying3 rfl (wrap_i64 (by omega))) ?_
      refine ops_y hH22 rfl rfl (yv_move rfl) ?_
      refine ops_y hH22 rfl rfl (yv_conv Try.underlying5 Try.underlying3 rfl (wrap_i64 (by omega))) ?_
      refine ops_y hH22 rfl rfl (yv_move rfl) ?_
      refine ops_y hH22 rfl rfl (yv_len T.sl22 rfl (h0.now hH22 (n := 1) rfl).is) ?_
      refine ops_y hH22 rfl rfl (yv_rem rfl rfl (by omega) (by omega)) ?_
      have hev26 : Fn Try.prog 24 [v, (.int .i64 (a % 3)), (.int .i64 (b % (js.length : Int)))].toArray _ _ := c24 (h0.now hH22 (n := 1) rfl) (by omega)
      simp only [hb2] at hev26
      refine op_fnV rfl rfl rfl hH22 (hev26) (fun w24 hH25 => ?_)
      refine ops_y hH25 rfl rfl (yv_move rfl) ?_
      refine ops_y hH25 rfl rfl (yv_extract rfl rfl) ?_
      refine ops_y hH25 rfl rfl (yv_extract rfl rfl) ?_
      refine ops_y hH25 rfl rfl (yv_assign rfl) ?_
      refine ops_y hH25 rfl rfl (yv_assign rfl) ?_
      refine ops_nil ?_
      refine thn_n ?_
      refine seq ?_
      refine seq ?_
      refine region ?_
      refine ops_y hH25 rfl rfl (yv_move rfl) ?_
      refine ops_y hH25 rfl rfl (yv_castB rfl (yv_neq rfl rfl)) ?_
      refine ops_y hH25 rfl rfl (yv_move rfl) ?_
      refine guard_yes rfl rfl rfl ?_
      refine ops_y hH25 rfl rfl (yv_move rfl) ?_
      refine guard_yes rfl rfl rfl ?_
      refine ops_y hH25 rfl rfl (yv_castB rfl (yv_neq rfl rfl)) ?_
      refine ops_y hH25 rfl rfl (yv_pick_f rfl rfl rfl) ?_
      refine ops_y hH25 rfl rfl (yv_move rfl) ?_
      refine guard_yes rfl rfl rfl ?_
      refine ops_y hH25 rfl rfl (yv_move rfl) ?_
      refine guard_yes rfl rfl rfl ?_
      refine ops_y hH25 rfl rfl (yv_move rfl) ?_
      refine guard_yes rfl rfl rfl ?_
      refine ops_y hH25 rfl rfl (yv_castB (not_decide_n rfl) (yv_neq rfl rfl)) ?_
      refine ops_y hH25 rfl rfl (yv_pick_f rfl rfl rfl) ?_
      refine ops_y hH25 rfl rfl (yv_move rfl) ?_
      refine guard_yes rfl rfl rfl ?_
      refine ops_y hH25 rfl rfl (yv_move rfl) ?_
      refine guard_yes rfl rfl rfl ?_
      refine ops_y hH25 rfl rfl (yv_move rfl) ?_
      refine guard_yes rfl rfl rfl ?_
      refine ops_y hH25 rfl rfl (yv_gtr rfl rfl) ?_
      refine ops_y hH25 rfl rfl (yv_pick_f rfl rfl rfl) ?_
      refine ops_nil ?_
      refine thn_n ?_
      have hc27 : ¬ ((S.shortestOf js) < (S.boundOf js (a % 3) (b % (js.length : Int)))) := by omega
      refine cond_f rfl (decide_eq_false hc27) ?_
      refine skip ?_
      refine thn_n ?_
      refine seq ?_
      refine region ?_
      refine ops_y hH25 rfl rfl (yv_move rfl) ?_
      refine ops_y hH25 rfl rfl (yv_move rfl) ?_
      refine op_fnV rfl rfl rfl hH25 (c18 (h0.now hH25 (n := 1) rfl) (h1.now hH25 (n := 1) rfl) (by omega) (by omega)) (fun w28 hH29 => ?_)
      refine ops_y hH29 rfl rfl (yv_move rfl) ?_
      refine ops_y hH29 rfl rfl (yv_extract rfl rfl) ?_
      refine ops_y hH29 rfl rfl (yv_extract rfl rfl) ?_
      refine ops_y hH29 rfl rfl (yv_assign rfl) ?_
      refine ops_y hH29 rfl rfl (yv_assign rfl) ?_
      refine ops_nil ?_
      refine thn_n ?_
      refine seq ?_
      refine region ?_
      refine ops_y hH29 rfl rfl (yv_move rfl) ?_
      refine ops_y hH29 rfl rfl (yv_neq rfl rfl) ?_
      refine ops_y hH29 rfl rfl (yv_move rfl) ?_
      by_cases hc30 : ((S.checkPlan js ps).2) = 0
      · skip
        obtain ⟨_, hP1, hP2, hP3⟩ := S.checkPlan_iff.1 ‹(S.checkPlan js ps).2 = 0›
        have hend : (S.checkPlan js ps).1 = S.endOf js ps := by rw [S.cp5 hc0 (by omega) hP2 hP3]
        have hse := S.shortest_le_end hj hP2 hP1 hP3
        refine guard_yes rfl rfl (not_decide_n hc30) ?_
        refine ops_y hH29 rfl rfl (yv_move rfl) ?_
        refine guard_yes rfl rfl (not_decide_n hc30) ?_
        refine ops_y hH29 rfl rfl (yv_move rfl) ?_
        refine guard_yes rfl rfl (not_decide_n hc30) ?_
        refine ops_y hH29 rfl rfl (yv_geq rfl rfl) ?_
        refine guard_yes rfl rfl (not_decide_n hc30) ?_
        refine ops_y hH29 rfl rfl (yv_move rfl) ?_
        have hc31 : (S.shortestOf js) ≤ ((S.checkPlan js ps).1) := by omega
        refine guard_yes rfl rfl (decide_eq_true hc31) ?_
        refine ops_y hH29 rfl rfl (yv_move rfl) ?_
        refine guard_yes rfl rfl (decide_eq_true hc31) ?_
        refine ops_y hH29 rfl rfl (yv_move rfl) ?_
        refine guard_yes rfl rfl (decide_eq_true hc31) ?_
        refine ops_y hH29 rfl rfl (yv_geq rfl rfl) ?_
        refine guard_yes rfl rfl (not_decide_n hc30) ?_
        refine ops_y hH29 rfl rfl (yv_pick_t rfl (decide_eq_true hc31) rfl) ?_
        refine ops_y hH29 rfl rfl (yv_pick_f rfl (not_decide_n hc30) rfl) ?_
        refine ops_y hH29 rfl rfl (yv_move rfl) ?_
        have hc32 : (S.boundOf js (a % 3) (b % (js.length : Int))) ≤ ((S.checkPlan js ps).1) := by omega
        refine guard_yes rfl rfl (decide_eq_true hc32) ?_
        refine op_fnV rfl rfl rfl hH29 (c17) (fun w33 hH34 => ?_)
        refine ops_y hH34 rfl rfl (yv_pick_t rfl (decide_eq_true hc32) rfl) ?_
        refine ops_y hH34 rfl rfl (yv_assign rfl) ?_
        refine ops_nil ?_
        refine thn_n ?_
        refine ret ?_
        have hH35 := (hH34.sub (List.Sublist.cons _ (List.Sublist.refl _)))
        refine fin hH35 (fun w' hf => (res1 rfl (show RV _ _ _ (.tmp 8) _ from rfl))) (fun w' hf => ?_)
        rfl
      · skip
        refine guard_no rfl rfl (not_decide_t hc30) rfl ?_
        refine guard_no rfl rfl (not_decide_t hc30) rfl ?_
        refine guard_no rfl rfl (not_decide_t hc30) rfl ?_
        refine guard_no rfl rfl (not_decide_t hc30) rfl ?_
        refine guard_none rfl rfl rfl ?_
        refine guard_none rfl rfl rfl ?_
        refine guard_none rfl rfl rfl ?_
        refine guard_no rfl rfl (not_decide_t hc30) rfl ?_
        refine ops_y hH29 rfl rfl (yv_pick_t rfl (not_decide_t hc30) rfl) ?_
        refine ops_y hH29 rfl rfl (yv_move rfl) ?_
        refine guard_yes rfl rfl rfl ?_
        refine op_fnV rfl rfl rfl hH29 (c17) (fun w36 hH37 => ?_)
        refine ops_y hH37 rfl rfl (yv_pick_t rfl rfl rfl) ?_
        refine ops_y hH37 rfl rfl (yv_assign rfl) ?_
        refine ops_nil ?_
        refine thn_n ?_
        refine ret ?_
        have hH38 := (hH37.sub (List.Sublist.cons _ (List.Sublist.refl _)))
        refine fin hH38 (fun w' hf => (res1 rfl (show RV _ _ _ (.tmp 8) _ from rfl))) (fun w' hf => ?_)
        rfl
  · skip
    have hnj : ¬ S.Jobs js := ‹_›
    refine region ?_
    refine ops_y hH rfl rfl (yv_move rfl) ?_
    refine op_fnV rfl rfl rfl hH (c41b (h0.now hH (n := 0) rfl)) (fun w39 hH40 => ?_)
    refine ops_y hH40 rfl rfl (yv_castB (bnot_t (decide_eq_false hc1)) (yv_not rfl)) ?_
    refine ops_y hH40 rfl rfl (yv_move rfl) ?_
    refine guard_no rfl rfl rfl rfl ?_
    refine guard_no rfl rfl rfl rfl ?_
    refine guard_no rfl rfl rfl rfl ?_
    refine ops_y hH40 rfl rfl (yv_pick_t rfl rfl rfl) ?_
    refine ops_nil ?_
    refine thn_n ?_
    refine cond_t rfl rfl ?_
    refine seq ?_
    refine region ?_
    refine op_fnV rfl rfl rfl hH40 (c17) (fun w41 hH42 => ?_)
    refine ops_y hH42 rfl rfl (yv_assign rfl) ?_
    refine ops_nil ?_
    refine thn_n ?_
    refine ret ?_
    refine thn_r ?_
    refine fin hH42 (fun w' hf => (res1 rfl (show RV _ _ _ (.tmp 8) _ from rfl))) (fun w' hf => ?_)
    rfl

theorem c14 {v u : Value} {js ps : List S.Pr} {w : World} (h0 : Rd encP 2 v js w) (h1 : Rd encP 2 u ps w)  :
    Fn Try.prog 14 [v, u].toArray w (fun u _ => u = .bool true) := by
  refine fn_of' (args := [v, u]) Try.func14 rfl (ent Try.func14 (by kernel_rfl) rfl) rfl rfl (fun hH => ?_)
  refine seq ?_
  refine region ?_
  refine ops_y hH rfl rfl (yv_assign rfl) ?_
  refine ops_nil ?_
  refine thn_n ?_
  refine seq ?_
  refine seq ?_
  by_cases hc1 : S.Jobs js
  · skip
    have hj : S.Jobs js := ‹_›
    have hl1 := hj.1
    have hl8 := hj.2.1
    have hc0 := S.checkJobs_iff.2 hj
    refine region ?_
    refine ops_y hH rfl rfl (yv_move rfl) ?_
    refine op_fnV rfl rfl rfl hH (c41b (h0.now hH (n := 0) rfl)) (fun w2 hH3 => ?_)
    refine ops_y hH3 rfl rfl (yv_castB (bnot_f (decide_eq_true hc1)) (yv_not rfl)) ?_
    refine ops_y hH3 rfl rfl (yv_move rfl) ?_
    refine guard_yes rfl rfl rfl ?_
    refine ops_y hH3 rfl rfl (yv_move rfl) ?_
    refine guard_yes rfl rfl rfl ?_
    refine ops_y hH3 rfl rfl (yv_len T.sl23 rfl (h1.now hH3 (n := 0) rfl).is) ?_
    refine guard_yes rfl rfl rfl ?_
    refine ops_y hH3 rfl rfl (yv_gtr rfl rfl) ?_
    refine ops_y hH3 rfl rfl (yv_pick_f rfl rfl rfl) ?_
    refine ops_nil ?_
    refine thn_n ?_
    by_cases hc4 : 12 < (ps.length : Int)
    · skip
      refine cond_t rfl (decide_eq_true hc4) ?_
      refine seq ?_
      refine region ?_
      refine op_fnV rfl rfl rfl hH3 (c17) (fun w5 hH6 => ?_)
      refine ops_y hH6 rfl rfl (yv_assign rfl) ?_
      refine ops_nil ?_
      refine thn_n ?_
      refine ret ?_
      refine thn_r ?_
      refine fin hH6 (fun w' hf => (res1 rfl (show RV _ _ _ (.tmp 4) _ from rfl))) (fun w' hf => ?_)
      rfl
    · skip
      refine cond_f rfl (decide_eq_false hc4) ?_
      refine skip ?_
      refine thn_n ?_
      refine seq ?_
      refine region ?_
      refine ops_y hH3 rfl rfl (yv_move rfl) ?_
      refine op_fn rfl rfl rfl hH3 (c42 (h0.now hH3 (n := 0) rfl) hj) (fun u9 w7 lo10 hi11 hH8 hv12 => ?_)
      obtain ⟨q13, p14, hu, ho16, hp17⟩ := hv12
      subst hu
      have hH15 := Heap.toOwAny hH8 (n := 0) rfl (fun w' h => by obtain ⟨_, ys, e, h, _⟩ := h; cases e; exact ⟨ys, h⟩) ho16
      refine ops_y hH15 rfl rfl (yv_move rfl) ?_
      refine ops_y hH15 rfl rfl (yv_extract rfl rfl) ?_
      refine ops_y hH15 rfl rfl (yv_extract rfl rfl) ?_
      refine ops_y hH15 rfl rfl (yv_extract rfl rfl) ?_
      refine ops_y hH15 rfl rfl (yv_assign rfl) ?_
      refine ops_y hH15 rfl rfl (yv_assign rfl) ?_
      refine ops_y hH15 rfl rfl (yv_assign rfl) ?_
      refine ops_nil ?_
      refine thn_n ?_
      refine seq ?_
      refine seq ?_
      refine region ?_
      refine ops_y hH15 rfl rfl (yv_move rfl) ?_
      refine ops_y hH15 rfl rfl (yv_not rfl) ?_
      refine ops_nil ?_
      refine thn_n ?_
      refine cond_f rfl rfl ?_
      refine skip ?_
      refine thn_n ?_
      refine seq ?_
      obtain ⟨q9, e9, hps, hpc⟩ := S.plan_ok hj
      rw [hp17] at e9
      obtain rfl : p14 = q9 := congrArg Prod.fst e9
      have hpn := hps.1
      have hpO := (S.planOrd_ok hj).1
      have hpT := hps.allT hj
      have hpR := hps.right hj hpO
      refine region ?_
      refine ops_y hH15 rfl rfl (yv_move rfl) ?_
      refine ops_y hH15 rfl rfl (yv_move rfl) ?_
      refine op_fnV rfl rfl rfl hH15 (c19 (h0.now hH15 (n := 1) rfl) (h1.now hH15 (n := 1) rfl) (by omega) (by omega)) (fun w18 hH19 => ?_)
      refine ops_y hH19 rfl rfl (yv_move rfl) ?_
      refine ops_y hH19 rfl rfl (yv_extract rfl rfl) ?_
      refine ops_y hH19 rfl rfl (yv_extract rfl rfl) ?_
      refine ops_y hH19 rfl rfl (yv_assign rfl) ?_
      refine ops_y hH19 rfl rfl (yv_assign rfl) ?_
      refine ops_nil ?_
      refine thn_n ?_
      refine seq ?_
      refine seq ?_
      refine region ?_
      refine ops_y hH19 rfl rfl (yv_assign rfl) ?_
      refine ops_nil ?_
      refine thn_n ?_
      refine block ?_
      refine loop (S := Nat) (fun k => [(10, (.int .i64 (k : Int))), (0, v), (1, u), (5, (.int .i64 (S.shortestOf js))), (6, q13), (9, (.int .i64 ((S.checkPlan js ps).2)))]) (fun k w1 => Heap [ow lo10 hi11 73 2 encP q13 p14, base w] w1 ∧ k ≤ 2) (fun k => 2 - k) (0) (Sub.cons rfl (Sub.cons rfl (Sub.cons rfl (Sub.cons rfl (Sub.cons rfl (Sub.cons rfl (Sub.nil _))))))) ?_ ?_
      · exact ⟨hH19, by omega⟩
      · rintro k w20 ⟨hH21, hk⟩
        show Holds _ _ _ _ _ [(10, (.int .i64 (k : Int))), (0, v), (1, u), (5, (.int .i64 (S.shortestOf js))), (6, q13), (9, (.int .i64 ((S.checkPlan js ps).2)))] _ _
        refine seq ?_
        refine seq ?_
        refine region ?_
        refine ops_y hH21 rfl rfl (yv_move rfl) ?_
        refine ops_y hH21 rfl rfl (yv_lss rfl rfl) ?_
        refine ops_nil ?_
        refine thn_n ?_
        by_cases hc22 : (k : Int) < 2
        · skip
          refine cond_t rfl (decide_eq_true hc22) ?_
          refine skip ?_
          refine thn_n ?_
          refine seq ?_
          refine block ?_
          refine seq ?_
          have hbk : S.bound js (k : Int) 0 = (S.sumOf js (k : Int), 0) := by rw [S.bd3 hc0 (by omega)]; unfold S.boundOf; rw [if_neg (by omega)]
          have hid : S.idle js p14 (k : Int) = (S.lastOf js p14 (k : Int) - S.sumOf js (k : Int), 0) := S.id3 (by rw [hpc]) (by omega)
          have hsl := S.sum_le_last hj hpT hpn hpR (b := (k : Int)) (by omega)
          have hle := S.last_le_end (l := js) (p := p14) (b := (k : Int)) (by omega) (S.end_nonneg _)
          have hen : S.endOf js p14 = S.shortestOf js := by rw [hps.check hj hpO] at hpc; exact congrArg Prod.fst hpc
          have hsb := S.sumOf_bd hj (b := (k : Int)) (by omega) (by omega)
          have hll : S.lastOf js p14 (k : Int) ≤ 100500 := (S.lastTo_bd hj hpT hpn (b := (k : Int)) (by omega) (by omega) _ (Nat.le_refl _)).2
          refine region ?_
          refine ops_y hH21 rfl rfl (yv_move rfl) ?_
          refine ops_y hH21 rfl rfl (yv_move rfl) ?_
          have hev25 : Fn Try.prog 24 [v, (.int .i64 (k : Int)), (.int .i64 0)].toArray _ _ := c24 (h0.now hH21 (n := 1) rfl) (by omega)
          simp only [hbk] at hev25
          refine op_fnV rfl rfl rfl hH21 (hev25) (fun w23 hH24 => ?_)
          refine ops_y hH24 rfl rfl (yv_move rfl) ?_
          refine ops_y hH24 rfl rfl (yv_extract rfl rfl) ?_
          refine ops_y hH24 rfl rfl (yv_extract rfl rfl) ?_
          refine ops_y hH24 rfl rfl (yv_assign rfl) ?_
          refine ops_y hH24 rfl rfl (yv_assign rfl) ?_
          refine ops_nil ?_
          refine thn_n ?_
          refine seq ?_
          refine region ?_
          refine ops_y hH24 rfl rfl (yv_move rfl) ?_
          refine ops_y hH24 rfl rfl (yv_move rfl) ?_
          refine ops_y hH24 rfl rfl (yv_move rfl) ?_
          have hev28 : Fn Try.prog 20 [v, q13, (.int .i64 (k : Int))].toArray _ _ := c20 (h0.now hH24 (n := 1) rfl) (Heap.rdw T.el23_encP hH24 (n := 0) rfl) (by omega) (by omega)
          simp only [hid] at hev28
          refine op_fnV rfl rfl rfl hH24 (hev28) (fun w26 hH27 => ?_)
          refine ops_y hH27 rfl rfl (yv_move rfl) ?_
          refine ops_y hH27 rfl rfl (yv_extract rfl rfl) ?_
          refine ops_y hH27 rfl rfl (yv_extract rfl rfl) ?_
          refine ops_y hH27 rfl rfl (yv_assign rfl) ?_
          refine ops_y hH27 rfl rfl (yv_assign rfl) ?_
          refine ops_nil ?_
          refine thn_n ?_
          refine seq ?_
          refine seq ?_
          refine region ?_
          refine ops_y hH27 rfl rfl (yv_move rfl) ?_
          refine ops_y hH27 rfl rfl (yv_castB rfl (yv_neq rfl rfl)) ?_
          refine ops_y hH27 rfl rfl (yv_move rfl) ?_
          refine guard_yes rfl rfl rfl ?_
          refine ops_y hH27 rfl rfl (yv_move rfl) ?_
          refine guard_yes rfl rfl rfl ?_
          refine ops_y hH27 rfl rfl (yv_castB rfl (yv_neq rfl rfl)) ?_
          refine ops_y hH27 rfl rfl (yv_pick_f rfl rfl rfl) ?_
          refine ops_y hH27 rfl rfl (yv_move rfl) ?_
          refine guard_yes rfl rfl rfl ?_
          refine ops_y hH27 rfl rfl (yv_move rfl) ?_
          refine guard_yes rfl rfl rfl ?_
          refine ops_y hH27 rfl rfl (yv_lss rfl rfl) ?_
          refine ops_y hH27 rfl rfl (yv_pick_f rfl rfl rfl) ?_
          refine ops_y hH27 rfl rfl (yv_move rfl) ?_
          have hc29 : ¬ ((S.lastOf js p14 (k : Int) - S.sumOf js (k : Int)) < 0) := by omega
          refine guard_yes rfl rfl (decide_eq_false hc29) ?_
          refine ops_y hH27 rfl rfl (yv_move rfl) ?_
          refine guard_yes rfl rfl (decide_eq_false hc29) ?_
          refine ops_y hH27 rfl rfl (yv_move rfl) ?_
          refine guard_yes rfl rfl (decide_eq_false hc29) ?_
          refine ops_y hH27 rfl rfl (yv_add rfl rfl (by omega)) ?_
          refine guard_yes rfl rfl (decide_eq_false hc29) ?_
          refine ops_y hH27 rfl rfl (yv_move rfl) ?_
          refine guard_yes rfl rfl (decide_eq_false hc29) ?_
          refine ops_y hH27 rfl rfl (yv_gtr rfl rfl) ?_
          refine ops_y hH27 rfl rfl (yv_pick_f rfl (decide_eq_false hc29) rfl) ?_
          refine ops_y hH27 rfl rfl (yv_move rfl) ?_
          have hc30 : ¬ ((S.shortestOf js) < ((S.sumOf js (k : Int)) + (S.lastOf js p14 (k : Int) - S.sumOf js (k : Int)))) := by omega
          refine guard_yes rfl rfl (decide_eq_false hc30) ?_
          refine ops_y hH27 rfl rfl (yv_move rfl) ?_
          refine guard_yes rfl rfl (decide_eq_false hc30) ?_
          refine ops_y hH27 rfl rfl (yv_move rfl) ?_
          refine guard_yes rfl rfl (decide_eq_false hc30) ?_
          refine ops_y hH27 rfl rfl (yv_eql rfl rfl) ?_
          refine guard_yes rfl rfl (decide_eq_false hc30) ?_
          refine ops_y hH27 rfl rfl (yv_move rfl) ?_
          by_cases hc31 : (S.sumOf js (k : Int)) = (S.shortestOf js)
          · skip
            refine guard_yes rfl rfl (decide_eq_true hc31) ?_
            refine ops_y hH27 rfl rfl (yv_move rfl) ?_
            refine guard_yes rfl rfl (decide_eq_true hc31) ?_
            refine ops_y hH27 rfl rfl (yv_neq rfl rfl) ?_
            refine guard_yes rfl rfl (decide_eq_false hc30) ?_
            refine ops_y hH27 rfl rfl (yv_pick_t rfl (decide_eq_true hc31) rfl) ?_
            refine ops_y hH27 rfl rfl (yv_pick_f rfl (decide_eq_false hc30) rfl) ?_
            refine ops_nil ?_
            refine thn_n ?_
            have hc32 : ¬ (¬ ((S.lastOf js p14 (k : Int) - S.sumOf js (k : Int)) = 0)) := by omega
            refine cond_f rfl (not_decide_f hc32) ?_
            refine skip ?_
            refine thn_n ?_
            refine seq ?_
            by_cases hc33 : (S.checkPlan js ps).2 = 0
            · skip
              have hcp : (S.checkPlan js ps).2 = 0 := ‹_›
              obtain ⟨_, hP1, hP2, hP3⟩ := S.checkPlan_iff.1 hcp
              have hid2 : S.idle js ps (k : Int) = (S.lastOf js ps (k : Int) - S.sumOf js (k : Int), 0) := S.id3 hcp (by omega)
              have hsl2 := S.sum_le_last hj hP2 hP1 hP3 (b := (k : Int)) (by omega)
              have hll2 : S.lastOf js ps (k : Int) ≤ 100500 := (S.lastTo_bd hj hP2 hP1 (b := (k : Int)) (by omega) (by omega) _ (Nat.le_refl _)).2
              refine region ?_
              refine ops_y hH27 rfl rfl (yv_move rfl) ?_
              refine ops_y hH27 rfl rfl (yv_move rfl) ?_
              refine ops_y hH27 rfl rfl (yv_move rfl) ?_
              have hev36 : Fn Try.prog 20 [v, u, (.int .i64 (k : Int))].toArray _ _ := c20 (h0.now hH27 (n := 1) rfl) (h1.now hH27 (n := 1) rfl) (by omega) (by omega)
              simp only [hid2] at hev36
              refine op_fnV rfl rfl rfl hH27 (hev36) (fun w34 hH35 => ?_)
              refine ops_y hH35 rfl rfl (yv_move rfl) ?_
              refine ops_y hH35 rfl rfl (yv_extract rfl rfl) ?_
              refine ops_y hH35 rfl rfl (yv_extract rfl rfl) ?_
              refine ops_y hH35 rfl rfl (yv_assign rfl) ?_
              refine ops_y hH35 rfl rfl (yv_assign rfl) ?_
              refine ops_nil ?_
              refine thn_n ?_
              refine seq ?_
              refine seq ?_
              refine region ?_
              refine ops_y hH35 rfl rfl (yv_move rfl) ?_
              refine ops_y hH35 rfl rfl (yv_move rfl) ?_
              refine ops_y hH35 rfl rfl (yv_neq rfl rfl) ?_
              refine ops_nil ?_
              refine thn_n ?_
              have hc37 : ¬ (¬ (0 = ((S.checkPlan js ps).2))) := by omega
              refine cond_f rfl (not_decide_f hc37) ?_
              refine skip ?_
              refine thn_n ?_
              refine seq ?_
              refine seq ?_
              refine region ?_
              refine ops_y hH35 rfl rfl (yv_move rfl) ?_
              refine ops_y hH35 rfl rfl (yv_castB rfl (yv_neq rfl rfl)) ?_
              refine ops_nil ?_
              refine thn_n ?_
              refine cond_f rfl rfl ?_
              refine skip ?_
              refine thn_n ?_
              refine seq ?_
              refine region ?_
              refine ops_y hH35 rfl rfl (yv_assign rfl) ?_
              refine ops_nil ?_
              refine thn_n ?_
              refine seq ?_
              refine seq ?_
              refine region ?_
              refine ops_y hH35 rfl rfl (yv_assign rfl) ?_
              refine ops_nil ?_
              refine thn_n ?_
              refine block ?_
              refine loop (S := Nat) (fun i => [(17, (.int .i64 (S.lastTo js ps (k : Int) i))), (18, (.int .i64 (i : Int))), (0, v), (1, u), (5, (.int .i64 (S.shortestOf js))), (6, q13), (9, (.int .i64 ((S.checkPlan js ps).2))), (10, (.int .i64 (k : Int))), (11, (.int .i64 (S.sumOf js (k : Int)))), (15, (.int .i64 (S.lastOf js ps (k : Int) - S.sumOf js (k : Int))))]) (fun i w1 => Heap [ow lo10 hi11 73 2 encP q13 p14, base w] w1 ∧ i ≤ js.length) (fun i => js.length - i) (0) (Sub.cons rfl (Sub.cons rfl (Sub.cons rfl (Sub.cons rfl (Sub.cons rfl (Sub.cons rfl (Sub.cons rfl (Sub.cons rfl (Sub.cons rfl (Sub.cons rfl (Sub.nil _))))))))))) ?_ ?_
              · exact ⟨hH35, by omega⟩
              · rintro i w38 ⟨hH39, hi⟩
                show Holds _ _ _ _ _ [(17, (.int .i64 (S.lastTo js ps (k : Int) i))), (18, (.int .i64 (i : Int))), (0, v), (1, u), (5, (.int .i64 (S.shortestOf js))), (6, q13), (9, (.int .i64 ((S.checkPlan js ps).2))), (10, (.int .i64 (k : Int))), (11, (.int .i64 (S.sumOf js (k : Int)))), (15, (.int .i64 (S.lastOf js ps (k : Int) - S.sumOf js (k : Int))))] _ _
                refine seq ?_
                refine seq ?_
                refine region ?_
                refine ops_y hH39 rfl rfl (yv_move rfl) ?_
                refine ops_y hH39 rfl rfl (yv_move rfl) ?_
                refine ops_y hH39 rfl rfl (yv_len T.sl22 rfl (h0.now hH39 (n := 1) rfl).is) ?_
                refine ops_y hH39 rfl rfl (yv_lss rfl rfl) ?_
                refine ops_nil ?_
                refine thn_n ?_
                by_cases hc40 : (i : Int) < (js.length : Int)
                · skip
                  refine cond_t rfl (decide_eq_true hc40) ?_
                  refine skip ?_
                  refine thn_n ?_
                  refine seq ?_
                  refine block ?_
                  have hm2 := hj.at2 (w := 2 * (i : Int) + (k : Int)) (by omega) (by omega)
                  have ht2 := hP2.at2 (w := 2 * (i : Int) + (k : Int)) (by omega) (by omega)
                  have hlb := S.lastTo_bd hj hP2 hP1 (b := (k : Int)) (by omega) (by omega) i (by omega)
                  refine region ?_
                  refine ops_y hH39 rfl rfl (yv_move rfl) ?_
                  refine ops_y hH39 rfl rfl (yv_move rfl) ?_
                  refine ops_y hH39 rfl rfl (yv_move rfl) ?_
                  refine ops_y hH39 rfl rfl (yv_mul rfl rfl (by omega)) ?_
                  refine ops_y hH39 rfl rfl (yv_move rfl) ?_
                  refine ops_y hH39 rfl rfl (yv_add rfl rfl (by omega)) ?_
                  refine op_fnV rfl rfl rfl hH39 (c47 (h1.now hH39 (n := 1) rfl) (by omega) (by omega) (by omega)) (fun w41 hH42 => ?_)
                  refine ops_y hH42 rfl rfl (yv_move rfl) ?_
                  refine ops_y hH42 rfl rfl (yv_move rfl) ?_
                  refine ops_y hH42 rfl rfl (yv_mul rfl rfl (by omega)) ?_
                  refine ops_y hH42 rfl rfl (yv_move rfl) ?_
                  refine ops_y hH42 rfl rfl (yv_add rfl rfl (by omega)) ?_
                  refine op_fnV rfl rfl rfl hH42 (c49 (h0.now hH42 (n := 1) rfl) (by omega) (by omega) (by omega)) (fun w43 hH44 => ?_)
                  refine ops_y hH44 rfl rfl (yv_add rfl rfl (by omega)) ?_
                  refine ops_y hH44 rfl rfl (yv_max rfl rfl) ?_
                  refine ops_y hH44 rfl rfl (yv_assign rfl) ?_
                  refine ops_nil ?_
                  refine blk_n ?_
                  refine thn_n ?_
                  refine region ?_
                  refine ops_y hH44 rfl rfl (yv_move rfl) ?_
                  refine ops_y hH44 rfl rfl (yv_add rfl rfl (by omega)) ?_
                  refine ops_y hH44 rfl rfl (yv_assign rfl) ?_
                  refine ops_nil ?_
                  refine lp_n (i + 1) (Sub.cons rfl (Sub.cons rfl (Sub.cons rfl (Sub.cons rfl (Sub.cons rfl (Sub.cons rfl (Sub.cons rfl (Sub.cons rfl (Sub.cons rfl (Sub.cons rfl (Sub.nil _))))))))))) ?_ ?_
                  · exact ⟨hH44, by omega⟩
                  · first | (dsimp only; omega) | (show _ < _; omega)
                · skip
                  have hi2 : i = js.length := by omega
                  have hlt2 : S.lastTo js ps (k : Int) i = S.lastOf js ps (k : Int) := by rw [hi2]; rfl
                  refine cond_f rfl (decide_eq_false hc40) ?_
                  refine exit ?_
                  refine thn_x ?_
                  refine lp_x ?_
                  refine blk_here ?_
                  refine thn_n ?_
                  refine seq ?_
                  refine region ?_
                  refine ops_y hH39 rfl rfl (yv_move rfl) ?_
                  refine ops_y hH39 rfl rfl (yv_lss rfl rfl) ?_
                  refine ops_y hH39 rfl rfl (yv_move rfl) ?_
                  have hc45 : ¬ ((S.lastOf js ps (k : Int) - S.sumOf js (k : Int)) < 0) := by omega
                  refine guard_yes rfl rfl (decide_eq_false hc45) ?_
                  refine ops_y hH39 rfl rfl (yv_move rfl) ?_
                  refine guard_yes rfl rfl (decide_eq_false hc45) ?_
                  refine ops_y hH39 rfl rfl (yv_move rfl) ?_
                  refine guard_yes rfl rfl (decide_eq_false hc45) ?_
                  refine ops_y hH39 rfl rfl (yv_move rfl) ?_
                  refine guard_yes rfl rfl (decide_eq_false hc45) ?_
                  refine ops_y hH39 rfl rfl (yv_sub rfl rfl (by omega)) ?_
                  refine guard_yes rfl rfl (decide_eq_false hc45) ?_
                  refine ops_y hH39 rfl rfl (yv_neq rfl rfl) ?_
                  refine ops_y hH39 rfl rfl (yv_pick_f rfl (decide_eq_false hc45) rfl) ?_
                  refine ops_nil ?_
                  refine thn_n ?_
                  have hc46 : ¬ (¬ ((S.lastOf js ps (k : Int) - S.sumOf js (k : Int)) = ((S.lastTo js ps (k : Int) i) - (S.sumOf js (k : Int))))) := by omega
                  refine cond_f rfl (not_decide_f hc46) ?_
                  refine skip ?_
                  refine blk_n ?_
                  refine thn_n ?_
                  refine region ?_
                  refine ops_y hH39 rfl rfl (yv_move rfl) ?_
                  refine ops_y hH39 rfl rfl (yv_add rfl rfl (by omega)) ?_
                  refine ops_y hH39 rfl rfl (yv_assign rfl) ?_
                  refine ops_nil ?_
                  refine lp_n (k + 1) (Sub.cons rfl (Sub.cons rfl (Sub.cons rfl (Sub.cons rfl (Sub.cons rfl (Sub.cons rfl (Sub.nil _))))))) ?_ ?_
                  · exact ⟨hH39, by omega⟩
                  · first | (dsimp only; omega) | (show _ < _; omega)
            · skip
              have hncp : ¬ (S.checkPlan js ps).2 = 0 := ‹_›
              have hid2 := S.id1 (b := (k : Int)) hncp
              refine region ?_
              refine ops_y hH27 rfl rfl (yv_move rfl) ?_
              refine ops_y hH27 rfl rfl (yv_move rfl) ?_
              refine ops_y hH27 rfl rfl (yv_move rfl) ?_
              have hev49 : Fn Try.prog 20 [v, u, (.int .i64 (k : Int))].toArray _ _ := c20 (h0.now hH27 (n := 1) rfl) (h1.now hH27 (n := 1) rfl) (by omega) (by omega)
              simp only [hid2] at hev49
              refine op_fnV rfl rfl rfl hH27 (hev49) (fun w47 hH48 => ?_)
              refine ops_y hH48 rfl rfl (yv_move rfl) ?_
              refine ops_y hH48 rfl rfl (yv_extract rfl rfl) ?_
              refine ops_y hH48 rfl rfl (yv_extract rfl rfl) ?_
              refine ops_y hH48 rfl rfl (yv_assign rfl) ?_
              refine ops_y hH48 rfl rfl (yv_assign rfl) ?_
              refine ops_nil ?_
              refine thn_n ?_
              refine seq ?_
              refine seq ?_
              refine region ?_
              refine ops_y hH48 rfl rfl (yv_move rfl) ?_
              refine ops_y hH48 rfl rfl (yv_move rfl) ?_
              refine ops_y hH48 rfl rfl (yv_castB (not_decide_n rfl) (yv_neq rfl rfl)) ?_
              refine ops_nil ?_
              refine thn_n ?_
              refine cond_f rfl rfl ?_
              refine skip ?_
              refine thn_n ?_
              refine seq ?_
              refine seq ?_
              refine region ?_
              refine ops_y hH48 rfl rfl (yv_move rfl) ?_
              refine ops_y hH48 rfl rfl (yv_neq rfl rfl) ?_
              refine ops_nil ?_
              refine thn_n ?_
              have hc50 : ¬ (((S.checkPlan js ps).2) = 0) := hncp
              refine cond_t rfl (not_decide_t hc50) ?_
              refine exit ?_
              refine thn_x ?_
              refine blk_here ?_
              refine thn_n ?_
              refine region ?_
              refine ops_y hH48 rfl rfl (yv_move rfl) ?_
              refine ops_y hH48 rfl rfl (yv_add rfl rfl (by omega)) ?_
              refine ops_y hH48 rfl rfl (yv_assign rfl) ?_
              refine ops_nil ?_
              refine lp_n (k + 1) (Sub.cons rfl (Sub.cons rfl (Sub.cons rfl (Sub.cons rfl (Sub.cons rfl (Sub.cons rfl (Sub.nil _))))))) ?_ ?_
              · exact ⟨hH48, by omega⟩
              · first | (dsimp only; omega) | (show _ < _; omega)
          · skip
            refine guard_no rfl rfl (decide_eq_false hc31) rfl ?_
            refine guard_no rfl rfl (decide_eq_false hc31) rfl ?_
            refine guard_yes rfl rfl (decide_eq_false hc30) ?_
            refine ops_y hH27 rfl rfl (yv_pick_f rfl (decide_eq_false hc31) rfl) ?_
            refine ops_y hH27 rfl rfl (yv_pick_f rfl (decide_eq_false hc30) rfl) ?_
            refine ops_nil ?_
            refine thn_n ?_
            refine cond_f rfl rfl ?_
            refine skip ?_
            refine thn_n ?_
            refine seq ?_
            by_cases hc51 : (S.checkPlan js ps).2 = 0
            · skip
              have hcp : (S.checkPlan js ps).2 = 0 := ‹_›
              obtain ⟨_, hP1, hP2, hP3⟩ := S.checkPlan_iff.1 hcp
              have hid2 : S.idle js ps (k : Int) = (S.lastOf js ps (k : Int) - S.sumOf js (k : Int), 0) := S.id3 hcp (by omega)
              have hsl2 := S.sum_le_last hj hP2 hP1 hP3 (b := (k : Int)) (by omega)
              have hll2 : S.lastOf js ps (k : Int) ≤ 100500 := (S.lastTo_bd hj hP2 hP1 (b := (k : Int)) (by omega) (by omega) _ (Nat.le_refl _)).2
              refine region ?_
              refine ops_y hH27 rfl rfl (yv_move rfl) ?_
              refine ops_y hH27 rfl rfl (yv_move rfl) ?_
              refine ops_y hH27 rfl rfl (yv_move rfl) ?_
              have hev54 : Fn Try.prog 20 [v, u, (.int .i64 (k : Int))].toArray _ _ := c20 (h0.now hH27 (n := 1) rfl) (h1.now hH27 (n := 1) rfl) (by omega) (by omega)
              simp only [hid2] at hev54
              refine op_fnV rfl rfl rfl hH27 (hev54) (fun w52 hH53 => ?_)
              refine ops_y hH53 rfl rfl (yv_move rfl) ?_
              refine ops_y hH53 rfl rfl (yv_extract rfl rfl) ?_
              refine ops_y hH53 rfl rfl (yv_extract rfl rfl) ?_
              refine ops_y hH53 rfl rfl (yv_assign rfl) ?_
              refine ops_y hH53 rfl rfl (yv_assign rfl) ?_
              refine ops_nil ?_
              refine thn_n ?_
              refine seq ?_
              refine seq ?_
              refine region ?_
              refine ops_y hH53 rfl rfl (yv_move rfl) ?_
              refine ops_y hH53 rfl rfl (yv_move rfl) ?_
              refine ops_y hH53 rfl rfl (yv_neq rfl rfl) ?_
              refine ops_nil ?_
              refine thn_n ?_
              have hc55 : ¬ (¬ (0 = ((S.checkPlan js ps).2))) := by omega
              refine cond_f rfl (not_decide_f hc55) ?_
              refine skip ?_
              refine thn_n ?_
              refine seq ?_
              refine seq ?_
              refine region ?_
              refine ops_y hH53 rfl rfl (yv_move rfl) ?_
              refine ops_y hH53 rfl rfl (yv_castB rfl (yv_neq rfl rfl)) ?_
              refine ops_nil ?_
              refine thn_n ?_
              refine cond_f rfl rfl ?_
              refine skip ?_
              refine thn_n ?_
              refine seq ?_
              refine region ?_
              refine ops_y hH53 rfl rfl (yv_assign rfl) ?_
              refine ops_nil ?_
              refine thn_n ?_
              refine seq ?_
              refine seq ?_
              refine region ?_
              refine ops_y hH53 rfl rfl (yv_assign rfl) ?_
              refine ops_nil ?_
              refine thn_n ?_
              refine block ?_
              refine loop (S := Nat) (fun i => [(17, (.int .i64 (S.lastTo js ps (k : Int) i))), (18, (.int .i64 (i : Int))), (0, v), (1, u), (5, (.int .i64 (S.shortestOf js))), (6, q13), (9, (.int .i64 ((S.checkPlan js ps).2))), (10, (.int .i64 (k : Int))), (11, (.int .i64 (S.sumOf js (k : Int)))), (15, (.int .i64 (S.lastOf js ps (k : Int) - S.sumOf js (k : Int))))]) (fun i w1 => Heap [ow lo10 hi11 73 2 encP q13 p14, base w] w1 ∧ i ≤ js.length) (fun i => js.length - i) (0) (Sub.cons rfl (Sub.cons rfl (Sub.cons rfl (Sub.cons rfl (Sub.cons rfl (Sub.cons rfl (Sub.cons rfl (Sub.cons rfl (Sub.cons rfl (Sub.cons rfl (Sub.nil _))))))))))) ?_ ?_
              · exact ⟨hH53, by omega⟩
              · rintro i w56 ⟨hH57, hi⟩
                show Holds _ _ _ _ _ [(17, (.int .i64 (S.lastTo js ps (k : Int) i))), (18, (.int .i64 (i : Int))), (0, v), (1, u), (5, (.int .i64 (S.shortestOf js))), (6, q13), (9, (.int .i64 ((S.checkPlan js ps).2))), (10, (.int .i64 (k : Int))), (11, (.int .i64 (S.sumOf js (k : Int)))), (15, (.int .i64 (S.lastOf js ps (k : Int) - S.sumOf js (k : Int))))] _ _
                refine seq ?_
                refine seq ?_
                refine region ?_
                refine ops_y hH57 rfl rfl (yv_move rfl) ?_
                refine ops_y hH57 rfl rfl (yv_move rfl) ?_
                refine ops_y hH57 rfl rfl (yv_len T.sl22 rfl (h0.now hH57 (n := 1) rfl).is) ?_
                refine ops_y hH57 rfl rfl (yv_lss rfl rfl) ?_
                refine ops_nil ?_
                refine thn_n ?_
                by_cases hc58 : (i : Int) < (js.length : Int)
                · skip
                  refine cond_t rfl (decide_eq_true hc58) ?_
                  refine skip ?_
                  refine thn_n ?_
                  refine seq ?_
                  refine block ?_
                  have hm2 := hj.at2 (w := 2 * (i : Int) + (k : Int)) (by omega) (by omega)
                  have ht2 := hP2.at2 (w := 2 * (i : Int) + (k : Int)) (by omega) (by omega)
                  have hlb := S.lastTo_bd hj hP2 hP1 (b := (k : Int)) (by omega) (by omega) i (by omega)
                  refine region ?_
                  refine ops_y hH57 rfl rfl (yv_move rfl) ?_
                  refine ops_y hH57 rfl rfl (yv_move rfl) ?_
                  refine ops_y hH57 rfl rfl (yv_move rfl) ?_
                  refine ops_y hH57 rfl rfl (yv_mul rfl rfl (by omega)) ?_
                  refine ops_y hH57 rfl rfl (yv_move rfl) ?_
                  refine ops_y hH57 rfl rfl (yv_add rfl rfl (by omega)) ?_
                  refine op_fnV rfl rfl rfl hH57 (c47 (h1.now hH57 (n := 1) rfl) (by omega) (by omega) (by omega)) (fun w59 hH60 => ?_)
                  refine ops_y hH60 rfl rfl (yv_move rfl) ?_
                  refine ops_y hH60 rfl rfl (yv_move rfl) ?_
                  refine ops_y hH60 rfl rfl (yv_mul rfl rfl (by omega)) ?_
                  refine ops_y hH60 rfl rfl (yv_move rfl) ?_
                  refine ops_y hH60 rfl rfl (yv_add rfl rfl (by omega)) ?_
                  refine op_fnV rfl rfl rfl hH60 (c49 (h0.now hH60 (n := 1) rfl) (by omega) (by omega) (by omega)) (fun w61 hH62 => ?_)
                  refine ops_y hH62 rfl rfl (yv_add rfl rfl (by omega)) ?_
                  refine ops_y hH62 rfl rfl (yv_max rfl rfl) ?_
                  refine ops_y hH62 rfl rfl (yv_assign rfl) ?_
                  refine ops_nil ?_
                  refine blk_n ?_
                  refine thn_n ?_
                  refine region ?_
                  refine ops_y hH62 rfl rfl (yv_move rfl) ?_
                  refine ops_y hH62 rfl rfl (yv_add rfl rfl (by omega)) ?_
                  refine ops_y hH62 rfl rfl (yv_assign rfl) ?_
                  refine ops_nil ?_
                  refine lp_n (i + 1) (Sub.cons rfl (Sub.cons rfl (Sub.cons rfl (Sub.cons rfl (Sub.cons rfl (Sub.cons rfl (Sub.cons rfl (Sub.cons rfl (Sub.cons rfl (Sub.cons rfl (Sub.nil _))))))))))) ?_ ?_
                  · exact ⟨hH62, by omega⟩
                  · first | (dsimp only; omega) | (show _ < _; omega)
                · skip
                  have hi2 : i = js.length := by omega
                  have hlt2 : S.lastTo js ps (k : Int) i = S.lastOf js ps (k : Int) := by rw [hi2]; rfl
                  refine cond_f rfl (decide_eq_false hc58) ?_
                  refine exit ?_
                  refine thn_x ?_
                  refine lp_x ?_
                  refine blk_here ?_
                  refine thn_n ?_
                  refine seq ?_
                  refine region ?_
                  refine ops_y hH57 rfl rfl (yv_move rfl) ?_
                  refine ops_y hH57 rfl rfl (yv_lss rfl rfl) ?_
                  refine ops_y hH57 rfl rfl (yv_move rfl) ?_
                  have hc63 : ¬ ((S.lastOf js ps (k : Int) - S.sumOf js (k : Int)) < 0) := by omega
                  refine guard_yes rfl rfl (decide_eq_false hc63) ?_
                  refine ops_y hH57 rfl rfl (yv_move rfl) ?_
                  refine guard_yes rfl rfl (decide_eq_false hc63) ?_
                  refine ops_y hH57 rfl rfl (yv_move rfl) ?_
                  refine guard_yes rfl rfl (decide_eq_false hc63) ?_
                  refine ops_y hH57 rfl rfl (yv_move rfl) ?_
                  refine guard_yes rfl rfl (decide_eq_false hc63) ?_
                  refine ops_y hH57 rfl rfl (yv_sub rfl rfl (by omega)) ?_
                  refine guard_yes rfl rfl (decide_eq_false hc63) ?_
                  refine ops_y hH57 rfl rfl (yv_neq rfl rfl) ?_
                  refine ops_y hH57 rfl rfl (yv_pick_f rfl (decide_eq_false hc63) rfl) ?_
                  refine ops_nil ?_
                  refine thn_n ?_
                  have hc64 : ¬ (¬ ((S.lastOf js ps (k : Int) - S.sumOf js (k : Int)) = ((S.lastTo js ps (k : Int) i) - (S.sumOf js (k : Int))))) := by omega
                  refine cond_f rfl (not_decide_f hc64) ?_
                  refine skip ?_
                  refine blk_n ?_
                  refine thn_n ?_
                  refine region ?_
                  refine ops_y hH57 rfl rfl (yv_move rfl) ?_
                  refine ops_y hH57 rfl rfl (yv_add rfl rfl (by omega)) ?_
                  refine ops_y hH57 rfl rfl (yv_assign rfl) ?_
                  refine ops_nil ?_
                  refine lp_n (k + 1) (Sub.cons rfl (Sub.cons rfl (Sub.cons rfl (Sub.cons rfl (Sub.cons rfl (Sub.cons rfl (Sub.nil _))))))) ?_ ?_
                  · exact ⟨hH57, by omega⟩
                  · first | (dsimp only; omega) | (show _ < _; omega)
            · skip
              have hncp : ¬ (S.checkPlan js ps).2 = 0 := ‹_›
              have hid2 := S.id1 (b := (k : Int)) hncp
              refine region ?_
              refine ops_y hH27 rfl rfl (yv_move rfl) ?_
              refine ops_y hH27 rfl rfl (yv_move rfl) ?_
              refine ops_y hH27 rfl rfl (yv_move rfl) ?_
              have hev67 : Fn Try.prog 20 [v, u, (.int .i64 (k : Int))].toArray _ _ := c20 (h0.now hH27 (n := 1) rfl) (h1.now hH27 (n := 1) rfl) (by omega) (by omega)
              simp only [hid2] at hev67
              refine op_fnV rfl rfl rfl hH27 (hev67) (fun w65 hH66 => ?_)
              refine ops_y hH66 rfl rfl (yv_move rfl) ?_
              refine ops_y hH66 rfl rfl (yv_extract rfl rfl) ?_
              refine ops_y hH66 rfl rfl (yv_extract rfl rfl) ?_
              refine ops_y hH66 rfl rfl (yv_assign rfl) ?_
              refine ops_y hH66 rfl rfl (yv_assign rfl) ?_
              refine ops_nil ?_
              refine thn_n ?_
              refine seq ?_
              refine seq ?_
              refine region ?_
              refine ops_y hH66 rfl rfl (yv_move rfl) ?_
              refine ops_y hH66 rfl rfl (yv_move rfl) ?_
              refine ops_y hH66 rfl rfl (yv_castB (not_decide_n rfl) (yv_neq rfl rfl)) ?_
              refine ops_nil ?_
              refine thn_n ?_
              refine cond_f rfl rfl ?_
              refine skip ?_
              refine thn_n ?_
              refine seq ?_
              refine seq ?_
              refine region ?_
              refine ops_y hH66 rfl rfl (yv_move rfl) ?_
              refine ops_y hH66 rfl rfl (yv_neq rfl rfl) ?_
              refine ops_nil ?_
              refine thn_n ?_
              have hc68 : ¬ (((S.checkPlan js ps).2) = 0) := hncp
              refine cond_t rfl (not_decide_t hc68) ?_
              refine exit ?_
              refine thn_x ?_
              refine blk_here ?_
              refine thn_n ?_
              refine region ?_
              refine ops_y hH66 rfl rfl (yv_move rfl) ?_
              refine ops_y hH66 rfl rfl (yv_add rfl rfl (by omega)) ?_
              refine ops_y hH66 rfl rfl (yv_assign rfl) ?_
              refine ops_nil ?_
              refine lp_n (k + 1) (Sub.cons rfl (Sub.cons rfl (Sub.cons rfl (Sub.cons rfl (Sub.cons rfl (Sub.cons rfl (Sub.nil _))))))) ?_ ?_
              · exact ⟨hH66, by omega⟩
              · first | (dsimp only; omega) | (show _ < _; omega)
        · skip
          refine cond_f rfl (decide_eq_false hc22) ?_
          refine exit ?_
          refine thn_x ?_
          refine lp_x ?_
          refine blk_here ?_
          refine thn_n ?_
          refine seq ?_
          refine region ?_
          refine op_fnV rfl rfl rfl hH21 (c17) (fun w69 hH70 => ?_)
          refine ops_y hH70 rfl rfl (yv_assign rfl) ?_
          refine ops_nil ?_
          refine thn_n ?_
          refine ret ?_
          have hH71 := (hH70.sub (List.Sublist.cons _ (List.Sublist.refl _)))
          refine fin hH71 (fun w' hf => (res1 rfl (show RV _ _ _ (.tmp 4) _ from rfl))) (fun w' hf => ?_)
          rfl
  · skip
    have hnj : ¬ S.Jobs js := ‹_›
    refine region ?_
    refine ops_y hH rfl rfl (yv_move rfl) ?_
    refine op_fnV rfl rfl rfl hH (c41b (h0.now hH (n := 0) rfl)) (fun w72 hH73 => ?_)
    refine ops_y hH73 rfl rfl (yv_castB (bnot_t (decide_eq_false hc1)) (yv_not rfl)) ?_
    refine ops_y hH73 rfl rfl (yv_move rfl) ?_
    refine guard_no rfl rfl rfl rfl ?_
    refine guard_no rfl rfl rfl rfl ?_
    refine guard_no rfl rfl rfl rfl ?_
    refine ops_y hH73 rfl rfl (yv_pick_t rfl rfl rfl) ?_
    refine ops_nil ?_
    refine thn_n ?_
    refine cond_t rfl rfl ?_
    refine seq ?_
    refine region ?_
    refine op_fnV rfl rfl rfl hH73 (c17) (fun w74 hH75 => ?_)
    refine ops_y hH75 rfl rfl (yv_assign rfl) ?_
    refine ops_nil ?_
    refine thn_n ?_
    refine ret ?_
    refine thn_r ?_
    refine fin hH75 (fun w' hf => (res1 rfl (show RV _ _ _ (.tmp 4) _ from rfl))) (fun w' hf => ?_)
    rfl

namespace K
theorem p8 : S.pairsTo [0, 2, 3, 10, 8, 4] (([0, 2, 3, 10, 8, 4] : List Int).length / 2) = [(0, 2), (3, 10), (8, 4)] := by decide
theorem tl : S.tight [(3, 4), (5, 2), (4, 6)] = (0, 0, 0) := by decide
theorem b01 : S.bound [(3, 4), (5, 2), (4, 6)] 0 1 = (12, 0) := by decide
theorem cp8 : S.checkPlan [(3, 4), (5, 2), (4, 6)] [(0, 2), (3, 10), (8, 4)] = (0, 16) := by decide
theorem i0 : S.idle [(3, 4), (5, 2), (4, 6)] [(0, 6), (3, 10), (8, 0)] 0 = (0, 0) := by decide
theorem i1 : S.idle [(3, 4), (5, 2), (4, 6)] [(0, 6), (3, 10), (8, 0)] 1 = (0, 0) := by decide
theorem i2 : S.idle [(3, 4), (5, 2), (4, 6)] [(0, 6), (3, 10), (8, 0)] 2 = (0, 2) := by decide
theorem cc31 : S.checkCircle [(1, 1), (1, 1)] [0, 1] [1, 0] [1, 0] [3, 1, 0, 2] = 0 := by decide
theorem cc0 : S.checkCircle [(1, 1), (1, 1)] [0, 1] [1, 0] [1, 0] [0] = 6 := by decide
end K
theorem c15 {w : World}  :
    Fn Try.prog 15 [].toArray w (fun u _ => u = .bool true) := by
  refine fn_of' (args := []) Try.func15 rfl (ent Try.func15 (by kernel_rfl) rfl) rfl rfl (fun hH => ?_)
  refine seq ?_
  refine region ?_
  refine ops_y hH rfl rfl (yv_assign rfl) ?_
  refine ops_nil ?_
  refine thn_n ?_
  refine seq ?_
  refine region ?_
  refine op_lit (us := [(0, (.int .i64 3)), (1, (.int .i64 4)), (2, (.int .i64 5)), (3, (.int .i64 2)), (4, (.int .i64 4)), (5, (.int .i64 6))]) T.el116_encI [3, 4, 5, 2, 4, 6] rfl (by decide) rfl (fun a ha => by simp [ha.ev (show ev _ (.const (.int .i64 3)) = some _ from rfl), ha.ev (show ev _ (.const (.int .i64 4)) = some _ from rfl), ha.ev (show ev _ (.const (.int .i64 5)) = some _ from rfl), ha.ev (show ev _ (.const (.int .i64 2)) = some _ from rfl), ha.ev (show ev _ (.const (.int .i64 4)) = some _ from rfl), ha.ev (show ev _ (.const (.int .i64 6)) = some _ from rfl)]) (fun w => by kernel_rfl) hH (fun u1 lo3 hi4 w2 hH5 => ?_)
  have hev8 : Fn Try.prog 51 [u1].toArray _ _ := c51 (Heap.rdw T.el116_encI hH5 (n := 0) rfl) (by simp)
  simp only [K.l] at hev8
  refine op_fn rfl rfl rfl hH5 (hev8) (fun u9 w6 lo10 hi11 hH7 hv12 => ?_)
  have hH13 := Heap.toOw hH7 (n := 0) rfl
  refine op_lit (us := [(0, (.int .i64 1)), (1, (.int .i64 1)), (2, (.int .i64 1)), (3, (.int .i64 1))]) T.el116_encI [1, 1, 1, 1] rfl (by decide) rfl (fun a ha => by simp [ha.ev (show ev _ (.const (.int .i64 1)) = some _ from rfl), ha.ev (show ev _ (.const (.int .i64 1)) = some _ from rfl), ha.ev (show ev _ (.const (.int .i64 1)) = some _ from rfl), ha.ev (show ev _ (.const (.int .i64 1)) = some _ from rfl)]) (fun w => by kernel_rfl) hH13 (fun u14 lo16 hi17 w15 hH18 => ?_)
  have hev21 : Fn Try.prog 51 [u14].toArray _ _ := c51 (Heap.rdw T.el116_encI hH18 (n := 0) rfl) (by simp)
  simp only [K.n] at hev21
  refine op_fn rfl rfl rfl hH18 (hev21) (fun u22 w19 lo23 hi24 hH20 hv25 => ?_)
  have hH26 := Heap.toOw hH20 (n := 0) rfl
  refine ops_y hH26 rfl rfl (yv_assign rfl) ?_
  refine ops_y hH26 rfl rfl (yv_assign rfl) ?_
  refine ops_nil ?_
  refine thn_n ?_
  refine seq ?_
  refine region ?_
  refine op_lit (us := [(0, (.int .i64 0)), (1, (.int .i64 6)), (2, (.int .i64 3)), (3, (.int .i64 10)), (4, (.int .i64 8)), (5, (.int .i64 0))]) T.el116_encI [0, 6, 3, 10, 8, 0] rfl (by decide) rfl (fun a ha => by simp [ha.ev (show ev _ (.const (.int .i64 0)) = some _ from rfl), ha.ev (show ev _ (.const (.int .i64 6)) = some _ from rfl), ha.ev (show ev _ (.const (.int .i64 3)) = some _ from rfl), ha.ev (show ev _ (.const (.int .i64 10)) = some _ from rfl), ha.ev (show ev _ (.const (.int .i64 8)) = some _ from rfl), ha.ev (show ev _ (.const (.int .i64 0)) = some _ from rfl)]) (fun w => by kernel_rfl) hH26 (fun u27 lo29 hi30 w28 hH31 => ?_)
  have hev34 : Fn Try.prog 52 [u27].toArray _ _ := c52 (Heap.rdw T.el116_encI hH31 (n := 0) rfl) (by simp)
  simp only [K.p] at hev34
  refine op_fn rfl rfl rfl hH31 (hev34) (fun u35 w32 lo36 hi37 hH33 hv38 => ?_)
  have hH39 := Heap.toOw hH33 (n := 0) rfl
  refine ops_y hH39 rfl rfl (yv_assign rfl) ?_
  refine ops_nil ?_
  refine thn_n ?_
  refine seq ?_
  refine region ?_
  refine ops_y hH39 rfl rfl (yv_move rfl) ?_
  have hev42 : Fn Try.prog 28 [u9].toArray _ _ := c28 (Heap.rdw T.el22_encP hH39 (n := 4) rfl) (by first | omega | simp)
  simp only [K.tl] at hev42
  refine op_fnV rfl rfl rfl hH39 (hev42) (fun w40 hH41 => ?_)
  refine ops_y hH41 rfl rfl (yv_move rfl) ?_
  refine ops_y hH41 rfl rfl (yv_extract rfl rfl) ?_
  refine ops_y hH41 rfl rfl (yv_extract rfl rfl) ?_
  refine ops_y hH41 rfl rfl (yv_extract rfl rfl) ?_
  refine ops_y hH41 rfl rfl (yv_assign rfl) ?_
  refine ops_y hH41 rfl rfl (yv_assign rfl) ?_
  refine ops_y hH41 rfl rfl (yv_assign rfl) ?_
  refine ops_nil ?_
  refine thn_n ?_
  refine seq ?_
  refine region ?_
  refine ops_y hH41 rfl rfl (yv_move rfl) ?_
  have hev45 : Fn Try.prog 24 [u9, (.int .i64 0), (.int .i64 1)].toArray _ _ := c24 (Heap.rdw T.el22_encP hH41 (n := 4) rfl) (by first | omega | simp)
  simp only [K.b01] at hev45
  refine op_fnV rfl rfl rfl hH41 (hev45) (fun w43 hH44 => ?_)
  refine ops_y hH44 rfl rfl (yv_move rfl) ?_
  refine ops_y hH44 rfl rfl (yv_extract rfl rfl) ?_
  refine ops_y hH44 rfl rfl (yv_extract rfl rfl) ?_
  refine ops_y hH44 rfl rfl (yv_assign rfl) ?_
  refine ops_y hH44 rfl rfl (yv_assign rfl) ?_
  refine ops_nil ?_
  refine thn_n ?_
  refine seq ?_
  refine region ?_
  refine ops_y hH44 rfl rfl (yv_move rfl) ?_
  refine op_lit (us := [(0, (.int .i64 0)), (1, (.int .i64 2)), (2, (.int .i64 3)), (3, (.int .i64 10)), (4, (.int .i64 8)), (5, (.int .i64 4))]) T.el116_encI [0, 2, 3, 10, 8, 4] rfl (by decide) rfl (fun a ha => by simp [ha.ev (show ev _ (.const (.int .i64 0)) = some _ from rfl), ha.ev (show ev _ (.const (.int .i64 2)) = some _ from rfl), ha.ev (show ev _ (.const (.int .i64 3)) = some _ from rfl), ha.ev (show ev _ (.const (.int .i64 10)) = some _ from rfl), ha.ev (show ev _ (.const (.int .i64 8)) = some _ from rfl), ha.ev (show ev _ (.const (.int .i64 4)) = some _ from rfl)]) (fun w => by kernel_rfl) hH44 (fun u46 lo48 hi49 w47 hH50 => ?_)
  have hev53 : Fn Try.prog 52 [u46].toArray _ _ := c52 (Heap.rdw T.el116_encI hH50 (n := 0) rfl) (by simp)
  simp only [K.p8] at hev53
  refine op_fn rfl rfl rfl hH50 (hev53) (fun u54 w51 lo55 hi56 hH52 hv57 => ?_)
  have hH58 := Heap.toOw hH52 (n := 0) rfl
  have hev61 : Fn Try.prog 18 [u9, u54].toArray _ _ := c18 (Heap.rdw T.el22_encP hH58 (n := 6) rfl) (Heap.rdw T.el23_encP hH58 (n := 0) rfl) (by first | omega | simp) (by first | omega | simp)
  simp only [K.cp8] at hev61
  refine op_fnV rfl rfl rfl hH58 (hev61) (fun w59 hH60 => ?_)
  refine ops_y hH60 rfl rfl (yv_move rfl) ?_
  refine ops_y hH60 rfl rfl (yv_extract rfl rfl) ?_
  refine ops_y hH60 rfl rfl (yv_extract rfl rfl) ?_
  refine ops_y hH60 rfl rfl (yv_assign rfl) ?_
  refine ops_y hH60 rfl rfl (yv_assign rfl) ?_
  refine ops_nil ?_
  refine thn_n ?_
  refine seq ?_
  refine region ?_
  refine ops_y hH60 rfl rfl (yv_move rfl) ?_
  refine ops_y hH60 rfl rfl (yv_move rfl) ?_
  have hev64 : Fn Try.prog 20 [u9, u35, (.int .i64 0)].toArray _ _ := c20 (Heap.rdw T.el22_encP hH60 (n := 6) rfl) (Heap.rdw T.el23_encP hH60 (n := 2) rfl) (by first | omega | simp) (by first | omega | simp)
  simp only [K.i0] at hev64
  refine op_fnV rfl rfl rfl hH60 (hev64) (fun w62 hH63 => ?_)
  refine ops_y hH63 rfl rfl (yv_move rfl) ?_
  refine ops_y hH63 rfl rfl (yv_extract rfl rfl) ?_
  refine ops_y hH63 rfl rfl (yv_extract rfl rfl) ?_
  refine ops_y hH63 rfl rfl (yv_assign rfl) ?_
  refine ops_y hH63 rfl rfl (yv_assign rfl) ?_
  refine ops_nil ?_
  refine thn_n ?_
  refine seq ?_
  refine region ?_
  refine ops_y hH63 rfl rfl (yv_move rfl) ?_
  refine ops_y hH63 rfl rfl (yv_move rfl) ?_
  have hev67 : Fn Try.prog 20 [u9, u35, (.int .i64 1)].toArray _ _ := c20 (Heap.rdw T.el22_encP hH63 (n := 6) rfl) (Heap.rdw T.el23_encP hH63 (n := 2) rfl) (by first | omega | simp) (by first | omega | simp)
  simp only [K.i1] at hev67
  refine op_fnV rfl rfl rfl hH63 (hev67) (fun w65 hH66 => ?_)
  refine ops_y hH66 rfl rfl (yv_move rfl) ?_
  refine ops_y hH66 rfl rfl (yv_extract rfl rfl) ?_
  refine ops_y hH66 rfl rfl (yv_extract rfl rfl) ?_
  refine ops_y hH66 rfl rfl (yv_assign rfl) ?_
  refine ops_y hH66 rfl rfl (yv_assign rfl) ?_
  refine ops_nil ?_
  refine thn_n ?_
  refine seq ?_
  refine region ?_
  refine ops_y hH66 rfl rfl (yv_move rfl) ?_
  refine ops_y hH66 rfl rfl (yv_move rfl) ?_
  have hev70 : Fn Try.prog 20 [u9, u35, (.int .i64 2)].toArray _ _ := c20 (Heap.rdw T.el22_encP hH66 (n := 6) rfl) (Heap.rdw T.el23_encP hH66 (n := 2) rfl) (by first | omega | simp) (by first | omega | simp)
  simp only [K.i2] at hev70
  refine op_fnV rfl rfl rfl hH66 (hev70) (fun w68 hH69 => ?_)
  refine ops_y hH69 rfl rfl (yv_move rfl) ?_
  refine ops_y hH69 rfl rfl (yv_extract rfl rfl) ?_
  refine ops_y hH69 rfl rfl (yv_extract rfl rfl) ?_
  refine ops_y hH69 rfl rfl (yv_assign rfl) ?_
  refine ops_y hH69 rfl rfl (yv_assign rfl) ?_
  refine ops_nil ?_
  refine thn_n ?_
  refine seq ?_
  refine region ?_
  refine ops_y hH69 rfl rfl (yv_move rfl) ?_
  refine op_fn rfl rfl rfl hH69 (c53) (fun u73 w71 lo74 hi75 hH72 hv76 => ?_)
  obtain ⟨ob77, ot78, of79, hu, -⟩ := hv76
  subst hu
  have hH80 := Heap.rd3 hH72 (n := 0) rfl
  refine op_lit (us := [(0, (.int .i64 3)), (1, (.int .i64 1)), (2, (.int .i64 0)), (3, (.int .i64 2))]) T.el39_encI [3, 1, 0, 2] rfl (by decide) rfl (fun a ha => by simp [ha.ev (show ev _ (.const (.int .i64 3)) = some _ from rfl), ha.ev (show ev _ (.const (.int .i64 1)) = some _ from rfl), ha.ev (show ev _ (.const (.int .i64 0)) = some _ from rfl), ha.ev (show ev _ (.const (.int .i64 2)) = some _ from rfl)]) (fun w => by kernel_rfl) hH80 (fun u81 lo83 hi84 w82 hH85 => ?_)
  refine op_fnV rfl rfl rfl hH85 (c50) (fun w86 hH87 => ?_)
  have hev90 : Fn Try.prog 39 [u22, (.agg #[ob77, ot78, of79]), u81].toArray _ _ := c39 (Heap.rdw T.el22_encP hH87 (n := 6) rfl) ((Heap.getRd3 hH87 (n := 1) rfl).1) ((Heap.getRd3 hH87 (n := 1) rfl).2.1) ((Heap.getRd3 hH87 (n := 1) rfl).2.2) (Heap.rdw T.el39_encI hH87 (n := 0) rfl) (by first | omega | simp) (by first | omega | simp) (by first | omega | simp) (by first | omega | simp) (by first | omega | simp)
  simp only [K.cc31] at hev90
  refine op_fnV rfl rfl rfl hH87 (hev90) (fun w88 hH89 => ?_)
  refine ops_y hH89 rfl rfl (yv_move rfl) ?_
  refine op_fn rfl rfl rfl hH89 (c53) (fun u93 w91 lo94 hi95 hH92 hv96 => ?_)
  obtain ⟨ob97, ot98, of99, hu, -⟩ := hv96
  subst hu
  have hH100 := Heap.rd3 hH92 (n := 0) rfl
  refine op_lit (us := [(0, (.int .i64 0))]) T.el39_encI [0] rfl (by decide) rfl (fun a ha => by simp [ha.ev (show ev _ (.const (.int .i64 0)) = some _ from rfl)]) (fun w => by kernel_rfl) hH100 (fun u101 lo103 hi104 w102 hH105 => ?_)
  refine op_fnV rfl rfl rfl hH105 (c50) (fun w106 hH107 => ?_)
  have hev110 : Fn Try.prog 39 [u22, (.agg #[ob97, ot98, of99]), u101].toArray _ _ := c39 (Heap.rdw T.el22_encP hH107 (n := 8) rfl) ((Heap.getRd3 hH107 (n := 1) rfl).1) ((Heap.getRd3 hH107 (n := 1) rfl).2.1) ((Heap.getRd3 hH107 (n := 1) rfl).2.2) (Heap.rdw T.el39_encI hH107 (n := 0) rfl) (by first | omega | simp) (by first | omega | simp) (by first | omega | simp) (by first | omega | simp) (by first | omega | simp)
  simp only [K.cc0] at hev110
  refine op_fnV rfl rfl rfl hH107 (hev110) (fun w108 hH109 => ?_)
  refine ops_y hH109 rfl rfl (yv_assign rfl) ?_
  refine ops_y hH109 rfl rfl (yv_assign rfl) ?_
  refine ops_nil ?_
  refine thn_n ?_
  refine seq ?_
  refine region ?_
  refine ops_y hH109 rfl rfl (yv_move rfl) ?_
  refine ops_y hH109 rfl rfl (yv_castB rfl (yv_eql rfl rfl)) ?_
  refine ops_y hH109 rfl rfl (yv_move rfl) ?_
  refine guard_yes rfl rfl rfl ?_
  refine ops_y hH109 rfl rfl (yv_move rfl) ?_
  refine guard_yes rfl rfl rfl ?_
  refine ops_y hH109 rfl rfl (yv_castB rfl (yv_eql rfl rfl)) ?_
  refine ops_y hH109 rfl rfl (yv_pick_t rfl rfl rfl) ?_
  refine ops_y hH109 rfl rfl (yv_move rfl) ?_
  refine guard_yes rfl rfl rfl ?_
  refine ops_y hH109 rfl rfl (yv_move rfl) ?_
  refine guard_yes rfl rfl rfl ?_
  refine ops_y hH109 rfl rfl (yv_castB rfl (yv_eql rfl rfl)) ?_
  refine ops_y hH109 rfl rfl (yv_pick_t rfl rfl rfl) ?_
  refine ops_y hH109 rfl rfl (yv_move rfl) ?_
  refine guard_yes rfl rfl rfl ?_
  refine ops_y hH109 rfl rfl (yv_move rfl) ?_
  refine guard_yes rfl rfl rfl ?_
  refine ops_y hH109 rfl rfl (yv_castB rfl (yv_eql rfl rfl)) ?_
  refine ops_y hH109 rfl rfl (yv_pick_t rfl rfl rfl) ?_
  refine ops_y hH109 rfl rfl (yv_move rfl) ?_
  refine guard_yes rfl rfl rfl ?_
  refine ops_y hH109 rfl rfl (yv_move rfl) ?_
  refine guard_yes rfl rfl rfl ?_
  refine ops_y hH109 rfl rfl (yv_castB rfl (yv_eql rfl rfl)) ?_
  refine ops_y hH109 rfl rfl (yv_pick_t rfl rfl rfl) ?_
  refine ops_y hH109 rfl rfl (yv_move rfl) ?_
  refine guard_yes rfl rfl rfl ?_
  refine ops_y hH109 rfl rfl (yv_move rfl) ?_
  refine guard_yes rfl rfl rfl ?_
  refine ops_y hH109 rfl rfl (yv_castB rfl (yv_eql rfl rfl)) ?_
  refine ops_y hH109 rfl rfl (yv_pick_t rfl rfl rfl) ?_
  refine ops_y hH109 rfl rfl (yv_move rfl) ?_
  refine guard_yes rfl rfl rfl ?_
  refine ops_y hH109 rfl rfl (yv_move rfl) ?_
  refine guard_yes rfl rfl rfl ?_
  refine ops_y hH109 rfl rfl (yv_castB rfl (yv_eql rfl rfl)) ?_
  refine ops_y hH109 rfl rfl (yv_pick_t rfl rfl rfl) ?_
  refine ops_y hH109 rfl rfl (yv_move rfl) ?_
  refine guard_yes rfl rfl rfl ?_
  refine ops_y hH109 rfl rfl (yv_move rfl) ?_
  refine guard_yes rfl rfl rfl ?_
  refine ops_y hH109 rfl rfl (yv_castB rfl (yv_eql rfl rfl)) ?_
  refine ops_y hH109 rfl rfl (yv_pick_t rfl rfl rfl) ?_
  refine ops_y hH109 rfl rfl (yv_move rfl) ?_
  refine guard_yes rfl rfl rfl ?_
  refine ops_y hH109 rfl rfl (yv_move rfl) ?_
  refine guard_yes rfl rfl rfl ?_
  refine ops_y hH109 rfl rfl (yv_castB rfl (yv_eql rfl rfl)) ?_
  refine ops_y hH109 rfl rfl (yv_pick_t rfl rfl rfl) ?_
  refine ops_y hH109 rfl rfl (yv_move rfl) ?_
  refine guard_yes rfl rfl rfl ?_
  refine ops_y hH109 rfl rfl (yv_move rfl) ?_
  refine guard_yes rfl rfl rfl ?_
  refine ops_y hH109 rfl rfl (yv_castB rfl (yv_eql rfl rfl)) ?_
  refine ops_y hH109 rfl rfl (yv_pick_t rfl rfl rfl) ?_
  refine ops_y hH109 rfl rfl (yv_move rfl) ?_
  refine guard_yes rfl rfl rfl ?_
  refine ops_y hH109 rfl rfl (yv_move rfl) ?_
  refine guard_yes rfl rfl rfl ?_
  refine ops_y hH109 rfl rfl (yv_castB rfl (yv_eql rfl rfl)) ?_
  refine ops_y hH109 rfl rfl (yv_pick_t rfl rfl rfl) ?_
  refine ops_y hH109 rfl rfl (yv_move rfl) ?_
  refine guard_yes rfl rfl rfl ?_
  refine ops_y hH109 rfl rfl (yv_move rfl) ?_
  refine guard_yes rfl rfl rfl ?_
  refine ops_y hH109 rfl rfl (yv_castB rfl (yv_eql rfl rfl)) ?_
  refine ops_y hH109 rfl rfl (yv_pick_t rfl rfl rfl) ?_
  refine ops_y hH109 rfl rfl (yv_move rfl) ?_
  refine guard_yes rfl rfl rfl ?_
  refine ops_y hH109 rfl rfl (yv_move rfl) ?_
  refine guard_yes rfl rfl rfl ?_
  refine ops_y hH109 rfl rfl (yv_castB rfl (yv_eql rfl rfl)) ?_
  refine ops_y hH109 rfl rfl (yv_pick_t rfl rfl rfl) ?_
  refine ops_y hH109 rfl rfl (yv_move rfl) ?_
  refine guard_yes rfl rfl rfl ?_
  refine op_fnV rfl rfl rfl hH109 (c17) (fun w111 hH112 => ?_)
  refine ops_y hH112 rfl rfl (yv_pick_t rfl rfl rfl) ?_
  refine ops_y hH112 rfl rfl (yv_assign rfl) ?_
  refine ops_nil ?_
  refine thn_n ?_
  refine ret ?_
  have hH113 := (hH112.sub (List.Sublist.cons _ (List.Sublist.cons _ (List.Sublist.cons _ (List.Sublist.cons _ (List.Sublist.cons _ (List.Sublist.cons _ (List.Sublist.cons _ (List.Sublist.cons _ (List.Sublist.cons _ (List.Sublist.cons _ (List.Sublist.cons _ (List.Sublist.cons _ (List.Sublist.refl _))))))))))))))
  refine fin hH113 (fun w' hf => (res1 rfl (show RV _ _ _ (.tmp 0) _ from rfl))) (fun w' hf => ?_)
  rfl

end Go.Fip
