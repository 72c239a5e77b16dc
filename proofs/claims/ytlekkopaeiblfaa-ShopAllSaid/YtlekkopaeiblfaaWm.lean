/- Walks, by program (wip/tools). -/
import Derived.Test.YtlekkopaeiblfaaWl
set_option linter.unusedVariables false
set_option linter.unusedSimpArgs false
set_option linter.unusedSectionVars false
set_option linter.unnecessarySimpa false
namespace Go.Fip
open Go.Proofs Go.RowKit

theorem c30 {v : Value} {js : List S.Pr} {w : World} (h0 : Rd encP 2 v js w) (hn : js.length ≤ 1000000)  :
    Fn Try.prog 30 [v].toArray w (fun u w => ∃ q, u = .tuple #[q, .int .i64 (S.plan js).2] ∧ Own 73 2 encP q (S.plan js).1 w) := by
  refine fn_of' (args := [v]) Try.func30 rfl (ent Try.func30 (by kernel_rfl) rfl) rfl rfl (fun hH => ?_)
  refine seq ?_
  refine region ?_
  refine ops_y hH rfl rfl (yv_assign rfl) ?_
  refine ops_y hH rfl rfl (yv_assign rfl) ?_
  refine ops_nil ?_
  refine thn_n ?_
  refine seq ?_
  refine seq ?_
  refine region ?_
  refine ops_y hH rfl rfl (yv_move rfl) ?_
  refine op_fnV rfl rfl rfl hH (c22 (h0.now hH (n := 0) rfl) (by omega)) (fun w1 hH2 => ?_)
  refine ops_y hH2 rfl rfl (yv_assign rfl) ?_
  refine ops_nil ?_
  refine thn_n ?_
  refine seq ?_
  refine region ?_
  refine ops_y hH2 rfl rfl (yv_move rfl) ?_
  refine ops_y hH2 rfl rfl (yv_neq rfl rfl) ?_
  refine ops_nil ?_
  refine thn_n ?_
  by_cases hc3 : (S.checkJobs js) = 0
  · skip
    have hc0 : S.checkJobs js = 0 := by omega
    have hj := S.checkJobs_iff.1 hc0
    have hl1 := hj.1
    have hl8 := hj.2.1
    have hpo := S.planOrd_len (l := js)
    refine cond_f rfl (not_decide_n hc3) ?_
    refine skip ?_
    refine thn_n ?_
    refine seq ?_
    refine region ?_
    refine ops_y hH2 rfl rfl (yv_move rfl) ?_
    refine ops_y hH2 rfl rfl (yv_move rfl) ?_
    refine op_fn rfl rfl rfl hH2 (c71 (h0.now hH2 (n := 0) rfl) hj) (fun u6 w4 lo7 hi8 hH5 hv9 => ?_)
    obtain ⟨ob10, ot11, of12, hu, -⟩ := hv9
    subst hu
    have hH13 := Heap.rd3 hH5 (n := 0) rfl
    refine op_fn rfl rfl rfl hH13 (c32 (h0.now hH13 (n := 1) rfl) ((Heap.getRd3 hH13 (n := 0) rfl).1) ((Heap.getRd3 hH13 (n := 0) rfl).2.1) ((Heap.getRd3 hH13 (n := 0) rfl).2.2) (by omega) (by omega) (by omega) (by omega)) (fun u16 w14 lo17 hi18 hH15 hv19 => ?_)
    obtain ⟨p21, hu, -⟩ := hv19
    subst hu
    have hH20 := Heap.tup2 hH15 (n := 0) rfl
    refine ops_y hH20 rfl rfl (yv_extract rfl rfl) ?_
    refine ops_y hH20 rfl rfl (yv_extract rfl rfl) ?_
    refine ops_y hH20 rfl rfl (yv_assign rfl) ?_
    refine ops_y hH20 rfl rfl (yv_assign rfl) ?_
    refine ops_nil ?_
    refine thn_n ?_
    refine ret ?_
    have hH22 := (hH20.sub (List.Sublist.cons_cons _ (List.Sublist.cons _ (List.Sublist.refl _))))
    refine fin (hH22.front (n := 1) rfl) (fun w' hf => (res2 rfl (show RV _ _ _ (.tmp 2) _ from rfl) (show RV _ _ _ (.tmp 3) _ from rfl))) (fun w' hf => ?_)
    first | (rw [S.plan1 (by assumption)]; exact ⟨_, rfl, own_nil⟩) | (rw [S.plan2 hc0]; exact ⟨_, rfl, Heap.own hf (n := 0) rfl⟩)
  · skip
    refine cond_t rfl (not_decide_t hc3) ?_
    refine seq ?_
    refine region ?_
    refine ops_y hH2 rfl rfl (yv_move rfl) ?_
    refine ops_y hH2 rfl rfl (yv_assign rfl) ?_
    refine ops_y hH2 rfl rfl (yv_assign rfl) ?_
    refine ops_nil ?_
    refine thn_n ?_
    refine ret ?_
    refine thn_r ?_
    refine fin hH2 (fun w' hf => (res2 rfl (show RV _ _ _ (.tmp 2) _ from rfl) (show RV _ _ _ (.tmp 3) _ from rfl))) (fun w' hf => ?_)
    first | (rw [S.plan1 (by assumption)]; exact ⟨_, rfl, own_nil⟩) | (rw [S.plan2 hc0]; exact ⟨_, rfl, Heap.own hf (n := 0) rfl⟩)

theorem c36 {v u : Value} {js ps : List S.Pr} {w : World} (h0 : Rd encP 2 v js w) (h1 : Rd encP 2 u ps w) (hn : js.length ≤ 1000000) (hn2 : ps.length ≤ 1000000)  :
    Fn Try.prog 36 [v, u].toArray w (fun u _ => u = .bool (decide (js = ps))) := by
  refine fn_of' (args := [v, u]) Try.func36 rfl (ent Try.func36 (by kernel_rfl) rfl) rfl rfl (fun hH => ?_)
  refine seq ?_
  refine region ?_
  refine ops_y hH rfl rfl (yv_assign rfl) ?_
  refine ops_nil ?_
  refine thn_n ?_
  refine seq ?_
  refine seq ?_
  refine region ?_
  refine ops_y hH rfl rfl (yv_move rfl) ?_
  refine ops_y hH rfl rfl (yv_len T.sl23 rfl (h0.now hH (n := 0) rfl).is) ?_
  refine ops_y hH rfl rfl (yv_move rfl) ?_
  refine ops_y hH rfl rfl (yv_len T.sl23 rfl (h1.now hH (n := 0) rfl).is) ?_
  refine ops_y hH rfl rfl (yv_neq rfl rfl) ?_
  refine ops_nil ?_
  refine thn_n ?_
  by_cases hc1 : (js.length : Int) = (ps.length : Int)
  · skip
    refine cond_f rfl (not_decide_n hc1) ?_
    refine skip ?_
    refine thn_n ?_
    refine seq ?_
    refine seq ?_
    refine region ?_
    refine ops_y hH rfl rfl (yv_assign rfl) ?_
    refine ops_nil ?_
    refine thn_n ?_
    refine block ?_
    refine loop (S := Nat) (fun k => [(5, (.int .i64 (k : Int))), (0, v), (1, u)]) (fun k w1 => Heap [base w] w1 ∧ k ≤ js.length ∧ ∀ i, i < k → nth js (i : Int) = nth ps (i : Int)) (fun k => js.length - k) (0) (Sub.cons rfl (Sub.cons rfl (Sub.cons rfl (Sub.nil _)))) ?_ ?_
    · exact ⟨hH, by omega, S.all_zero⟩
    · rintro k w2 ⟨hH3, hk, hall⟩
      show Holds _ _ _ _ _ [(5, (.int .i64 (k : Int))), (0, v), (1, u)] _ _
      refine seq ?_
      refine seq ?_
      refine region ?_
      refine ops_y hH3 rfl rfl (yv_move rfl) ?_
      refine ops_y hH3 rfl rfl (yv_move rfl) ?_
      refine ops_y hH3 rfl rfl (yv_len T.sl23 rfl (h0.now hH3 (n := 0) rfl).is) ?_
      refine ops_y hH3 rfl rfl (yv_lss rfl rfl) ?_
      refine ops_nil ?_
      refine thn_n ?_
      by_cases hc4 : (k : Int) < (js.length : Int)
      · skip
        refine cond_t rfl (decide_eq_true hc4) ?_
        refine skip ?_
        refine thn_n ?_
        refine seq ?_
        refine block ?_
        refine seq ?_
        refine region_draw (fun w' => Heap [base w] w') T.mixed (fun w5 hr6 => ?_)
        have hH7 := hH3.redrawn hr6
        refine any_takes [0, 1, 2, 3, 4, 5, 6, 7, 8] (by kernel_rfl) hH7 _ _ _ (by kernel_rfl) ?_
        refine qs_y rfl rfl (yv_move rfl) ?_
        refine qs_y rfl rfl (yv_move rfl) ?_
        refine qs_y rfl rfl (yv_index T.sl23 rfl rfl (h0.now hH7 (n := 0) rfl).is (by omega)) ?_
        refine qs_y rfl rfl (yv_loadA (cs := [(.int .i64 ((nth js (k : Int)).1)), (.int .i64 ((nth js (k : Int)).2))]) T.agg73 rfl rfl (fun _ hw => Rd.atA (h0.now hw (n := 0) rfl) (i := (k : Int)) (by omega))) ?_
        refine qs_y rfl rfl (yv_move rfl) ?_
        refine qs_y rfl rfl (yv_move rfl) ?_
        refine qs_y rfl rfl (yv_index T.sl23 rfl rfl (h1.now hH7 (n := 0) rfl).is (by omega)) ?_
        refine qs_y rfl rfl (yv_loadA (cs := [(.int .i64 ((nth ps (k : Int)).1)), (.int .i64 ((nth ps (k : Int)).2))]) T.agg73 rfl rfl (fun _ hw => Rd.atA (h1.now hw (n := 0) rfl) (i := (k : Int)) (by omega))) ?_
        refine qs_y rfl rfl (yv_neA (a := [(nth js (k : Int)).1, (nth js (k : Int)).2]) (b := [(nth ps (k : Int)).1, (nth ps (k : Int)).2]) T.eqi73 rfl rfl rfl rfl) ?_
        refine qs_nil ?_
        refine any_done (by kernel_rfl) ?_
        refine thn_n ?_
        by_cases hc8 : [(nth js (k : Int)).1, (nth js (k : Int)).2] = [(nth ps (k : Int)).1, (nth ps (k : Int)).2]
        · skip
          refine cond_f rfl (not_decide_n hc8) ?_
          refine skip ?_
          refine blk_n ?_
          refine thn_n ?_
          refine region ?_
          refine ops_y hH7 rfl rfl (yv_move rfl) ?_
          refine ops_y hH7 rfl rfl (yv_add rfl rfl (by omega)) ?_
          refine ops_y hH7 rfl rfl (yv_assign rfl) ?_
          refine ops_nil ?_
          refine lp_n (k + 1) (Sub.cons rfl (Sub.cons rfl (Sub.cons rfl (Sub.nil _)))) ?_ ?_
          · exact ⟨hH7, by omega, S.all_snoc hall (S.of_pair ‹_›)⟩
          · first | (dsimp only; omega) | (show _ < _; omega)
        · skip
          have hne : ¬ nth js (k : Int) = nth ps (k : Int) := fun h => absurd (S.to_pair h) ‹_›
          refine cond_t rfl (not_decide_t hc8) ?_
          refine seq ?_
          refine region ?_
          refine ops_y hH7 rfl rfl (yv_assign rfl) ?_
          refine ops_nil ?_
          refine thn_n ?_
          refine ret ?_
          refine blk_r ?_
          refine thn_r ?_
          refine lp_r ?_
          refine blk_r ?_
          refine thn_r ?_
          refine fin hH7 (fun w' hf => (res1 rfl (show RV _ _ _ (.tmp 4) _ from rfl))) (fun w' hf => ?_)
          first | exact congrArg Value.bool (decide_eq_false (fun h => by subst h; first | omega | exact hne rfl)).symm | exact congrArg Value.bool (decide_eq_true (S.same_ext (by omega) (fun i hi => hall i (by omega)))).symm
      · skip
        refine cond_f rfl (decide_eq_false hc4) ?_
        refine exit ?_
        refine thn_x ?_
        refine lp_x ?_
        refine blk_here ?_
        refine thn_n ?_
        refine seq ?_
        refine region ?_
        refine ops_y hH3 rfl rfl (yv_assign rfl) ?_
        refine ops_nil ?_
        refine thn_n ?_
        refine ret ?_
        refine fin hH3 (fun w' hf => (res1 rfl (show RV _ _ _ (.tmp 4) _ from rfl))) (fun w' hf => ?_)
        first | exact congrArg Value.bool (decide_eq_false (fun h => by subst h; first | omega | exact hne rfl)).symm | exact congrArg Value.bool (decide_eq_true (S.same_ext (by omega) (fun i hi => hall i (by omega)))).symm
  · skip
    refine cond_t rfl (not_decide_t hc1) ?_
    refine seq ?_
    refine region ?_
    refine ops_y hH rfl rfl (yv_assign rfl) ?_
    refine ops_nil ?_
    refine thn_n ?_
    refine ret ?_
    refine thn_r ?_
    refine fin hH (fun w' hf => (res1 rfl (show RV _ _ _ (.tmp 4) _ from rfl))) (fun w' hf => ?_)
    first | exact congrArg Value.bool (decide_eq_false (fun h => by subst h; first | omega | exact hne rfl)).symm | exact congrArg Value.bool (decide_eq_true (S.same_ext (by omega) (fun i hi => hall i (by omega)))).symm

theorem c41 {v : Value} {js : List S.Pr} {w : World} (h0 : Rd encP 2 v js w) (hn : js.length ≤ 1000000)  :
    Fn Try.prog 41 [v].toArray w (fun u _ => u = .bool (decide (S.Jobs js))) := by
  refine fn_of' (args := [v]) Try.func41 rfl (ent Try.func41 (by kernel_rfl) rfl) rfl rfl (fun hH => ?_)
  refine seq ?_
  refine region ?_
  refine ops_y hH rfl rfl (yv_assign rfl) ?_
  refine ops_nil ?_
  refine thn_n ?_
  refine seq ?_
  refine region ?_
  refine ops_y hH rfl rfl (yv_move rfl) ?_
  refine op_fnV rfl rfl rfl hH (c16 (h0.now hH (n := 0) rfl)) (fun w1 hH2 => ?_)
  refine ops_y hH2 rfl rfl (yv_not rfl) ?_
  refine ops_y hH2 rfl rfl (yv_move rfl) ?_
  by_cases hc3 : 12 < (js.length : Int)
  · skip
    refine guard_no rfl rfl (not_decide_n hc3) rfl ?_
    refine guard_no rfl rfl (not_decide_n hc3) rfl ?_
    refine guard_no rfl rfl (not_decide_n hc3) rfl ?_
    refine ops_y hH2 rfl rfl (yv_pick_f rfl (not_decide_n hc3) rfl) ?_
    refine ops_y hH2 rfl rfl (yv_assign rfl) ?_
    refine ops_nil ?_
    refine thn_n ?_
    refine ret ?_
    refine fin hH2 (fun w' hf => (res1 rfl (show RV _ _ _ (.tmp 2) _ from rfl))) (fun w' hf => ?_)
    show Value.bool _ = Value.bool _; congr 1; rw [Bool.eq_iff_iff, decide_eq_true_eq (p := S.Jobs js), ← S.checkJobs_iff]; first | (simp; done) | (simp only [decide_eq_true_eq]; done) | (constructor <;> intro h <;> first | omega | (have := (S.checkJobs_iff.1 h).2.1; omega) | cases h)
  · skip
    refine guard_yes rfl rfl (not_decide_t hc3) ?_
    refine ops_y hH2 rfl rfl (yv_move rfl) ?_
    refine guard_yes rfl rfl (not_decide_t hc3) ?_
    refine op_fnV rfl rfl rfl hH2 (c23 (h0.now hH2 (n := 0) rfl) (by omega)) (fun w4 hH5 => ?_)
    refine guard_yes rfl rfl (not_decide_t hc3) ?_
    refine ops_y hH5 rfl rfl (yv_eql rfl rfl) ?_
    refine ops_y hH5 rfl rfl (yv_pick_t rfl (not_decide_t hc3) rfl) ?_
    refine ops_y hH5 rfl rfl (yv_assign rfl) ?_
    refine ops_nil ?_
    refine thn_n ?_
    refine ret ?_
    refine fin hH5 (fun w' hf => (res1 rfl (show RV _ _ _ (.tmp 2) _ from rfl))) (fun w' hf => ?_)
    show Value.bool _ = Value.bool _; congr 1; rw [Bool.eq_iff_iff, decide_eq_true_eq (p := S.Jobs js), ← S.checkJobs_iff]; first | (simp; done) | (simp only [decide_eq_true_eq]; done) | (constructor <;> intro h <;> first | omega | (have := (S.checkJobs_iff.1 h).2.1; omega) | cases h)

theorem c44 {v u : Value} {js ps : List S.Pr} {w : World} (h0 : Rd encP 2 v js w) (h1 : Rd encP 2 u ps w) (hn : js.length ≤ 1000000) (hn2 : ps.length ≤ 1000000)  :
    Fn Try.prog 44 [v, u].toArray w (fun u _ => u = .tuple #[.int .i64 (S.checkPlan js ps).1, .bool (decide ((S.checkPlan js ps).2 = 0))]) := by
  refine fn_of' (args := [v, u]) Try.func44 rfl (ent Try.func44 (by kernel_rfl) rfl) rfl rfl (fun hH => ?_)
  refine seq ?_
  refine region ?_
  refine ops_y hH rfl rfl (yv_assign rfl) ?_
  refine ops_y hH rfl rfl (yv_assign rfl) ?_
  refine ops_nil ?_
  refine thn_n ?_
  refine seq ?_
  refine region ?_
  refine ops_y hH rfl rfl (yv_move rfl) ?_
  refine ops_y hH rfl rfl (yv_move rfl) ?_
  refine op_fnV rfl rfl rfl hH (c18 (h0.now hH (n := 0) rfl) (h1.now hH (n := 0) rfl) (by omega) (by omega)) (fun w1 hH2 => ?_)
  refine ops_y hH2 rfl rfl (yv_move rfl) ?_
  refine ops_y hH2 rfl rfl (yv_extract rfl rfl) ?_
  refine ops_y hH2 rfl rfl (yv_extract rfl rfl) ?_
  refine ops_y hH2 rfl rfl (yv_assign rfl) ?_
  refine ops_y hH2 rfl rfl (yv_assign rfl) ?_
  refine ops_nil ?_
  refine thn_n ?_
  refine seq ?_
  refine region ?_
  refine ops_y hH2 rfl rfl (yv_move rfl) ?_
  refine ops_y hH2 rfl rfl (yv_move rfl) ?_
  refine op_fnV rfl rfl rfl hH2 (c19 (h0.now hH2 (n := 0) rfl) (h1.now hH2 (n := 0) rfl) (by omega) (by omega)) (fun w3 hH4 => ?_)
  refine ops_y hH4 rfl rfl (yv_move rfl) ?_
  refine ops_y hH4 rfl rfl (yv_extract rfl rfl) ?_
  refine ops_y hH4 rfl rfl (yv_extract rfl rfl) ?_
  refine ops_y hH4 rfl rfl (yv_assign rfl) ?_
  refine ops_y hH4 rfl rfl (yv_assign rfl) ?_
  refine ops_nil ?_
  refine thn_n ?_
  refine seq ?_
  refine region ?_
  refine ops_y hH4 rfl rfl (yv_move rfl) ?_
  refine ops_y hH4 rfl rfl (yv_move rfl) ?_
  refine ops_y hH4 rfl rfl (yv_eql rfl rfl) ?_
  refine ops_y hH4 rfl rfl (yv_move rfl) ?_
  by_cases hc5 : ((S.checkPlan js ps).2) = 0
  · skip
    refine guard_yes rfl rfl (decide_eq_true hc5) ?_
    refine ops_y hH4 rfl rfl (yv_move rfl) ?_
    refine guard_yes rfl rfl (decide_eq_true hc5) ?_
    refine ops_y hH4 rfl rfl (yv_eql rfl rfl) ?_
    refine ops_y hH4 rfl rfl (yv_pick_t rfl (decide_eq_true hc5) rfl) ?_
    refine ops_y hH4 rfl rfl (yv_move rfl) ?_
    refine guard_yes rfl rfl (decide_eq_true hc5) ?_
    refine ops_y hH4 rfl rfl (yv_move rfl) ?_
    refine guard_yes rfl rfl (decide_eq_true hc5) ?_
    refine ops_y hH4 rfl rfl (yv_move rfl) ?_
    refine guard_yes rfl rfl (decide_eq_true hc5) ?_
    refine ops_y hH4 rfl rfl (yv_eql rfl rfl) ?_
    refine ops_y hH4 rfl rfl (yv_pick_t rfl (decide_eq_true hc5) rfl) ?_
    refine ops_y hH4 rfl rfl (yv_assign rfl) ?_
    refine ops_y hH4 rfl rfl (yv_assign rfl) ?_
    refine ops_nil ?_
    refine thn_n ?_
    refine ret ?_
    refine fin hH4 (fun w' hf => (res2 rfl (show RV _ _ _ (.tmp 4) _ from rfl) (show RV _ _ _ (.tmp 5) _ from rfl))) (fun w' hf => ?_)
    refine congrArg (fun z => Value.tuple #[Value.int .i64 (S.checkPlan js ps).1, Value.bool z]) (?_ : (_ : Bool) = _); rw [Bool.eq_iff_iff]; first | (simp; done) | (simp; omega)
  · skip
    refine guard_no rfl rfl (decide_eq_false hc5) rfl ?_
    refine guard_no rfl rfl (decide_eq_false hc5) rfl ?_
    refine ops_y hH4 rfl rfl (yv_pick_f rfl (decide_eq_false hc5) rfl) ?_
    refine ops_y hH4 rfl rfl (yv_move rfl) ?_
    refine guard_no rfl rfl rfl rfl ?_
    refine guard_no rfl rfl rfl rfl ?_
    refine guard_no rfl rfl rfl rfl ?_
    refine ops_y hH4 rfl rfl (yv_pick_f rfl rfl rfl) ?_
    refine ops_y hH4 rfl rfl (yv_assign rfl) ?_
    refine ops_y hH4 rfl rfl (yv_assign rfl) ?_
    refine ops_nil ?_
    refine thn_n ?_
    refine ret ?_
    refine fin hH4 (fun w' hf => (res2 rfl (show RV _ _ _ (.tmp 4) _ from rfl) (show RV _ _ _ (.tmp 5) _ from rfl))) (fun w' hf => ?_)
    refine congrArg (fun z => Value.tuple #[Value.int .i64 (S.checkPlan js ps).1, Value.bool z]) (?_ : (_ : Bool) = _); rw [Bool.eq_iff_iff]; first | (simp; done) | (simp; omega)

theorem c50 {v : Value} {w : World}  :
    Fn Try.prog 50 [v].toArray w (fun u _ => u = v) := by
  refine fn_of' (args := [v]) Try.func50 rfl (ent Try.func50 (by kernel_rfl) rfl) rfl rfl (fun hH => ?_)
  refine seq ?_
  refine region ?_
  refine ops_y hH rfl rfl (yv_assign rfl) ?_
  refine ops_nil ?_
  refine thn_n ?_
  refine seq ?_
  refine region ?_
  refine ops_y hH rfl rfl (yv_move rfl) ?_
  refine ops_y hH rfl rfl (yv_assign rfl) ?_
  refine ops_nil ?_
  refine thn_n ?_
  refine ret ?_
  refine fin hH (fun w' hf => (res1 rfl (show RV _ _ _ (.tmp 2) _ from rfl))) (fun w' hf => ?_)
  rfl

theorem c51 {v : Value} {l : List Int} {w : World} (h0 : Rd encI 1 v l w) (hn : l.length ≤ 1000000)  :
    Fn Try.prog 51 [v].toArray w (fun u w => Own 71 2 encP u (S.pairsTo l (l.length / 2)) w) := by
  refine fn_of' (args := [v]) Try.func51 rfl (ent Try.func51 (by kernel_rfl) rfl) rfl rfl (fun hH => ?_)
  refine seq ?_
  refine region ?_
  refine ops_y hH rfl rfl (yv_assign rfl) ?_
  refine ops_nil ?_
  refine thn_n ?_
  refine seq ?_
  refine region ?_
  refine ops_y hH rfl rfl (yv_assign rfl) ?_
  refine ops_nil ?_
  refine thn_n ?_
  refine seq ?_
  refine seq ?_
  refine region ?_
  refine ops_y hH rfl rfl (yv_assign rfl) ?_
  refine ops_nil ?_
  refine thn_n ?_
  refine block ?_
  have hH1 := ow_nil (enc := encP) 71 2 hH
  refine loop (S := Nat × Value × Nat × Nat) (fun (k, v_3, lo_3, hi_3) => [(4, (.int .i64 (2 * (k : Int)))), (3, v_3), (0, v), (2, (.slice none 0 0))]) (fun (k, v_3, lo_3, hi_3) w1 => Heap [ow lo_3 hi_3 71 2 encP v_3 (S.pairsTo l k), base w] w1 ∧ k ≤ l.length / 2) (fun (k, v_3, lo_3, hi_3) => l.length / 2 - k) (0, (.slice none 0 0), w.heap.size, w.heap.size) (Sub.cons rfl (Sub.cons rfl (Sub.cons rfl (Sub.cons rfl (Sub.nil _))))) ?_ ?_
  · exact ⟨(Heap.recast (n := 0) hH1 rfl (rfl)), by omega⟩
  · rintro ⟨k, v_3, lo_3, hi_3⟩ w2 ⟨hH3, hk⟩
    show Holds _ _ _ _ _ [(4, (.int .i64 (2 * (k : Int)))), (3, v_3), (0, v), (2, (.slice none 0 0))] _ _
    refine seq ?_
    refine seq ?_
    refine region ?_
    refine ops_y hH3 rfl rfl (yv_move rfl) ?_
    refine ops_y hH3 rfl rfl (yv_add rfl rfl (by omega)) ?_
    refine ops_y hH3 rfl rfl (yv_move rfl) ?_
    refine ops_y hH3 rfl rfl (yv_len T.sl116 rfl (h0.now hH3 (n := 1) rfl).is) ?_
    refine ops_y hH3 rfl rfl (yv_lss rfl rfl) ?_
    refine ops_nil ?_
    refine thn_n ?_
    by_cases hc4 : ((2 * (k : Int)) + 1) < (l.length : Int)
    · skip
      refine cond_t rfl (decide_eq_true hc4) ?_
      refine skip ?_
      refine thn_n ?_
      refine seq ?_
      refine block ?_
      have hpl := S.pairsTo_length l k
      refine region_draw (fun w' => True) T.mixed (fun w5 hr6 => ?_)
      have hH7 := hH3.redrawn hr6
      refine any_takes [0, 1, 2, 3, 5, 6, 7, 8] (by kernel_rfl) trivial _ _ _ (by kernel_rfl) ?_
      refine qs_y rfl rfl (yv_move rfl) ?_
      refine qs_y rfl rfl (yv_move rfl) ?_
      refine qs_y rfl rfl (yv_move rfl) ?_
      refine qs_y rfl rfl (yv_index T.sl116 rfl rfl (h0.now hH7 (n := 1) rfl).is (by omega)) ?_
      refine qs_y rfl rfl (yv_move rfl) ?_
      refine qs_y rfl rfl (yv_move rfl) ?_
      refine qs_y rfl rfl (yv_add rfl rfl (by omega)) ?_
      refine qs_y rfl rfl (yv_index T.sl116 rfl rfl (h0.now hH7 (n := 1) rfl).is (by omega)) ?_
      refine qs_nil ?_
      refine any_all [4, 9] (by kernel_rfl) rfl ?_
      refine ⟨⟨_, rfl, ?_⟩, ⟨_, rfl, ?_⟩, trivial⟩
      · skip
        refine ops_y hH7 rfl rfl (yv_load T.one2 rfl (fun _ hw => Rd.at (h0.now hw (n := 1) rfl) (i := (2 * (k : Int))) (by omega) (j := 0) rfl)) ?_
        refine ops_nil ?_
        refine ⟨trivial, ?_⟩
        refine any_all [9] (by kernel_rfl) rfl ?_
        refine ⟨⟨_, rfl, ?_⟩, trivial⟩
        · skip
          refine ops_y hH7 rfl rfl (yv_load T.one2 rfl (fun _ hw => Rd.at (h0.now hw (n := 1) rfl) (i := (2 * (k : Int)) + 1) (by omega) (j := 0) rfl)) ?_
          refine ops_nil ?_
          refine ⟨trivial, ?_⟩
          refine any_takes [10] (by kernel_rfl) trivial _ _ _ (by kernel_rfl) ?_
          refine qs_y rfl rfl (yv_build (v := (.agg #[(.int .i64 (nth l (2 * (k : Int)))), (.int .i64 (nth l ((2 * (k : Int)) + 1)))])) (us := [(0, (.int .i64 (nth l (2 * (k : Int))))), (1, (.int .i64 (nth l ((2 * (k : Int)) + 1))))]) (fun a ha => by simp [ha.ev (show ev _ (.tmp 16) = some _ from rfl), ha.ev (show ev _ (.tmp 21) = some _ from rfl)]) (fun w => by kernel_rfl)) ?_
          refine qs_nil ?_
          refine any_all [11] (by kernel_rfl) rfl ?_
          refine ⟨⟨_, rfl, ?_⟩, trivial⟩
          · skip
            refine op_lit (us := [(0, (.agg #[(.int .i64 (nth l (2 * (k : Int)))), (.int .i64 (nth l ((2 * (k : Int)) + 1)))]))]) T.el22_encP [(nth l (2 * (k : Int)), nth l ((2 * (k : Int)) + 1))] rfl (by decide) rfl (fun a ha => by simp [ha.ev (show ev _ (.tmp 22) = some _ from rfl)]) (fun w => by kernel_rfl) hH7 (fun u8 lo10 hi11 w9 hH12 => ?_)
            refine ops_nil ?_
            refine ⟨trivial, ?_⟩
            refine any_all [12] (by kernel_rfl) rfl ?_
            refine ⟨⟨_, rfl, ?_⟩, trivial⟩
            · skip
              refine op_append (n := 1) T.el22_encP rfl rfl rfl hH12 rfl (Heap.rdw T.el22_encP hH12 (n := 0) rfl) (by first | omega | (simp only [List.length_append, List.length_cons, List.length_nil]; omega)) (fun u13 lo15 hi16 w14 hH17 => ?_)
              refine ops_nil ?_
              refine ⟨trivial, ?_⟩
              refine any_takes [13] (by kernel_rfl) trivial _ _ _ (by kernel_rfl) ?_
              refine qs_y rfl rfl (yv_assign rfl) ?_
              refine qs_nil ?_
              refine any_done (by kernel_rfl) ?_
              refine blk_n ?_
              refine thn_n ?_
              refine region ?_
              refine ops_y hH17 rfl rfl (yv_move rfl) ?_
              refine ops_y hH17 rfl rfl (yv_add rfl rfl (by omega)) ?_
              refine ops_y hH17 rfl rfl (yv_assign rfl) ?_
              refine ops_nil ?_
              have hH18 := (hH17.sub (List.Sublist.cons _ (List.Sublist.refl _)))
              refine lp_n (k + 1, u13, lo15, hi16) (Sub.cons (congrArg (fun z => some (Value.int .i64 z)) (by omega)) (Sub.cons rfl (Sub.cons rfl (Sub.cons rfl (Sub.nil _))))) ?_ ?_
              · exact ⟨(Heap.recast (n := 0) hH18 rfl (rfl)), by omega⟩
              · first | (dsimp only; omega) | (show _ < _; omega)
      · skip
        refine ops_y hH7 rfl rfl (yv_load T.one2 rfl (fun _ hw => Rd.at (h0.now hw (n := 1) rfl) (i := (2 * (k : Int)) + 1) (by omega) (j := 0) rfl)) ?_
        refine ops_nil ?_
        refine ⟨trivial, ?_⟩
        refine any_all [4] (by kernel_rfl) rfl ?_
        refine ⟨⟨_, rfl, ?_⟩, trivial⟩
        · skip
          refine ops_y hH7 rfl rfl (yv_load T.one2 rfl (fun _ hw => Rd.at (h0.now hw (n := 1) rfl) (i := (2 * (k : Int))) (by omega) (j := 0) rfl)) ?_
          refine ops_nil ?_
          refine ⟨trivial, ?_⟩
          refine any_takes [10] (by kernel_rfl) trivial _ _ _ (by kernel_rfl) ?_
          refine qs_y rfl rfl (yv_build (v := (.agg #[(.int .i64 (nth l (2 * (k : Int)))), (.int .i64 (nth l ((2 * (k : Int)) + 1)))])) (us := [(0, (.int .i64 (nth l (2 * (k : Int))))), (1, (.int .i64 (nth l ((2 * (k : Int)) + 1))))]) (fun a ha => by simp [ha.ev (show ev _ (.tmp 16) = some _ from rfl), ha.ev (show ev _ (.tmp 21) = some _ from rfl)]) (fun w => by kernel_rfl)) ?_
          refine qs_nil ?_
          refine any_all [11] (by kernel_rfl) rfl ?_
          refine ⟨⟨_, rfl, ?_⟩, trivial⟩
          · skip
            refine op_lit (us := [(0, (.agg #[(.int .i64 (nth l (2 * (k : Int)))), (.int .i64 (nth l ((2 * (k : Int)) + 1)))]))]) T.el22_encP [(nth l (2 * (k : Int)), nth l ((2 * (k : Int)) + 1))] rfl (by decide) rfl (fun a ha => by simp [ha.ev (show ev _ (.tmp 22) = some _ from rfl)]) (fun w => by kernel_rfl) hH7 (fun u19 lo21 hi22 w20 hH23 => ?_)
            refine ops_nil ?_
            refine ⟨trivial, ?_⟩
            refine any_all [12] (by kernel_rfl) rfl ?_
            refine ⟨⟨_, rfl, ?_⟩, trivial⟩
            · skip
              refine op_append (n := 1) T.el22_encP rfl rfl rfl hH23 rfl (Heap.rdw T.el22_encP hH23 (n := 0) rfl) (by first | omega | (simp only [List.length_append, List.length_cons, List.length_nil]; omega)) (fun u24 lo26 hi27 w25 hH28 => ?_)
              refine ops_nil ?_
              refine ⟨trivial, ?_⟩
              refine any_takes [13] (by kernel_rfl) trivial _ _ _ (by kernel_rfl) ?_
              refine qs_y rfl rfl (yv_assign rfl) ?_
              refine qs_nil ?_
              refine any_done (by kernel_rfl) ?_
              refine blk_n ?_
              refine thn_n ?_
              refine region ?_
              refine ops_y hH28 rfl rfl (yv_move rfl) ?_
              refine ops_y hH28 rfl rfl (yv_add rfl rfl (by omega)) ?_
              refine ops_y hH28 rfl rfl (yv_assign rfl) ?_
              refine ops_nil ?_
              have hH29 := (hH28.sub (List.Sublist.cons _ (List.Sublist.refl _)))
              refine lp_n (k + 1, u24, lo26, hi27) (Sub.cons (congrArg (fun z => some (Value.int .i64 z)) (by omega)) (Sub.cons rfl (Sub.cons rfl (Sub.cons rfl (Sub.nil _))))) ?_ ?_
              · exact ⟨(Heap.recast (n := 0) hH29 rfl (rfl)), by omega⟩
              · first | (dsimp only; omega) | (show _ < _; omega)
    · skip
      refine cond_f rfl (decide_eq_false hc4) ?_
      refine exit ?_
      refine thn_x ?_
      refine lp_x ?_
      refine blk_here ?_
      refine thn_n ?_
      refine seq ?_
      refine region ?_
      refine ops_y hH3 rfl rfl (yv_move rfl) ?_
      refine ops_y hH3 rfl rfl (yv_assign rfl) ?_
      refine ops_nil ?_
      refine thn_n ?_
      refine ret ?_
      refine fin (hH3.front (n := 1) rfl) (fun w' hf => (res1 rfl (show RV _ _ _ (.tmp 2) _ from rfl))) (fun w' hf => ?_)
      have hk2 : k = l.length / 2 := by omega
      subst hk2; exact Heap.own hf (n := 0) rfl

theorem c52 {v : Value} {l : List Int} {w : World} (h0 : Rd encI 1 v l w) (hn : l.length ≤ 1000000)  :
    Fn Try.prog 52 [v].toArray w (fun u w => Own 73 2 encP u (S.pairsTo l (l.length / 2)) w) := by
  refine fn_of' (args := [v]) Try.func52 rfl (ent Try.func52 (by kernel_rfl) rfl) rfl rfl (fun hH => ?_)
  refine seq ?_
  refine region ?_
  refine ops_y hH rfl rfl (yv_assign rfl) ?_
  refine ops_nil ?_
  refine thn_n ?_
  refine seq ?_
  refine region ?_
  refine ops_y hH rfl rfl (yv_assign rfl) ?_
  refine ops_nil ?_
  refine thn_n ?_
  refine seq ?_
  refine seq ?_
  refine region ?_
  refine ops_y hH rfl rfl (yv_assign rfl) ?_
  refine ops_nil ?_
  refine thn_n ?_
  refine block ?_
  have hH1 := ow_nil (enc := encP) 73 2 hH
  refine loop (S := Nat × Value × Nat × Nat) (fun (k, v_3, lo_3, hi_3) => [(4, (.int .i64 (2 * (k : Int)))), (3, v_3), (0, v), (2, (.slice none 0 0))]) (fun (k, v_3, lo_3, hi_3) w1 => Heap [ow lo_3 hi_3 73 2 encP v_3 (S.pairsTo l k), base w] w1 ∧ k ≤ l.length / 2) (fun (k, v_3, lo_3, hi_3) => l.length / 2 - k) (0, (.slice none 0 0), w.heap.size, w.heap.size) (Sub.cons rfl (Sub.cons rfl (Sub.cons rfl (Sub.cons rfl (Sub.nil _))))) ?_ ?_
  · exact ⟨(Heap.recast (n := 0) hH1 rfl (rfl)), by omega⟩
  · rintro ⟨k, v_3, lo_3, hi_3⟩ w2 ⟨hH3, hk⟩
    show Holds _ _ _ _ _ [(4, (.int .i64 (2 * (k : Int)))), (3, v_3), (0, v), (2, (.slice none 0 0))] _ _
    refine seq ?_
    refine seq ?_
    refine region ?_
    refine ops_y hH3 rfl rfl (yv_move rfl) ?_
    refine ops_y hH3 rfl rfl (yv_add rfl rfl (by omega)) ?_
    refine ops_y hH3 rfl rfl (yv_move rfl) ?_
    refine ops_y hH3 rfl rfl (yv_len T.sl116 rfl (h0.now hH3 (n := 1) rfl).is) ?_
    refine ops_y hH3 rfl rfl (yv_lss rfl rfl) ?_
    refine ops_nil ?_
    refine thn_n ?_
    by_cases hc4 : ((2 * (k : Int)) + 1) < (l.length : Int)
    · skip
      refine cond_t rfl (decide_eq_true hc4) ?_
      refine skip ?_
      refine thn_n ?_
      refine seq ?_
      refine block ?_
      have hpl := S.pairsTo_length l k
      refine region_draw (fun w' => True) T.mixed (fun w5 hr6 => ?_)
      have hH7 := hH3.redrawn hr6
      refine any_takes [0, 1, 2, 3, 5, 6, 7, 8] (by kernel_rfl) trivial _ _ _ (by kernel_rfl) ?_
      refine qs_y rfl rfl (yv_move rfl) ?_
      refine qs_y rfl rfl (yv_move rfl) ?_
      refine qs_y rfl rfl (yv_move rfl) ?_
      refine qs_y rfl rfl (yv_index T.sl116 rfl rfl (h0.now hH7 (n := 1) rfl).is (by omega)) ?_
      refine qs_y rfl rfl (yv_move rfl) ?_
      refine qs_y rfl rfl (yv_move rfl) ?_
      refine qs_y rfl rfl (yv_add rfl rfl (by omega)) ?_
      refine qs_y rfl rfl (yv_index T.sl116 rfl rfl (h0.now hH7 (n := 1) rfl).is (by omega)) ?_
      refine qs_nil ?_
      refine any_all [4, 9] (by kernel_rfl) rfl ?_
      refine ⟨⟨_, rfl, ?_⟩, ⟨_, rfl, ?_⟩, trivial⟩
      · skip
        refine ops_y hH7 rfl rfl (yv_load T.one2 rfl (fun _ hw => Rd.at (h0.now hw (n := 1) rfl) (i := (2 * (k : Int))) (by omega) (j := 0) rfl)) ?_
        refine ops_nil ?_
        refine ⟨trivial, ?_⟩
        refine any_all [9] (by kernel_rfl) rfl ?_
        refine ⟨⟨_, rfl, ?_⟩, trivial⟩
        · skip
          refine ops_y hH7 rfl rfl (yv_load T.one2 rfl (fun _ hw => Rd.at (h0.now hw (n := 1) rfl) (i := (2 * (k : Int)) + 1) (by omega) (j := 0) rfl)) ?_
          refine ops_nil ?_
          refine ⟨trivial, ?_⟩
          refine any_takes [10] (by kernel_rfl) trivial _ _ _ (by kernel_rfl) ?_
          refine qs_y rfl rfl (yv_build (v := (.agg #[(.int .i64 (nth l (2 * (k : Int)))), (.int .i64 (nth l ((2 * (k : Int)) + 1)))])) (us := [(0, (.int .i64 (nth l (2 * (k : Int))))), (1, (.int .i64 (nth l ((2 * (k : Int)) + 1))))]) (fun a ha => by simp [ha.ev (show ev _ (.tmp 16) = some _ from rfl), ha.ev (show ev _ (.tmp 21) = some _ from rfl)]) (fun w => by kernel_rfl)) ?_
          refine qs_nil ?_
          refine any_all [11] (by kernel_rfl) rfl ?_
          refine ⟨⟨_, rfl, ?_⟩, trivial⟩
          · skip
            refine op_lit (us := [(0, (.agg #[(.int .i64 (nth l (2 * (k : Int)))), (.int .i64 (nth l ((2 * (k : Int)) + 1)))]))]) T.el23_encP [(nth l (2 * (k : Int)), nth l ((2 * (k : Int)) + 1))] rfl (by decide) rfl (fun a ha => by simp [ha.ev (show ev _ (.tmp 22) = some _ from rfl)]) (fun w => by kernel_rfl) hH7 (fun u8 lo10 hi11 w9 hH12 => ?_)
            refine ops_nil ?_
            refine ⟨trivial, ?_⟩
            refine any_all [12] (by kernel_rfl) rfl ?_
            refine ⟨⟨_, rfl, ?_⟩, trivial⟩
            · skip
              refine op_append (n := 1) T.el23_encP rfl rfl rfl hH12 rfl (Heap.rdw T.el23_encP hH12 (n := 0) rfl) (by first | omega | (simp only [List.length_append, List.length_cons, List.length_nil]; omega)) (fun u13 lo15 hi16 w14 hH17 => ?_)
              refine ops_nil ?_
              refine ⟨trivial, ?_⟩
              refine any_takes [13] (by kernel_rfl) trivial _ _ _ (by kernel_rfl) ?_
              refine qs_y rfl rfl (yv_assign rfl) ?_
              refine qs_nil ?_
              refine any_done (by kernel_rfl) ?_
              refine blk_n ?_
              refine thn_n ?_
              refine region ?_
              refine ops_y hH17 rfl rfl (yv_move rfl) ?_
              refine ops_y hH17 rfl rfl (yv_add rfl rfl (by omega)) ?_
              refine ops_y hH17 rfl rfl (yv_assign rfl) ?_
              refine ops_nil ?_
              have hH18 := (hH17.sub (List.Sublist.cons _ (List.Sublist.refl _)))
              refine lp_n (k + 1, u13, lo15, hi16) (Sub.cons (congrArg (fun z => some (Value.int .i64 z)) (by omega)) (Sub.cons rfl (Sub.cons rfl (Sub.cons rfl (Sub.nil _))))) ?_ ?_
              · exact ⟨(Heap.recast (n := 0) hH18 rfl (rfl)), by omega⟩
              · first | (dsimp only; omega) | (show _ < _; omega)
      · skip
        refine ops_y hH7 rfl rfl (yv_load T.one2 rfl (fun _ hw => Rd.at (h0.now hw (n := 1) rfl) (i := (2 * (k : Int)) + 1) (by omega) (j := 0) rfl)) ?_
        refine ops_nil ?_
        refine ⟨trivial, ?_⟩
        refine any_all [4] (by kernel_rfl) rfl ?_
        refine ⟨⟨_, rfl, ?_⟩, trivial⟩
        · skip
          refine ops_y hH7 rfl rfl (yv_load T.one2 rfl (fun _ hw => Rd.at (h0.now hw (n := 1) rfl) (i := (2 * (k : Int))) (by omega) (j := 0) rfl)) ?_
          refine ops_nil ?_
          refine ⟨trivial, ?_⟩
          refine any_takes [10] (by kernel_rfl) trivial _ _ _ (by kernel_rfl) ?_
          refine qs_y rfl rfl (yv_build (v := (.agg #[(.int .i64 (nth l (2 * (k : Int)))), (.int .i64 (nth l ((2 * (k : Int)) + 1)))])) (us := [(0, (.int .i64 (nth l (2 * (k : Int))))), (1, (.int .i64 (nth l ((2 * (k : Int)) + 1))))]) (fun a ha => by simp [ha.ev (show ev _ (.tmp 16) = some _ from rfl), ha.ev (show ev _ (.tmp 21) = some _ from rfl)]) (fun w => by kernel_rfl)) ?_
          refine qs_nil ?_
          refine any_all [11] (by kernel_rfl) rfl ?_
          refine ⟨⟨_, rfl, ?_⟩, trivial⟩
          · skip
            refine op_lit (us := [(0, (.agg #[(.int .i64 (nth l (2 * (k : Int)))), (.int .i64 (nth l ((2 * (k : Int)) + 1)))]))]) T.el23_encP [(nth l (2 * (k : Int)), nth l ((2 * (k : Int)) + 1))] rfl (by decide) rfl (fun a ha => by simp [ha.ev (show ev _ (.tmp 22) = some _ from rfl)]) (fun w => by kernel_rfl) hH7 (fun u19 lo21 hi22 w20 hH23 => ?_)
            refine ops_nil ?_
            refine ⟨trivial, ?_⟩
            refine any_all [12] (by kernel_rfl) rfl ?_
            refine ⟨⟨_, rfl, ?_⟩, trivial⟩
            · skip
              refine op_append (n := 1) T.el23_encP rfl rfl rfl hH23 rfl (Heap.rdw T.el23_encP hH23 (n := 0) rfl) (by first | omega | (simp only [List.length_append, List.length_cons, List.length_nil]; omega)) (fun u24 lo26 hi27 w25 hH28 => ?_)
              refine ops_nil ?_
              refine ⟨trivial, ?_⟩
              refine any_takes [13] (by kernel_rfl) trivial _ _ _ (by kernel_rfl) ?_
              refine qs_y rfl rfl (yv_assign rfl) ?_
              refine qs_nil ?_
              refine any_done (by kernel_rfl) ?_
              refine blk_n ?_
              refine thn_n ?_
              refine region ?_
              refine ops_y hH28 rfl rfl (yv_move rfl) ?_
              refine ops_y hH28 rfl rfl (yv_add rfl rfl (by omega)) ?_
              refine ops_y hH28 rfl rfl (yv_assign rfl) ?_
              refine ops_nil ?_
              have hH29 := (hH28.sub (List.Sublist.cons _ (List.Sublist.refl _)))
              refine lp_n (k + 1, u24, lo26, hi27) (Sub.cons (congrArg (fun z => some (Value.int .i64 z)) (by omega)) (Sub.cons rfl (Sub.cons rfl (Sub.cons rfl (Sub.nil _))))) ?_ ?_
              · exact ⟨(Heap.recast (n := 0) hH29 rfl (rfl)), by omega⟩
              · first | (dsimp only; omega) | (show _ < _; omega)
    · skip
      refine cond_f rfl (decide_eq_false hc4) ?_
      refine exit ?_
      refine thn_x ?_
      refine lp_x ?_
      refine blk_here ?_
      refine thn_n ?_
      refine seq ?_
      refine region ?_
      refine ops_y hH3 rfl rfl (yv_move rfl) ?_
      refine ops_y hH3 rfl rfl (yv_assign rfl) ?_
      refine ops_nil ?_
      refine thn_n ?_
      refine ret ?_
      refine fin (hH3.front (n := 1) rfl) (fun w' hf => (res1 rfl (show RV _ _ _ (.tmp 2) _ from rfl))) (fun w' hf => ?_)
      have hk2 : k = l.length / 2 := by omega
      subst hk2; exact Heap.own hf (n := 0) rfl

theorem c53 {w : World}  :
    Fn Try.prog 53 [].toArray w (fun u w => ∃ b t f, u = .agg #[b, t, f] ∧ Rd3 b t f [0, 1] [1, 0] [1, 0] w) := by
  refine fn_of' (args := []) Try.func53 rfl (ent Try.func53 (by kernel_rfl) rfl) rfl rfl (fun hH => ?_)
  refine seq ?_
  refine region ?_
  refine op_alloc (z := (.agg #[(.slice none 0 0), (.slice none 0 0), (.slice none 0 0)])) (us := [(.slice none 0 0), (.slice none 0 0), (.slice none 0 0)]) (fun _ => by kernel_rfl) rfl rfl hH (fun b1 w2 hH3 => ?_)
  refine ops_nil ?_
  refine thn_n ?_
  refine seq ?_
  refine region ?_
  refine op_lit (us := [(0, (.int .i64 0)), (1, (.int .i64 1))]) T.el39_encI [0, 1] rfl (by decide) rfl (fun a ha => by simp [ha.ev (show ev _ (.const (.int .i64 0)) = some _ from rfl), ha.ev (show ev _ (.const (.int .i64 1)) = some _ from rfl)]) (fun w => by kernel_rfl) hH3 (fun u4 lo6 hi7 w5 hH8 => ?_)
  refine op_fnV rfl rfl rfl hH8 (c50) (fun w9 hH10 => ?_)
  refine op_lit (us := [(0, (.int .i64 1)), (1, (.int .i64 0))]) T.el39_encI [1, 0] rfl (by decide) rfl (fun a ha => by simp [ha.ev (show ev _ (.const (.int .i64 1)) = some _ from rfl), ha.ev (show ev _ (.const (.int .i64 0)) = some _ from rfl)]) (fun w => by kernel_rfl) hH10 (fun u11 lo13 hi14 w12 hH15 => ?_)
  refine op_fnV rfl rfl rfl hH15 (c50) (fun w16 hH17 => ?_)
  refine op_lit (us := [(0, (.int .i64 1)), (1, (.int .i64 0))]) T.el39_encI [1, 0] rfl (by decide) rfl (fun a ha => by simp [ha.ev (show ev _ (.const (.int .i64 1)) = some _ from rfl), ha.ev (show ev _ (.const (.int .i64 0)) = some _ from rfl)]) (fun w => by kernel_rfl) hH17 (fun u18 lo20 hi21 w19 hH22 => ?_)
  refine op_fnV rfl rfl rfl hH22 (c50) (fun w23 hH24 => ?_)
  obtain ⟨_, _, hb25, _⟩ := (Heap.rdw T.el39_encI hH24 (n := 2) rfl).is
  obtain ⟨_, _, hb26, _⟩ := (Heap.rdw T.el39_encI hH24 (n := 1) rfl).is
  obtain ⟨_, _, hb27, _⟩ := (Heap.rdw T.el39_encI hH24 (n := 0) rfl).is
  refine ops_y hH24 rfl rfl (yv_build (v := (.agg #[u4, u11, u18])) (us := [(0, u4), (1, u11), (2, u18)]) (fun a ha => by simp [ha.ev (show ev _ (.tmp 2) = some _ from rfl), ha.ev (show ev _ (.tmp 4) = some _ from rfl), ha.ev (show ev _ (.tmp 6) = some _ from rfl)]) (fun w => by rw [hb25, hb26, hb27]; kernel_rfl)) ?_
  refine op_store (n := 3) (j := 0) (us := [u4, u11, u18]) rfl rfl hH24 rfl T.sz41 rfl rfl rfl (all_one (SliceIs.one1 (Heap.rdw T.el39_encI hH24 (n := 2) rfl).is) (all_one (SliceIs.one1 (Heap.rdw T.el39_encI hH24 (n := 1) rfl).is) (all_one (SliceIs.one1 (Heap.rdw T.el39_encI hH24 (n := 0) rfl).is) rfl))) (fun w28 hH29 => ?_)
  refine ops_nil ?_
  refine thn_n ?_
  refine ret ?_
  refine fin (hH29.front (n := 4) rfl) (fun w' hf => (res1 rfl (rvA (cs := [u4, u11, u18]) rfl T.agg41 rfl (bx_cells (Heap.bxw hf (n := 4) rfl) (k := 0) rfl)))) (fun w' hf => ?_)
  exact ⟨_, _, _, rfl, Heap.rdw T.el39_encI hf (n := 2) rfl, Heap.rdw T.el39_encI hf (n := 1) rfl, Heap.rdw T.el39_encI hf (n := 0) rfl⟩

theorem c54 {w : World}  :
    Fn Try.prog 54 [].toArray w (fun u w => ∃ b t f, u = .agg #[b, t, f] ∧ Rd3 b t f [0, 1, 2] [2, 0, 1] [0, 0, 1] w) := by
  refine fn_of' (args := []) Try.func54 rfl (ent Try.func54 (by kernel_rfl) rfl) rfl rfl (fun hH => ?_)
  refine seq ?_
  refine region ?_
  refine op_alloc (z := (.agg #[(.slice none 0 0), (.slice none 0 0), (.slice none 0 0)])) (us := [(.slice none 0 0), (.slice none 0 0), (.slice none 0 0)]) (fun _ => by kernel_rfl) rfl rfl hH (fun b1 w2 hH3 => ?_)
  refine ops_nil ?_
  refine thn_n ?_
  refine seq ?_
  refine region ?_
  refine op_lit (us := [(0, (.int .i64 0)), (1, (.int .i64 1)), (2, (.int .i64 2))]) T.el39_encI [0, 1, 2] rfl (by decide) rfl (fun a ha => by simp [ha.ev (show ev _ (.const (.int .i64 0)) = some _ from rfl), ha.ev (show ev _ (.const (.int .i64 1)) = some _ from rfl), ha.ev (show ev _ (.const (.int .i64 2)) = some _ from rfl)]) (fun w => by kernel_rfl) hH3 (fun u4 lo6 hi7 w5 hH8 => ?_)
  refine op_fnV rfl rfl rfl hH8 (c50) (fun w9 hH10 => ?_)
  refine op_lit (us := [(0, (.int .i64 2)), (1, (.int .i64 0)), (2, (.int .i64 1))]) T.el39_encI [2, 0, 1] rfl (by decide) rfl (fun a ha => by simp [ha.ev (show ev _ (.const (.int .i64 2)) = some _ from rfl), ha.ev (show ev _ (.const (.int .i64 0)) = some _ from rfl), ha.ev (show ev _ (.const (.int .i64 1)) = some _ from rfl)]) (fun w => by kernel_rfl) hH10 (fun u11 lo13 hi14 w12 hH15 => ?_)
  refine op_fnV rfl rfl rfl hH15 (c50) (fun w16 hH17 => ?_)
  refine op_lit (us := [(0, (.int .i64 0)), (1, (.int .i64 0)), (2, (.int .i64 1))]) T.el39_encI [0, 0, 1] rfl (by decide) rfl (fun a ha => by simp [ha.ev (show ev _ (.const (.int .i64 0)) = some _ from rfl), ha.ev (show ev _ (.const (.int .i64 0)) = some _ from rfl), ha.ev (show ev _ (.const (.int .i64 1)) = some _ from rfl)]) (fun w => by kernel_rfl) hH17 (fun u18 lo20 hi21 w19 hH22 => ?_)
  refine op_fnV rfl rfl rfl hH22 (c50) (fun w23 hH24 => ?_)
  obtain ⟨_, _, hb25, _⟩ := (Heap.rdw T.el39_encI hH24 (n := 2) rfl).is
  obtain ⟨_, _, hb26, _⟩ := (Heap.rdw T.el39_encI hH24 (n := 1) rfl).is
  obtain ⟨_, _, hb27, _⟩ := (Heap.rdw T.el39_encI hH24 (n := 0) rfl).is
  refine ops_y hH24 rfl rfl (yv_build (v := (.agg #[u4, u11, u18])) (us := [(0, u4), (1, u11), (2, u18)]) (fun a ha => by simp [ha.ev (show ev _ (.tmp 2) = some _ from rfl), ha.ev (show ev _ (.tmp 4) = some _ from rfl), ha.ev (show ev _ (.tmp 6) = some _ from rfl)]) (fun w => by rw [hb25, hb26, hb27]; kernel_rfl)) ?_
  refine op_store (n := 3) (j := 0) (us := [u4, u11, u18]) rfl rfl hH24 rfl T.sz41 rfl rfl rfl (all_one (SliceIs.one1 (Heap.rdw T.el39_encI hH24 (n := 2) rfl).is) (all_one (SliceIs.one1 (Heap.rdw T.el39_encI hH24 (n := 1) rfl).is) (all_one (SliceIs.one1 (Heap.rdw T.el39_encI hH24 (n := 0) rfl).is) rfl))) (fun w28 hH29 => ?_)
  refine ops_nil ?_
  refine thn_n ?_
  refine ret ?_
  refine fin (hH29.front (n := 4) rfl) (fun w' hf => (res1 rfl (rvA (cs := [u4, u11, u18]) rfl T.agg41 rfl (bx_cells (Heap.bxw hf (n := 4) rfl) (k := 0) rfl)))) (fun w' hf => ?_)
  exact ⟨_, _, _, rfl, Heap.rdw T.el39_encI hf (n := 2) rfl, Heap.rdw T.el39_encI hf (n := 1) rfl, Heap.rdw T.el39_encI hf (n := 0) rfl⟩

end Go.Fip
