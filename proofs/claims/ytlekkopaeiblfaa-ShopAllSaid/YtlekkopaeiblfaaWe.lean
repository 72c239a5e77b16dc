/- Walks, by program (wip/tools). -/
import Derived.Test.YtlekkopaeiblfaaWd
import Derived.Test.YtlekkopaeiblfaaSo
set_option linter.unusedVariables false
set_option linter.unusedSimpArgs false
set_option linter.unusedSectionVars false
set_option linter.unnecessarySimpa false
namespace Go.Fip
open Go.Proofs Go.RowKit

theorem c93 {v : Value} {l : List Int} {x : Int} {w : World} (h0 : Rd encI 1 v l w) (hn : l.length ≤ 1000000)  :
    Fn Try.prog 93 [v, (.int .i64 x)].toArray w (fun u _ => u = .int .i64 (S.place l x)) := by
  refine fn_of' (args := [v, (.int .i64 x)]) Try.func93 rfl (ent Try.func93 (by kernel_rfl) rfl) rfl rfl (fun hH => ?_)
  refine seq ?_
  refine region ?_
  refine ops_y hH rfl rfl (yv_assign rfl) ?_
  refine ops_nil ?_
  refine thn_n ?_
  refine seq ?_
  refine seq ?_
  refine region ?_
  refine ops_y hH rfl rfl (yv_move rfl) ?_
  refine ops_y hH rfl rfl (yv_len T.sl39 rfl (h0.now hH (n := 0) rfl).is) ?_
  refine ops_y hH rfl rfl (yv_move rfl) ?_
  refine ops_nil ?_
  refine thn_n ?_
  refine block ?_
  refine loop (S := Nat) (fun k => [(8, (.int .i64 (k : Int))), (0, v), (1, (.int .i64 x)), (7, (.int .i64 (l.length : Int)))]) (fun k w1 => Heap [base w] w1 ∧ k ≤ l.length ∧ ∀ i, i < k → (fun y : Int => decide (y = x)) (nth l (i : Int)) = false) (fun k => l.length - k) (0) (Sub.cons rfl (Sub.cons rfl (Sub.cons rfl (Sub.cons rfl (Sub.nil _))))) ?_ ?_
  · exact ⟨hH, by omega, S.all_zero⟩
  · rintro k w1 ⟨hH2, hk, hall⟩
    show Holds _ _ _ _ _ [(8, (.int .i64 (k : Int))), (0, v), (1, (.int .i64 x)), (7, (.int .i64 (l.length : Int)))] _ _
    refine seq ?_
    refine region ?_
    refine ops_y hH2 rfl rfl (yv_lss rfl rfl) ?_
    refine ops_nil ?_
    refine thn_n ?_
    refine seq ?_
    by_cases hc3 : (k : Int) < (l.length : Int)
    · skip
      refine cond_t rfl (decide_eq_true hc3) ?_
      refine skip ?_
      refine thn_n ?_
      refine seq ?_
      refine block ?_
      refine seq ?_
      refine region ?_
      refine ops_y hH2 rfl rfl (yv_move rfl) ?_
      refine ops_y hH2 rfl rfl (yv_assign rfl) ?_
      refine ops_nil ?_
      refine thn_n ?_
      refine seq ?_
      refine region ?_
      refine ops_y hH2 rfl rfl (yv_move rfl) ?_
      refine ops_y hH2 rfl rfl (yv_move rfl) ?_
      refine ops_y hH2 rfl rfl (yv_move rfl) ?_
      refine ops_y hH2 rfl rfl (yv_index T.sl39 rfl rfl (h0.now hH2 (n := 0) rfl).is (by omega)) ?_
      refine ops_y hH2 rfl rfl (yv_load T.one3 rfl (fun _ hw => Rd.at (h0.now hw (n := 0) rfl) (i := (k : Int)) (by omega) (j := 0) rfl)) ?_
      refine ops_y hH2 rfl rfl (yv_eql rfl rfl) ?_
      refine ops_nil ?_
      refine thn_n ?_
      by_cases hc4 : x = (nth l (k : Int))
      · skip
        have hp : (fun y : Int => decide (y = x)) (nth l (k : Int)) = true := decide_eq_true (by omega)
        refine cond_t rfl (decide_eq_true hc4) ?_
        refine seq ?_
        refine region ?_
        refine ops_y hH2 rfl rfl (yv_move rfl) ?_
        refine ops_y hH2 rfl rfl (yv_assign rfl) ?_
        refine ops_nil ?_
        refine thn_n ?_
        refine ret ?_
        refine blk_r ?_
        refine thn_r ?_
        refine lp_r ?_
        refine blk_r ?_
        refine thn_r ?_
        refine fin hH2 (fun w' hf => (res1 rfl (show RV _ _ _ (.tmp 4) _ from rfl))) (fun w' hf => ?_)
        first | exact congrArg (Value.int .i64) (idx_hit (k := k) (by omega) hall hp).symm | exact congrArg (Value.int .i64) (idx_miss (fun i hi => hall i (by omega))).symm
      · skip
        have hp : (fun y : Int => decide (y = x)) (nth l (k : Int)) = false := decide_eq_false (by omega)
        refine cond_f rfl (decide_eq_false hc4) ?_
        refine skip ?_
        refine blk_n ?_
        refine thn_n ?_
        refine region ?_
        refine ops_y hH2 rfl rfl (yv_add rfl rfl (by omega)) ?_
        refine ops_y hH2 rfl rfl (yv_move rfl) ?_
        refine ops_nil ?_
        refine lp_n (k + 1) (Sub.cons rfl (Sub.cons rfl (Sub.cons rfl (Sub.cons rfl (Sub.nil _))))) ?_ ?_
        · exact ⟨hH2, by omega, S.all_snoc hall hp⟩
        · first | (dsimp only; omega) | (show _ < _; omega)
    · skip
      refine cond_f rfl (decide_eq_false hc3) ?_
      refine exit ?_
      refine thn_x ?_
      refine lp_x ?_
      refine blk_here ?_
      refine thn_n ?_
      refine seq ?_
      refine region ?_
      refine ops_y hH2 rfl rfl (yv_assign rfl) ?_
      refine ops_nil ?_
      refine thn_n ?_
      refine ret ?_
      refine fin hH2 (fun w' hf => (res1 rfl (show RV _ _ _ (.tmp 4) _ from rfl))) (fun w' hf => ?_)
      first | exact congrArg (Value.int .i64) (idx_hit (k := k) (by omega) hall hp).symm | exact congrArg (Value.int .i64) (idx_miss (fun i hi => hall i (by omega))).symm

theorem c74 {v : Value} {l : List Int} {x : Int} {w : World} (h0 : Rd encI 1 v l w) (hn : l.length ≤ 1000000)  :
    Fn Try.prog 74 [v, (.int .i64 x)].toArray w (fun u _ => u = .int .i64 (S.place l x)) := by
  refine fn_of' (args := [v, (.int .i64 x)]) Try.func74 rfl (ent Try.func74 (by kernel_rfl) rfl) rfl rfl (fun hH => ?_)
  refine seq ?_
  refine region ?_
  refine ops_y hH rfl rfl (yv_assign rfl) ?_
  refine ops_nil ?_
  refine thn_n ?_
  refine seq ?_
  refine seq ?_
  refine region ?_
  refine ops_y hH rfl rfl (yv_assign rfl) ?_
  refine ops_nil ?_
  refine thn_n ?_
  refine block ?_
  refine loop (S := Nat) (fun k => [(5, (.int .i64 (k : Int))), (0, v), (1, (.int .i64 x))]) (fun k w1 => Heap [base w] w1 ∧ k ≤ l.length ∧ ∀ i, i < k → (fun y : Int => decide (y = x)) (nth l (i : Int)) = false) (fun k => l.length - k) (0) (Sub.cons rfl (Sub.cons rfl (Sub.cons rfl (Sub.nil _)))) ?_ ?_
  · exact ⟨hH, by omega, S.all_zero⟩
  · rintro k w1 ⟨hH2, hk, hall⟩
    show Holds _ _ _ _ _ [(5, (.int .i64 (k : Int))), (0, v), (1, (.int .i64 x))] _ _
    refine seq ?_
    refine seq ?_
    refine region ?_
    refine ops_y hH2 rfl rfl (yv_move rfl) ?_
    refine ops_y hH2 rfl rfl (yv_move rfl) ?_
    refine ops_y hH2 rfl rfl (yv_len T.sl39 rfl (h0.now hH2 (n := 0) rfl).is) ?_
    refine ops_y hH2 rfl rfl (yv_lss rfl rfl) ?_
    refine ops_nil ?_
    refine thn_n ?_
    by_cases hc3 : (k : Int) < (l.length : Int)
    · skip
      refine cond_t rfl (decide_eq_true hc3) ?_
      refine skip ?_
      refine thn_n ?_
      refine seq ?_
      refine block ?_
      refine seq ?_
      refine region ?_
      refine ops_y hH2 rfl rfl (yv_move rfl) ?_
      refine ops_y hH2 rfl rfl (yv_move rfl) ?_
      refine ops_y hH2 rfl rfl (yv_index T.sl39 rfl rfl (h0.now hH2 (n := 0) rfl).is (by omega)) ?_
      refine ops_y hH2 rfl rfl (yv_load T.one3 rfl (fun _ hw => Rd.at (h0.now hw (n := 0) rfl) (i := (k : Int)) (by omega) (j := 0) rfl)) ?_
      refine ops_y hH2 rfl rfl (yv_move rfl) ?_
      refine ops_y hH2 rfl rfl (yv_eql rfl rfl) ?_
      refine ops_nil ?_
      refine thn_n ?_
      by_cases hc4 : (nth l (k : Int)) = x
      · skip
        have hp : (fun y : Int => decide (y = x)) (nth l (k : Int)) = true := decide_eq_true (by omega)
        refine cond_t rfl (decide_eq_true hc4) ?_
        refine seq ?_
        refine region ?_
        refine ops_y hH2 rfl rfl (yv_move rfl) ?_
        refine ops_y hH2 rfl rfl (yv_assign rfl) ?_
        refine ops_nil ?_
        refine thn_n ?_
        refine ret ?_
        refine blk_r ?_
        refine thn_r ?_
        refine lp_r ?_
        refine blk_r ?_
        refine thn_r ?_
        refine fin hH2 (fun w' hf => (res1 rfl (show RV _ _ _ (.tmp 4) _ from rfl))) (fun w' hf => ?_)
        first | exact congrArg (Value.int .i64) (idx_hit (k := k) (by omega) hall hp).symm | exact congrArg (Value.int .i64) (idx_miss (fun i hi => hall i (by omega))).symm
      · skip
        have hp : (fun y : Int => decide (y = x)) (nth l (k : Int)) = false := decide_eq_false (by omega)
        refine cond_f rfl (decide_eq_false hc4) ?_
        refine skip ?_
        refine blk_n ?_
        refine thn_n ?_
        refine region ?_
        refine ops_y hH2 rfl rfl (yv_move rfl) ?_
        refine ops_y hH2 rfl rfl (yv_add rfl rfl (by omega)) ?_
        refine ops_y hH2 rfl rfl (yv_assign rfl) ?_
        refine ops_nil ?_
        refine lp_n (k + 1) (Sub.cons rfl (Sub.cons rfl (Sub.cons rfl (Sub.nil _)))) ?_ ?_
        · exact ⟨hH2, by omega, S.all_snoc hall hp⟩
        · first | (dsimp only; omega) | (show _ < _; omega)
    · skip
      refine cond_f rfl (decide_eq_false hc3) ?_
      refine exit ?_
      refine thn_x ?_
      refine lp_x ?_
      refine blk_here ?_
      refine thn_n ?_
      refine seq ?_
      refine region ?_
      refine ops_y hH2 rfl rfl (yv_assign rfl) ?_
      refine ops_nil ?_
      refine thn_n ?_
      refine ret ?_
      refine fin hH2 (fun w' hf => (res1 rfl (show RV _ _ _ (.tmp 4) _ from rfl))) (fun w' hf => ?_)
      first | exact congrArg (Value.int .i64) (idx_hit (k := k) (by omega) hall hp).symm | exact congrArg (Value.int .i64) (idx_miss (fun i hi => hall i (by omega))).symm

theorem c73 {v : Value} {l : List Int} {x : Int} {w : World} (h0 : Rd encI 1 v l w) (hn : l.length ≤ 1000000)  :
    Fn Try.prog 73 [v, (.int .i64 x)].toArray w (fun u _ => u = .bool (decide (0 ≤ S.place l x))) := by
  refine fn_of' (args := [v, (.int .i64 x)]) Try.func73 rfl (ent Try.func73 (by kernel_rfl) rfl) rfl rfl (fun hH => ?_)
  refine seq ?_
  refine region ?_
  refine ops_y hH rfl rfl (yv_assign rfl) ?_
  refine ops_nil ?_
  refine thn_n ?_
  refine seq ?_
  refine region ?_
  refine ops_y hH rfl rfl (yv_move rfl) ?_
  refine ops_y hH rfl rfl (yv_move rfl) ?_
  refine op_fnV rfl rfl rfl hH (c93 (h0.now hH (n := 0) rfl) (by omega)) (fun w1 hH2 => ?_)
  refine ops_y hH2 rfl rfl (yv_geq rfl rfl) ?_
  refine ops_y hH2 rfl rfl (yv_assign rfl) ?_
  refine ops_nil ?_
  refine thn_n ?_
  refine ret ?_
  refine fin hH2 (fun w' hf => (res1 rfl (show RV _ _ _ (.tmp 4) _ from rfl))) (fun w' hf => ?_)
  rfl

theorem c31 {vb vt vf : Value} {B U F : List Int} {w : World} (hB : Rd encI 1 vb B w) (hT : Rd encI 1 vt U w) (hF : Rd encI 1 vf F w)  :
    Fn Try.prog 31 [(.agg #[vb, vt, vf])].toArray w (fun u _ => u = .bool (decide (12 < (B.length : Int) ∨ 12 < (U.length : Int) ∨ 12 < (F.length : Int)))) := by
  refine fn_of' (args := [(.agg #[vb, vt, vf])]) Try.func31 rfl (ent Try.func31 (by kernel_rfl) rfl) rfl rfl (fun hH => ?_)
  refine seq ?_
  refine region ?_
  refine op_box (us := [vb, vt, vf]) rfl rfl rfl hH (fun b1 w2 hH3 => ?_)
  refine ops_y hH3 rfl rfl (yv_assign rfl) ?_
  refine ops_nil ?_
  refine thn_n ?_
  refine seq ?_
  refine region ?_
  refine ops_y hH3 rfl rfl (yv_field T.f41_0 rfl) ?_
  refine ops_y hH3 rfl rfl (yv_load T.one39 rfl (fun _ hw => Heap.cellw hw (n := 0) rfl rfl)) ?_
  refine ops_y hH3 rfl rfl (yv_len T.sl39 rfl (hB.now hH3 (n := 1) rfl).is) ?_
  refine ops_y hH3 rfl rfl (yv_gtr rfl rfl) ?_
  refine ops_y hH3 rfl rfl (yv_move rfl) ?_
  by_cases hc4 : 12 < (B.length : Int)
  · skip
    refine guard_no rfl rfl (decide_eq_true hc4) rfl ?_
    refine guard_no rfl rfl (decide_eq_true hc4) rfl ?_
    refine guard_no rfl rfl (decide_eq_true hc4) rfl ?_
    refine guard_no rfl rfl (decide_eq_true hc4) rfl ?_
    refine ops_y hH3 rfl rfl (yv_pick_t rfl (decide_eq_true hc4) rfl) ?_
    refine ops_y hH3 rfl rfl (yv_move rfl) ?_
    refine guard_no rfl rfl rfl rfl ?_
    refine guard_no rfl rfl rfl rfl ?_
    refine guard_no rfl rfl rfl rfl ?_
    refine guard_no rfl rfl rfl rfl ?_
    refine ops_y hH3 rfl rfl (yv_pick_t rfl rfl rfl) ?_
    refine ops_y hH3 rfl rfl (yv_assign rfl) ?_
    refine ops_nil ?_
    refine thn_n ?_
    refine ret ?_
    have hH5 := (hH3.sub (List.Sublist.cons _ (List.Sublist.refl _)))
    refine fin hH5 (fun w' hf => (res1 rfl (show RV _ _ _ (.tmp 2) _ from rfl))) (fun w' hf => ?_)
    show Value.bool _ = Value.bool _; congr 1; rw [Bool.eq_iff_iff]; first | (simp; done) | (simp; omega)
  · skip
    refine guard_yes rfl rfl (decide_eq_false hc4) ?_
    refine ops_y hH3 rfl rfl (yv_field T.f41_1 rfl) ?_
    refine guard_yes rfl rfl (decide_eq_false hc4) ?_
    refine ops_y hH3 rfl rfl (yv_load T.one39 rfl (fun _ hw => Heap.cellw hw (n := 0) rfl rfl)) ?_
    refine guard_yes rfl rfl (decide_eq_false hc4) ?_
    refine ops_y hH3 rfl rfl (yv_len T.sl39 rfl (hT.now hH3 (n := 1) rfl).is) ?_
    refine guard_yes rfl rfl (decide_eq_false hc4) ?_
    refine ops_y hH3 rfl rfl (yv_gtr rfl rfl) ?_
    refine ops_y hH3 rfl rfl (yv_pick_f rfl (decide_eq_false hc4) rfl) ?_
    refine ops_y hH3 rfl rfl (yv_move rfl) ?_
    by_cases hc6 : 12 < (U.length : Int)
    · skip
      refine guard_no rfl rfl (decide_eq_true hc6) rfl ?_
      refine guard_no rfl rfl (decide_eq_true hc6) rfl ?_
      refine guard_no rfl rfl (decide_eq_true hc6) rfl ?_
      refine guard_no rfl rfl (decide_eq_true hc6) rfl ?_
      refine ops_y hH3 rfl rfl (yv_pick_t rfl (decide_eq_true hc6) rfl) ?_
      refine ops_y hH3 rfl rfl (yv_assign rfl) ?_
      refine ops_nil ?_
      refine thn_n ?_
      refine ret ?_
      have hH7 := (hH3.sub (List.Sublist.cons _ (List.Sublist.refl _)))
      refine fin hH7 (fun w' hf => (res1 rfl (show RV _ _ _ (.tmp 2) _ from rfl))) (fun w' hf => ?_)
      show Value.bool _ = Value.bool _; congr 1; rw [Bool.eq_iff_iff]; first | (simp; done) | (simp; omega)
    · skip
      refine guard_yes rfl rfl (decide_eq_false hc6) ?_
      refine ops_y hH3 rfl rfl (yv_field T.f41_2 rfl) ?_
      refine guard_yes rfl rfl (decide_eq_false hc6) ?_
      refine ops_y hH3 rfl rfl (yv_load T.one39 rfl (fun _ hw => Heap.cellw hw (n := 0) rfl rfl)) ?_
      refine guard_yes rfl rfl (decide_eq_false hc6) ?_
      refine ops_y hH3 rfl rfl (yv_len T.sl39 rfl (hF.now hH3 (n := 1) rfl).is) ?_
      refine guard_yes rfl rfl (decide_eq_false hc6) ?_
      refine ops_y hH3 rfl rfl (yv_gtr rfl rfl) ?_
      refine ops_y hH3 rfl rfl (yv_pick_f rfl (decide_eq_false hc6) rfl) ?_
      refine ops_y hH3 rfl rfl (yv_assign rfl) ?_
      refine ops_nil ?_
      refine thn_n ?_
      refine ret ?_
      have hH8 := (hH3.sub (List.Sublist.cons _ (List.Sublist.refl _)))
      refine fin hH8 (fun w' hf => (res1 rfl (show RV _ _ _ (.tmp 2) _ from rfl))) (fun w' hf => ?_)
      show Value.bool _ = Value.bool _; congr 1; rw [Bool.eq_iff_iff]; first | (simp; done) | (simp; omega)

theorem c34 {v : Value} {js : List S.Pr} {vb vt vf : Value} {B U F : List Int} {w : World} (h0 : Rd encP 2 v js w) (hB : Rd encI 1 vb B w) (hT : Rd encI 1 vt U w) (hF : Rd encI 1 vf F w) (hn : js.length ≤ 1000000) (hBl : B.length ≤ 1000000) (hTl : U.length ≤ 1000000) (hFl : F.length ≤ 1000000)  :
    Fn Try.prog 34 [v, (.agg #[vb, vt, vf])].toArray w (fun u _ => u = .int .i64 (S.checkOrder js B U F)) := by
  refine fn_of' (args := [v, (.agg #[vb, vt, vf])]) Try.func34 rfl (ent Try.func34 (by kernel_rfl) rfl) rfl rfl (fun hH => ?_)
  refine seq ?_
  refine region ?_
  refine op_box (us := [vb, vt, vf]) rfl rfl rfl hH (fun b1 w2 hH3 => ?_)
  refine ops_y hH3 rfl rfl (yv_assign rfl) ?_
  refine ops_nil ?_
  refine thn_n ?_
  refine seq ?_
  refine seq ?_
  refine region ?_
  refine ops_y hH3 rfl rfl (yv_move rfl) ?_
  refine op_fnV rfl rfl rfl hH3 (c22 (h0.now hH3 (n := 1) rfl) (by omega)) (fun w4 hH5 => ?_)
  refine ops_y hH5 rfl rfl (yv_assign rfl) ?_
  refine ops_nil ?_
  refine thn_n ?_
  refine seq ?_
  refine region ?_
  refine ops_y hH5 rfl rfl (yv_move rfl) ?_
  refine ops_y hH5 rfl rfl (yv_neq rfl rfl) ?_
  refine ops_nil ?_
  refine thn_n ?_
  by_cases hc6 : (S.checkJobs js) = 0
  · skip
    have hc0 : S.checkJobs js = 0 := by omega
    have hj := S.checkJobs_iff.1 hc0
    have hl1 := hj.1
    have hl8 := hj.2.1
    refine cond_f rfl (not_decide_n hc6) ?_
    refine skip ?_
    refine thn_n ?_
    refine seq ?_
    refine seq ?_
    refine region ?_
    refine ops_y hH5 rfl rfl (yv_field T.f41_0 rfl) ?_
    refine ops_y hH5 rfl rfl (yv_load T.one39 rfl (fun _ hw => Heap.cellw hw (n := 0) rfl rfl)) ?_
    refine ops_y hH5 rfl rfl (yv_len T.sl39 rfl (hB.now hH5 (n := 1) rfl).is) ?_
    refine ops_y hH5 rfl rfl (yv_move rfl) ?_
    refine ops_y hH5 rfl rfl (yv_len T.sl22 rfl (h0.now hH5 (n := 1) rfl).is) ?_
    refine ops_y hH5 rfl rfl (yv_neq rfl rfl) ?_
    refine ops_y hH5 rfl rfl (yv_move rfl) ?_
    by_cases hc7 : (B.length : Int) = (js.length : Int)
    · skip
      refine guard_yes rfl rfl (not_decide_n hc7) ?_
      refine ops_y hH5 rfl rfl (yv_field T.f41_1 rfl) ?_
      refine guard_yes rfl rfl (not_decide_n hc7) ?_
      refine ops_y hH5 rfl rfl (yv_load T.one39 rfl (fun _ hw => Heap.cellw hw (n := 0) rfl rfl)) ?_
      refine guard_yes rfl rfl (not_decide_n hc7) ?_
      refine ops_y hH5 rfl rfl (yv_len T.sl39 rfl (hT.now hH5 (n := 1) rfl).is) ?_
      refine guard_yes rfl rfl (not_decide_n hc7) ?_
      refine ops_y hH5 rfl rfl (yv_move rfl) ?_
      refine guard_yes rfl rfl (not_decide_n hc7) ?_
      refine ops_y hH5 rfl rfl (yv_len T.sl22 rfl (h0.now hH5 (n := 1) rfl).is) ?_
      refine guard_yes rfl rfl (not_decide_n hc7) ?_
      refine ops_y hH5 rfl rfl (yv_neq rfl rfl) ?_
      refine ops_y hH5 rfl rfl (yv_pick_f rfl (not_decide_n hc7) rfl) ?_
      refine ops_y hH5 rfl rfl (yv_move rfl) ?_
      by_cases hc8 : (U.length : Int) = (js.length : Int)
      · skip
        refine guard_yes rfl rfl (not_decide_n hc8) ?_
        refine ops_y hH5 rfl rfl (yv_field T.f41_2 rfl) ?_
        refine guard_yes rfl rfl (not_decide_n hc8) ?_
        refine ops_y hH5 rfl rfl (yv_load T.one39 rfl (fun _ hw => Heap.cellw hw (n := 0) rfl rfl)) ?_
        refine guard_yes rfl rfl (not_decide_n hc8) ?_
        refine ops_y hH5 rfl rfl (yv_len T.sl39 rfl (hF.now hH5 (n := 1) rfl).is) ?_
        refine guard_yes rfl rfl (not_decide_n hc8) ?_
        refine ops_y hH5 rfl rfl (yv_move rfl) ?_
        refine guard_yes rfl rfl (not_decide_n hc8) ?_
        refine ops_y hH5 rfl rfl (yv_len T.sl22 rfl (h0.now hH5 (n := 1) rfl).is) ?_
        refine guard_yes rfl rfl (not_decide_n hc8) ?_
        refine ops_y hH5 rfl rfl (yv_neq rfl rfl) ?_
        refine ops_y hH5 rfl rfl (yv_pick_f rfl (not_decide_n hc8) rfl) ?_
        refine ops_nil ?_
        refine thn_n ?_
        by_cases hc9 : (F.length : Int) = (js.length : Int)
        · skip
          refine cond_f rfl (not_decide_n hc9) ?_
          refine skip ?_
          refine thn_n ?_
          refine seq ?_
          refine seq ?_
          refine region ?_
          refine ops_y hH5 rfl rfl (yv_move rfl) ?_
          refine ops_y hH5 rfl rfl (yv_len T.sl22 rfl (h0.now hH5 (n := 1) rfl).is) ?_
          refine ops_y hH5 rfl rfl (yv_move rfl) ?_
          refine ops_nil ?_
          refine thn_n ?_
          refine block ?_
          refine loop (S := Nat) (fun k => [(36, (.int .i64 (k : Int))), (3, (.pointer (some ⟨b1, 0, none⟩))), (35, (.int .i64 (js.length : Int)))]) (fun k w1 => Heap [bx b1 41 [vb, vt, vf], base w] w1 ∧ k ≤ js.length ∧ ∀ i, i < k → S.okFor B U F (i : Int)) (fun k => js.length - k) (0) (Sub.cons rfl (Sub.cons rfl (Sub.cons rfl (Sub.nil _)))) ?_ ?_
          · exact ⟨hH5, by omega, S.all_zero⟩
          · rintro k w10 ⟨hH11, hk, hall⟩
            show Holds _ _ _ _ _ [(36, (.int .i64 (k : Int))), (3, (.pointer (some ⟨b1, 0, none⟩))), (35, (.int .i64 (js.length : Int)))] _ _
            refine seq ?_
            refine region ?_
            refine ops_y hH11 rfl rfl (yv_lss rfl rfl) ?_
            refine ops_nil ?_
            refine thn_n ?_
            refine seq ?_
            by_cases hc12 : (k : Int) < (js.length : Int)
            · skip
              refine cond_t rfl (decide_eq_true hc12) ?_
              refine skip ?_
              refine thn_n ?_
              refine seq ?_
              refine block ?_
              refine seq ?_
              refine region ?_
              refine ops_y hH11 rfl rfl (yv_move rfl) ?_
              refine ops_y hH11 rfl rfl (yv_assign rfl) ?_
              refine ops_nil ?_
              refine thn_n ?_
              refine seq ?_
              refine region ?_
              refine ops_y hH11 rfl rfl (yv_field T.f41_0 rfl) ?_
              refine ops_y hH11 rfl rfl (yv_load T.one39 rfl (fun _ hw => Heap.cellw hw (n := 0) rfl rfl)) ?_
              refine ops_y hH11 rfl rfl (yv_move rfl) ?_
              refine op_fnV rfl rfl rfl hH11 (c73 (hB.now hH11 (n := 1) rfl) (by omega)) (fun w13 hH14 => ?_)
              refine ops_y hH14 rfl rfl (yv_not rfl) ?_
              refine ops_y hH14 rfl rfl (yv_move rfl) ?_
              by_cases hc15 : 0 ≤ S.place B (k : Int)
              · skip
                refine guard_yes rfl rfl (not_decide_n hc15) ?_
                refine ops_y hH14 rfl rfl (yv_field T.f41_1 rfl) ?_
                refine guard_yes rfl rfl (not_decide_n hc15) ?_
                refine ops_y hH14 rfl rfl (yv_load T.one39 rfl (fun _ hw => Heap.cellw hw (n := 0) rfl rfl)) ?_
                refine guard_yes rfl rfl (not_decide_n hc15) ?_
                refine ops_y hH14 rfl rfl (yv_move rfl) ?_
                refine guard_yes rfl rfl (not_decide_n hc15) ?_
                refine op_fnV rfl rfl rfl hH14 (c73 (hT.now hH14 (n := 1) rfl) (by omega)) (fun w16 hH17 => ?_)
                refine guard_yes rfl rfl (not_decide_n hc15) ?_
                refine ops_y hH17 rfl rfl (yv_not rfl) ?_
                refine ops_y hH17 rfl rfl (yv_pick_f rfl (not_decide_n hc15) rfl) ?_
                refine ops_y hH17 rfl rfl (yv_move rfl) ?_
                by_cases hc18 : 0 ≤ S.place U (k : Int)
                · skip
                  refine guard_yes rfl rfl (not_decide_n hc18) ?_
                  refine ops_y hH17 rfl rfl (yv_field T.f41_2 rfl) ?_
                  refine guard_yes rfl rfl (not_decide_n hc18) ?_
                  refine ops_y hH17 rfl rfl (yv_load T.one39 rfl (fun _ hw => Heap.cellw hw (n := 0) rfl rfl)) ?_
                  refine guard_yes rfl rfl (not_decide_n hc18) ?_
                  refine ops_y hH17 rfl rfl (yv_move rfl) ?_
                  refine guard_yes rfl rfl (not_decide_n hc18) ?_
                  refine ops_y hH17 rfl rfl (yv_index T.sl39 rfl rfl (hF.now hH17 (n := 1) rfl).is (by omega)) ?_
                  refine guard_yes rfl rfl (not_decide_n hc18) ?_
                  refine ops_y hH17 rfl rfl (yv_load T.one3 rfl (fun _ hw => Rd.at (hF.now hw (n := 1) rfl) (i := (k : Int)) (by omega) (j := 0) rfl)) ?_
                  refine guard_yes rfl rfl (not_decide_n hc18) ?_
                  refine op_lit (us := [(0, (.int .i64 (nth F (k : Int))))]) T.el116_encI [nth F (k : Int)] rfl (by decide) rfl (fun a ha => by simp [ha.ev (show ev _ (.tmp 56) = some _ from rfl)]) (fun w => by kernel_rfl) hH17 (fun u19 lo21 hi22 w20 hH23 => ?_)
                  refine guard_yes rfl rfl (not_decide_n hc18) ?_
                  refine op_fnV rfl rfl rfl hH23 (c56_1 (Heap.rdw T.el116_encI hH23 (n := 0) rfl)) (fun w24 hH25 => ?_)
                  refine guard_yes rfl rfl (not_decide_n hc18) ?_
                  refine ops_y hH25 rfl rfl (yv_not rfl) ?_
                  refine ops_y hH25 rfl rfl (yv_pick_f rfl (not_decide_n hc18) rfl) ?_
                  refine ops_nil ?_
                  refine thn_n ?_
                  by_cases hc26 : 0 ≤ nth F (k : Int) ∧ nth F (k : Int) ≤ 1
                  · skip
                    refine cond_f rfl (not_decide_n hc26) ?_
                    refine skip ?_
                    refine blk_n ?_
                    refine thn_n ?_
                    refine region ?_
                    refine ops_y hH25 rfl rfl (yv_add rfl rfl (by omega)) ?_
                    refine ops_y hH25 rfl rfl (yv_move rfl) ?_
                    refine ops_nil ?_
                    have hH27 := (hH25.sub (List.Sublist.cons _ (List.Sublist.refl _)))
                    refine lp_n (k + 1) (Sub.cons rfl (Sub.cons rfl (Sub.cons rfl (Sub.nil _)))) ?_ ?_
                    · exact ⟨hH27, by omega, S.all_snoc hall (by unfold S.okFor; omega)⟩
                    · first | (dsimp only; omega) | (show _ < _; omega)
                  · skip
                    have hbad : ¬ S.AllO js.length B U F := fun h => (show ¬ S.okFor B U F (k : Int) by unfold S.okFor; omega) (h k (by omega))
                    refine cond_t rfl (not_decide_t hc26) ?_
                    refine seq ?_
                    refine region ?_
                    refine ops_y hH25 rfl rfl (yv_assign rfl) ?_
                    refine ops_nil ?_
                    refine thn_n ?_
                    refine ret ?_
                    refine blk_r ?_
                    refine thn_r ?_
                    refine lp_r ?_
                    refine blk_r ?_
                    refine thn_r ?_
                    have hH28 := (hH25.sub (List.Sublist.cons _ (List.Sublist.cons _ (List.Sublist.refl _))))
                    refine fin hH28 (fun w' hf => (res1 rfl (show RV _ _ _ (.tmp 4) _ from rfl))) (fun w' hf => ?_)
                    first | exact congrArg (Value.int .i64) (S.co1 (by assumption)).symm | exact congrArg (Value.int .i64) (S.co2 hc0 (by omega)).symm | exact congrArg (Value.int .i64) (S.co4 hc0 (by omega) hbad).symm | exact congrArg (Value.int .i64) (S.co3 hc0 (by omega) (fun i hi => hall i (by omega))).symm
                · skip
                  have hbad : ¬ S.AllO js.length B U F := fun h => (show ¬ S.okFor B U F (k : Int) by unfold S.okFor; omega) (h k (by omega))
                  refine guard_no rfl rfl (not_decide_t hc18) rfl ?_
                  refine guard_no rfl rfl (not_decide_t hc18) rfl ?_
                  refine guard_no rfl rfl (not_decide_t hc18) rfl ?_
                  refine guard_no rfl rfl (not_decide_t hc18) rfl ?_
                  refine guard_no rfl rfl (not_decide_t hc18) rfl ?_
                  refine guard_no rfl rfl (not_decide_t hc18) rfl ?_
                  refine guard_no rfl rfl (not_decide_t hc18) rfl ?_
                  refine guard_no rfl rfl (not_decide_t hc18) rfl ?_
                  refine ops_y hH17 rfl rfl (yv_pick_t rfl (not_decide_t hc18) rfl) ?_
                  refine ops_nil ?_
                  refine thn_n ?_
                  refine cond_t rfl rfl ?_
                  refine seq ?_
                  refine region ?_
                  refine ops_y hH17 rfl rfl (yv_assign rfl) ?_
                  refine ops_nil ?_
                  refine thn_n ?_
                  refine ret ?_
                  refine blk_r ?_
                  refine thn_r ?_
                  refine lp_r ?_
                  refine blk_r ?_
                  refine thn_r ?_
                  have hH29 := (hH17.sub (List.Sublist.cons _ (List.Sublist.refl _)))
                  refine fin hH29 (fun w' hf => (res1 rfl (show RV _ _ _ (.tmp 4) _ from rfl))) (fun w' hf => ?_)
                  first | exact congrArg (Value.int .i64) (S.co1 (by assumption)).symm | exact congrArg (Value.int .i64) (S.co2 hc0 (by omega)).symm | exact congrArg (Value.int .i64) (S.co4 hc0 (by omega) hbad).symm | exact congrArg (Value.int .i64) (S.co3 hc0 (by omega) (fun i hi => hall i (by omega))).symm
              · skip
                have hbad : ¬ S.AllO js.length B U F := fun h => (show ¬ S.okFor B U F (k : Int) by unfold S.okFor; omega) (h k (by omega))
                refine guard_no rfl rfl (not_decide_t hc15) rfl ?_
                refine guard_no rfl rfl (not_decide_t hc15) rfl ?_
                refine guard_no rfl rfl (not_decide_t hc15) rfl ?_
                refine guard_no rfl rfl (not_decide_t hc15) rfl ?_
                refine guard_no rfl rfl (not_decide_t hc15) rfl ?_
                refine ops_y hH14 rfl rfl (yv_pick_t rfl (not_decide_t hc15) rfl) ?_
                refine ops_y hH14 rfl rfl (yv_move rfl) ?_
                refine guard_no rfl rfl rfl rfl ?_
                refine guard_no rfl rfl rfl rfl ?_
                refine guard_no rfl rfl rfl rfl ?_
                refine guard_no rfl rfl rfl rfl ?_
                refine guard_no rfl rfl rfl rfl ?_
                refine guard_no rfl rfl rfl rfl ?_
                refine guard_no rfl rfl rfl rfl ?_
                refine guard_no rfl rfl rfl rfl ?_
                refine ops_y hH14 rfl rfl (yv_pick_t rfl rfl rfl) ?_
                refine ops_nil ?_
                refine thn_n ?_
                refine cond_t rfl rfl ?_
                refine seq ?_
                refine region ?_
                refine ops_y hH14 rfl rfl (yv_assign rfl) ?_
                refine ops_nil ?_
                refine thn_n ?_
                refine ret ?_
                refine blk_r ?_
                refine thn_r ?_
                refine lp_r ?_
                refine blk_r ?_
                refine thn_r ?_
                have hH30 := (hH14.sub (List.Sublist.cons _ (List.Sublist.refl _)))
                refine fin hH30 (fun w' hf => (res1 rfl (show RV _ _ _ (.tmp 4) _ from rfl))) (fun w' hf => ?_)
                first | exact congrArg (Value.int .i64) (S.co1 (by assumption)).symm | exact congrArg (Value.int .i64) (S.co2 hc0 (by omega)).symm | exact congrArg (Value.int .i64) (S.co4 hc0 (by omega) hbad).symm | exact congrArg (Value.int .i64) (S.co3 hc0 (by omega) (fun i hi => hall i (by omega))).symm
            · skip
              refine cond_f rfl (decide_eq_false hc12) ?_
              refine exit ?_
              refine thn_x ?_
              refine lp_x ?_
              refine blk_here ?_
              refine thn_n ?_
              refine seq ?_
              refine region ?_
              refine ops_y hH11 rfl rfl (yv_assign rfl) ?_
              refine ops_nil ?_
              refine thn_n ?_
              refine ret ?_
              have hH31 := (hH11.sub (List.Sublist.cons _ (List.Sublist.refl _)))
              refine fin hH31 (fun w' hf => (res1 rfl (show RV _ _ _ (.tmp 4) _ from rfl))) (fun w' hf => ?_)
              first | exact congrArg (Value.int .i64) (S.co1 (by assumption)).symm | exact congrArg (Value.int .i64) (S.co2 hc0 (by omega)).symm | exact congrArg (Value.int .i64) (S.co4 hc0 (by omega) hbad).symm | exact congrArg (Value.int .i64) (S.co3 hc0 (by omega) (fun i hi => hall i (by omega))).symm
        · skip
          refine cond_t rfl (not_decide_t hc9) ?_
          refine seq ?_
          refine region ?_
          refine ops_y hH5 rfl rfl (yv_assign rfl) ?_
          refine ops_nil ?_
          refine thn_n ?_
          refine ret ?_
          refine thn_r ?_
          have hH32 := (hH5.sub (List.Sublist.cons _ (List.Sublist.refl _)))
          refine fin hH32 (fun w' hf => (res1 rfl (show RV _ _ _ (.tmp 4) _ from rfl))) (fun w' hf => ?_)
          first | exact congrArg (Value.int .i64) (S.co1 (by assumption)).symm | exact congrArg (Value.int .i64) (S.co2 hc0 (by omega)).symm | exact congrArg (Value.int .i64) (S.co4 hc0 (by omega) hbad).symm | exact congrArg (Value.int .i64) (S.co3 hc0 (by omega) (fun i hi => hall i (by omega))).symm
      · skip
        refine guard_no rfl rfl (not_decide_t hc8) rfl ?_
        refine guard_no rfl rfl (not_decide_t hc8) rfl ?_
        refine guard_no rfl rfl (not_decide_t hc8) rfl ?_
        refine guard_no rfl rfl (not_decide_t hc8) rfl ?_
        refine guard_no rfl rfl (not_decide_t hc8) rfl ?_
        refine guard_no rfl rfl (not_decide_t hc8) rfl ?_
        refine ops_y hH5 rfl rfl (yv_pick_t rfl (not_decide_t hc8) rfl) ?_
        refine ops_nil ?_
        refine thn_n ?_
        refine cond_t rfl rfl ?_
        refine seq ?_
        refine region ?_
        refine ops_y hH5 rfl rfl (yv_assign rfl) ?_
        refine ops_nil ?_
        refine thn_n ?_
        refine ret ?_
        refine thn_r ?_
        have hH33 := (hH5.sub (List.Sublist.cons _ (List.Sublist.refl _)))
        refine fin hH33 (fun w' hf => (res1 rfl (show RV _ _ _ (.tmp 4) _ from rfl))) (fun w' hf => ?_)
        first | exact congrArg (Value.int .i64) (S.co1 (by assumption)).symm | exact congrArg (Value.int .i64) (S.co2 hc0 (by omega)).symm | exact congrArg (Value.int .i64) (S.co4 hc0 (by omega) hbad).symm | exact congrArg (Value.int .i64) (S.co3 hc0 (by omega) (fun i hi => hall i (by omega))).symm
    · skip
      refine guard_no rfl rfl (not_decide_t hc7) rfl ?_
      refine guard_no rfl rfl (not_decide_t hc7) rfl ?_
      refine guard_no rfl rfl (not_decide_t hc7) rfl ?_
      refine guard_no rfl rfl (not_decide_t hc7) rfl ?_
      refine guard_no rfl rfl (not_decide_t hc7) rfl ?_
      refine guard_no rfl rfl (not_decide_t hc7) rfl ?_
      refine ops_y hH5 rfl rfl (yv_pick_t rfl (not_decide_t hc7) rfl) ?_
      refine ops_y hH5 rfl rfl (yv_move rfl) ?_
      refine guard_no rfl rfl rfl rfl ?_
      refine guard_no rfl rfl rfl rfl ?_
      refine guard_no rfl rfl rfl rfl ?_
      refine guard_no rfl rfl rfl rfl ?_
      refine guard_no rfl rfl rfl rfl ?_
      refine guard_no rfl rfl rfl rfl ?_
      refine ops_y hH5 rfl rfl (yv_pick_t rfl rfl rfl) ?_
      refine ops_nil ?_
      refine thn_n ?_
      refine cond_t rfl rfl ?_
      refine seq ?_
      refine region ?_
      refine ops_y hH5 rfl rfl (yv_assign rfl) ?_
      refine ops_nil ?_
      refine thn_n ?_
      refine ret ?_
      refine thn_r ?_
      have hH34 := (hH5.sub (List.Sublist.cons _ (List.Sublist.refl _)))
      refine fin hH34 (fun w' hf => (res1 rfl (show RV _ _ _ (.tmp 4) _ from rfl))) (fun w' hf => ?_)
      first | exact congrArg (Value.int .i64) (S.co1 (by assumption)).symm | exact congrArg (Value.int .i64) (S.co2 hc0 (by omega)).symm | exact congrArg (Value.int .i64) (S.co4 hc0 (by omega) hbad).symm | exact congrArg (Value.int .i64) (S.co3 hc0 (by omega) (fun i hi => hall i (by omega))).symm
  · skip
    refine cond_t rfl (not_decide_t hc6) ?_
    refine seq ?_
    refine region ?_
    refine ops_y hH5 rfl rfl (yv_move rfl) ?_
    refine ops_y hH5 rfl rfl (yv_assign rfl) ?_
    refine ops_nil ?_
    refine thn_n ?_
    refine ret ?_
    refine thn_r ?_
    have hH35 := (hH5.sub (List.Sublist.cons _ (List.Sublist.refl _)))
    refine fin hH35 (fun w' hf => (res1 rfl (show RV _ _ _ (.tmp 4) _ from rfl))) (fun w' hf => ?_)
    first | exact congrArg (Value.int .i64) (S.co1 (by assumption)).symm | exact congrArg (Value.int .i64) (S.co2 hc0 (by omega)).symm | exact congrArg (Value.int .i64) (S.co4 hc0 (by omega) hbad).symm | exact congrArg (Value.int .i64) (S.co3 hc0 (by omega) (fun i hi => hall i (by omega))).symm

theorem c35 {v : Value} {js : List S.Pr} {vb vt vf : Value} {B U F : List Int} {w : World} (h0 : Rd encP 2 v js w) (hB : Rd encI 1 vb B w) (hT : Rd encI 1 vt U w) (hF : Rd encI 1 vf F w) (hn : js.length ≤ 1000000) (hBl : B.length ≤ 1000000) (hTl : U.length ≤ 1000000) (hFl : F.length ≤ 1000000)  :
    Fn Try.prog 35 [v, (.agg #[vb, vt, vf])].toArray w (fun u _ => u = .int .i64 (S.checkOrder js B U F)) := by
  refine fn_of' (args := [v, (.agg #[vb, vt, vf])]) Try.func35 rfl (ent Try.func35 (by kernel_rfl) rfl) rfl rfl (fun hH => ?_)
  refine seq ?_
  refine region ?_
  refine op_box (us := [vb, vt, vf]) rfl rfl rfl hH (fun b1 w2 hH3 => ?_)
  refine ops_y hH3 rfl rfl (yv_assign rfl) ?_
  refine ops_nil ?_
  refine thn_n ?_
  refine seq ?_
  refine seq ?_
  refine region ?_
  refine ops_y hH3 rfl rfl (yv_move rfl) ?_
  refine op_fnV rfl rfl rfl hH3 (c23 (h0.now hH3 (n := 1) rfl) (by omega)) (fun w4 hH5 => ?_)
  refine ops_y hH5 rfl rfl (yv_neq rfl rfl) ?_
  refine ops_nil ?_
  refine thn_n ?_
  by_cases hc6 : (S.checkJobs js) = 0
  · skip
    have hc0 : S.checkJobs js = 0 := by omega
    have hj := S.checkJobs_iff.1 hc0
    have hl1 := hj.1
    have hl8 := hj.2.1
    refine cond_f rfl (not_decide_n hc6) ?_
    refine skip ?_
    refine thn_n ?_
    refine seq ?_
    refine seq ?_
    refine region ?_
    refine ops_y hH5 rfl rfl (yv_field T.f41_0 rfl) ?_
    refine ops_y hH5 rfl rfl (yv_load T.one39 rfl (fun _ hw => Heap.cellw hw (n := 0) rfl rfl)) ?_
    refine ops_y hH5 rfl rfl (yv_len T.sl39 rfl (hB.now hH5 (n := 1) rfl).is) ?_
    refine ops_y hH5 rfl rfl (yv_move rfl) ?_
    refine ops_y hH5 rfl rfl (yv_len T.sl22 rfl (h0.now hH5 (n := 1) rfl).is) ?_
    refine ops_y hH5 rfl rfl (yv_neq rfl rfl) ?_
    refine ops_y hH5 rfl rfl (yv_move rfl) ?_
    by_cases hc7 : (B.length : Int) = (js.length : Int)
    · skip
      refine guard_yes rfl rfl (not_decide_n hc7) ?_
      refine ops_y hH5 rfl rfl (yv_field T.f41_1 rfl) ?_
      refine guard_yes rfl rfl (not_decide_n hc7) ?_
      refine ops_y hH5 rfl rfl (yv_load T.one39 rfl (fun _ hw => Heap.cellw hw (n := 0) rfl rfl)) ?_
      refine guard_yes rfl rfl (not_decide_n hc7) ?_
      refine ops_y hH5 rfl rfl (yv_len T.sl39 rfl (hT.now hH5 (n := 1) rfl).is) ?_
      refine guard_yes rfl rfl (not_decide_n hc7) ?_
      refine ops_y hH5 rfl rfl (yv_move rfl) ?_
      refine guard_yes rfl rfl (not_decide_n hc7) ?_
      refine ops_y hH5 rfl rfl (yv_len T.sl22 rfl (h0.now hH5 (n := 1) rfl).is) ?_
      refine guard_yes rfl rfl (not_decide_n hc7) ?_
      refine ops_y hH5 rfl rfl (yv_neq rfl rfl) ?_
      refine ops_y hH5 rfl rfl (yv_pick_f rfl (not_decide_n hc7) rfl) ?_
      refine ops_y hH5 rfl rfl (yv_move rfl) ?_
      by_cases hc8 : (U.length : Int) = (js.length : Int)
      · skip
        refine guard_yes rfl rfl (not_decide_n hc8) ?_
        refine ops_y hH5 rfl rfl (yv_field T.f41_2 rfl) ?_
        refine guard_yes rfl rfl (not_decide_n hc8) ?_
        refine ops_y hH5 rfl rfl (yv_load T.one39 rfl (fun _ hw => Heap.cellw hw (n := 0) rfl rfl)) ?_
        refine guard_yes rfl rfl (not_decide_n hc8) ?_
        refine ops_y hH5 rfl rfl (yv_len T.sl39 rfl (hF.now hH5 (n := 1) rfl).is) ?_
        refine guard_yes rfl rfl (not_decide_n hc8) ?_
        refine ops_y hH5 rfl rfl (yv_move rfl) ?_
        refine guard_yes rfl rfl (not_decide_n hc8) ?_
        refine ops_y hH5 rfl rfl (yv_len T.sl22 rfl (h0.now hH5 (n := 1) rfl).is) ?_
        refine guard_yes rfl rfl (not_decide_n hc8) ?_
        refine ops_y hH5 rfl rfl (yv_neq rfl rfl) ?_
        refine ops_y hH5 rfl rfl (yv_pick_f rfl (not_decide_n hc8) rfl) ?_
        refine ops_nil ?_
        refine thn_n ?_
        by_cases hc9 : (F.length : Int) = (js.length : Int)
        · skip
          refine cond_f rfl (not_decide_n hc9) ?_
          refine skip ?_
          refine thn_n ?_
          refine seq ?_
          refine seq ?_
          refine region ?_
          refine ops_y hH5 rfl rfl (yv_assign rfl) ?_
          refine ops_nil ?_
          refine thn_n ?_
          refine block ?_
          refine loop (S := Nat) (fun k => [(5, (.int .i64 (k : Int))), (0, v), (3, (.pointer (some ⟨b1, 0, none⟩)))]) (fun k w1 => Heap [bx b1 41 [vb, vt, vf], base w] w1 ∧ k ≤ js.length ∧ ∀ i, i < k → S.okFor B U F (i : Int)) (fun k => js.length - k) (0) (Sub.cons rfl (Sub.cons rfl (Sub.cons rfl (Sub.nil _)))) ?_ ?_
          · exact ⟨hH5, by omega, S.all_zero⟩
          · rintro k w10 ⟨hH11, hk, hall⟩
            show Holds _ _ _ _ _ [(5, (.int .i64 (k : Int))), (0, v), (3, (.pointer (some ⟨b1, 0, none⟩)))] _ _
            refine seq ?_
            refine seq ?_
            refine region ?_
            refine ops_y hH11 rfl rfl (yv_move rfl) ?_
            refine ops_y hH11 rfl rfl (yv_move rfl) ?_
            refine ops_y hH11 rfl rfl (yv_len T.sl22 rfl (h0.now hH11 (n := 1) rfl).is) ?_
            refine ops_y hH11 rfl rfl (yv_lss rfl rfl) ?_
            refine ops_nil ?_
            refine thn_n ?_
            by_cases hc12 : (k : Int) < (js.length : Int)
            · skip
              refine cond_t rfl (decide_eq_true hc12) ?_
              refine skip ?_
              refine thn_n ?_
              refine seq ?_
              refine block ?_
              refine seq ?_
              refine region ?_
              refine ops_y hH11 rfl rfl (yv_field T.f41_0 rfl) ?_
              refine ops_y hH11 rfl rfl (yv_load T.one39 rfl (fun _ hw => Heap.cellw hw (n := 0) rfl rfl)) ?_
              refine ops_y hH11 rfl rfl (yv_move rfl) ?_
              refine op_fnV rfl rfl rfl hH11 (c74 (hB.now hH11 (n := 1) rfl) (by omega)) (fun w13 hH14 => ?_)
              refine ops_y hH14 rfl rfl (yv_lss rfl rfl) ?_
              refine ops_y hH14 rfl rfl (yv_move rfl) ?_
              by_cases hc15 : (S.place B (k : Int)) < 0
              · skip
                have hbad : ¬ S.AllO js.length B U F := fun h => (show ¬ S.okFor B U F (k : Int) by unfold S.okFor; omega) (h k (by omega))
                refine guard_no rfl rfl (decide_eq_true hc15) rfl ?_
                refine guard_no rfl rfl (decide_eq_true hc15) rfl ?_
                refine guard_no rfl rfl (decide_eq_true hc15) rfl ?_
                refine guard_no rfl rfl (decide_eq_true hc15) rfl ?_
                refine guard_no rfl rfl (decide_eq_true hc15) rfl ?_
                refine ops_y hH14 rfl rfl (yv_pick_t rfl (decide_eq_true hc15) rfl) ?_
                refine ops_y hH14 rfl rfl (yv_move rfl) ?_
                refine guard_no rfl rfl rfl rfl ?_
                refine guard_no rfl rfl rfl rfl ?_
                refine guard_no rfl rfl rfl rfl ?_
                refine guard_no rfl rfl rfl rfl ?_
                refine guard_no rfl rfl rfl rfl ?_
                refine guard_no rfl rfl rfl rfl ?_
                refine ops_y hH14 rfl rfl (yv_pick_t rfl rfl rfl) ?_
                refine ops_y hH14 rfl rfl (yv_move rfl) ?_
                refine guard_no rfl rfl rfl rfl ?_
                refine guard_no rfl rfl rfl rfl ?_
                refine guard_no rfl rfl rfl rfl ?_
                refine guard_no rfl rfl rfl rfl ?_
                refine guard_no rfl rfl rfl rfl ?_
                refine guard_no rfl rfl rfl rfl ?_
                refine ops_y hH14 rfl rfl (yv_pick_t rfl rfl rfl) ?_
                refine ops_nil ?_
                refine thn_n ?_
                refine cond_t rfl rfl ?_
                refine seq ?_
                refine region ?_
                refine ops_y hH14 rfl rfl (yv_assign rfl) ?_
                refine ops_nil ?_
                refine thn_n ?_
                refine ret ?_
                refine blk_r ?_
                refine thn_r ?_
                refine lp_r ?_
                refine blk_r ?_
                refine thn_r ?_
                have hH16 := (hH14.sub (List.Sublist.cons _ (List.Sublist.refl _)))
                refine fin hH16 (fun w' hf => (res1 rfl (show RV _ _ _ (.tmp 4) _ from rfl))) (fun w' hf => ?_)
                first | exact congrArg (Value.int .i64) (S.co1 (by assumption)).symm | exact congrArg (Value.int .i64) (S.co2 hc0 (by omega)).symm | exact congrArg (Value.int .i64) (S.co4 hc0 (by omega) hbad).symm | exact congrArg (Value.int .i64) (S.co3 hc0 (by omega) (fun i hi => hall i (by omega))).symm
              · skip
                refine guard_yes rfl rfl (decide_eq_false hc15) ?_
                refine ops_y hH14 rfl rfl (yv_field T.f41_1 rfl) ?_
                refine guard_yes rfl rfl (decide_eq_false hc15) ?_
                refine ops_y hH14 rfl rfl (yv_load T.one39 rfl (fun _ hw => Heap.cellw hw (n := 0) rfl rfl)) ?_
                refine guard_yes rfl rfl (decide_eq_false hc15) ?_
                refine ops_y hH14 rfl rfl (yv_move rfl) ?_
                refine guard_yes rfl rfl (decide_eq_false hc15) ?_
                refine op_fnV rfl rfl rfl hH14 (c74 (hT.now hH14 (n := 1) rfl) (by omega)) (fun w17 hH18 => ?_)
                refine guard_yes rfl rfl (decide_eq_false hc15) ?_
                refine ops_y hH18 rfl rfl (yv_lss rfl rfl) ?_
                refine ops_y hH18 rfl rfl (yv_pick_f rfl (decide_eq_false hc15) rfl) ?_
                refine ops_y hH18 rfl rfl (yv_move rfl) ?_
                by_cases hc19 : (S.place U (k : Int)) < 0
                · skip
                  have hbad : ¬ S.AllO js.length B U F := fun h => (show ¬ S.okFor B U F (k : Int) by unfold S.okFor; omega) (h k (by omega))
                  refine guard_no rfl rfl (decide_eq_true hc19) rfl ?_
                  refine guard_no rfl rfl (decide_eq_true hc19) rfl ?_
                  refine guard_no rfl rfl (decide_eq_true hc19) rfl ?_
                  refine guard_no rfl rfl (decide_eq_true hc19) rfl ?_
                  refine guard_no rfl rfl (decide_eq_true hc19) rfl ?_
                  refine guard_no rfl rfl (decide_eq_true hc19) rfl ?_
                  refine ops_y hH18 rfl rfl (yv_pick_t rfl (decide_eq_true hc19) rfl) ?_
                  refine ops_y hH18 rfl rfl (yv_move rfl) ?_
                  refine guard_no rfl rfl rfl rfl ?_
                  refine guard_no rfl rfl rfl rfl ?_
                  refine guard_no rfl rfl rfl rfl ?_
                  refine guard_no rfl rfl rfl rfl ?_
                  refine guard_no rfl rfl rfl rfl ?_
                  refine guard_no rfl rfl rfl rfl ?_
                  refine ops_y hH18 rfl rfl (yv_pick_t rfl rfl rfl) ?_
                  refine ops_nil ?_
                  refine thn_n ?_
                  refine cond_t rfl rfl ?_
                  refine seq ?_
                  refine region ?_
                  refine ops_y hH18 rfl rfl (yv_assign rfl) ?_
                  refine ops_nil ?_
                  refine thn_n ?_
                  refine ret ?_
                  refine blk_r ?_
                  refine thn_r ?_
                  refine lp_r ?_
                  refine blk_r ?_
                  refine thn_r ?_
                  have hH20 := (hH18.sub (List.Sublist.cons _ (List.Sublist.refl _)))
                  refine fin hH20 (fun w' hf => (res1 rfl (show RV _ _ _ (.tmp 4) _ from rfl))) (fun w' hf => ?_)
                  first | exact congrArg (Value.int .i64) (S.co1 (by assumption)).symm | exact congrArg (Value.int .i64) (S.co2 hc0 (by omega)).symm | exact congrArg (Value.int .i64) (S.co4 hc0 (by omega) hbad).symm | exact congrArg (Value.int .i64) (S.co3 hc0 (by omega) (fun i hi => hall i (by omega))).symm
                · skip
                  refine guard_yes rfl rfl (decide_eq_false hc19) ?_
                  refine ops_y hH18 rfl rfl (yv_field T.f41_2 rfl) ?_
                  refine guard_yes rfl rfl (decide_eq_false hc19) ?_
                  refine ops_y hH18 rfl rfl (yv_load T.one39 rfl (fun _ hw => Heap.cellw hw (n := 0) rfl rfl)) ?_
                  refine guard_yes rfl rfl (decide_eq_false hc19) ?_
                  refine ops_y hH18 rfl rfl (yv_move rfl) ?_
                  refine guard_yes rfl rfl (decide_eq_false hc19) ?_
                  refine ops_y hH18 rfl rfl (yv_index T.sl39 rfl rfl (hF.now hH18 (n := 1) rfl).is (by omega)) ?_
                  refine guard_yes rfl rfl (decide_eq_false hc19) ?_
                  refine ops_y hH18 rfl rfl (yv_load T.one3 rfl (fun _ hw => Rd.at (hF.now hw (n := 1) rfl) (i := (k : Int)) (by omega) (j := 0) rfl)) ?_
                  refine guard_yes rfl rfl (decide_eq_false hc19) ?_
                  refine ops_y hH18 rfl rfl (yv_lss rfl rfl) ?_
                  refine ops_y hH18 rfl rfl (yv_pick_f rfl (decide_eq_false hc19) rfl) ?_
                  refine ops_y hH18 rfl rfl (yv_move rfl) ?_
                  by_cases hc21 : (nth F (k : Int)) < 0
                  · skip
                    have hbad : ¬ S.AllO js.length B U F := fun h => (show ¬ S.okFor B U F (k : Int) by unfold S.okFor; omega) (h k (by omega))
                    refine guard_no rfl rfl (decide_eq_true hc21) rfl ?_
                    refine guard_no rfl rfl (decide_eq_true hc21) rfl ?_
                    refine guard_no rfl rfl (decide_eq_true hc21) rfl ?_
                    refine guard_no rfl rfl (decide_eq_true hc21) rfl ?_
                    refine guard_no rfl rfl (decide_eq_true hc21) rfl ?_
                    refine guard_no rfl rfl (decide_eq_true hc21) rfl ?_
                    refine ops_y hH18 rfl rfl (yv_pick_t rfl (decide_eq_true hc21) rfl) ?_
                    refine ops_nil ?_
                    refine thn_n ?_
                    refine cond_t rfl rfl ?_
                    refine seq ?_
                    refine region ?_
                    refine ops_y hH18 rfl rfl (yv_assign rfl) ?_
                    refine ops_nil ?_
                    refine thn_n ?_
                    refine ret ?_
                    refine blk_r ?_
                    refine thn_r ?_
                    refine lp_r ?_
                    refine blk_r ?_
                    refine thn_r ?_
                    have hH22 := (hH18.sub (List.Sublist.cons _ (List.Sublist.refl _)))
                    refine fin hH22 (fun w' hf => (res1 rfl (show RV _ _ _ (.tmp 4) _ from rfl))) (fun w' hf => ?_)
                    first | exact congrArg (Value.int .i64) (S.co1 (by assumption)).symm | exact congrArg (Value.int .i64) (S.co2 hc0 (by omega)).symm | exact congrArg (Value.int .i64) (S.co4 hc0 (by omega) hbad).symm | exact congrArg (Value.int .i64) (S.co3 hc0 (by omega) (fun i hi => hall i (by omega))).symm
                  · skip
                    refine guard_yes rfl rfl (decide_eq_false hc21) ?_
                    refine ops_y hH18 rfl rfl (yv_field T.f41_2 rfl) ?_
                    refine guard_yes rfl rfl (decide_eq_false hc21) ?_
                    refine ops_y hH18 rfl rfl (yv_load T.one39 rfl (fun _ hw => Heap.cellw hw (n := 0) rfl rfl)) ?_
                    refine guard_yes rfl rfl (decide_eq_false hc21) ?_
                    refine ops_y hH18 rfl rfl (yv_move rfl) ?_
                    refine guard_yes rfl rfl (decide_eq_false hc21) ?_
                    refine ops_y hH18 rfl rfl (yv_index T.sl39 rfl rfl (hF.now hH18 (n := 1) rfl).is (by omega)) ?_
                    refine guard_yes rfl rfl (decide_eq_false hc21) ?_
                    refine ops_y hH18 rfl rfl (yv_load T.one3 rfl (fun _ hw => Rd.at (hF.now hw (n := 1) rfl) (i := (k : Int)) (by omega) (j := 0) rfl)) ?_
                    refine guard_yes rfl rfl (decide_eq_false hc21) ?_
                    refine ops_y hH18 rfl rfl (yv_gtr rfl rfl) ?_
                    refine ops_y hH18 rfl rfl (yv_pick_f rfl (decide_eq_false hc21) rfl) ?_
                    refine ops_nil ?_
                    refine thn_n ?_
                    by_cases hc23 : 1 < (nth F (k : Int))
                    · skip
                      have hbad : ¬ S.AllO js.length B U F := fun h => (show ¬ S.okFor B U F (k : Int) by unfold S.okFor; omega) (h k (by omega))
                      refine cond_t rfl (decide_eq_true hc23) ?_
                      refine seq ?_
                      refine region ?_
                      refine ops_y hH18 rfl rfl (yv_assign rfl) ?_
                      refine ops_nil ?_
                      refine thn_n ?_
                      refine ret ?_
                      refine blk_r ?_
                      refine thn_r ?_
                      refine lp_r ?_
                      refine blk_r ?_
                      refine thn_r ?_
                      have hH24 := (hH18.sub (List.Sublist.cons _ (List.Sublist.refl _)))
                      refine fin hH24 (fun w' hf => (res1 rfl (show RV _ _ _ (.tmp 4) _ from rfl))) (fun w' hf => ?_)
                      first | exact congrArg (Value.int .i64) (S.co1 (by assumption)).symm | exact congrArg (Value.int .i64) (S.co2 hc0 (by omega)).symm | exact congrArg (Value.int .i64) (S.co4 hc0 (by omega) hbad).symm | exact congrArg (Value.int .i64) (S.co3 hc0 (by omega) (fun i hi => hall i (by omega))).symm
                    · skip
                      refine cond_f rfl (decide_eq_false hc23) ?_
                      refine skip ?_
                      refine blk_n ?_
                      refine thn_n ?_
                      refine region ?_
                      refine ops_y hH18 rfl rfl (yv_move rfl) ?_
                      refine ops_y hH18 rfl rfl (yv_add rfl rfl (by omega)) ?_
                      refine ops_y hH18 rfl rfl (yv_assign rfl) ?_
                      refine ops_nil ?_
                      refine lp_n (k + 1) (Sub.cons rfl (Sub.cons rfl (Sub.cons rfl (Sub.nil _)))) ?_ ?_
                      · exact ⟨hH18, by omega, S.all_snoc hall (by unfold S.okFor; omega)⟩
                      · first | (dsimp only; omega) | (show _ < _; omega)
            · skip
              refine cond_f rfl (decide_eq_false hc12) ?_
              refine exit ?_
              refine thn_x ?_
              refine lp_x ?_
              refine blk_here ?_
              refine thn_n ?_
              refine seq ?_
              refine region ?_
              refine ops_y hH11 rfl rfl (yv_assign rfl) ?_
              refine ops_nil ?_
              refine thn_n ?_
              refine ret ?_
              have hH25 := (hH11.sub (List.Sublist.cons _ (List.Sublist.refl _)))
              refine fin hH25 (fun w' hf => (res1 rfl (show RV _ _ _ (.tmp 4) _ from rfl))) (fun w' hf => ?_)
              first | exact congrArg (Value.int .i64) (S.co1 (by assumption)).symm | exact congrArg (Value.int .i64) (S.co2 hc0 (by omega)).symm | exact congrArg (Value.int .i64) (S.co4 hc0 (by omega) hbad).symm | exact congrArg (Value.int .i64) (S.co3 hc0 (by omega) (fun i hi => hall i (by omega))).symm
        · skip
          refine cond_t rfl (not_decide_t hc9) ?_
          refine seq ?_
          refine region ?_
          refine ops_y hH5 rfl rfl (yv_assign rfl) ?_
          refine ops_nil ?_
          refine thn_n ?_
          refine ret ?_
          refine thn_r ?_
          have hH26 := (hH5.sub (List.Sublist.cons _ (List.Sublist.refl _)))
          refine fin hH26 (fun w' hf => (res1 rfl (show RV _ _ _ (.tmp 4) _ from rfl))) (fun w' hf => ?_)
          first | exact congrArg (Value.int .i64) (S.co1 (by assumption)).symm | exact congrArg (Value.int .i64) (S.co2 hc0 (by omega)).symm | exact congrArg (Value.int .i64) (S.co4 hc0 (by omega) hbad).symm | exact congrArg (Value.int .i64) (S.co3 hc0 (by omega) (fun i hi => hall i (by omega))).symm
      · skip
        refine guard_no rfl rfl (not_decide_t hc8) rfl ?_
        refine guard_no rfl rfl (not_decide_t hc8) rfl ?_
        refine guard_no rfl rfl (not_decide_t hc8) rfl ?_
        refine guard_no rfl rfl (not_decide_t hc8) rfl ?_
        refine guard_no rfl rfl (not_decide_t hc8) rfl ?_
        refine guard_no rfl rfl (not_decide_t hc8) rfl ?_
        refine ops_y hH5 rfl rfl (yv_pick_t rfl (not_decide_t hc8) rfl) ?_
        refine ops_nil ?_
        refine thn_n ?_
        refine cond_t rfl rfl ?_
        refine seq ?_
        refine region ?_
        refine ops_y hH5 rfl rfl (yv_assign rfl) ?_
        refine ops_nil ?_
        refine thn_n ?_
        refine ret ?_
        refine thn_r ?_
        have hH27 := (hH5.sub (List.Sublist.cons _ (List.Sublist.refl _)))
        refine fin hH27 (fun w' hf => (res1 rfl (show RV _ _ _ (.tmp 4) _ from rfl))) (fun w' hf => ?_)
        first | exact congrArg (Value.int .i64) (S.co1 (by assumption)).symm | exact congrArg (Value.int .i64) (S.co2 hc0 (by omega)).symm | exact congrArg (Value.int .i64) (S.co4 hc0 (by omega) hbad).symm | exact congrArg (Value.int .i64) (S.co3 hc0 (by omega) (fun i hi => hall i (by omega))).symm
    · skip
      refine guard_no rfl rfl (not_decide_t hc7) rfl ?_
      refine guard_no rfl rfl (not_decide_t hc7) rfl ?_
      refine guard_no rfl rfl (not_decide_t hc7) rfl ?_
      refine guard_no rfl rfl (not_decide_t hc7) rfl ?_
      refine guard_no rfl rfl (not_decide_t hc7) rfl ?_
      refine guard_no rfl rfl (not_decide_t hc7) rfl ?_
      refine ops_y hH5 rfl rfl (yv_pick_t rfl (not_decide_t hc7) rfl) ?_
      refine ops_y hH5 rfl rfl (yv_move rfl) ?_
      refine guard_no rfl rfl rfl rfl ?_
      refine guard_no rfl rfl rfl rfl ?_
      refine guard_no rfl rfl rfl rfl ?_
      refine guard_no rfl rfl rfl rfl ?_
      refine guard_no rfl rfl rfl rfl ?_
      refine guard_no rfl rfl rfl rfl ?_
      refine ops_y hH5 rfl rfl (yv_pick_t rfl rfl rfl) ?_
      refine ops_nil ?_
      refine thn_n ?_
      refine cond_t rfl rfl ?_
      refine seq ?_
      refine region ?_
      refine ops_y hH5 rfl rfl (yv_assign rfl) ?_
      refine ops_nil ?_
      refine thn_n ?_
      refine ret ?_
      refine thn_r ?_
      have hH28 := (hH5.sub (List.Sublist.cons _ (List.Sublist.refl _)))
      refine fin hH28 (fun w' hf => (res1 rfl (show RV _ _ _ (.tmp 4) _ from rfl))) (fun w' hf => ?_)
      first | exact congrArg (Value.int .i64) (S.co1 (by assumption)).symm | exact congrArg (Value.int .i64) (S.co2 hc0 (by omega)).symm | exact congrArg (Value.int .i64) (S.co4 hc0 (by omega) hbad).symm | exact congrArg (Value.int .i64) (S.co3 hc0 (by omega) (fun i hi => hall i (by omega))).symm
  · skip
    refine cond_t rfl (not_decide_t hc6) ?_
    refine seq ?_
    refine region ?_
    refine ops_y hH5 rfl rfl (yv_move rfl) ?_
    refine op_fnV rfl rfl rfl hH5 (c23 (h0.now hH5 (n := 1) rfl) (by omega)) (fun w29 hH30 => ?_)
    refine ops_y hH30 rfl rfl (yv_assign rfl) ?_
    refine ops_nil ?_
    refine thn_n ?_
    refine ret ?_
    refine thn_r ?_
    have hH31 := (hH30.sub (List.Sublist.cons _ (List.Sublist.refl _)))
    refine fin hH31 (fun w' hf => (res1 rfl (show RV _ _ _ (.tmp 4) _ from rfl))) (fun w' hf => ?_)
    first | exact congrArg (Value.int .i64) (S.co1 (by assumption)).symm | exact congrArg (Value.int .i64) (S.co2 hc0 (by omega)).symm | exact congrArg (Value.int .i64) (S.co4 hc0 (by omega) hbad).symm | exact congrArg (Value.int .i64) (S.co3 hc0 (by omega) (fun i hi => hall i (by omega))).symm

theorem c48 {vb vt vf : Value} {B U F : List Int} {x y : Int} {w : World} (hB : Rd encI 1 vb B w) (hT : Rd encI 1 vt U w) (hF : Rd encI 1 vf F w) (hBl : B.length ≤ 1000000) (hTl : U.length ≤ 1000000) (hFl : F.length ≤ 1000000) (hx : 0 ≤ x) (hx2 : x < 2 * (F.length : Int)) (hy : 0 ≤ y) (hy2 : y < 2 * (F.length : Int))  :
    Fn Try.prog 48 [(.agg #[vb, vt, vf]), (.int .i64 x), (.int .i64 y)].toArray w (fun u _ => u = .bool (decide (S.Waits B U F x y))) := by
  refine fn_of' (args := [(.agg #[vb, vt, vf]), (.int .i64 x), (.int .i64 y)]) Try.func48 rfl (ent Try.func48 (by kernel_rfl) rfl) rfl rfl (fun hH => ?_)
  refine seq ?_
  refine region ?_
  refine op_box (us := [vb, vt, vf]) rfl rfl rfl hH (fun b1 w2 hH3 => ?_)
  refine ops_y hH3 rfl rfl (yv_assign rfl) ?_
  refine ops_nil ?_
  refine thn_n ?_
  refine seq ?_
  refine seq ?_
  refine region ?_
  refine ops_y hH3 rfl rfl (yv_move rfl) ?_
  refine ops_y hH3 rfl rfl (yv_rem rfl rfl (by omega) (by omega)) ?_
  refine ops_y hH3 rfl rfl (yv_move rfl) ?_
  refine ops_y hH3 rfl rfl (yv_rem rfl rfl (by omega) (by omega)) ?_
  refine ops_y hH3 rfl rfl (yv_neq rfl rfl) ?_
  refine ops_nil ?_
  refine thn_n ?_
  by_cases hc4 : (x % 2) = (y % 2)
  · skip
    refine cond_f rfl (not_decide_n hc4) ?_
    refine skip ?_
    refine thn_n ?_
    refine seq ?_
    refine region ?_
    refine ops_y hH3 rfl rfl (yv_field T.f41_0 rfl) ?_
    refine ops_y hH3 rfl rfl (yv_load T.one39 rfl (fun _ hw => Heap.cellw hw (n := 0) rfl rfl)) ?_
    refine ops_y hH3 rfl rfl (yv_assign rfl) ?_
    refine ops_nil ?_
    refine thn_n ?_
    refine seq ?_
    refine seq ?_
    refine region ?_
    refine ops_y hH3 rfl rfl (yv_move rfl) ?_
    refine ops_y hH3 rfl rfl (yv_rem rfl rfl (by omega) (by omega)) ?_
    refine ops_y hH3 rfl rfl (yv_eql rfl rfl) ?_
    refine ops_nil ?_
    refine thn_n ?_
    by_cases hc5 : (x % 2) = 1
    · skip
      refine cond_t rfl (decide_eq_true hc5) ?_
      refine region ?_
      refine ops_y hH3 rfl rfl (yv_field T.f41_1 rfl) ?_
      refine ops_y hH3 rfl rfl (yv_load T.one39 rfl (fun _ hw => Heap.cellw hw (n := 0) rfl rfl)) ?_
      refine ops_y hH3 rfl rfl (yv_assign rfl) ?_
      refine ops_nil ?_
      refine thn_n ?_
      refine seq ?_
      have hp1 := S.place_lt B (x / 2)
      have hp2 := S.place_lt U (x / 2)
      have hp3 := S.place_lt B (y / 2)
      have hp4 := S.place_lt U (y / 2)
      refine region ?_
      refine ops_y hH3 rfl rfl (yv_move rfl) ?_
      refine ops_y hH3 rfl rfl (yv_move rfl) ?_
      refine ops_y hH3 rfl rfl (yv_quo rfl rfl (by omega) (by omega) (by omega)) ?_
      refine op_fnV rfl rfl rfl hH3 (c74 (hT.now hH3 (n := 1) rfl) (by omega)) (fun w6 hH7 => ?_)
      refine ops_y hH7 rfl rfl (yv_move rfl) ?_
      refine ops_y hH7 rfl rfl (yv_move rfl) ?_
      refine ops_y hH7 rfl rfl (yv_quo rfl rfl (by omega) (by omega) (by omega)) ?_
      refine op_fnV rfl rfl rfl hH7 (c74 (hT.now hH7 (n := 1) rfl) (by omega)) (fun w8 hH9 => ?_)
      refine ops_y hH9 rfl rfl (yv_add rfl rfl (by omega)) ?_
      refine ops_y hH9 rfl rfl (yv_eql rfl rfl) ?_
      refine ops_y hH9 rfl rfl (yv_assign rfl) ?_
      refine ops_nil ?_
      refine thn_n ?_
      refine ret ?_
      have hH10 := (hH9.sub (List.Sublist.cons _ (List.Sublist.refl _)))
      refine fin hH10 (fun w' hf => (res1 rfl (show RV _ _ _ (.tmp 6) _ from rfl))) (fun w' hf => ?_)
      show Value.bool _ = Value.bool _; congr 1; rw [Bool.eq_iff_iff, decide_eq_true_eq (p := S.Waits B U F x y)]; first | (rw [S.waits_ne (by omega)]; first | (simp; done) | (simp; omega)) | (rw [S.waits_t (by omega) (by omega)]; simp; done) | (rw [S.waits_b (by omega) (by omega)]; simp; done)
    · skip
      refine cond_f rfl (decide_eq_false hc5) ?_
      refine skip ?_
      refine thn_n ?_
      refine seq ?_
      have hp1 := S.place_lt B (x / 2)
      have hp2 := S.place_lt U (x / 2)
      have hp3 := S.place_lt B (y / 2)
      have hp4 := S.place_lt U (y / 2)
      refine region ?_
      refine ops_y hH3 rfl rfl (yv_move rfl) ?_
      refine ops_y hH3 rfl rfl (yv_move rfl) ?_
      refine ops_y hH3 rfl rfl (yv_quo rfl rfl (by omega) (by omega) (by omega)) ?_
      refine op_fnV rfl rfl rfl hH3 (c74 (hB.now hH3 (n := 1) rfl) (by omega)) (fun w11 hH12 => ?_)
      refine ops_y hH12 rfl rfl (yv_move rfl) ?_
      refine ops_y hH12 rfl rfl (yv_move rfl) ?_
      refine ops_y hH12 rfl rfl (yv_quo rfl rfl (by omega) (by omega) (by omega)) ?_
      refine op_fnV rfl rfl rfl hH12 (c74 (hB.now hH12 (n := 1) rfl) (by omega)) (fun w13 hH14 => ?_)
      refine ops_y hH14 rfl rfl (yv_add rfl rfl (by omega)) ?_
      refine ops_y hH14 rfl rfl (yv_eql rfl rfl) ?_
      refine ops_y hH14 rfl rfl (yv_assign rfl) ?_
      refine ops_nil ?_
      refine thn_n ?_
      refine ret ?_
      have hH15 := (hH14.sub (List.Sublist.cons _ (List.Sublist.refl _)))
      refine fin hH15 (fun w' hf => (res1 rfl (show RV _ _ _ (.tmp 6) _ from rfl))) (fun w' hf => ?_)
      show Value.bool _ = Value.bool _; congr 1; rw [Bool.eq_iff_iff, decide_eq_true_eq (p := S.Waits B U F x y)]; first | (rw [S.waits_ne (by omega)]; first | (simp; done) | (simp; omega)) | (rw [S.waits_t (by omega) (by omega)]; simp; done) | (rw [S.waits_b (by omega) (by omega)]; simp; done)
  · skip
    refine cond_t rfl (not_decide_t hc4) ?_
    refine seq ?_
    refine region ?_
    refine ops_y hH3 rfl rfl (yv_move rfl) ?_
    refine ops_y hH3 rfl rfl (yv_quo rfl rfl (by omega) (by omega) (by omega)) ?_
    refine ops_y hH3 rfl rfl (yv_move rfl) ?_
    refine ops_y hH3 rfl rfl (yv_quo rfl rfl (by omega) (by omega) (by omega)) ?_
    refine ops_y hH3 rfl rfl (yv_eql rfl rfl) ?_
    refine ops_y hH3 rfl rfl (yv_move rfl) ?_
    by_cases hc16 : (x / 2) = (y / 2)
    · skip
      refine guard_yes rfl rfl (decide_eq_true hc16) ?_
      refine ops_y hH3 rfl rfl (yv_field T.f41_2 rfl) ?_
      refine guard_yes rfl rfl (decide_eq_true hc16) ?_
      refine ops_y hH3 rfl rfl (yv_load T.one39 rfl (fun _ hw => Heap.cellw hw (n := 0) rfl rfl)) ?_
      refine guard_yes rfl rfl (decide_eq_true hc16) ?_
      refine ops_y hH3 rfl rfl (yv_move rfl) ?_
      refine guard_yes rfl rfl (decide_eq_true hc16) ?_
      refine ops_y hH3 rfl rfl (yv_quo rfl rfl (by omega) (by omega) (by omega)) ?_
      refine guard_yes rfl rfl (decide_eq_true hc16) ?_
      refine ops_y hH3 rfl rfl (yv_index T.sl39 rfl rfl (hF.now hH3 (n := 1) rfl).is (by omega)) ?_
      refine guard_yes rfl rfl (decide_eq_true hc16) ?_
      refine ops_y hH3 rfl rfl (yv_load T.one3 rfl (fun _ hw => Rd.at (hF.now hw (n := 1) rfl) (i := x / 2) (by omega) (j := 0) rfl)) ?_
      refine guard_yes rfl rfl (decide_eq_true hc16) ?_
      refine ops_y hH3 rfl rfl (yv_move rfl) ?_
      refine guard_yes rfl rfl (decide_eq_true hc16) ?_
      refine ops_y hH3 rfl rfl (yv_rem rfl rfl (by omega) (by omega)) ?_
      refine guard_yes rfl rfl (decide_eq_true hc16) ?_
      refine ops_y hH3 rfl rfl (yv_eql rfl rfl) ?_
      refine ops_y hH3 rfl rfl (yv_pick_t rfl (decide_eq_true hc16) rfl) ?_
      refine ops_y hH3 rfl rfl (yv_assign rfl) ?_
      refine ops_nil ?_
      refine thn_n ?_
      refine ret ?_
      refine thn_r ?_
      have hH17 := (hH3.sub (List.Sublist.cons _ (List.Sublist.refl _)))
      refine fin hH17 (fun w' hf => (res1 rfl (show RV _ _ _ (.tmp 6) _ from rfl))) (fun w' hf => ?_)
      show Value.bool _ = Value.bool _; congr 1; rw [Bool.eq_iff_iff, decide_eq_true_eq (p := S.Waits B U F x y)]; first | (rw [S.waits_ne (by omega)]; first | (simp; done) | (simp; omega)) | (rw [S.waits_t (by omega) (by omega)]; simp; done) | (rw [S.waits_b (by omega) (by omega)]; simp; done)
    · skip
      refine guard_no rfl rfl (decide_eq_false hc16) rfl ?_
      refine guard_no rfl rfl (decide_eq_false hc16) rfl ?_
      refine guard_no rfl rfl (decide_eq_false hc16) rfl ?_
      refine guard_no rfl rfl (decide_eq_false hc16) rfl ?_
      refine guard_no rfl rfl (decide_eq_false hc16) rfl ?_
      refine guard_no rfl rfl (decide_eq_false hc16) rfl ?_
      refine guard_no rfl rfl (decide_eq_false hc16) rfl ?_
      refine guard_no rfl rfl (decide_eq_false hc16) rfl ?_
      refine guard_no rfl rfl (decide_eq_false hc16) rfl ?_
      refine ops_y hH3 rfl rfl (yv_pick_f rfl (decide_eq_false hc16) rfl) ?_
      refine ops_y hH3 rfl rfl (yv_assign rfl) ?_
      refine ops_nil ?_
      refine thn_n ?_
      refine ret ?_
      refine thn_r ?_
      have hH18 := (hH3.sub (List.Sublist.cons _ (List.Sublist.refl _)))
      refine fin hH18 (fun w' hf => (res1 rfl (show RV _ _ _ (.tmp 6) _ from rfl))) (fun w' hf => ?_)
      show Value.bool _ = Value.bool _; congr 1; rw [Bool.eq_iff_iff, decide_eq_true_eq (p := S.Waits B U F x y)]; first | (rw [S.waits_ne (by omega)]; first | (simp; done) | (simp; omega)) | (rw [S.waits_t (by omega) (by omega)]; simp; done) | (rw [S.waits_b (by omega) (by omega)]; simp; done)

end Go.Fip
