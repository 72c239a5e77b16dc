/- Walks, by program (wip/tools). -/
import Derived.Test.YtlekkopaeiblfaaWr
set_option linter.unusedVariables false
set_option linter.unusedSimpArgs false
set_option linter.unusedSectionVars false
set_option linter.unnecessarySimpa false
namespace Go.Fip
open Go.Proofs Go.RowKit

theorem c4 {v : Value} {js : List S.Pr} {b i : Int} {w : World} (h0 : Rd encP 2 v js w)  :
    Fn Try.prog 4 [v, (.int .i64 b), (.int .i64 i)].toArray w (fun u _ => u = .bool true) := by
  refine fn_of' (args := [v, (.int .i64 b), (.int .i64 i)]) Try.func4 rfl (ent Try.func4 (by kernel_rfl) rfl) rfl rfl (fun hH => ?_)
  refine seq ?_
  refine region ?_
  refine ops_y hH rfl rfl (yv_assign rfl) ?_
  refine ops_nil ?_
  refine thn_n ?_
  refine seq ?_
  refine seq ?_
  refine region ?_
  refine ops_y hH rfl rfl (yv_move rfl) ?_
  refine op_fnV rfl rfl rfl hH (c16 (h0.now hH (n := 0) rfl)) (fun w1 hH2 => ?_)
  refine ops_nil ?_
  refine thn_n ?_
  by_cases hc3 : 12 < (js.length : Int)
  · skip
    refine cond_t rfl (decide_eq_true hc3) ?_
    refine seq ?_
    refine region ?_
    refine op_fnV rfl rfl rfl hH2 (c17) (fun w4 hH5 => ?_)
    refine ops_y hH5 rfl rfl (yv_assign rfl) ?_
    refine ops_nil ?_
    refine thn_n ?_
    refine ret ?_
    refine thn_r ?_
    refine fin hH5 (fun w' hf => (res1 rfl (show RV _ _ _ (.tmp 6) _ from rfl))) (fun w' hf => ?_)
    rfl
  · skip
    refine cond_f rfl (decide_eq_false hc3) ?_
    refine skip ?_
    refine thn_n ?_
    refine seq ?_
    by_cases hc6 : S.checkJobs js = 0
    · skip
      have hc0 : S.checkJobs js = 0 := ‹_›
      have hj := S.checkJobs_iff.1 hc0
      obtain ⟨p, hpl, hps, hpc⟩ := S.plan_ok hj
      have hpn := hps.1
      have hsh := S.sh2 hc0
      refine region ?_
      refine ops_y hH2 rfl rfl (yv_move rfl) ?_
      refine ops_y hH2 rfl rfl (yv_move rfl) ?_
      refine ops_y hH2 rfl rfl (yv_move rfl) ?_
      refine op_fnV rfl rfl rfl hH2 (c24 (h0.now hH2 (n := 0) rfl) (by omega)) (fun w7 hH8 => ?_)
      refine ops_y hH8 rfl rfl (yv_move rfl) ?_
      refine ops_y hH8 rfl rfl (yv_extract rfl rfl) ?_
      refine ops_y hH8 rfl rfl (yv_extract rfl rfl) ?_
      refine ops_y hH8 rfl rfl (yv_assign rfl) ?_
      refine ops_y hH8 rfl rfl (yv_assign rfl) ?_
      refine ops_nil ?_
      refine thn_n ?_
      refine seq ?_
      refine region ?_
      refine ops_y hH8 rfl rfl (yv_move rfl) ?_
      refine ops_y hH8 rfl rfl (yv_move rfl) ?_
      refine ops_y hH8 rfl rfl (yv_move rfl) ?_
      refine op_fnV rfl rfl rfl hH8 (c25 (h0.now hH8 (n := 0) rfl) (by omega)) (fun w9 hH10 => ?_)
      refine ops_y hH10 rfl rfl (yv_move rfl) ?_
      refine ops_y hH10 rfl rfl (yv_extract rfl rfl) ?_
      refine ops_y hH10 rfl rfl (yv_extract rfl rfl) ?_
      refine ops_y hH10 rfl rfl (yv_assign rfl) ?_
      refine ops_y hH10 rfl rfl (yv_assign rfl) ?_
      refine ops_nil ?_
      refine thn_n ?_
      refine seq ?_
      refine region ?_
      refine ops_y hH10 rfl rfl (yv_move rfl) ?_
      have hev13 : Fn Try.prog 26 [v].toArray _ _ := c26 (h0.now hH10 (n := 0) rfl) (by omega)
      simp only [hsh] at hev13
      refine op_fnV rfl rfl rfl hH10 (hev13) (fun w11 hH12 => ?_)
      refine ops_y hH12 rfl rfl (yv_move rfl) ?_
      refine ops_y hH12 rfl rfl (yv_extract rfl rfl) ?_
      refine ops_y hH12 rfl rfl (yv_extract rfl rfl) ?_
      refine ops_y hH12 rfl rfl (yv_assign rfl) ?_
      refine ops_y hH12 rfl rfl (yv_assign rfl) ?_
      refine ops_nil ?_
      refine thn_n ?_
      refine seq ?_
      refine region ?_
      refine ops_y hH12 rfl rfl (yv_move rfl) ?_
      have hev16 : Fn Try.prog 27 [v].toArray _ _ := c27 (h0.now hH12 (n := 0) rfl) (by omega)
      simp only [hsh] at hev16
      refine op_fnV rfl rfl rfl hH12 (hev16) (fun w14 hH15 => ?_)
      refine ops_y hH15 rfl rfl (yv_move rfl) ?_
      refine ops_y hH15 rfl rfl (yv_extract rfl rfl) ?_
      refine ops_y hH15 rfl rfl (yv_extract rfl rfl) ?_
      refine ops_y hH15 rfl rfl (yv_assign rfl) ?_
      refine ops_y hH15 rfl rfl (yv_assign rfl) ?_
      refine ops_nil ?_
      refine thn_n ?_
      refine seq ?_
      refine region ?_
      refine ops_y hH15 rfl rfl (yv_move rfl) ?_
      refine op_fnV rfl rfl rfl hH15 (c28 (h0.now hH15 (n := 0) rfl) (by omega)) (fun w17 hH18 => ?_)
      refine ops_y hH18 rfl rfl (yv_move rfl) ?_
      refine ops_y hH18 rfl rfl (yv_extract rfl rfl) ?_
      refine ops_y hH18 rfl rfl (yv_extract rfl rfl) ?_
      refine ops_y hH18 rfl rfl (yv_extract rfl rfl) ?_
      refine ops_y hH18 rfl rfl (yv_assign rfl) ?_
      refine ops_y hH18 rfl rfl (yv_assign rfl) ?_
      refine ops_y hH18 rfl rfl (yv_assign rfl) ?_
      refine ops_nil ?_
      refine thn_n ?_
      refine seq ?_
      refine region ?_
      refine ops_y hH18 rfl rfl (yv_move rfl) ?_
      refine op_fnV rfl rfl rfl hH18 (c29 (h0.now hH18 (n := 0) rfl) (by omega)) (fun w19 hH20 => ?_)
      refine ops_y hH20 rfl rfl (yv_move rfl) ?_
      refine ops_y hH20 rfl rfl (yv_extract rfl rfl) ?_
      refine ops_y hH20 rfl rfl (yv_extract rfl rfl) ?_
      refine ops_y hH20 rfl rfl (yv_extract rfl rfl) ?_
      refine ops_y hH20 rfl rfl (yv_assign rfl) ?_
      refine ops_y hH20 rfl rfl (yv_assign rfl) ?_
      refine ops_y hH20 rfl rfl (yv_assign rfl) ?_
      refine ops_nil ?_
      refine thn_n ?_
      refine seq ?_
      refine region ?_
      refine ops_y hH20 rfl rfl (yv_move rfl) ?_
      have hev23 : Fn Try.prog 30 [v].toArray _ _ := c30 (h0.now hH20 (n := 0) rfl) (by omega)
      simp only [hpl] at hev23
      refine op_fn rfl rfl rfl hH20 (hev23) (fun u24 w21 lo25 hi26 hH22 hv27 => ?_)
      obtain ⟨p29, hu, -⟩ := hv27
      subst hu
      have hH28 := Heap.tup2 hH22 (n := 0) rfl
      refine ops_y hH28 rfl rfl (yv_move rfl) ?_
      refine ops_y hH28 rfl rfl (yv_extract rfl rfl) ?_
      refine ops_y hH28 rfl rfl (yv_extract rfl rfl) ?_
      refine ops_y hH28 rfl rfl (yv_assign rfl) ?_
      refine ops_y hH28 rfl rfl (yv_assign rfl) ?_
      refine ops_nil ?_
      refine thn_n ?_
      refine seq ?_
      refine seq ?_
      refine region ?_
      refine ops_y hH28 rfl rfl (yv_move rfl) ?_
      refine ops_y hH28 rfl rfl (yv_move rfl) ?_
      refine ops_y hH28 rfl rfl (yv_castB (not_decide_n rfl) (yv_neq rfl rfl)) ?_
      refine ops_y hH28 rfl rfl (yv_move rfl) ?_
      refine guard_yes rfl rfl rfl ?_
      refine ops_y hH28 rfl rfl (yv_move rfl) ?_
      refine guard_yes rfl rfl rfl ?_
      refine ops_y hH28 rfl rfl (yv_move rfl) ?_
      refine guard_yes rfl rfl rfl ?_
      refine ops_y hH28 rfl rfl (yv_castB (not_decide_n rfl) (yv_neq rfl rfl)) ?_
      refine ops_y hH28 rfl rfl (yv_pick_f rfl rfl rfl) ?_
      refine ops_y hH28 rfl rfl (yv_move rfl) ?_
      refine guard_yes rfl rfl rfl ?_
      refine ops_y hH28 rfl rfl (yv_move rfl) ?_
      refine guard_yes rfl rfl rfl ?_
      refine ops_y hH28 rfl rfl (yv_move rfl) ?_
      refine guard_yes rfl rfl rfl ?_
      refine ops_y hH28 rfl rfl (yv_castB (not_decide_n rfl) (yv_neq rfl rfl)) ?_
      refine ops_y hH28 rfl rfl (yv_pick_f rfl rfl rfl) ?_
      refine ops_y hH28 rfl rfl (yv_move rfl) ?_
      refine guard_yes rfl rfl rfl ?_
      refine ops_y hH28 rfl rfl (yv_move rfl) ?_
      refine guard_yes rfl rfl rfl ?_
      refine ops_y hH28 rfl rfl (yv_move rfl) ?_
      refine guard_yes rfl rfl rfl ?_
      refine ops_y hH28 rfl rfl (yv_castB rfl (yv_neq rfl rfl)) ?_
      refine ops_y hH28 rfl rfl (yv_pick_f rfl rfl rfl) ?_
      refine ops_y hH28 rfl rfl (yv_move rfl) ?_
      refine guard_yes rfl rfl rfl ?_
      refine ops_y hH28 rfl rfl (yv_move rfl) ?_
      refine guard_yes rfl rfl rfl ?_
      refine ops_y hH28 rfl rfl (yv_move rfl) ?_
      refine guard_yes rfl rfl rfl ?_
      refine ops_y hH28 rfl rfl (yv_castB (not_decide_n rfl) (yv_neq rfl rfl)) ?_
      refine ops_y hH28 rfl rfl (yv_pick_f rfl rfl rfl) ?_
      refine ops_y hH28 rfl rfl (yv_move rfl) ?_
      refine guard_yes rfl rfl rfl ?_
      refine ops_y hH28 rfl rfl (yv_move rfl) ?_
      refine guard_yes rfl rfl rfl ?_
      refine ops_y hH28 rfl rfl (yv_move rfl) ?_
      refine guard_yes rfl rfl rfl ?_
      refine ops_y hH28 rfl rfl (yv_castB (not_decide_n rfl) (yv_neq rfl rfl)) ?_
      refine ops_y hH28 rfl rfl (yv_pick_f rfl rfl rfl) ?_
      refine ops_y hH28 rfl rfl (yv_move rfl) ?_
      refine guard_yes rfl rfl rfl ?_
      refine ops_y hH28 rfl rfl (yv_move rfl) ?_
      refine guard_yes rfl rfl rfl ?_
      refine ops_y hH28 rfl rfl (yv_move rfl) ?_
      refine guard_yes rfl rfl rfl ?_
      refine ops_y hH28 rfl rfl (yv_castB (not_decide_n rfl) (yv_neq rfl rfl)) ?_
      refine ops_y hH28 rfl rfl (yv_pick_f rfl rfl rfl) ?_
      refine ops_y hH28 rfl rfl (yv_move rfl) ?_
      refine guard_yes rfl rfl rfl ?_
      refine ops_y hH28 rfl rfl (yv_move rfl) ?_
      refine guard_yes rfl rfl rfl ?_
      refine ops_y hH28 rfl rfl (yv_move rfl) ?_
      refine guard_yes rfl rfl rfl ?_
      refine ops_y hH28 rfl rfl (yv_castB rfl (yv_neq rfl rfl)) ?_
      refine ops_y hH28 rfl rfl (yv_pick_f rfl rfl rfl) ?_
      refine ops_nil ?_
      refine thn_n ?_
      refine cond_f rfl rfl ?_
      refine skip ?_
      refine thn_n ?_
      refine seq ?_
      refine seq ?_
      refine region ?_
      refine ops_y hH28 rfl rfl (yv_move rfl) ?_
      refine ops_y hH28 rfl rfl (yv_castB rfl (yv_neq rfl rfl)) ?_
      refine ops_nil ?_
      refine thn_n ?_
      refine cond_f rfl rfl ?_
      refine skip ?_
      refine thn_n ?_
      refine seq ?_
      refine region ?_
      refine ops_y hH28 rfl rfl (yv_move rfl) ?_
      refine ops_y hH28 rfl rfl (yv_move rfl) ?_
      have hev32 : Fn Try.prog 19 [v, p29].toArray _ _ := c19 (h0.now hH28 (n := 1) rfl) (Heap.rdw T.el23_encP hH28 (n := 0) rfl) (by omega) (by omega)
      simp only [hpc] at hev32
      refine op_fnV rfl rfl rfl hH28 (hev32) (fun w30 hH31 => ?_)
      refine ops_y hH31 rfl rfl (yv_move rfl) ?_
      refine ops_y hH31 rfl rfl (yv_extract rfl rfl) ?_
      refine ops_y hH31 rfl rfl (yv_extract rfl rfl) ?_
      refine ops_y hH31 rfl rfl (yv_assign rfl) ?_
      refine ops_y hH31 rfl rfl (yv_assign rfl) ?_
      refine ops_nil ?_
      refine thn_n ?_
      refine seq ?_
      refine region ?_
      refine ops_y hH31 rfl rfl (yv_move rfl) ?_
      refine ops_y hH31 rfl rfl (yv_castB rfl (yv_eql rfl rfl)) ?_
      refine ops_y hH31 rfl rfl (yv_move rfl) ?_
      refine guard_yes rfl rfl rfl ?_
      refine ops_y hH31 rfl rfl (yv_move rfl) ?_
      refine guard_yes rfl rfl rfl ?_
      refine ops_y hH31 rfl rfl (yv_move rfl) ?_
      refine guard_yes rfl rfl rfl ?_
      refine ops_y hH31 rfl rfl (yv_castB (decide_eq_true rfl) (yv_eql rfl rfl)) ?_
      refine ops_y hH31 rfl rfl (yv_pick_t rfl rfl rfl) ?_
      refine ops_y hH31 rfl rfl (yv_move rfl) ?_
      refine guard_yes rfl rfl rfl ?_
      refine op_fnV rfl rfl rfl hH31 (c17) (fun w33 hH34 => ?_)
      refine ops_y hH34 rfl rfl (yv_pick_t rfl rfl rfl) ?_
      refine ops_y hH34 rfl rfl (yv_assign rfl) ?_
      refine ops_nil ?_
      refine thn_n ?_
      refine ret ?_
      have hH35 := (hH34.sub (List.Sublist.cons _ (List.Sublist.refl _)))
      refine fin hH35 (fun w' hf => (res1 rfl (show RV _ _ _ (.tmp 6) _ from rfl))) (fun w' hf => ?_)
      rfl
    · skip
      have hcn : ¬ S.checkJobs js = 0 := ‹_›
      have hpl := S.plan1 hcn
      have hsh := S.sh1 hcn
      refine region ?_
      refine ops_y hH2 rfl rfl (yv_move rfl) ?_
      refine ops_y hH2 rfl rfl (yv_move rfl) ?_
      refine ops_y hH2 rfl rfl (yv_move rfl) ?_
      refine op_fnV rfl rfl rfl hH2 (c24 (h0.now hH2 (n := 0) rfl) (by omega)) (fun w36 hH37 => ?_)
      refine ops_y hH37 rfl rfl (yv_move rfl) ?_
      refine ops_y hH37 rfl rfl (yv_extract rfl rfl) ?_
      refine ops_y hH37 rfl rfl (yv_extract rfl rfl) ?_
      refine ops_y hH37 rfl rfl (yv_assign rfl) ?_
      refine ops_y hH37 rfl rfl (yv_assign rfl) ?_
      refine ops_nil ?_
      refine thn_n ?_
      refine seq ?_
      refine region ?_
      refine ops_y hH37 rfl rfl (yv_move rfl) ?_
      refine ops_y hH37 rfl rfl (yv_move rfl) ?_
      refine ops_y hH37 rfl rfl (yv_move rfl) ?_
      refine op_fnV rfl rfl rfl hH37 (c25 (h0.now hH37 (n := 0) rfl) (by omega)) (fun w38 hH39 => ?_)
      refine ops_y hH39 rfl rfl (yv_move rfl) ?_
      refine ops_y hH39 rfl rfl (yv_extract rfl rfl) ?_
      refine ops_y hH39 rfl rfl (yv_extract rfl rfl) ?_
      refine ops_y hH39 rfl rfl (yv_assign rfl) ?_
      refine ops_y hH39 rfl rfl (yv_assign rfl) ?_
      refine ops_nil ?_
      refine thn_n ?_
      refine seq ?_
      refine region ?_
      refine ops_y hH39 rfl rfl (yv_move rfl) ?_
      have hev42 : Fn Try.prog 26 [v].toArray _ _ := c26 (h0.now hH39 (n := 0) rfl) (by omega)
      simp only [hsh] at hev42
      refine op_fnV rfl rfl rfl hH39 (hev42) (fun w40 hH41 => ?_)
      refine ops_y hH41 rfl rfl (yv_move rfl) ?_
      refine ops_y hH41 rfl rfl (yv_extract rfl rfl) ?_
      refine ops_y hH41 rfl rfl (yv_extract rfl rfl) ?_
      refine ops_y hH41 rfl rfl (yv_assign rfl) ?_
      refine ops_y hH41 rfl rfl (yv_assign rfl) ?_
      refine ops_nil ?_
      refine thn_n ?_
      refine seq ?_
      refine region ?_
      refine ops_y hH41 rfl rfl (yv_move rfl) ?_
      have hev45 : Fn Try.prog 27 [v].toArray _ _ := c27 (h0.now hH41 (n := 0) rfl) (by omega)
      simp only [hsh] at hev45
      refine op_fnV rfl rfl rfl hH41 (hev45) (fun w43 hH44 => ?_)
      refine ops_y hH44 rfl rfl (yv_move rfl) ?_
      refine ops_y hH44 rfl rfl (yv_extract rfl rfl) ?_
      refine ops_y hH44 rfl rfl (yv_extract rfl rfl) ?_
      refine ops_y hH44 rfl rfl (yv_assign rfl) ?_
      refine ops_y hH44 rfl rfl (yv_assign rfl) ?_
      refine ops_nil ?_
      refine thn_n ?_
      refine seq ?_
      refine region ?_
      refine ops_y hH44 rfl rfl (yv_move rfl) ?_
      refine op_fnV rfl rfl rfl hH44 (c28 (h0.now hH44 (n := 0) rfl) (by omega)) (fun w46 hH47 => ?_)
      refine ops_y hH47 rfl rfl (yv_move rfl) ?_
      refine ops_y hH47 rfl rfl (yv_extract rfl rfl) ?_
      refine ops_y hH47 rfl rfl (yv_extract rfl rfl) ?_
      refine ops_y hH47 rfl rfl (yv_extract rfl rfl) ?_
      refine ops_y hH47 rfl rfl (yv_assign rfl) ?_
      refine ops_y hH47 rfl rfl (yv_assign rfl) ?_
      refine ops_y hH47 rfl rfl (yv_assign rfl) ?_
      refine ops_nil ?_
      refine thn_n ?_
      refine seq ?_
      refine region ?_
      refine ops_y hH47 rfl rfl (yv_move rfl) ?_
      refine op_fnV rfl rfl rfl hH47 (c29 (h0.now hH47 (n := 0) rfl) (by omega)) (fun w48 hH49 => ?_)
      refine ops_y hH49 rfl rfl (yv_move rfl) ?_
      refine ops_y hH49 rfl rfl (yv_extract rfl rfl) ?_
      refine ops_y hH49 rfl rfl (yv_extract rfl rfl) ?_
      refine ops_y hH49 rfl rfl (yv_extract rfl rfl) ?_
      refine ops_y hH49 rfl rfl (yv_assign rfl) ?_
      refine ops_y hH49 rfl rfl (yv_assign rfl) ?_
      refine ops_y hH49 rfl rfl (yv_assign rfl) ?_
      refine ops_nil ?_
      refine thn_n ?_
      refine seq ?_
      refine region ?_
      refine ops_y hH49 rfl rfl (yv_move rfl) ?_
      have hev52 : Fn Try.prog 30 [v].toArray _ _ := c30 (h0.now hH49 (n := 0) rfl) (by omega)
      simp only [hpl] at hev52
      refine op_fn rfl rfl rfl hH49 (hev52) (fun u53 w50 lo54 hi55 hH51 hv56 => ?_)
      obtain ⟨p58, hu, -⟩ := hv56
      subst hu
      have hH57 := Heap.tup2 hH51 (n := 0) rfl
      refine ops_y hH57 rfl rfl (yv_move rfl) ?_
      refine ops_y hH57 rfl rfl (yv_extract rfl rfl) ?_
      refine ops_y hH57 rfl rfl (yv_extract rfl rfl) ?_
      refine ops_y hH57 rfl rfl (yv_assign rfl) ?_
      refine ops_y hH57 rfl rfl (yv_assign rfl) ?_
      refine ops_nil ?_
      refine thn_n ?_
      refine seq ?_
      refine seq ?_
      refine region ?_
      refine ops_y hH57 rfl rfl (yv_move rfl) ?_
      refine ops_y hH57 rfl rfl (yv_move rfl) ?_
      refine ops_y hH57 rfl rfl (yv_castB (not_decide_n rfl) (yv_neq rfl rfl)) ?_
      refine ops_y hH57 rfl rfl (yv_move rfl) ?_
      refine guard_yes rfl rfl rfl ?_
      refine ops_y hH57 rfl rfl (yv_move rfl) ?_
      refine guard_yes rfl rfl rfl ?_
      refine ops_y hH57 rfl rfl (yv_move rfl) ?_
      refine guard_yes rfl rfl rfl ?_
      refine ops_y hH57 rfl rfl (yv_castB (not_decide_n rfl) (yv_neq rfl rfl)) ?_
      refine ops_y hH57 rfl rfl (yv_pick_f rfl rfl rfl) ?_
      refine ops_y hH57 rfl rfl (yv_move rfl) ?_
      refine guard_yes rfl rfl rfl ?_
      refine ops_y hH57 rfl rfl (yv_move rfl) ?_
      refine guard_yes rfl rfl rfl ?_
      refine ops_y hH57 rfl rfl (yv_move rfl) ?_
      refine guard_yes rfl rfl rfl ?_
      refine ops_y hH57 rfl rfl (yv_castB rfl (yv_neq rfl rfl)) ?_
      refine ops_y hH57 rfl rfl (yv_pick_f rfl rfl rfl) ?_
      refine ops_y hH57 rfl rfl (yv_move rfl) ?_
      refine guard_yes rfl rfl rfl ?_
      refine ops_y hH57 rfl rfl (yv_move rfl) ?_
      refine guard_yes rfl rfl rfl ?_
      refine ops_y hH57 rfl rfl (yv_move rfl) ?_
      refine guard_yes rfl rfl rfl ?_
      refine ops_y hH57 rfl rfl (yv_castB (not_decide_n rfl) (yv_neq rfl rfl)) ?_
      refine ops_y hH57 rfl rfl (yv_pick_f rfl rfl rfl) ?_
      refine ops_y hH57 rfl rfl (yv_move rfl) ?_
      refine guard_yes rfl rfl rfl ?_
      refine ops_y hH57 rfl rfl (yv_move rfl) ?_
      refine guard_yes rfl rfl rfl ?_
      refine ops_y hH57 rfl rfl (yv_move rfl) ?_
      refine guard_yes rfl rfl rfl ?_
      refine ops_y hH57 rfl rfl (yv_castB (not_decide_n rfl) (yv_neq rfl rfl)) ?_
      refine ops_y hH57 rfl rfl (yv_pick_f rfl rfl rfl) ?_
      refine ops_y hH57 rfl rfl (yv_move rfl) ?_
      refine guard_yes rfl rfl rfl ?_
      refine ops_y hH57 rfl rfl (yv_move rfl) ?_
      refine guard_yes rfl rfl rfl ?_
      refine ops_y hH57 rfl rfl (yv_move rfl) ?_
      refine guard_yes rfl rfl rfl ?_
      refine ops_y hH57 rfl rfl (yv_castB (not_decide_n rfl) (yv_neq rfl rfl)) ?_
      refine ops_y hH57 rfl rfl (yv_pick_f rfl rfl rfl) ?_
      refine ops_y hH57 rfl rfl (yv_move rfl) ?_
      refine guard_yes rfl rfl rfl ?_
      refine ops_y hH57 rfl rfl (yv_move rfl) ?_
      refine guard_yes rfl rfl rfl ?_
      refine ops_y hH57 rfl rfl (yv_move rfl) ?_
      refine guard_yes rfl rfl rfl ?_
      refine ops_y hH57 rfl rfl (yv_castB (not_decide_n rfl) (yv_neq rfl rfl)) ?_
      refine ops_y hH57 rfl rfl (yv_pick_f rfl rfl rfl) ?_
      refine ops_y hH57 rfl rfl (yv_move rfl) ?_
      refine guard_yes rfl rfl rfl ?_
      refine ops_y hH57 rfl rfl (yv_move rfl) ?_
      refine guard_yes rfl rfl rfl ?_
      refine ops_y hH57 rfl rfl (yv_move rfl) ?_
      refine guard_yes rfl rfl rfl ?_
      refine ops_y hH57 rfl rfl (yv_castB (not_decide_n rfl) (yv_neq rfl rfl)) ?_
      refine ops_y hH57 rfl rfl (yv_pick_f rfl rfl rfl) ?_
      refine ops_nil ?_
      refine thn_n ?_
      refine cond_f rfl rfl ?_
      refine skip ?_
      refine thn_n ?_
      refine seq ?_
      refine seq ?_
      refine region ?_
      refine ops_y hH57 rfl rfl (yv_move rfl) ?_
      refine ops_y hH57 rfl rfl (yv_neq rfl rfl) ?_
      refine ops_nil ?_
      refine thn_n ?_
      have hc59 : ¬ ((S.checkJobs js) = 0) := hcn
      refine cond_t rfl (not_decide_t hc59) ?_
      refine seq ?_
      refine region ?_
      refine ops_y hH57 rfl rfl (yv_move rfl) ?_
      refine ops_y hH57 rfl rfl (yv_len T.sl23 rfl (Heap.rdw T.el23_encP hH57 (n := 0) rfl).is) ?_
      refine ops_y hH57 rfl rfl (yv_eql rfl rfl) ?_
      refine ops_y hH57 rfl rfl (yv_move rfl) ?_
      have hc60 : (([] : List S.Pr).length : Int) = 0 := rfl
      refine guard_yes rfl rfl (decide_eq_true hc60) ?_
      refine op_fnV rfl rfl rfl hH57 (c17) (fun w61 hH62 => ?_)
      refine ops_y hH62 rfl rfl (yv_pick_t rfl (decide_eq_true hc60) rfl) ?_
      refine ops_y hH62 rfl rfl (yv_assign rfl) ?_
      refine ops_nil ?_
      refine thn_n ?_
      refine ret ?_
      refine thn_r ?_
      have hH63 := (hH62.sub (List.Sublist.cons _ (List.Sublist.refl _)))
      refine fin hH63 (fun w' hf => (res1 rfl (show RV _ _ _ (.tmp 6) _ from rfl))) (fun w' hf => ?_)
      rfl

theorem S.play_len {l : List S.Pr} {B T F : List Int} : (S.play l B T F).1.length ≤ l.length := by
  by_cases h : S.checkOrder l B T F = 0
  · cases h2 : S.playOf l B T F with
    | none => rw [S.pl2 h (by rw [h2]; rfl)]; simp
    | some p => rw [S.pl3 h (by rw [h2]; simp), h2]; exact Nat.le_of_eq (S.playOf_is h2).1
  · rw [S.pl1 h]; simp

theorem c5 {v : Value} {js : List S.Pr} {vb vt vf : Value} {B U F : List Int} {w : World} (h0 : Rd encP 2 v js w) (hB : Rd encI 1 vb B w) (hT : Rd encI 1 vt U w) (hF : Rd encI 1 vf F w)  :
    Fn Try.prog 5 [v, (.agg #[vb, vt, vf])].toArray w (fun u _ => u = .bool true) := by
  refine fn_of' (args := [v, (.agg #[vb, vt, vf])]) Try.func5 rfl (ent Try.func5 (by kernel_rfl) rfl) rfl rfl (fun hH => ?_)
  refine seq ?_
  refine region ?_
  refine op_box (us := [vb, vt, vf]) rfl rfl rfl hH (fun b1 w2 hH3 => ?_)
  refine ops_y hH3 rfl rfl (yv_assign rfl) ?_
  refine ops_nil ?_
  refine thn_n ?_
  refine seq ?_
  refine seq ?_
  refine region ?_
  refine ops_y hH3 rfl rfl (yv_move rfl) ?_
  refine op_fnV rfl rfl rfl hH3 (c16 (h0.now hH3 (n := 1) rfl)) (fun w4 hH5 => ?_)
  refine ops_y hH5 rfl rfl (yv_move rfl) ?_
  by_cases hc6 : 12 < (js.length : Int)
  · skip
    refine guard_no rfl rfl (decide_eq_true hc6) rfl ?_
    refine guard_no rfl rfl (decide_eq_true hc6) rfl ?_
    refine ops_y hH5 rfl rfl (yv_pick_t rfl (decide_eq_true hc6) rfl) ?_
    refine ops_nil ?_
    refine thn_n ?_
    refine cond_t rfl rfl ?_
    refine seq ?_
    refine region ?_
    refine op_fnV rfl rfl rfl hH5 (c17) (fun w7 hH8 => ?_)
    refine ops_y hH8 rfl rfl (yv_assign rfl) ?_
    refine ops_nil ?_
    refine thn_n ?_
    refine ret ?_
    refine thn_r ?_
    have hH9 := (hH8.sub (List.Sublist.cons _ (List.Sublist.refl _)))
    refine fin hH9 (fun w' hf => (res1 rfl (show RV _ _ _ (.tmp 4) _ from rfl))) (fun w' hf => ?_)
    rfl
  · skip
    refine guard_yes rfl rfl (decide_eq_false hc6) ?_
    refine ops_y hH5 rfl rfl (yv_loadA (cs := [vb, vt, vf]) T.agg41 rfl rfl (fun _ hw => Heap.cellsw hw (n := 0) rfl (k := 0) rfl)) ?_
    refine guard_yes rfl rfl (decide_eq_false hc6) ?_
    refine op_fnV rfl rfl rfl hH5 (c31 (hB.now hH5 (n := 1) rfl) (hT.now hH5 (n := 1) rfl) (hF.now hH5 (n := 1) rfl)) (fun w10 hH11 => ?_)
    refine ops_y hH11 rfl rfl (yv_pick_f rfl (decide_eq_false hc6) rfl) ?_
    refine ops_nil ?_
    refine thn_n ?_
    by_cases hc12 : 12 < (B.length : Int) ∨ 12 < (U.length : Int) ∨ 12 < (F.length : Int)
    · skip
      refine cond_t rfl (decide_eq_true hc12) ?_
      refine seq ?_
      refine region ?_
      refine op_fnV rfl rfl rfl hH11 (c17) (fun w13 hH14 => ?_)
      refine ops_y hH14 rfl rfl (yv_assign rfl) ?_
      refine ops_nil ?_
      refine thn_n ?_
      refine ret ?_
      refine thn_r ?_
      have hH15 := (hH14.sub (List.Sublist.cons _ (List.Sublist.refl _)))
      refine fin hH15 (fun w' hf => (res1 rfl (show RV _ _ _ (.tmp 4) _ from rfl))) (fun w' hf => ?_)
      rfl
    · skip
      refine cond_f rfl (decide_eq_false hc12) ?_
      refine skip ?_
      refine thn_n ?_
      refine seq ?_
      refine region ?_
      refine ops_y hH11 rfl rfl (yv_move rfl) ?_
      refine ops_y hH11 rfl rfl (yv_loadA (cs := [vb, vt, vf]) T.agg41 rfl rfl (fun _ hw => Heap.cellsw hw (n := 0) rfl (k := 0) rfl)) ?_
      refine op_fn rfl rfl rfl hH11 (c32 (h0.now hH11 (n := 1) rfl) (hB.now hH11 (n := 1) rfl) (hT.now hH11 (n := 1) rfl) (hF.now hH11 (n := 1) rfl) (by omega) (by omega) (by omega) (by omega)) (fun u18 w16 lo19 hi20 hH17 hv21 => ?_)
      obtain ⟨p23, hu, -⟩ := hv21
      subst hu
      have hH22 := Heap.tup2 hH17 (n := 0) rfl
      refine ops_y hH22 rfl rfl (yv_move rfl) ?_
      refine ops_y hH22 rfl rfl (yv_extract rfl rfl) ?_
      refine ops_y hH22 rfl rfl (yv_extract rfl rfl) ?_
      refine ops_y hH22 rfl rfl (yv_assign rfl) ?_
      refine ops_y hH22 rfl rfl (yv_assign rfl) ?_
      refine ops_nil ?_
      refine thn_n ?_
      refine seq ?_
      refine region ?_
      refine ops_y hH22 rfl rfl (yv_move rfl) ?_
      refine ops_y hH22 rfl rfl (yv_loadA (cs := [vb, vt, vf]) T.agg41 rfl rfl (fun _ hw => Heap.cellsw hw (n := 1) rfl (k := 0) rfl)) ?_
      refine op_fn rfl rfl rfl hH22 (c33 (h0.now hH22 (n := 2) rfl) (hB.now hH22 (n := 2) rfl) (hT.now hH22 (n := 2) rfl) (hF.now hH22 (n := 2) rfl) (by omega) (by omega) (by omega) (by omega)) (fun u26 w24 lo27 hi28 hH25 hv29 => ?_)
      obtain ⟨p31, hu, -⟩ := hv29
      subst hu
      have hH30 := Heap.tup2 hH25 (n := 0) rfl
      refine ops_y hH30 rfl rfl (yv_move rfl) ?_
      refine ops_y hH30 rfl rfl (yv_extract rfl rfl) ?_
      refine ops_y hH30 rfl rfl (yv_extract rfl rfl) ?_
      refine ops_y hH30 rfl rfl (yv_assign rfl) ?_
      refine ops_y hH30 rfl rfl (yv_assign rfl) ?_
      refine ops_nil ?_
      refine thn_n ?_
      refine seq ?_
      have hpl := S.play_len (l := js) (B := B) (T := U) (F := F)
      refine region_draw (fun w' => Heap [ow lo27 hi28 73 2 encP p31 ((S.play js B U F).1), ow lo19 hi20 73 2 encP p23 ((S.play js B U F).1), bx b1 41 [vb, vt, vf], base w] w') T.mixed (fun w32 hr33 => ?_)
      have hH34 := hH30.redrawn hr33
      refine any_takes [0, 1, 3, 4] (by kernel_rfl) hH34 _ _ _ (by kernel_rfl) ?_
      refine qs_y rfl rfl (yv_move rfl) ?_
      refine qs_y rfl rfl (yv_loadA (cs := [vb, vt, vf]) T.agg41 rfl rfl (fun _ hw => Heap.cellsw hw (n := 2) rfl (k := 0) rfl)) ?_
      refine qs_y rfl rfl (yv_move rfl) ?_
      refine qs_y rfl rfl (yv_loadA (cs := [vb, vt, vf]) T.agg41 rfl rfl (fun _ hw => Heap.cellsw hw (n := 2) rfl (k := 0) rfl)) ?_
      refine qs_nil ?_
      refine any_all [2] (by kernel_rfl) rfl ?_
      refine ⟨⟨_, rfl, ?_⟩, trivial⟩
      · skip
        refine op_fnV rfl rfl rfl hH34 (c34 (h0.now hH34 (n := 3) rfl) (hB.now hH34 (n := 3) rfl) (hT.now hH34 (n := 3) rfl) (hF.now hH34 (n := 3) rfl) (by omega) (by omega) (by omega) (by omega)) (fun w35 hH36 => ?_)
        refine ops_nil ?_
        refine ⟨hH36, ?_⟩
        refine any_all [5] (by kernel_rfl) rfl ?_
        refine ⟨⟨_, rfl, ?_⟩, trivial⟩
        · skip
          refine op_fnV rfl rfl rfl hH36 (c35 (h0.now hH36 (n := 3) rfl) (hB.now hH36 (n := 3) rfl) (hT.now hH36 (n := 3) rfl) (hF.now hH36 (n := 3) rfl) (by omega) (by omega) (by omega) (by omega)) (fun w37 hH38 => ?_)
          refine ops_nil ?_
          refine ⟨hH38, ?_⟩
          refine any_takes [6, 7, 8, 9] (by kernel_rfl) hH38 _ _ _ (by kernel_rfl) ?_
          refine qs_y rfl rfl (yv_castB (decide_eq_true rfl) (yv_eql rfl rfl)) ?_
          refine qs_y rfl rfl (yv_move rfl) ?_
          refine qs_yes rfl rfl rfl rfl rfl (yv_move rfl) ?_
          refine qs_yes rfl rfl rfl rfl rfl (yv_move rfl) ?_
          refine qs_nil ?_
          refine any_all [10] (by kernel_rfl) rfl ?_
          refine ⟨⟨_, rfl, ?_⟩, trivial⟩
          · skip
            refine guard_yes rfl rfl rfl ?_
            refine op_fnV rfl rfl rfl hH38 (c36 (Heap.rdw T.el23_encP hH38 (n := 1) rfl) (Heap.rdw T.el23_encP hH38 (n := 0) rfl) (by omega) (by omega)) (fun w39 hH40 => ?_)
            refine ops_nil ?_
            refine ⟨hH40, ?_⟩
            refine any_takes [11, 12, 13, 14, 15, 16, 17] (by kernel_rfl) hH40 _ _ _ (by kernel_rfl) ?_
            refine qs_y rfl rfl (yv_pick_t rfl rfl rfl) ?_
            refine qs_y rfl rfl (yv_move rfl) ?_
            refine qs_yes rfl rfl rfl (decide_eq_true rfl) rfl (yv_move rfl) ?_
            refine qs_yes rfl rfl rfl (decide_eq_true rfl) rfl (yv_move rfl) ?_
            refine qs_yes rfl rfl rfl (decide_eq_true rfl) rfl (yv_castB (decide_eq_true rfl) (yv_eql rfl rfl)) ?_
            refine qs_y rfl rfl (yv_pick_t rfl (decide_eq_true rfl) rfl) ?_
            refine qs_y rfl rfl (yv_move rfl) ?_
            refine qs_nil ?_
            refine any_all [18] (by kernel_rfl) rfl ?_
            refine ⟨⟨_, rfl, ?_⟩, trivial⟩
            · skip
              refine guard_yes rfl rfl rfl ?_
              refine op_fnV rfl rfl rfl hH40 (c17) (fun w41 hH42 => ?_)
              refine ops_nil ?_
              refine ⟨hH42, ?_⟩
              refine any_takes [19, 20] (by kernel_rfl) hH42 _ _ _ (by kernel_rfl) ?_
              refine qs_y rfl rfl (yv_pick_t rfl rfl rfl) ?_
              refine qs_y rfl rfl (yv_assign rfl) ?_
              refine qs_nil ?_
              refine any_done (by kernel_rfl) ?_
              refine thn_n ?_
              refine ret ?_
              have hH43 := (hH42.sub (List.Sublist.cons _ (List.Sublist.cons _ (List.Sublist.cons _ (List.Sublist.refl _)))))
              refine fin hH43 (fun w' hf => (res1 rfl (show RV _ _ _ (.tmp 4) _ from rfl))) (fun w' hf => ?_)
              rfl

theorem c6 {v vc : Value} {js : List S.Pr} {c : List Int} {vb vt vf : Value} {B U F : List Int} {w : World} (h0 : Rd encP 2 v js w) (hB : Rd encI 1 vb B w) (hT : Rd encI 1 vt U w) (hF : Rd encI 1 vf F w) (hC : Rd encI 1 vc c w)  :
    Fn Try.prog 6 [v, (.agg #[vb, vt, vf]), vc].toArray w (fun u _ => u = .bool true) := by
  refine fn_of' (args := [v, (.agg #[vb, vt, vf]), vc]) Try.func6 rfl (ent Try.func6 (by kernel_rfl) rfl) rfl rfl (fun hH => ?_)
  refine seq ?_
  refine region ?_
  refine op_box (us := [vb, vt, vf]) rfl rfl rfl hH (fun b1 w2 hH3 => ?_)
  refine ops_y hH3 rfl rfl (yv_assign rfl) ?_
  refine ops_nil ?_
  refine thn_n ?_
  refine seq ?_
  refine seq ?_
  refine region ?_
  refine ops_y hH3 rfl rfl (yv_move rfl) ?_
  refine op_fnV rfl rfl rfl hH3 (c16 (h0.now hH3 (n := 1) rfl)) (fun w4 hH5 => ?_)
  refine ops_y hH5 rfl rfl (yv_move rfl) ?_
  by_cases hc6 : 12 < (js.length : Int)
  · skip
    refine guard_no rfl rfl (decide_eq_true hc6) rfl ?_
    refine guard_no rfl rfl (decide_eq_true hc6) rfl ?_
    refine ops_y hH5 rfl rfl (yv_pick_t rfl (decide_eq_true hc6) rfl) ?_
    refine ops_y hH5 rfl rfl (yv_move rfl) ?_
    refine guard_no rfl rfl rfl rfl ?_
    refine guard_no rfl rfl rfl rfl ?_
    refine guard_no rfl rfl rfl rfl ?_
    refine ops_y hH5 rfl rfl (yv_pick_t rfl rfl rfl) ?_
    refine ops_nil ?_
    refine thn_n ?_
    refine cond_t rfl rfl ?_
    refine seq ?_
    refine region ?_
    refine op_fnV rfl rfl rfl hH5 (c17) (fun w7 hH8 => ?_)
    refine ops_y hH8 rfl rfl (yv_assign rfl) ?_
    refine ops_nil ?_
    refine thn_n ?_
    refine ret ?_
    refine thn_r ?_
    have hH9 := (hH8.sub (List.Sublist.cons _ (List.Sublist.refl _)))
    refine fin hH9 (fun w' hf => (res1 rfl (show RV _ _ _ (.tmp 6) _ from rfl))) (fun w' hf => ?_)
    rfl
  · skip
    refine guard_yes rfl rfl (decide_eq_false hc6) ?_
    refine ops_y hH5 rfl rfl (yv_loadA (cs := [vb, vt, vf]) T.agg41 rfl rfl (fun _ hw => Heap.cellsw hw (n := 0) rfl (k := 0) rfl)) ?_
    refine guard_yes rfl rfl (decide_eq_false hc6) ?_
    refine op_fnV rfl rfl rfl hH5 (c31 (hB.now hH5 (n := 1) rfl) (hT.now hH5 (n := 1) rfl) (hF.now hH5 (n := 1) rfl)) (fun w10 hH11 => ?_)
    refine ops_y hH11 rfl rfl (yv_pick_f rfl (decide_eq_false hc6) rfl) ?_
    refine ops_y hH11 rfl rfl (yv_move rfl) ?_
    by_cases hc12 : 12 < (B.length : Int) ∨ 12 < (U.length : Int) ∨ 12 < (F.length : Int)
    · skip
      refine guard_no rfl rfl (decide_eq_true hc12) rfl ?_
      refine guard_no rfl rfl (decide_eq_true hc12) rfl ?_
      refine guard_no rfl rfl (decide_eq_true hc12) rfl ?_
      refine ops_y hH11 rfl rfl (yv_pick_t rfl (decide_eq_true hc12) rfl) ?_
      refine ops_nil ?_
      refine thn_n ?_
      refine cond_t rfl rfl ?_
      refine seq ?_
      refine region ?_
      refine op_fnV rfl rfl rfl hH11 (c17) (fun w13 hH14 => ?_)
      refine ops_y hH14 rfl rfl (yv_assign rfl) ?_
      refine ops_nil ?_
      refine thn_n ?_
      refine ret ?_
      refine thn_r ?_
      have hH15 := (hH14.sub (List.Sublist.cons _ (List.Sublist.refl _)))
      refine fin hH15 (fun w' hf => (res1 rfl (show RV _ _ _ (.tmp 6) _ from rfl))) (fun w' hf => ?_)
      rfl
    · skip
      refine guard_yes rfl rfl (decide_eq_false hc12) ?_
      refine ops_y hH11 rfl rfl (yv_move rfl) ?_
      refine guard_yes rfl rfl (decide_eq_false hc12) ?_
      refine ops_y hH11 rfl rfl (yv_len T.sl39 rfl (hC.now hH11 (n := 1) rfl).is) ?_
      refine guard_yes rfl rfl (decide_eq_false hc12) ?_
      refine ops_y hH11 rfl rfl (yv_gtr rfl rfl) ?_
      refine ops_y hH11 rfl rfl (yv_pick_f rfl (decide_eq_false hc12) rfl) ?_
      refine ops_nil ?_
      refine thn_n ?_
      by_cases hc16 : 30 < (c.length : Int)
      · skip
        refine cond_t rfl (decide_eq_true hc16) ?_
        refine seq ?_
        refine region ?_
        refine op_fnV rfl rfl rfl hH11 (c17) (fun w17 hH18 => ?_)
        refine ops_y hH18 rfl rfl (yv_assign rfl) ?_
        refine ops_nil ?_
        refine thn_n ?_
        refine ret ?_
        refine thn_r ?_
        have hH19 := (hH18.sub (List.Sublist.cons _ (List.Sublist.refl _)))
        refine fin hH19 (fun w' hf => (res1 rfl (show RV _ _ _ (.tmp 6) _ from rfl))) (fun w' hf => ?_)
        rfl
      · skip
        refine cond_f rfl (decide_eq_false hc16) ?_
        refine skip ?_
        refine thn_n ?_
        refine seq ?_
        refine region ?_
        refine ops_y hH11 rfl rfl (yv_move rfl) ?_
        refine ops_y hH11 rfl rfl (yv_loadA (cs := [vb, vt, vf]) T.agg41 rfl rfl (fun _ hw => Heap.cellsw hw (n := 0) rfl (k := 0) rfl)) ?_
        refine op_fn rfl rfl rfl hH11 (c37 (h0.now hH11 (n := 1) rfl) (hB.now hH11 (n := 1) rfl) (hT.now hH11 (n := 1) rfl) (hF.now hH11 (n := 1) rfl) (by first | omega | simp | (simp only [List.length_map]; omega)) (by first | omega | simp | (simp only [List.length_map]; omega)) (by first | omega | simp | (simp only [List.length_map]; omega)) (by first | omega | simp | (simp only [List.length_map]; omega))) (fun u22 w20 lo23 hi24 hH21 hv25 => ?_)
        obtain ⟨q26, c27, hu, ho30, hcok28⟩ := hv25
        subst hu
        have hH29 := Heap.toOwAny hH21 (n := 0) rfl (fun w' h => by obtain ⟨_, ys, e, h, _⟩ := h; cases e; exact ⟨ys, h⟩) ho30
        refine ops_y hH29 rfl rfl (yv_move rfl) ?_
        refine ops_y hH29 rfl rfl (yv_extract rfl rfl) ?_
        refine ops_y hH29 rfl rfl (yv_extract rfl rfl) ?_
        refine ops_y hH29 rfl rfl (yv_assign rfl) ?_
        refine ops_y hH29 rfl rfl (yv_assign rfl) ?_
        refine ops_nil ?_
        refine thn_n ?_
        refine seq ?_
        have hcl := hcok28.2.2
        refine region ?_
        refine ops_y hH29 rfl rfl (yv_move rfl) ?_
        refine ops_y hH29 rfl rfl (yv_loadA (cs := [vb, vt, vf]) T.agg41 rfl rfl (fun _ hw => Heap.cellsw hw (n := 1) rfl (k := 0) rfl)) ?_
        refine op_fnV rfl rfl rfl hH29 (c38 (h0.now hH29 (n := 2) rfl) (hB.now hH29 (n := 2) rfl) (hT.now hH29 (n := 2) rfl) (hF.now hH29 (n := 2) rfl) (by omega) (by omega) (by omega) (by omega)) (fun w31 hH32 => ?_)
        refine ops_y hH32 rfl rfl (yv_assign rfl) ?_
        refine ops_nil ?_
        refine thn_n ?_
        refine seq ?_
        refine seq ?_
        refine region_draw (fun w' => Heap [ow lo23 hi24 3 1 encI q26 c27, bx b1 41 [vb, vt, vf], base w] w') T.mixed (fun w33 hr34 => ?_)
        have hH35 := hH32.redrawn hr34
        refine any_takes [0, 1, 2, 3, 4, 5, 6, 8, 9, 10] (by kernel_rfl) hH35 _ _ _ (by kernel_rfl) ?_
        refine qs_y rfl rfl (yv_move rfl) ?_
        refine qs_y rfl rfl (yv_move rfl) ?_
        refine qs_y rfl rfl (yv_castB (not_decide_n rfl) (yv_neq rfl rfl)) ?_
        refine qs_y rfl rfl (yv_move rfl) ?_
        refine qs_yes rfl rfl rfl rfl rfl (yv_move rfl) ?_
        refine qs_yes rfl rfl rfl rfl rfl (yv_loadA (cs := [vb, vt, vf]) T.agg41 rfl rfl (fun _ hw => Heap.cellsw hw (n := 1) rfl (k := 0) rfl)) ?_
        refine qs_yes rfl rfl rfl rfl rfl (yv_move rfl) ?_
        refine qs_yes rfl rfl rfl rfl rfl (yv_move rfl) ?_
        refine qs_yes rfl rfl rfl rfl rfl (yv_loadA (cs := [vb, vt, vf]) T.agg41 rfl rfl (fun _ hw => Heap.cellsw hw (n := 1) rfl (k := 0) rfl)) ?_
        refine qs_yes rfl rfl rfl rfl rfl (yv_move rfl) ?_
        refine qs_nil ?_
        refine any_all [7] (by kernel_rfl) rfl ?_
        refine ⟨⟨_, rfl, ?_⟩, trivial⟩
        · skip
          refine guard_yes rfl rfl rfl ?_
          refine op_fnV rfl rfl rfl hH35 (c39 (h0.now hH35 (n := 2) rfl) (hB.now hH35 (n := 2) rfl) (hT.now hH35 (n := 2) rfl) (hF.now hH35 (n := 2) rfl) (hC.now hH35 (n := 2) rfl) (by omega) (by omega) (by omega) (by omega) (by omega)) (fun w36 hH37 => ?_)
          refine ops_nil ?_
          refine ⟨hH37, ?_⟩
          refine any_all [11] (by kernel_rfl) rfl ?_
          refine ⟨⟨_, rfl, ?_⟩, trivial⟩
          · skip
            refine guard_yes rfl rfl rfl ?_
            refine op_fnV rfl rfl rfl hH37 (c40 (h0.now hH37 (n := 2) rfl) (hB.now hH37 (n := 2) rfl) (hT.now hH37 (n := 2) rfl) (hF.now hH37 (n := 2) rfl) (hC.now hH37 (n := 2) rfl) (by omega) (by omega) (by omega) (by omega) (by omega)) (fun w38 hH39 => ?_)
            refine ops_nil ?_
            refine ⟨hH39, ?_⟩
            refine any_takes [12, 13] (by kernel_rfl) hH39 _ _ _ (by kernel_rfl) ?_
            refine qs_yes rfl rfl rfl rfl rfl (yv_castB (not_decide_n rfl) (yv_neq rfl rfl)) ?_
            refine qs_y rfl rfl (yv_pick_f rfl rfl rfl) ?_
            refine qs_nil ?_
            refine any_done (by kernel_rfl) ?_
            refine thn_n ?_
            refine cond_f rfl rfl ?_
            refine skip ?_
            refine thn_n ?_
            refine seq ?_
            refine seq ?_
            refine region ?_
            refine ops_y hH39 rfl rfl (yv_move rfl) ?_
            refine ops_y hH39 rfl rfl (yv_neq rfl rfl) ?_
            refine ops_nil ?_
            refine thn_n ?_
            by_cases hc40 : (S.circleError js B U F) = 0
            · skip
              have hcc0 := hcok28.2.1 (by omega)
              refine cond_f rfl (not_decide_n hc40) ?_
              refine skip ?_
              refine thn_n ?_
              refine seq ?_
              refine region ?_
              refine ops_y hH39 rfl rfl (yv_move rfl) ?_
              refine ops_y hH39 rfl rfl (yv_loadA (cs := [vb, vt, vf]) T.agg41 rfl rfl (fun _ hw => Heap.cellsw hw (n := 1) rfl (k := 0) rfl)) ?_
              refine ops_y hH39 rfl rfl (yv_move rfl) ?_
              have hev43 : Fn Try.prog 40 [v, (.agg #[vb, vt, vf]), q26].toArray _ _ := c40 (h0.now hH39 (n := 2) rfl) (hB.now hH39 (n := 2) rfl) (hT.now hH39 (n := 2) rfl) (hF.now hH39 (n := 2) rfl) (Heap.rdw T.el39_encI hH39 (n := 0) rfl) (by omega) (by omega) (by omega) (by omega) (by omega)
              simp only [hcc0] at hev43
              refine op_fnV rfl rfl rfl hH39 (hev43) (fun w41 hH42 => ?_)
              refine ops_y hH42 rfl rfl (yv_castB rfl (yv_eql rfl rfl)) ?_
              refine ops_y hH42 rfl rfl (yv_move rfl) ?_
              refine guard_yes rfl rfl rfl ?_
              refine op_fnV rfl rfl rfl hH42 (c17) (fun w44 hH45 => ?_)
              refine ops_y hH45 rfl rfl (yv_pick_t rfl rfl rfl) ?_
              refine ops_y hH45 rfl rfl (yv_assign rfl) ?_
              refine ops_nil ?_
              refine thn_n ?_
              refine ret ?_
              have hH46 := (hH45.sub (List.Sublist.cons _ (List.Sublist.cons _ (List.Sublist.refl _))))
              refine fin hH46 (fun w' hf => (res1 rfl (show RV _ _ _ (.tmp 6) _ from rfl))) (fun w' hf => ?_)
              rfl
            · skip
              have hz : c27 = [] := hcok28.1 ‹_›
              refine cond_t rfl (not_decide_t hc40) ?_
              refine seq ?_
              refine region ?_
              refine ops_y hH39 rfl rfl (yv_move rfl) ?_
              refine ops_y hH39 rfl rfl (yv_len T.sl39 rfl (Heap.rdw T.el39_encI hH39 (n := 0) rfl).is) ?_
              refine ops_y hH39 rfl rfl (yv_eql rfl rfl) ?_
              refine ops_y hH39 rfl rfl (yv_move rfl) ?_
              have hc47 : (c27.length : Int) = 0 := by rw [hz]; rfl
              refine guard_yes rfl rfl (decide_eq_true hc47) ?_
              refine op_fnV rfl rfl rfl hH39 (c17) (fun w48 hH49 => ?_)
              refine ops_y hH49 rfl rfl (yv_pick_t rfl (decide_eq_true hc47) rfl) ?_
              refine ops_y hH49 rfl rfl (yv_assign rfl) ?_
              refine ops_nil ?_
              refine thn_n ?_
              refine ret ?_
              refine thn_r ?_
              have hH50 := (hH49.sub (List.Sublist.cons _ (List.Sublist.cons _ (List.Sublist.refl _))))
              refine fin hH50 (fun w' hf => (res1 rfl (show RV _ _ _ (.tmp 6) _ from rfl))) (fun w' hf => ?_)
              rfl

end Go.Fip
