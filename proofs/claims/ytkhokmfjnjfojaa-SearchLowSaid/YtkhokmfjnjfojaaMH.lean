/- Joined texts: Wx, Qt. -/
import Derived.Test.YtkhokmfjnjfojaaMG
set_option linter.unusedVariables false
set_option linter.unusedSimpArgs false
set_option linter.unusedSectionVars false
set_option linter.unnecessarySimpa false
namespace Go.Fip
open Go.Proofs Go.RowKit

theorem c3 {v : Value} {l : List Int} {a : Int} {w : World} (h0 : Rd encI 1 v l w) (hx : Q.Up l)  :
    Fn Try.prog 3 [v, (.int .i64 a)].toArray w (fun u _ => u = .bool true) := by
  refine fn_of' (args := [v, (.int .i64 a)]) Try.func3 rfl (ent Try.func3 (by kernel_rfl) rfl) rfl rfl (fun hH => ?_)
  refine seq (region (ops_y hH rfl rfl (yv_assign rfl) (ops_nil (thn_n (seq (seq (region (ops_y hH rfl rfl (yv_move rfl) ?_))))))))
  refine ops_y hH rfl rfl (yv_len T.sl22 rfl (h0.now hH (n := 0) rfl).is) ?_
  refine ops_y hH rfl rfl (yv_gtr rfl rfl) ?_
  refine ops_nil (thn_n ?_)
  by_cases hc1 : 16 < (l.length : Int)
  · skip
    refine cond_t rfl (decide_eq_true hc1) ?_
    refine seq (region ?_)
    refine op_fnV rfl rfl rfl hH (c16) (fun w2 hH3 => ?_)
    refine ops_y hH3 rfl rfl (yv_assign rfl) (ops_nil (thn_n (ret (thn_r ?_))))
    refine fin hH3 (fun w' hf => (res1 rfl (show RV _ _ _ (.tmp 4) _ from rfl))) (fun w' hf => ?_)
    rfl
  · skip
    refine cond_f rfl (decide_eq_false hc1) ?_
    refine skip (thn_n (seq ?_))
    have hl1 := Q.len_trials (l := l) (a := a)
    refine region (ops_y hH rfl rfl (yv_move rfl) (ops_y hH rfl rfl (yv_move rfl) ?_))
    refine op_fn rfl rfl rfl hH (c17 (h0.now hH (n := 0) rfl) (by omega) (by first | assumption | decide)) (fun u6 w4 lo7 hi8 hH5 hv9 => ?_)
    obtain ⟨p11, hu, -⟩ := hv9
    subst hu
    have hH10 := Heap.tup2 hH5 (n := 0) rfl
    refine ops_y hH10 rfl rfl (yv_move rfl) (ops_y hH10 rfl rfl (yv_extract rfl rfl) (ops_y hH10 rfl rfl (yv_extract rfl rfl) (ops_y hH10 rfl rfl (yv_assign rfl) (ops_y hH10 rfl rfl (yv_assign rfl) (ops_nil (thn_n (seq (region (ops_y hH10 rfl rfl (yv_move rfl) ?_)))))))))
    refine ops_y hH10 rfl rfl (yv_move rfl) ?_
    refine op_fn rfl rfl rfl hH10 (c18 (h0.now hH10 (n := 1) rfl) (by omega) (by first | assumption | decide)) (fun u14 w12 lo15 hi16 hH13 hv17 => ?_)
    obtain ⟨p19, hu, -⟩ := hv17
    subst hu
    have hH18 := Heap.tup2 hH13 (n := 0) rfl
    refine ops_y hH18 rfl rfl (yv_move rfl) (ops_y hH18 rfl rfl (yv_extract rfl rfl) (ops_y hH18 rfl rfl (yv_extract rfl rfl) (ops_y hH18 rfl rfl (yv_assign rfl) (ops_y hH18 rfl rfl (yv_assign rfl) (ops_nil (thn_n (seq (region (ops_y hH18 rfl rfl (yv_move rfl) ?_)))))))))
    refine op_fnV rfl rfl rfl hH18 (c19 (h0.now hH18 (n := 2) rfl) (by omega) (by first | assumption | decide)) (fun w20 hH21 => ?_)
    refine ops_y hH21 rfl rfl (yv_move rfl) ?_
    refine op_fnV rfl rfl rfl hH21 (c20 (h0.now hH21 (n := 2) rfl) (by omega) (by first | assumption | decide)) (fun w22 hH23 => ?_)
    refine ops_y hH23 rfl rfl (yv_castB (decide_eq_true rfl) (yv_eql rfl rfl)) ?_
    refine ops_y hH23 rfl rfl (yv_move rfl) (guard_yes rfl rfl rfl (ops_y hH23 rfl rfl (yv_move rfl) (guard_yes rfl rfl rfl (ops_y hH23 rfl rfl (yv_move rfl) (guard_yes rfl rfl rfl ?_)))))
    refine op_fnV rfl rfl rfl hH23 (c21 (Heap.rdw T.el22_encI hH23 (n := 1) rfl) (Heap.rdw T.el22_encI hH23 (n := 0) rfl) (by omega) (by omega)) (fun w24 hH25 => ?_)
    refine ops_y hH25 rfl rfl (yv_pick_t rfl rfl rfl) ?_
    refine ops_y hH25 rfl rfl (yv_move rfl) ?_
    refine guard_yes rfl rfl (decide_eq_true rfl) ?_
    refine ops_y hH25 rfl rfl (yv_move rfl) ?_
    refine guard_yes rfl rfl (decide_eq_true rfl) ?_
    refine ops_y hH25 rfl rfl (yv_move rfl) ?_
    refine guard_yes rfl rfl (decide_eq_true rfl) ?_
    refine ops_y hH25 rfl rfl (yv_castB (decide_eq_true rfl) (yv_eql rfl rfl)) ?_
    refine ops_y hH25 rfl rfl (yv_pick_t rfl (decide_eq_true rfl) rfl) ?_
    refine ops_y hH25 rfl rfl (yv_move rfl) (guard_yes rfl rfl rfl ?_)
    refine op_fnV rfl rfl rfl hH25 (c16) (fun w26 hH27 => ?_)
    refine ops_y hH27 rfl rfl (yv_pick_t rfl rfl rfl) ?_
    refine ops_y hH27 rfl rfl (yv_assign rfl) (ops_nil (thn_n (ret ?_)))
    have hH28 := (hH27.sub (List.Sublist.cons _ (List.Sublist.cons _ (List.Sublist.refl _))))
    refine fin hH28 (fun w' hf => (res1 rfl (show RV _ _ _ (.tmp 4) _ from rfl))) (fun w' hf => ?_)
    rfl

namespace K
theorem q1 : Q.ckT [0, 0] = 24 := by decide +kernel
theorem q2 : Q.ckT [1, 2, 0, 2] = 24 := by decide +kernel
theorem q3 : Q.ckT [] = 6 := by decide +kernel
theorem q4 : Q.trialsR [1, 2, 0, 1] 3 = ([2, 3], 0) := by decide +kernel
theorem q5 : Q.manyR [1, 1, 1] = (1, 0) := by decide +kernel
theorem q6 : Q.rootsR [4, 2, 6, 3] 0 3 = ([2], 0) := by decide +kernel
theorem q7 : Q.rootsR [4, 2, 6, 3] 0 1 = ([0], 0) := by decide +kernel
theorem q8 : Q.rootsR [4, 2, 6, 3] 2 1 = ([], 2) := by decide +kernel
theorem q9 : Q.ckB [4, 2, 6, 3] [[4, 8, 20, 26], [2, 10, 16], [6, 12], [3]] = (26, 0) := by decide +kernel
theorem q10 : Q.lowR 3 = ([1, 0, 1], 0) := by decide +kernel
theorem q11 : Q.lowR 13 = ([], 6) := by decide +kernel
theorem q12 : Q.countR 4 = (14, 0) := by decide +kernel
theorem q13 : Q.numR [1, 2, 0] = (3, 0) := by decide +kernel
theorem q14 : Q.atR 3 5 = ([], 2) := by decide +kernel
end K
theorem c15 {w : World}  :
    Fn Try.prog 15 [].toArray w (fun u _ => u = .bool true) := by
  refine fn_of' (args := []) Try.func15 rfl (ent Try.func15 (by kernel_rfl) rfl) rfl rfl (fun hH => ?_)
  refine seq (region (ops_y hH rfl rfl (yv_assign rfl) (ops_nil (thn_n (seq (region ?_))))))
  refine op_fn rfl rfl rfl hH (c54) (fun u3 w1 lo4 hi5 hH2 hv6 => ?_)
  have hH7 := Heap.toOw hH2 (n := 0) rfl
  refine ops_y hH7 rfl rfl (yv_assign rfl) (ops_nil (thn_n (seq (region ?_))))
  refine op_lit (us := [(0, (.int .i64 0)), (1, (.int .i64 0))]) T.el22_encI [0, 0] rfl (by decide) rfl (fun a ha => by simp [ha.ev (show ev _ (.const (.int .i64 0)) = some _ from rfl), ha.ev (show ev _ (.const (.int .i64 0)) = some _ from rfl)]) (fun w => by kernel_rfl) hH7 (fun u8 lo10 hi11 w9 hH12 => ?_)
  refine op_fnV rfl rfl rfl hH12 (c48) (fun w13 hH14 => ?_)
  refine op_fnV rfl rfl rfl hH14 ((by have h := c19 (Heap.rdw T.el22_encI hH14 (n := 0) rfl) (by decide) (by decide) (w := w13); simp only [K.q1] at h; exact h)) (fun w15 hH16 => ?_)
  refine op_lit (us := [(0, (.int .i64 1)), (1, (.int .i64 2)), (2, (.int .i64 0)), (3, (.int .i64 2))]) T.el22_encI [1, 2, 0, 2] rfl (by decide) rfl (fun a ha => by simp [ha.ev (show ev _ (.const (.int .i64 1)) = some _ from rfl), ha.ev (show ev _ (.const (.int .i64 2)) = some _ from rfl), ha.ev (show ev _ (.const (.int .i64 0)) = some _ from rfl), ha.ev (show ev _ (.const (.int .i64 2)) = some _ from rfl)]) (fun w => by kernel_rfl) hH16 (fun u17 lo19 hi20 w18 hH21 => ?_)
  refine op_fnV rfl rfl rfl hH21 (c48) (fun w22 hH23 => ?_)
  refine op_fnV rfl rfl rfl hH23 ((by have h := c19 (Heap.rdw T.el22_encI hH23 (n := 0) rfl) (by decide) (by decide) (w := w22); simp only [K.q2] at h; exact h)) (fun w24 hH25 => ?_)
  refine op_fnV rfl rfl rfl hH25 ((by have h := c19 (l := []) (w := w24) Rd.nil (by decide) (by decide); simp only [K.q3] at h; exact h)) (fun w26 hH27 => ?_)
  refine ops_y hH27 rfl rfl (yv_assign rfl) (ops_y hH27 rfl rfl (yv_assign rfl) (ops_y hH27 rfl rfl (yv_assign rfl) (ops_nil (thn_n (seq (region ?_))))))
  refine op_lit (us := [(0, (.int .i64 1)), (1, (.int .i64 2)), (2, (.int .i64 0)), (3, (.int .i64 1))]) T.el22_encI [1, 2, 0, 1] rfl (by decide) rfl (fun a ha => by simp [ha.ev (show ev _ (.const (.int .i64 1)) = some _ from rfl), ha.ev (show ev _ (.const (.int .i64 2)) = some _ from rfl), ha.ev (show ev _ (.const (.int .i64 0)) = some _ from rfl), ha.ev (show ev _ (.const (.int .i64 1)) = some _ from rfl)]) (fun w => by kernel_rfl) hH27 (fun u28 lo30 hi31 w29 hH32 => ?_)
  refine op_fnV rfl rfl rfl hH32 (c48) (fun w33 hH34 => ?_)
  refine op_fn rfl rfl rfl hH34 ((by have h := c17 (Heap.rdw T.el22_encI hH34 (n := 0) rfl) (by decide) (by decide) (a := 3) (w := w33); simp only [K.q4] at h; exact h)) (fun u37 w35 lo38 hi39 hH36 hv40 => ?_)
  obtain ⟨p42, hu, -⟩ := hv40
  subst hu
  have hH41 := Heap.tup2 hH36 (n := 0) rfl
  refine ops_y hH41 rfl rfl (yv_move rfl) (ops_y hH41 rfl rfl (yv_extract rfl rfl) (ops_y hH41 rfl rfl (yv_extract rfl rfl) (ops_y hH41 rfl rfl (yv_assign rfl) (ops_y hH41 rfl rfl (yv_assign rfl) (ops_nil (thn_n (seq (region ?_))))))))
  refine op_lit (us := [(0, (.int .i64 1)), (1, (.int .i64 1)), (2, (.int .i64 1))]) T.el30_encI [1, 1, 1] rfl (by decide) rfl (fun a ha => by simp [ha.ev (show ev _ (.const (.int .i64 1)) = some _ from rfl), ha.ev (show ev _ (.const (.int .i64 1)) = some _ from rfl), ha.ev (show ev _ (.const (.int .i64 1)) = some _ from rfl)]) (fun w => by kernel_rfl) hH41 (fun u43 lo45 hi46 w44 hH47 => ?_)
  refine op_fnV rfl rfl rfl hH47 (c52) (fun w48 hH49 => ?_)
  refine op_fnV rfl rfl rfl hH49 ((by have h := c29 (Heap.rdw T.el30_encI hH49 (n := 0) rfl) (by decide) (w := w48); simp only [K.q5] at h; exact h)) (fun w50 hH51 => ?_)
  refine ops_y hH51 rfl rfl (yv_move rfl) (ops_y hH51 rfl rfl (yv_extract rfl rfl) (ops_y hH51 rfl rfl (yv_extract rfl rfl) (ops_y hH51 rfl rfl (yv_assign rfl) (ops_y hH51 rfl rfl (yv_assign rfl) (ops_nil (thn_n (seq (region (ops_y hH51 rfl rfl (yv_move rfl) ?_)))))))))
  refine op_fn rfl rfl rfl hH51 ((by have h := c47 (Heap.rdw T.el30_encI hH51 (n := 5) rfl) (by decide) (a := 0) (b := 3) (w := w50); simp only [K.q6] at h; exact h)) (fun u54 w52 lo55 hi56 hH53 hv57 => ?_)
  obtain ⟨p59, hu, -⟩ := hv57
  subst hu
  have hH58 := Heap.tup2 hH53 (n := 0) rfl
  refine ops_y hH58 rfl rfl (yv_move rfl) (ops_y hH58 rfl rfl (yv_extract rfl rfl) (ops_y hH58 rfl rfl (yv_extract rfl rfl) (ops_y hH58 rfl rfl (yv_assign rfl) (ops_y hH58 rfl rfl (yv_assign rfl) (ops_nil (thn_n (seq (region (ops_y hH58 rfl rfl (yv_move rfl) ?_)))))))))
  refine op_fn rfl rfl rfl hH58 ((by have h := c47 (Heap.rdw T.el30_encI hH58 (n := 6) rfl) (by decide) (a := 0) (b := 1) (w := w52); simp only [K.q7] at h; exact h)) (fun u62 w60 lo63 hi64 hH61 hv65 => ?_)
  obtain ⟨p67, hu, -⟩ := hv65
  subst hu
  have hH66 := Heap.tup2 hH61 (n := 0) rfl
  refine ops_y hH66 rfl rfl (yv_move rfl) (ops_y hH66 rfl rfl (yv_extract rfl rfl) (ops_y hH66 rfl rfl (yv_extract rfl rfl) (ops_y hH66 rfl rfl (yv_assign rfl) (ops_y hH66 rfl rfl (yv_assign rfl) (ops_nil (thn_n (seq (region (ops_y hH66 rfl rfl (yv_move rfl) ?_)))))))))
  refine op_fn rfl rfl rfl hH66 ((by have h := c47 (Heap.rdw T.el30_encI hH66 (n := 7) rfl) (by decide) (a := 2) (b := 1) (w := w60); simp only [K.q8] at h; exact h)) (fun u70 w68 lo71 hi72 hH69 hv73 => ?_)
  obtain ⟨p75, hu, -⟩ := hv73
  subst hu
  have hH74 := Heap.tup2 hH69 (n := 0) rfl
  refine ops_y hH74 rfl rfl (yv_move rfl) (ops_y hH74 rfl rfl (yv_extract rfl rfl) (ops_y hH74 rfl rfl (yv_extract rfl rfl) (ops_y hH74 rfl rfl (yv_assign rfl) (ops_y hH74 rfl rfl (yv_assign rfl) (ops_nil (thn_n (seq (region (ops_y hH74 rfl rfl (yv_move rfl) ?_)))))))))
  refine op_fn rfl rfl rfl hH74 (c55) (fun u78 w76 lo79 hi80 hH77 hv81 => ?_)
  obtain ⟨TT82, hH83⟩ := Heap.fixRows hH77 (n := 0) rfl
  have hTl84 := (show RowsAt u78 TT82 [[4, 8, 20, 26], [2, 10, 16], [6, 12], [3]] _ from hH83.get (n := 0) rfl).2.1
  refine op_fnV rfl rfl rfl hH83 ((by have h := c44 (Heap.rdw T.el30_encI hH83 (n := 9) rfl) ((show RowsAt u78 TT82 [[4, 8, 20, 26], [2, 10, 16], [6, 12], [3]] _ from hH83.get (n := 0) rfl)) (by decide) (by decide) (by decide) (w := w76); simp only [K.q9] at h; exact h)) (fun w85 hH86 => ?_)
  refine ops_y hH86 rfl rfl (yv_move rfl) (ops_y hH86 rfl rfl (yv_extract rfl rfl) (ops_y hH86 rfl rfl (yv_extract rfl rfl) (ops_y hH86 rfl rfl (yv_assign rfl) (ops_y hH86 rfl rfl (yv_assign rfl) (ops_nil (thn_n (seq (region ?_))))))))
  refine op_fn rfl rfl rfl hH86 ((by have h := c33  (n := 3) (w := w85); simp only [K.q10] at h; exact h)) (fun u89 w87 lo90 hi91 hH88 hv92 => ?_)
  obtain ⟨p94, hu, -⟩ := hv92
  subst hu
  have hH93 := Heap.tup2 hH88 (n := 0) rfl
  refine ops_y hH93 rfl rfl (yv_move rfl) (ops_y hH93 rfl rfl (yv_extract rfl rfl) (ops_y hH93 rfl rfl (yv_extract rfl rfl) (ops_y hH93 rfl rfl (yv_assign rfl) (ops_y hH93 rfl rfl (yv_assign rfl) (ops_nil (thn_n (seq (region ?_))))))))
  refine op_fn rfl rfl rfl hH93 ((by have h := c33  (n := 13) (w := w87); simp only [K.q11] at h; exact h)) (fun u97 w95 lo98 hi99 hH96 hv100 => ?_)
  obtain ⟨p102, hu, -⟩ := hv100
  subst hu
  have hH101 := Heap.tup2 hH96 (n := 0) rfl
  refine ops_y hH101 rfl rfl (yv_move rfl) (ops_y hH101 rfl rfl (yv_extract rfl rfl) (ops_y hH101 rfl rfl (yv_extract rfl rfl) (ops_y hH101 rfl rfl (yv_assign rfl) (ops_y hH101 rfl rfl (yv_assign rfl) (ops_nil (thn_n (seq (region ?_))))))))
  refine op_fnV rfl rfl rfl hH101 ((by have h := c35  (n := 4) (w := w95); simp only [K.q12] at h; exact h)) (fun w103 hH104 => ?_)
  refine ops_y hH104 rfl rfl (yv_move rfl) (ops_y hH104 rfl rfl (yv_extract rfl rfl) (ops_y hH104 rfl rfl (yv_extract rfl rfl) (ops_y hH104 rfl rfl (yv_assign rfl) (ops_y hH104 rfl rfl (yv_assign rfl) (ops_nil (thn_n (seq (region ?_))))))))
  refine op_lit (us := [(0, (.int .i64 1)), (1, (.int .i64 2)), (2, (.int .i64 0))]) T.el22_encI [1, 2, 0] rfl (by decide) rfl (fun a ha => by simp [ha.ev (show ev _ (.const (.int .i64 1)) = some _ from rfl), ha.ev (show ev _ (.const (.int .i64 2)) = some _ from rfl), ha.ev (show ev _ (.const (.int .i64 0)) = some _ from rfl)]) (fun w => by kernel_rfl) hH104 (fun u105 lo107 hi108 w106 hH109 => ?_)
  refine op_fnV rfl rfl rfl hH109 (c48) (fun w110 hH111 => ?_)
  refine op_fnV rfl rfl rfl hH111 ((by have h := c37 (Heap.rdw T.el22_encI hH111 (n := 0) rfl) (by decide) (by decide) (w := w110); simp only [K.q13] at h; exact h)) (fun w112 hH113 => ?_)
  refine ops_y hH113 rfl rfl (yv_move rfl) (ops_y hH113 rfl rfl (yv_extract rfl rfl) (ops_y hH113 rfl rfl (yv_extract rfl rfl) (ops_y hH113 rfl rfl (yv_assign rfl) (ops_y hH113 rfl rfl (yv_assign rfl) (ops_nil (thn_n (seq (region ?_))))))))
  refine op_fn rfl rfl rfl hH113 ((by have h := c39  (n := 3) (k := 5) (w := w112); simp only [K.q14] at h; exact h)) (fun u116 w114 lo117 hi118 hH115 hv119 => ?_)
  obtain ⟨p121, hu, -⟩ := hv119
  subst hu
  have hH120 := Heap.tup2 hH115 (n := 0) rfl
  refine ops_y hH120 rfl rfl (yv_move rfl) (ops_y hH120 rfl rfl (yv_extract rfl rfl) (ops_y hH120 rfl rfl (yv_extract rfl rfl) (ops_y hH120 rfl rfl (yv_assign rfl) (ops_y hH120 rfl rfl (yv_assign rfl) (ops_nil (thn_n (seq (region (ops_y hH120 rfl rfl (yv_move rfl) ?_)))))))))
  refine ops_y hH120 rfl rfl (yv_castB rfl (yv_eql rfl rfl)) ?_
  refine ops_y hH120 rfl rfl (yv_move rfl) (guard_yes rfl rfl rfl (ops_y hH120 rfl rfl (yv_move rfl) (guard_yes rfl rfl rfl ?_)))
  refine ops_y hH120 rfl rfl (yv_castB rfl (yv_eql rfl rfl)) ?_
  refine ops_y hH120 rfl rfl (yv_pick_t rfl rfl rfl) ?_
  refine ops_y hH120 rfl rfl (yv_move rfl) (guard_yes rfl rfl rfl (ops_y hH120 rfl rfl (yv_move rfl) (guard_yes rfl rfl rfl ?_)))
  refine ops_y hH120 rfl rfl (yv_castB rfl (yv_eql rfl rfl)) ?_
  refine ops_y hH120 rfl rfl (yv_pick_t rfl rfl rfl) ?_
  refine ops_y hH120 rfl rfl (yv_move rfl) (guard_yes rfl rfl rfl (ops_y hH120 rfl rfl (yv_move rfl) (guard_yes rfl rfl rfl ?_)))
  refine ops_y hH120 rfl rfl (yv_castB rfl (yv_eql rfl rfl)) ?_
  refine ops_y hH120 rfl rfl (yv_pick_t rfl rfl rfl) ?_
  refine ops_y hH120 rfl rfl (yv_move rfl) (guard_yes rfl rfl rfl (ops_y hH120 rfl rfl (yv_move rfl) (guard_yes rfl rfl rfl ?_)))
  refine op_lit (us := [(0, (.int .i64 2)), (1, (.int .i64 3))]) T.el22_encI [2, 3] rfl (by decide) rfl (fun a ha => by simp [ha.ev (show ev _ (.const (.int .i64 2)) = some _ from rfl), ha.ev (show ev _ (.const (.int .i64 3)) = some _ from rfl)]) (fun w => by kernel_rfl) hH120 (fun u122 lo124 hi125 w123 hH126 => ?_)
  refine guard_yes rfl rfl rfl ?_
  refine op_fnV rfl rfl rfl hH126 (c48) (fun w127 hH128 => ?_)
  refine guard_yes rfl rfl rfl ?_
  refine op_fnV rfl rfl rfl hH128 (c21 (Heap.rdw T.el22_encI hH128 (n := 10) rfl) (Heap.rdw T.el22_encI hH128 (n := 0) rfl) (by decide) (by decide)) (fun w129 hH130 => ?_)
  refine ops_y hH130 rfl rfl (yv_pick_t rfl rfl rfl) ?_
  refine ops_y hH130 rfl rfl (yv_move rfl) ?_
  refine guard_yes rfl rfl (decide_eq_true rfl) ?_
  refine ops_y hH130 rfl rfl (yv_move rfl) ?_
  refine guard_yes rfl rfl (decide_eq_true rfl) ?_
  refine ops_y hH130 rfl rfl (yv_castB rfl (yv_eql rfl rfl)) ?_
  refine ops_y hH130 rfl rfl (yv_pick_t rfl (decide_eq_true rfl) rfl) ?_
  refine ops_y hH130 rfl rfl (yv_move rfl) (guard_yes rfl rfl rfl (ops_y hH130 rfl rfl (yv_move rfl) (guard_yes rfl rfl rfl ?_)))
  refine ops_y hH130 rfl rfl (yv_castB rfl (yv_eql rfl rfl)) ?_
  refine ops_y hH130 rfl rfl (yv_pick_t rfl rfl rfl) ?_
  refine ops_y hH130 rfl rfl (yv_move rfl) (guard_yes rfl rfl rfl (ops_y hH130 rfl rfl (yv_move rfl) (guard_yes rfl rfl rfl ?_)))
  refine ops_y hH130 rfl rfl (yv_castB rfl (yv_eql rfl rfl)) ?_
  refine ops_y hH130 rfl rfl (yv_pick_t rfl rfl rfl) ?_
  refine ops_y hH130 rfl rfl (yv_move rfl) (guard_yes rfl rfl rfl (ops_y hH130 rfl rfl (yv_move rfl) (guard_yes rfl rfl rfl ?_)))
  refine op_lit (us := [(0, (.int .i64 2))]) T.el22_encI [2] rfl (by decide) rfl (fun a ha => by simp [ha.ev (show ev _ (.const (.int .i64 2)) = some _ from rfl)]) (fun w => by kernel_rfl) hH130 (fun u131 lo133 hi134 w132 hH135 => ?_)
  refine guard_yes rfl rfl rfl ?_
  refine op_fnV rfl rfl rfl hH135 (c48) (fun w136 hH137 => ?_)
  refine guard_yes rfl rfl rfl ?_
  refine op_fnV rfl rfl rfl hH137 (c21 (Heap.rdw T.el22_encI hH137 (n := 9) rfl) (Heap.rdw T.el22_encI hH137 (n := 0) rfl) (by decide) (by decide)) (fun w138 hH139 => ?_)
  refine ops_y hH139 rfl rfl (yv_pick_t rfl rfl rfl) ?_
  refine ops_y hH139 rfl rfl (yv_move rfl) ?_
  refine guard_yes rfl rfl (decide_eq_true rfl) ?_
  refine ops_y hH139 rfl rfl (yv_move rfl) ?_
  refine guard_yes rfl rfl (decide_eq_true rfl) ?_
  refine ops_y hH139 rfl rfl (yv_castB rfl (yv_eql rfl rfl)) ?_
  refine ops_y hH139 rfl rfl (yv_pick_t rfl (decide_eq_true rfl) rfl) ?_
  refine ops_y hH139 rfl rfl (yv_move rfl) (guard_yes rfl rfl rfl (ops_y hH139 rfl rfl (yv_move rfl) (guard_yes rfl rfl rfl ?_)))
  refine op_lit (us := [(0, (.int .i64 0))]) T.el22_encI [0] rfl (by decide) rfl (fun a ha => by simp [ha.ev (show ev _ (.const (.int .i64 0)) = some _ from rfl)]) (fun w => by kernel_rfl) hH139 (fun u140 lo142 hi143 w141 hH144 => ?_)
  refine guard_yes rfl rfl rfl ?_
  refine op_fnV rfl rfl rfl hH144 (c48) (fun w145 hH146 => ?_)
  refine guard_yes rfl rfl rfl ?_
  refine op_fnV rfl rfl rfl hH146 (c21 (Heap.rdw T.el22_encI hH146 (n := 9) rfl) (Heap.rdw T.el22_encI hH146 (n := 0) rfl) (by decide) (by decide)) (fun w147 hH148 => ?_)
  refine ops_y hH148 rfl rfl (yv_pick_t rfl rfl rfl) ?_
  refine ops_y hH148 rfl rfl (yv_move rfl) ?_
  refine guard_yes rfl rfl (decide_eq_true rfl) ?_
  refine ops_y hH148 rfl rfl (yv_move rfl) ?_
  refine guard_yes rfl rfl (decide_eq_true rfl) ?_
  refine ops_y hH148 rfl rfl (yv_castB rfl (yv_eql rfl rfl)) ?_
  refine ops_y hH148 rfl rfl (yv_pick_t rfl (decide_eq_true rfl) rfl) ?_
  refine ops_y hH148 rfl rfl (yv_move rfl) (guard_yes rfl rfl rfl (ops_y hH148 rfl rfl (yv_move rfl) (guard_yes rfl rfl rfl ?_)))
  refine ops_y hH148 rfl rfl (yv_castB rfl (yv_eql rfl rfl)) ?_
  refine ops_y hH148 rfl rfl (yv_pick_t rfl rfl rfl) ?_
  refine ops_y hH148 rfl rfl (yv_move rfl) (guard_yes rfl rfl rfl (ops_y hH148 rfl rfl (yv_move rfl) (guard_yes rfl rfl rfl ?_)))
  refine ops_y hH148 rfl rfl (yv_castB rfl (yv_eql rfl rfl)) ?_
  refine ops_y hH148 rfl rfl (yv_pick_t rfl rfl rfl) ?_
  refine ops_y hH148 rfl rfl (yv_move rfl) (guard_yes rfl rfl rfl (ops_y hH148 rfl rfl (yv_move rfl) (guard_yes rfl rfl rfl ?_)))
  refine ops_y hH148 rfl rfl (yv_castB rfl (yv_eql rfl rfl)) ?_
  refine ops_y hH148 rfl rfl (yv_pick_t rfl rfl rfl) ?_
  refine ops_y hH148 rfl rfl (yv_move rfl) (guard_yes rfl rfl rfl (ops_y hH148 rfl rfl (yv_move rfl) (guard_yes rfl rfl rfl ?_)))
  refine op_lit (us := [(0, (.int .i64 1)), (1, (.int .i64 0)), (2, (.int .i64 1))]) T.el22_encI [1, 0, 1] rfl (by decide) rfl (fun a ha => by simp [ha.ev (show ev _ (.const (.int .i64 1)) = some _ from rfl), ha.ev (show ev _ (.const (.int .i64 0)) = some _ from rfl), ha.ev (show ev _ (.const (.int .i64 1)) = some _ from rfl)]) (fun w => by kernel_rfl) hH148 (fun u149 lo151 hi152 w150 hH153 => ?_)
  refine guard_yes rfl rfl rfl ?_
  refine op_fnV rfl rfl rfl hH153 (c48) (fun w154 hH155 => ?_)
  refine guard_yes rfl rfl rfl ?_
  refine op_fnV rfl rfl rfl hH155 (c21 (Heap.rdw T.el22_encI hH155 (n := 7) rfl) (Heap.rdw T.el22_encI hH155 (n := 0) rfl) (by decide) (by decide)) (fun w156 hH157 => ?_)
  refine ops_y hH157 rfl rfl (yv_pick_t rfl rfl rfl) ?_
  refine ops_y hH157 rfl rfl (yv_move rfl) ?_
  refine guard_yes rfl rfl (decide_eq_true rfl) ?_
  refine ops_y hH157 rfl rfl (yv_move rfl) ?_
  refine guard_yes rfl rfl (decide_eq_true rfl) ?_
  refine ops_y hH157 rfl rfl (yv_castB rfl (yv_eql rfl rfl)) ?_
  refine ops_y hH157 rfl rfl (yv_pick_t rfl (decide_eq_true rfl) rfl) ?_
  refine ops_y hH157 rfl rfl (yv_move rfl) (guard_yes rfl rfl rfl (ops_y hH157 rfl rfl (yv_move rfl) (guard_yes rfl rfl rfl ?_)))
  refine ops_y hH157 rfl rfl (yv_castB rfl (yv_eql rfl rfl)) ?_
  refine ops_y hH157 rfl rfl (yv_pick_t rfl rfl rfl) ?_
  refine ops_y hH157 rfl rfl (yv_move rfl) (guard_yes rfl rfl rfl (ops_y hH157 rfl rfl (yv_move rfl) (guard_yes rfl rfl rfl ?_)))
  refine ops_y hH157 rfl rfl (yv_castB rfl (yv_eql rfl rfl)) ?_
  refine ops_y hH157 rfl rfl (yv_pick_t rfl rfl rfl) ?_
  refine ops_y hH157 rfl rfl (yv_move rfl) (guard_yes rfl rfl rfl (ops_y hH157 rfl rfl (yv_move rfl) (guard_yes rfl rfl rfl ?_)))
  refine ops_y hH157 rfl rfl (yv_castB rfl (yv_eql rfl rfl)) ?_
  refine ops_y hH157 rfl rfl (yv_pick_t rfl rfl rfl) ?_
  refine ops_y hH157 rfl rfl (yv_move rfl) (guard_yes rfl rfl rfl (ops_y hH157 rfl rfl (yv_move rfl) (guard_yes rfl rfl rfl ?_)))
  refine ops_y hH157 rfl rfl (yv_castB rfl (yv_eql rfl rfl)) ?_
  refine ops_y hH157 rfl rfl (yv_pick_t rfl rfl rfl) ?_
  refine ops_y hH157 rfl rfl (yv_move rfl) (guard_yes rfl rfl rfl (ops_y hH157 rfl rfl (yv_move rfl) (guard_yes rfl rfl rfl ?_)))
  refine ops_y hH157 rfl rfl (yv_castB rfl (yv_eql rfl rfl)) ?_
  refine ops_y hH157 rfl rfl (yv_pick_t rfl rfl rfl) ?_
  refine ops_y hH157 rfl rfl (yv_move rfl) (guard_yes rfl rfl rfl ?_)
  refine op_fnV rfl rfl rfl hH157 (c16) (fun w158 hH159 => ?_)
  refine ops_y hH159 rfl rfl (yv_pick_t rfl rfl rfl) ?_
  refine ops_y hH159 rfl rfl (yv_assign rfl) (ops_nil (thn_n (ret ?_)))
  have hH160 := (hH159.sub (List.Sublist.cons _ (List.Sublist.cons _ (List.Sublist.cons _ (List.Sublist.cons _ (List.Sublist.cons _ (List.Sublist.cons _ (List.Sublist.cons _ (List.Sublist.cons _ (List.Sublist.cons _ (List.Sublist.cons _ (List.Sublist.cons _ (List.Sublist.cons _ (List.Sublist.cons _ (List.Sublist.cons _ (List.Sublist.cons _ (List.Sublist.cons _ (List.Sublist.cons _ (List.Sublist.cons _ (List.Sublist.refl _))))))))))))))))))))
  refine fin hH160 (fun w' hf => (res1 rfl (show RV _ _ _ (.tmp 0) _ from rfl))) (fun w' hf => ?_)
  rfl

end Go.Fip

set_option linter.unusedVariables false
set_option linter.unusedSimpArgs false
set_option linter.unusedSectionVars false
namespace Go.Fip.Q
open Go.Fip
theorem nth_set {l : List Int} {i j : Nat} {x : Int} (hi : i < l.length) (hj : j < l.length) : nth (l.set i x) (j : Int) = if j = i then x else nth l (j : Int) := by
  rw [nth_nat (by rw [List.length_set]; exact hj), nth_nat hj, List.getElem_set]
  by_cases e : i = j
  · rw [if_pos e, if_pos e.symm]
  · rw [if_neg e, if_neg (fun h => e h.symm)]
/-- The first i are in order. -/
structure InsO (n : Int) (i : Nat) (o : List Int) : Prop where
  len : o.length = 4
  bd : ∀ p : Nat, p < 4 → 0 ≤ nth o (p : Int) ∧ nth o (p : Int) ≤ n
  srt : ∀ p q : Nat, p < q → q < i → nth o (p : Int) ≤ nth o (q : Int)
/-- .. but for the one at k, which none behind it is less than. -/
structure InsI (n : Int) (i k : Nat) (o : List Int) : Prop where
  len : o.length = 4
  bd : ∀ p : Nat, p < 4 → 0 ≤ nth o (p : Int) ∧ nth o (p : Int) ≤ n
  srt : ∀ p q : Nat, p < q → q ≤ i → p ≠ k → q ≠ k → nth o (p : Int) ≤ nth o (q : Int)
  me : ∀ q : Nat, k < q → q ≤ i → nth o (k : Int) ≤ nth o (q : Int)
theorem InsO.start {a b c d n : Int} (ha : 0 ≤ a ∧ a ≤ n) (hb : 0 ≤ b ∧ b ≤ n) (hc : 0 ≤ c ∧ c ≤ n) (hd : 0 ≤ d ∧ d ≤ n) : InsO n 1 [a, b, c, d] :=
  ⟨rfl, fun p hp => by
    match p, hp with
    | 0, _ => exact ha
    | 1, _ => exact hb
    | 2, _ => exact hc
    | 3, _ => exact hd, fun p q h1 h2 => by omega⟩
variable {n : Int} {i k : Nat} {o : List Int}
theorem InsO.into (h : InsO n i o) : InsI n i i o := ⟨h.len, h.bd, fun p q h1 h2 h3 h4 => h.srt p q h1 (by omega), fun q h1 h2 => by omega⟩
theorem InsI.out (h : InsI n i k o) (hki : k ≤ i) (hk : k = 0 ∨ nth o ((k - 1 : Nat) : Int) ≤ nth o (k : Int)) : InsO n (i + 1) o :=
  ⟨h.len, h.bd, fun p q h1 h2 => by
    by_cases e1 : p = k
    · subst e1; exact h.me q h1 (by omega)
    · by_cases e2 : q = k
      · subst e2
        rcases hk with hk | hk
        · omega
        · by_cases e3 : p = q - 1
          · rw [e3]; exact hk
          · have := h.srt p (q - 1) (by omega) (by omega) e1 (by omega)
            omega
      · exact h.srt p q h1 (by omega) e1 e2⟩
theorem InsI.step (h : InsI n i k o) (hi : i < 4) (hki : k ≤ i) (hk : 0 < k) (hlt : nth o (k : Int) < nth o ((k : Int) - 1)) : InsI n i (k - 1) ((o.set ((k : Int)).toNat (nth o ((k : Int) - 1))).set (((k : Int) - 1)).toNat (nth o (k : Int))) := by
  have hl := h.len
  have e1 : ((k : Int)).toNat = k := by omega
  have e2 : (((k : Int) - 1)).toNat = k - 1 := by omega
  have e3 : nth o ((k : Int) - 1) = nth o ((k - 1 : Nat) : Int) := by rw [show (k : Int) - 1 = ((k - 1 : Nat) : Int) by omega]
  rw [e3] at hlt
  rw [e1, e2, e3]
  have g : ∀ j : Nat, j < 4 → nth ((o.set k (nth o ((k - 1 : Nat) : Int))).set (k - 1) (nth o (k : Int))) (j : Int) = if j = k - 1 then nth o (k : Int) else if j = k then nth o ((k - 1 : Nat) : Int) else nth o (j : Int) := fun j hj => by
    rw [nth_set (by rw [List.length_set]; omega) (by rw [List.length_set]; omega)]
    split
    · rfl
    · rw [nth_set (by omega) (by omega)]
  refine ⟨by simp [hl], fun p hp => ?_, fun p q h1 h2 h3 h4 => ?_, fun q h1 h2 => ?_⟩
  · rw [g p hp]
    split
    · exact h.bd k (by omega)
    · split
      · exact h.bd (k - 1) (by omega)
      · exact h.bd p hp
  · rw [g p (by omega), g q (by omega), if_neg h3, if_neg h4]
    by_cases e4 : p = k
    · rw [if_pos e4, if_neg (by omega)]
      exact h.srt (k - 1) q (by omega) h2 (by omega) (by omega)
    · rw [if_neg e4]
      by_cases e5 : q = k
      · rw [if_pos e5]
        exact h.srt p (k - 1) (by omega) (by omega) e4 (by omega)
      · rw [if_neg e5]; exact h.srt p q h1 h2 e4 e5
  · rw [g (k - 1) (by omega), if_pos rfl, g q (by omega), if_neg (by omega)]
    split
    · omega
    · exact h.me q (by omega) h2
theorem crossed {l : List Int} (hw : ∀ x ∈ l, 0 ≤ x ∧ x ≤ 1000) {a b c d : Int} (ha : 0 ≤ a) (hab : a ≤ b) (hbc : b ≤ c) (hcd : c ≤ d) (hd : d ≤ (l.length : Int)) : btw (tab l) a c + btw (tab l) b d ≤ btw (tab l) a d + btw (tab l) b c := by
  obtain ⟨a, rfl⟩ := Int.eq_ofNat_of_zero_le ha
  obtain ⟨b, rfl⟩ := Int.eq_ofNat_of_zero_le (show 0 ≤ b by omega)
  obtain ⟨c, rfl⟩ := Int.eq_ofNat_of_zero_le (show 0 ≤ c by omega)
  obtain ⟨d, rfl⟩ := Int.eq_ofNat_of_zero_le (show 0 ≤ d by omega)
  rw [btw_tab (by omega) (by omega), btw_tab (by omega) (by omega), btw_tab (by omega) (by omega), btw_tab (by omega) (by omega)]
  exact cross (fun x hx => (hw x hx).1) _ a b c d (Nat.le_refl _) (by omega) (by omega) (by omega)
theorem btw_bd {l : List Int} (hw : ∀ x ∈ l, 0 ≤ x ∧ x ≤ 1000) (hn : l.length ≤ 12) {a b : Int} (ha : 0 ≤ a) (hb : 0 ≤ b) (hbl : b ≤ (l.length : Int)) : 0 ≤ btw (tab l) a b ∧ btw (tab l) a b ≤ 144000 := by
  obtain ⟨a, rfl⟩ := Int.eq_ofNat_of_zero_le ha
  obtain ⟨b, rfl⟩ := Int.eq_ofNat_of_zero_le hb
  by_cases h : a ≤ b
  · rw [btw_tab h (by omega)]; exact C_small hw hn (by omega)
  · rw [btw_nil (by omega)]; omega
/-- Counted: a row of weights that are all nothing. -/
theorem ckW_zero {n : Nat} (h : 1 ≤ n) (h2 : n ≤ 12) : ckW (List.replicate n 0) = 0 := kw3 (by simp; omega) (fun x hx => by rw [List.eq_of_mem_replicate hx]; decide)
theorem many_zero {n : Nat} (h : 1 ≤ n) (h2 : n ≤ 12) : manyR (List.replicate n 0) = ((cnt n : Int), 0) := by
  rw [ma2 (ckW_zero h h2), List.length_replicate]
  have := M_zero n n 0 n (by omega) (by omega)
  rw [this]; rfl
theorem roots_all {n : Nat} {b : Int} (h : 1 ≤ n) (h2 : n ≤ 12) (hb : b = (n : Int) - 1) : rootsR (List.replicate n 0) 0 b = (rootsI (List.replicate n 0) 0 n, 0) ∧ (rootsI (List.replicate n 0) 0 n).length = n := by
  refine ⟨?_, ?_⟩
  · rw [ro3 (ckW_zero h h2) (by rw [List.length_replicate]; omega), show b.toNat + 1 = n by omega]; rfl
  · rw [rootsI_length, roots_zero]; simp
theorem count_ok {k : Nat} (h : 1 ≤ k) (h2 : k ≤ 12) : countR (k : Int) = ((cnt k : Int), 0) := cr2 (n := (k : Int)) (by omega)
end Go.Fip.Q
