/- Walks, by program (wip/tools). -/
import Derived.Test.YticpcefbokhgfaaMH
import Derived.Test.YticpcefbokhgfaaMC
set_option linter.unusedVariables false
set_option linter.unusedSimpArgs false
set_option linter.unusedSectionVars false
set_option linter.unnecessarySimpa false
namespace Go.Fip
open Go.Proofs Go.RowKit

namespace S
theorem len_steps {l : List Int} : (stepsR l).1.length ≤ 100 := by
  unfold stepsR
  split
  · simp
  · rename_i h
    exact J.steps_len (check_iff.1 (Classical.not_not.1 h))
theorem len_circ {l : List Int} : (circR l).1.length ≤ 10 ∧ ∀ i : Nat, i < (circR l).1.length → (nth (circR l).1 (i : Int)).length ≤ 10 := by
  unfold circR
  split
  · exact ⟨by simp, fun i hi => absurd hi (Nat.not_lt_zero _)⟩
  · rename_i h
    have hj : J l := check_iff.1 (Classical.not_not.1 h)
    have h10 := hj.2.1
    have hc := hj.cyc_le
    have hl := circles_len (l := l)
    refine ⟨by show (circles l).length ≤ 10; omega, fun i hi => ?_⟩
    have hi2 : i < (circles l).length := hi
    have hi3 : i < (mins l).length := by rw [hl] at hi2; exact hi2
    show (nth (circles l) (i : Int)).length ≤ 10
    have e : (circles l)[i] = circ l ((mins l)[i] : Int) := by simp [circles]
    rw [nth_nat hi2, e, circ_length]
    have hm := mem_mins.1 (List.getElem_mem hi3)
    have := (hj.per_at (a := ((mins l)[i] : Int)) (by omega) (by omega)).2
    omega
end S

theorem c17b {v : Value} {l : List Int} {w : World} (h0 : Rd encI 1 v l w)  :
    Fn Try.prog 17 [v].toArray w (fun u _ => u = .bool (decide (16 < (l.length : Int)))) := by
  refine fn_of' (args := [v]) Try.func17 rfl (ent Try.func17 (by kernel_rfl) rfl) rfl rfl (fun hH => ?_)
  refine seq (region (ops_y hH rfl rfl (yv_assign rfl) (ops_nil (thn_n (seq (region (ops_y hH rfl rfl (yv_move rfl) ?_)))))))
  refine ops_y hH rfl rfl (yv_len T.sl22 rfl (h0.now hH (n := 0) rfl).is) ?_
  refine ops_y hH rfl rfl (yv_gtr rfl rfl) ?_
  refine ops_y hH rfl rfl (yv_assign rfl) (ops_nil (thn_n (ret ?_)))
  refine fin hH (fun w' hf => (res1 rfl (show RV _ _ _ (.tmp 2) _ from rfl))) (fun w' hf => ?_)
  rfl

theorem c3 {v : Value} {l : List Int} {w : World} (h0 : Rd encI 1 v l w)  :
    Fn Try.prog 3 [v].toArray w (fun u _ => u = .bool true) := by
  refine fn_of' (args := [v]) Try.func3 rfl (ent Try.func3 (by kernel_rfl) rfl) rfl rfl (fun hH => ?_)
  refine seq (region (ops_y hH rfl rfl (yv_assign rfl) (ops_nil (thn_n (seq (seq (region (ops_y hH rfl rfl (yv_move rfl) ?_))))))))
  refine op_fnV rfl rfl rfl hH (c17 (h0.now hH (n := 0) rfl)) (fun w1 hH2 => ?_)
  refine ops_nil (thn_n ?_)
  by_cases hc3 : 16 < (l.length : Int)
  · skip
    refine cond_t rfl (decide_eq_true hc3) ?_
    refine seq (region ?_)
    refine op_fnV rfl rfl rfl hH2 (c18) (fun w4 hH5 => ?_)
    refine ops_y hH5 rfl rfl (yv_assign rfl) (ops_nil (thn_n (ret (thn_r ?_))))
    refine fin hH5 (fun w' hf => (res1 rfl (show RV _ _ _ (.tmp 2) _ from rfl))) (fun w' hf => ?_)
    rfl
  · skip
    refine cond_f rfl (decide_eq_false hc3) ?_
    refine skip (thn_n (seq ?_))
    have hlc := S.len_circ (l := l)
    have hlw := S.len_wrong (l := l)
    refine region (ops_y hH2 rfl rfl (yv_move rfl) ?_)
    refine op_fn rfl rfl rfl hH2 (c19 (h0.now hH2 (n := 0) rfl) (by omega)) (fun u8 w6 lo9 hi10 hH7 hv11 => ?_)
    obtain ⟨p14, hu, -⟩ := hv11
    subst hu
    obtain ⟨TT12, hH13⟩ := Heap.tupRows hH7 (n := 0) rfl
    have hTl15 := (show RowsAt p14 TT12 ((S.circR l).1) _ from hH13.get (n := 0) rfl).2.1
    refine ops_y hH13 rfl rfl (yv_move rfl) (ops_y hH13 rfl rfl (yv_extract rfl rfl) (ops_y hH13 rfl rfl (yv_extract rfl rfl) (ops_y hH13 rfl rfl (yv_assign rfl) (ops_y hH13 rfl rfl (yv_assign rfl) (ops_nil (thn_n (seq (region (ops_y hH13 rfl rfl (yv_move rfl) ?_)))))))))
    refine op_fn rfl rfl rfl hH13 (c20 (h0.now hH13 (n := 1) rfl) (by omega)) (fun u18 w16 lo19 hi20 hH17 hv21 => ?_)
    obtain ⟨p24, hu, -⟩ := hv21
    subst hu
    obtain ⟨TT22, hH23⟩ := Heap.tupRows hH17 (n := 0) rfl
    have hTl25 := (show RowsAt p24 TT22 ((S.circR l).1) _ from hH23.get (n := 0) rfl).2.1
    refine ops_y hH23 rfl rfl (yv_move rfl) (ops_y hH23 rfl rfl (yv_extract rfl rfl) (ops_y hH23 rfl rfl (yv_extract rfl rfl) (ops_y hH23 rfl rfl (yv_assign rfl) (ops_y hH23 rfl rfl (yv_assign rfl) (ops_nil (thn_n (seq (region (ops_y hH23 rfl rfl (yv_move rfl) ?_)))))))))
    refine op_fn rfl rfl rfl hH23 (c21 (h0.now hH23 (n := 2) rfl) (by omega)) (fun u28 w26 lo29 hi30 hH27 hv31 => ?_)
    obtain ⟨p33, hu, -⟩ := hv31
    subst hu
    have hH32 := Heap.tup2 hH27 (n := 0) rfl
    refine ops_y hH32 rfl rfl (yv_move rfl) (ops_y hH32 rfl rfl (yv_extract rfl rfl) (ops_y hH32 rfl rfl (yv_extract rfl rfl) (ops_y hH32 rfl rfl (yv_assign rfl) (ops_y hH32 rfl rfl (yv_assign rfl) (ops_nil (thn_n (seq (region (ops_y hH32 rfl rfl (yv_move rfl) ?_)))))))))
    refine op_fn rfl rfl rfl hH32 (c22 (h0.now hH32 (n := 3) rfl) (by omega)) (fun u36 w34 lo37 hi38 hH35 hv39 => ?_)
    obtain ⟨p41, hu, -⟩ := hv39
    subst hu
    have hH40 := Heap.tup2 hH35 (n := 0) rfl
    refine ops_y hH40 rfl rfl (yv_move rfl) (ops_y hH40 rfl rfl (yv_extract rfl rfl) (ops_y hH40 rfl rfl (yv_extract rfl rfl) (ops_y hH40 rfl rfl (yv_assign rfl) (ops_y hH40 rfl rfl (yv_assign rfl) (ops_nil (thn_n (seq (region (ops_y hH40 rfl rfl (yv_move rfl) ?_)))))))))
    refine op_fnV rfl rfl rfl hH40 (c23 (h0.now hH40 (n := 4) rfl) (by omega)) (fun w42 hH43 => ?_)
    refine ops_y hH43 rfl rfl (yv_move rfl) ?_
    refine op_fnV rfl rfl rfl hH43 (c24 (h0.now hH43 (n := 4) rfl) (by omega)) (fun w44 hH45 => ?_)
    refine ops_y hH45 rfl rfl (yv_castB (decide_eq_true rfl) (yv_eql rfl rfl)) ?_
    refine ops_y hH45 rfl rfl (yv_move rfl) (guard_yes rfl rfl rfl (ops_y hH45 rfl rfl (yv_move rfl) (guard_yes rfl rfl rfl (ops_y hH45 rfl rfl (yv_move rfl) (guard_yes rfl rfl rfl ?_)))))
    refine op_fnV rfl rfl rfl hH45 (c25 (show RowsAt p14 TT12 ((S.circR l).1) _ from hH45.get (n := 3) rfl) (show RowsAt p24 TT22 ((S.circR l).1) _ from hH45.get (n := 2) rfl) (by omega) (by omega) (fun i hi => Nat.le_trans (hlc.2 i hi) (by decide)) (fun i hi => Nat.le_trans (hlc.2 i hi) (by decide))) (fun w46 hH47 => ?_)
    refine ops_y hH47 rfl rfl (yv_pick_t rfl rfl rfl) ?_
    refine ops_y hH47 rfl rfl (yv_move rfl) ?_
    refine guard_yes rfl rfl (decide_eq_true rfl) ?_
    refine ops_y hH47 rfl rfl (yv_move rfl) ?_
    refine guard_yes rfl rfl (decide_eq_true rfl) ?_
    refine ops_y hH47 rfl rfl (yv_move rfl) ?_
    refine guard_yes rfl rfl (decide_eq_true rfl) ?_
    refine ops_y hH47 rfl rfl (yv_castB (decide_eq_true rfl) (yv_eql rfl rfl)) ?_
    refine ops_y hH47 rfl rfl (yv_pick_t rfl (decide_eq_true rfl) rfl) ?_
    refine ops_y hH47 rfl rfl (yv_move rfl) (guard_yes rfl rfl rfl (ops_y hH47 rfl rfl (yv_move rfl) (guard_yes rfl rfl rfl (ops_y hH47 rfl rfl (yv_move rfl) (guard_yes rfl rfl rfl ?_)))))
    refine op_fnV rfl rfl rfl hH47 (c26 (Heap.rdw T.el29_encP hH47 (n := 1) rfl) (Heap.rdw T.el29_encP hH47 (n := 0) rfl) (by omega) (by omega)) (fun w48 hH49 => ?_)
    refine ops_y hH49 rfl rfl (yv_pick_t rfl rfl rfl) ?_
    refine ops_y hH49 rfl rfl (yv_move rfl) ?_
    refine guard_yes rfl rfl (decide_eq_true rfl) ?_
    refine ops_y hH49 rfl rfl (yv_move rfl) ?_
    refine guard_yes rfl rfl (decide_eq_true rfl) ?_
    refine ops_y hH49 rfl rfl (yv_move rfl) ?_
    refine guard_yes rfl rfl (decide_eq_true rfl) ?_
    refine ops_y hH49 rfl rfl (yv_castB (decide_eq_true rfl) (yv_eql rfl rfl)) ?_
    refine ops_y hH49 rfl rfl (yv_pick_t rfl (decide_eq_true rfl) rfl) ?_
    refine ops_y hH49 rfl rfl (yv_move rfl) (guard_yes rfl rfl rfl ?_)
    refine op_fnV rfl rfl rfl hH49 (c18) (fun w50 hH51 => ?_)
    refine ops_y hH51 rfl rfl (yv_pick_t rfl rfl rfl) ?_
    refine ops_y hH51 rfl rfl (yv_assign rfl) (ops_nil (thn_n (ret ?_)))
    have hH52 := (hH51.sub (List.Sublist.cons _ (List.Sublist.cons _ (List.Sublist.cons _ (List.Sublist.cons _ (List.Sublist.refl _))))))
    refine fin hH52 (fun w' hf => (res1 rfl (show RV _ _ _ (.tmp 2) _ from rfl))) (fun w' hf => ?_)
    rfl

theorem c5 {v u : Value} {l m : List Int} {t : Int} {w : World} (h0 : Rd encI 1 v l w) (h1 : Rd encI 1 u m w)  :
    Fn Try.prog 5 [v, u, (.int .i64 t)].toArray w (fun u _ => u = .bool true) := by
  refine fn_of' (args := [v, u, (.int .i64 t)]) Try.func5 rfl (ent Try.func5 (by kernel_rfl) rfl) rfl rfl (fun hH => ?_)
  refine seq (region (ops_y hH rfl rfl (yv_assign rfl) (ops_nil (thn_n (seq (seq (region (ops_y hH rfl rfl (yv_move rfl) ?_))))))))
  refine op_fnV rfl rfl rfl hH (c17 (h0.now hH (n := 0) rfl)) (fun w1 hH2 => ?_)
  refine ops_y hH2 rfl rfl (yv_move rfl) ?_
  by_cases hc3 : 16 < (l.length : Int)
  · skip
    refine guard_no rfl rfl (decide_eq_true hc3) rfl ?_
    refine guard_no rfl rfl (decide_eq_true hc3) rfl ?_
    refine ops_y hH2 rfl rfl (yv_pick_t rfl (decide_eq_true hc3) rfl) ?_
    refine ops_nil (thn_n ?_)
    refine cond_t rfl rfl ?_
    refine seq (region ?_)
    refine op_fnV rfl rfl rfl hH2 (c18) (fun w4 hH5 => ?_)
    refine ops_y hH5 rfl rfl (yv_assign rfl) (ops_nil (thn_n (ret (thn_r ?_))))
    refine fin hH5 (fun w' hf => (res1 rfl (show RV _ _ _ (.tmp 6) _ from rfl))) (fun w' hf => ?_)
    rfl
  · skip
    refine guard_yes rfl rfl (decide_eq_false hc3) ?_
    refine ops_y hH2 rfl rfl (yv_move rfl) ?_
    refine guard_yes rfl rfl (decide_eq_false hc3) ?_
    refine op_fnV rfl rfl rfl hH2 (c17 (h1.now hH2 (n := 0) rfl)) (fun w6 hH7 => ?_)
    refine ops_y hH7 rfl rfl (yv_pick_f rfl (decide_eq_false hc3) rfl) ?_
    refine ops_nil (thn_n ?_)
    by_cases hc8 : 16 < (m.length : Int)
    · skip
      refine cond_t rfl (decide_eq_true hc8) ?_
      refine seq (region ?_)
      refine op_fnV rfl rfl rfl hH7 (c18) (fun w9 hH10 => ?_)
      refine ops_y hH10 rfl rfl (yv_assign rfl) (ops_nil (thn_n (ret (thn_r ?_))))
      refine fin hH10 (fun w' hf => (res1 rfl (show RV _ _ _ (.tmp 6) _ from rfl))) (fun w' hf => ?_)
      rfl
    · skip
      refine cond_f rfl (decide_eq_false hc8) ?_
      refine skip (thn_n (seq ?_))
      have hl1 := S.len_power (l := l) (t := t)
      have hl2 := S.len_join (a := l) (b := m)
      have hl3 := S.len_alike (a := l) (b := m)
      refine region (ops_y hH7 rfl rfl (yv_move rfl) ?_)
      refine op_fnV rfl rfl rfl hH7 (c34 (h0.now hH7 (n := 0) rfl) (by omega)) (fun w11 hH12 => ?_)
      refine ops_y hH12 rfl rfl (yv_move rfl) (ops_y hH12 rfl rfl (yv_extract rfl rfl) (ops_y hH12 rfl rfl (yv_extract rfl rfl) (ops_y hH12 rfl rfl (yv_assign rfl) (ops_y hH12 rfl rfl (yv_assign rfl) (ops_nil (thn_n (seq (region (ops_y hH12 rfl rfl (yv_move rfl) ?_)))))))))
      refine op_fnV rfl rfl rfl hH12 (c35 (h0.now hH12 (n := 0) rfl) (by omega)) (fun w13 hH14 => ?_)
      refine ops_y hH14 rfl rfl (yv_move rfl) (ops_y hH14 rfl rfl (yv_extract rfl rfl) (ops_y hH14 rfl rfl (yv_extract rfl rfl) (ops_y hH14 rfl rfl (yv_assign rfl) (ops_y hH14 rfl rfl (yv_assign rfl) (ops_nil (thn_n (seq (region (ops_y hH14 rfl rfl (yv_move rfl) ?_)))))))))
      refine ops_y hH14 rfl rfl (yv_move rfl) ?_
      refine op_fn rfl rfl rfl hH14 (c36 (h0.now hH14 (n := 0) rfl) (by omega)) (fun u17 w15 lo18 hi19 hH16 hv20 => ?_)
      obtain ⟨p22, hu, -⟩ := hv20
      subst hu
      have hH21 := Heap.tup2 hH16 (n := 0) rfl
      refine ops_y hH21 rfl rfl (yv_move rfl) (ops_y hH21 rfl rfl (yv_extract rfl rfl) (ops_y hH21 rfl rfl (yv_extract rfl rfl) (ops_y hH21 rfl rfl (yv_assign rfl) (ops_y hH21 rfl rfl (yv_assign rfl) (ops_nil (thn_n (seq (region (ops_y hH21 rfl rfl (yv_move rfl) ?_)))))))))
      refine ops_y hH21 rfl rfl (yv_move rfl) ?_
      refine op_fn rfl rfl rfl hH21 (c37 (h0.now hH21 (n := 1) rfl) (by omega)) (fun u25 w23 lo26 hi27 hH24 hv28 => ?_)
      obtain ⟨p30, hu, -⟩ := hv28
      subst hu
      have hH29 := Heap.tup2 hH24 (n := 0) rfl
      refine ops_y hH29 rfl rfl (yv_move rfl) (ops_y hH29 rfl rfl (yv_extract rfl rfl) (ops_y hH29 rfl rfl (yv_extract rfl rfl) (ops_y hH29 rfl rfl (yv_assign rfl) (ops_y hH29 rfl rfl (yv_assign rfl) (ops_nil (thn_n (seq (region (ops_y hH29 rfl rfl (yv_move rfl) ?_)))))))))
      refine ops_y hH29 rfl rfl (yv_move rfl) ?_
      refine op_fn rfl rfl rfl hH29 (c38 (h0.now hH29 (n := 2) rfl) (h1.now hH29 (n := 2) rfl) (by omega) (by omega)) (fun u33 w31 lo34 hi35 hH32 hv36 => ?_)
      obtain ⟨p38, hu, -⟩ := hv36
      subst hu
      have hH37 := Heap.tup2 hH32 (n := 0) rfl
      refine ops_y hH37 rfl rfl (yv_move rfl) (ops_y hH37 rfl rfl (yv_extract rfl rfl) (ops_y hH37 rfl rfl (yv_extract rfl rfl) (ops_y hH37 rfl rfl (yv_assign rfl) (ops_y hH37 rfl rfl (yv_assign rfl) (ops_nil (thn_n (seq (region (ops_y hH37 rfl rfl (yv_move rfl) ?_)))))))))
      refine ops_y hH37 rfl rfl (yv_move rfl) ?_
      refine op_fn rfl rfl rfl hH37 (c39 (h0.now hH37 (n := 3) rfl) (h1.now hH37 (n := 3) rfl) (by omega) (by omega)) (fun u41 w39 lo42 hi43 hH40 hv44 => ?_)
      obtain ⟨p46, hu, -⟩ := hv44
      subst hu
      have hH45 := Heap.tup2 hH40 (n := 0) rfl
      refine ops_y hH45 rfl rfl (yv_move rfl) (ops_y hH45 rfl rfl (yv_extract rfl rfl) (ops_y hH45 rfl rfl (yv_extract rfl rfl) (ops_y hH45 rfl rfl (yv_assign rfl) (ops_y hH45 rfl rfl (yv_assign rfl) (ops_nil (thn_n (seq (region (ops_y hH45 rfl rfl (yv_move rfl) ?_)))))))))
      refine ops_y hH45 rfl rfl (yv_move rfl) ?_
      refine op_fn rfl rfl rfl hH45 (c40 (h0.now hH45 (n := 4) rfl) (h1.now hH45 (n := 4) rfl) (by omega) (by omega)) (fun u49 w47 lo50 hi51 hH48 hv52 => ?_)
      obtain ⟨p54, hu, -⟩ := hv52
      subst hu
      have hH53 := Heap.tup2 hH48 (n := 0) rfl
      refine ops_y hH53 rfl rfl (yv_move rfl) (ops_y hH53 rfl rfl (yv_extract rfl rfl) (ops_y hH53 rfl rfl (yv_extract rfl rfl) (ops_y hH53 rfl rfl (yv_assign rfl) (ops_y hH53 rfl rfl (yv_assign rfl) (ops_nil (thn_n (seq (region (ops_y hH53 rfl rfl (yv_move rfl) ?_)))))))))
      refine ops_y hH53 rfl rfl (yv_move rfl) ?_
      refine op_fn rfl rfl rfl hH53 (c41 (h0.now hH53 (n := 5) rfl) (h1.now hH53 (n := 5) rfl) (by omega) (by omega)) (fun u57 w55 lo58 hi59 hH56 hv60 => ?_)
      obtain ⟨p62, hu, -⟩ := hv60
      subst hu
      have hH61 := Heap.tup2 hH56 (n := 0) rfl
      refine ops_y hH61 rfl rfl (yv_move rfl) (ops_y hH61 rfl rfl (yv_extract rfl rfl) (ops_y hH61 rfl rfl (yv_extract rfl rfl) (ops_y hH61 rfl rfl (yv_assign rfl) (ops_y hH61 rfl rfl (yv_assign rfl) (ops_nil (thn_n (seq (region (ops_y hH61 rfl rfl (yv_move rfl) ?_)))))))))
      refine ops_y hH61 rfl rfl (yv_move rfl) ?_
      refine ops_y hH61 rfl rfl (yv_castB (decide_eq_true rfl) (yv_eql rfl rfl)) ?_
      refine ops_y hH61 rfl rfl (yv_move rfl) (guard_yes rfl rfl rfl (ops_y hH61 rfl rfl (yv_move rfl) (guard_yes rfl rfl rfl (ops_y hH61 rfl rfl (yv_move rfl) (guard_yes rfl rfl rfl ?_)))))
      refine ops_y hH61 rfl rfl (yv_castB (decide_eq_true rfl) (yv_eql rfl rfl)) ?_
      refine ops_y hH61 rfl rfl (yv_pick_t rfl rfl rfl) ?_
      refine ops_y hH61 rfl rfl (yv_move rfl) (guard_yes rfl rfl rfl (ops_y hH61 rfl rfl (yv_move rfl) (guard_yes rfl rfl rfl (ops_y hH61 rfl rfl (yv_move rfl) (guard_yes rfl rfl rfl ?_)))))
      refine op_fnV rfl rfl rfl hH61 (c33 (Heap.rdw T.el22_encI hH61 (n := 5) rfl) (Heap.rdw T.el22_encI hH61 (n := 4) rfl) (by omega) (by omega)) (fun w63 hH64 => ?_)
      refine ops_y hH64 rfl rfl (yv_pick_t rfl rfl rfl) ?_
      refine ops_y hH64 rfl rfl (yv_move rfl) ?_
      refine guard_yes rfl rfl (decide_eq_true rfl) ?_
      refine ops_y hH64 rfl rfl (yv_move rfl) ?_
      refine guard_yes rfl rfl (decide_eq_true rfl) ?_
      refine ops_y hH64 rfl rfl (yv_move rfl) ?_
      refine guard_yes rfl rfl (decide_eq_true rfl) ?_
      refine ops_y hH64 rfl rfl (yv_castB (decide_eq_true rfl) (yv_eql rfl rfl)) ?_
      refine ops_y hH64 rfl rfl (yv_pick_t rfl (decide_eq_true rfl) rfl) ?_
      refine ops_y hH64 rfl rfl (yv_move rfl) (guard_yes rfl rfl rfl (ops_y hH64 rfl rfl (yv_move rfl) (guard_yes rfl rfl rfl (ops_y hH64 rfl rfl (yv_move rfl) (guard_yes rfl rfl rfl ?_)))))
      refine op_fnV rfl rfl rfl hH64 (c33 (Heap.rdw T.el22_encI hH64 (n := 3) rfl) (Heap.rdw T.el22_encI hH64 (n := 2) rfl) (by omega) (by omega)) (fun w65 hH66 => ?_)
      refine ops_y hH66 rfl rfl (yv_pick_t rfl rfl rfl) ?_
      refine ops_y hH66 rfl rfl (yv_move rfl) ?_
      refine guard_yes rfl rfl (decide_eq_true rfl) ?_
      refine ops_y hH66 rfl rfl (yv_move rfl) ?_
      refine guard_yes rfl rfl (decide_eq_true rfl) ?_
      refine ops_y hH66 rfl rfl (yv_move rfl) ?_
      refine guard_yes rfl rfl (decide_eq_true rfl) ?_
      refine ops_y hH66 rfl rfl (yv_castB (decide_eq_true rfl) (yv_eql rfl rfl)) ?_
      refine ops_y hH66 rfl rfl (yv_pick_t rfl (decide_eq_true rfl) rfl) ?_
      refine ops_y hH66 rfl rfl (yv_move rfl) (guard_yes rfl rfl rfl (ops_y hH66 rfl rfl (yv_move rfl) (guard_yes rfl rfl rfl (ops_y hH66 rfl rfl (yv_move rfl) (guard_yes rfl rfl rfl ?_)))))
      refine op_fnV rfl rfl rfl hH66 (c33 (Heap.rdw T.el22_encI hH66 (n := 1) rfl) (Heap.rdw T.el22_encI hH66 (n := 0) rfl) (by omega) (by omega)) (fun w67 hH68 => ?_)
      refine ops_y hH68 rfl rfl (yv_pick_t rfl rfl rfl) ?_
      refine ops_y hH68 rfl rfl (yv_move rfl) ?_
      refine guard_yes rfl rfl (decide_eq_true rfl) ?_
      refine ops_y hH68 rfl rfl (yv_move rfl) ?_
      refine guard_yes rfl rfl (decide_eq_true rfl) ?_
      refine ops_y hH68 rfl rfl (yv_move rfl) ?_
      refine guard_yes rfl rfl (decide_eq_true rfl) ?_
      refine ops_y hH68 rfl rfl (yv_castB (decide_eq_true rfl) (yv_eql rfl rfl)) ?_
      refine ops_y hH68 rfl rfl (yv_pick_t rfl (decide_eq_true rfl) rfl) ?_
      refine ops_y hH68 rfl rfl (yv_move rfl) (guard_yes rfl rfl rfl ?_)
      refine op_fnV rfl rfl rfl hH68 (c18) (fun w69 hH70 => ?_)
      refine ops_y hH70 rfl rfl (yv_pick_t rfl rfl rfl) ?_
      refine ops_y hH70 rfl rfl (yv_assign rfl) (ops_nil (thn_n (ret ?_)))
      have hH71 := (hH70.sub (List.Sublist.cons _ (List.Sublist.cons _ (List.Sublist.cons _ (List.Sublist.cons _ (List.Sublist.cons _ (List.Sublist.cons _ (List.Sublist.refl _))))))))
      refine fin hH71 (fun w' hf => (res1 rfl (show RV _ _ _ (.tmp 6) _ from rfl))) (fun w' hf => ?_)
      rfl

theorem c6 {v : Value} {l : List Int} {a : Int} {w : World} (h0 : Rd encI 1 v l w)  :
    Fn Try.prog 6 [v, (.int .i64 a)].toArray w (fun u _ => u = .bool true) := by
  refine fn_of' (args := [v, (.int .i64 a)]) Try.func6 rfl (ent Try.func6 (by kernel_rfl) rfl) rfl rfl (fun hH => ?_)
  refine seq (region (ops_y hH rfl rfl (yv_assign rfl) (ops_nil (thn_n (seq (seq (region (ops_y hH rfl rfl (yv_move rfl) ?_))))))))
  refine op_fnV rfl rfl rfl hH (c17 (h0.now hH (n := 0) rfl)) (fun w1 hH2 => ?_)
  refine ops_nil (thn_n ?_)
  by_cases hc3 : 16 < (l.length : Int)
  · skip
    refine cond_t rfl (decide_eq_true hc3) ?_
    refine seq (region ?_)
    refine op_fnV rfl rfl rfl hH2 (c18) (fun w4 hH5 => ?_)
    refine ops_y hH5 rfl rfl (yv_assign rfl) (ops_nil (thn_n (ret (thn_r ?_))))
    refine fin hH5 (fun w' hf => (res1 rfl (show RV _ _ _ (.tmp 4) _ from rfl))) (fun w' hf => ?_)
    rfl
  · skip
    refine cond_f rfl (decide_eq_false hc3) ?_
    refine skip (thn_n (seq ?_))
    have hl1 := S.len_root (l := l)
    refine region (ops_y hH2 rfl rfl (yv_move rfl) ?_)
    refine op_fn rfl rfl rfl hH2 (c42 (h0.now hH2 (n := 0) rfl) (by omega)) (fun u8 w6 lo9 hi10 hH7 hv11 => ?_)
    obtain ⟨p13, hu, -⟩ := hv11
    subst hu
    have hH12 := Heap.tup2 hH7 (n := 0) rfl
    refine ops_y hH12 rfl rfl (yv_move rfl) (ops_y hH12 rfl rfl (yv_extract rfl rfl) (ops_y hH12 rfl rfl (yv_extract rfl rfl) (ops_y hH12 rfl rfl (yv_assign rfl) (ops_y hH12 rfl rfl (yv_assign rfl) (ops_nil (thn_n (seq (region (ops_y hH12 rfl rfl (yv_move rfl) ?_)))))))))
    refine op_fn rfl rfl rfl hH12 (c43 (h0.now hH12 (n := 1) rfl) (by omega)) (fun u16 w14 lo17 hi18 hH15 hv19 => ?_)
    obtain ⟨p21, hu, -⟩ := hv19
    subst hu
    have hH20 := Heap.tupRd hH15 (n := 0) rfl
    refine ops_y hH20 rfl rfl (yv_move rfl) (ops_y hH20 rfl rfl (yv_extract rfl rfl) (ops_y hH20 rfl rfl (yv_extract rfl rfl) (ops_y hH20 rfl rfl (yv_assign rfl) (ops_y hH20 rfl rfl (yv_assign rfl) (ops_nil (thn_n (seq (region (ops_y hH20 rfl rfl (yv_move rfl) ?_)))))))))
    refine op_fnV rfl rfl rfl hH20 (c44 (h0.now hH20 (n := 2) rfl) (by omega)) (fun w22 hH23 => ?_)
    refine ops_y hH23 rfl rfl (yv_move rfl) (ops_y hH23 rfl rfl (yv_extract rfl rfl) (ops_y hH23 rfl rfl (yv_extract rfl rfl) (ops_y hH23 rfl rfl (yv_assign rfl) (ops_y hH23 rfl rfl (yv_assign rfl) (ops_nil (thn_n (seq (region (ops_y hH23 rfl rfl (yv_move rfl) ?_)))))))))
    refine op_fnV rfl rfl rfl hH23 (c45 (h0.now hH23 (n := 2) rfl) (by omega)) (fun w24 hH25 => ?_)
    refine ops_y hH25 rfl rfl (yv_move rfl) (ops_y hH25 rfl rfl (yv_extract rfl rfl) (ops_y hH25 rfl rfl (yv_extract rfl rfl) (ops_y hH25 rfl rfl (yv_assign rfl) (ops_y hH25 rfl rfl (yv_assign rfl) (ops_nil (thn_n (seq (region (ops_y hH25 rfl rfl (yv_move rfl) ?_)))))))))
    refine ops_y hH25 rfl rfl (yv_move rfl) ?_
    refine op_fnV rfl rfl rfl hH25 (c33 (Heap.rdw T.el22_encI hH25 (n := 1) rfl) ((show Rd encI 1 p21 ((S.rootR l).1) _ from hH25.get (n := 0) rfl)) (by omega) (by omega)) (fun w26 hH27 => ?_)
    refine ops_y hH27 rfl rfl (yv_move rfl) ?_
    refine guard_yes rfl rfl (decide_eq_true rfl) ?_
    refine ops_y hH27 rfl rfl (yv_move rfl) ?_
    refine guard_yes rfl rfl (decide_eq_true rfl) ?_
    refine ops_y hH27 rfl rfl (yv_move rfl) ?_
    refine guard_yes rfl rfl (decide_eq_true rfl) ?_
    refine ops_y hH27 rfl rfl (yv_castB (decide_eq_true rfl) (yv_eql rfl rfl)) ?_
    refine ops_y hH27 rfl rfl (yv_pick_t rfl (decide_eq_true rfl) rfl) ?_
    refine ops_y hH27 rfl rfl (yv_move rfl) (guard_yes rfl rfl rfl (ops_y hH27 rfl rfl (yv_move rfl) (guard_yes rfl rfl rfl (ops_y hH27 rfl rfl (yv_move rfl) (guard_yes rfl rfl rfl ?_)))))
    refine ops_y hH27 rfl rfl (yv_castB (decide_eq_true rfl) (yv_eql rfl rfl)) ?_
    refine ops_y hH27 rfl rfl (yv_pick_t rfl rfl rfl) ?_
    refine ops_y hH27 rfl rfl (yv_move rfl) (guard_yes rfl rfl rfl (ops_y hH27 rfl rfl (yv_move rfl) (guard_yes rfl rfl rfl (ops_y hH27 rfl rfl (yv_move rfl) (guard_yes rfl rfl rfl ?_)))))
    refine ops_y hH27 rfl rfl (yv_castB (decide_eq_true rfl) (yv_eql rfl rfl)) ?_
    refine ops_y hH27 rfl rfl (yv_pick_t rfl rfl rfl) ?_
    refine ops_y hH27 rfl rfl (yv_move rfl) (guard_yes rfl rfl rfl (ops_y hH27 rfl rfl (yv_move rfl) (guard_yes rfl rfl rfl (ops_y hH27 rfl rfl (yv_move rfl) (guard_yes rfl rfl rfl ?_)))))
    refine op_fnV rfl rfl rfl hH27 (c46 (h0.now hH27 (n := 2) rfl) (by omega)) (fun w28 hH29 => ?_)
    refine guard_yes rfl rfl rfl (ops_y hH29 rfl rfl (yv_move rfl) (guard_yes rfl rfl rfl (ops_y hH29 rfl rfl (yv_move rfl) (guard_yes rfl rfl rfl ?_))))
    refine op_fnV rfl rfl rfl hH29 (c47 (h0.now hH29 (n := 2) rfl) (by omega)) (fun w30 hH31 => ?_)
    refine guard_yes rfl rfl rfl ?_
    refine ops_y hH31 rfl rfl (yv_castB (decide_eq_true rfl) (yv_eql rfl rfl)) ?_
    refine ops_y hH31 rfl rfl (yv_pick_t rfl rfl rfl) ?_
    refine ops_y hH31 rfl rfl (yv_move rfl) (guard_yes rfl rfl rfl ?_)
    refine op_fnV rfl rfl rfl hH31 (c18) (fun w32 hH33 => ?_)
    refine ops_y hH33 rfl rfl (yv_pick_t rfl rfl rfl) ?_
    refine ops_y hH33 rfl rfl (yv_assign rfl) (ops_nil (thn_n (ret ?_)))
    have hH34 := (hH33.sub (List.Sublist.cons _ (List.Sublist.cons _ (List.Sublist.refl _))))
    refine fin hH34 (fun w' hf => (res1 rfl (show RV _ _ _ (.tmp 4) _ from rfl))) (fun w' hf => ?_)
    rfl

theorem c7 {v : Value} {l : List Int} {w : World} (h0 : Rd encI 1 v l w)  :
    Fn Try.prog 7 [v].toArray w (fun u _ => u = .bool true) := by
  refine fn_of' (args := [v]) Try.func7 rfl (ent Try.func7 (by kernel_rfl) rfl) rfl rfl (fun hH => ?_)
  refine seq (region (ops_y hH rfl rfl (yv_assign rfl) (ops_nil (thn_n (seq (seq (region (ops_y hH rfl rfl (yv_move rfl) ?_))))))))
  refine op_fnV rfl rfl rfl hH (c17 (h0.now hH (n := 0) rfl)) (fun w1 hH2 => ?_)
  refine ops_nil (thn_n ?_)
  by_cases hc3 : 16 < (l.length : Int)
  · skip
    refine cond_t rfl (decide_eq_true hc3) ?_
    refine seq (region ?_)
    refine op_fnV rfl rfl rfl hH2 (c18) (fun w4 hH5 => ?_)
    refine ops_y hH5 rfl rfl (yv_assign rfl) (ops_nil (thn_n (ret (thn_r ?_))))
    refine fin hH5 (fun w' hf => (res1 rfl (show RV _ _ _ (.tmp 2) _ from rfl))) (fun w' hf => ?_)
    rfl
  · skip
    refine cond_f rfl (decide_eq_false hc3) ?_
    refine skip (thn_n (seq ?_))
    have hl1 := S.len_best (k := l)
    refine region (ops_y hH2 rfl rfl (yv_move rfl) ?_)
    refine op_fn rfl rfl rfl hH2 (c48 (h0.now hH2 (n := 0) rfl) (by omega)) (fun u8 w6 lo9 hi10 hH7 hv11 => ?_)
    obtain ⟨p13, hu, -⟩ := hv11
    subst hu
    have hH12 := Heap.tup2 hH7 (n := 0) rfl
    refine ops_y hH12 rfl rfl (yv_move rfl) (ops_y hH12 rfl rfl (yv_extract rfl rfl) (ops_y hH12 rfl rfl (yv_extract rfl rfl) (ops_y hH12 rfl rfl (yv_assign rfl) (ops_y hH12 rfl rfl (yv_assign rfl) (ops_nil (thn_n (seq (region (ops_y hH12 rfl rfl (yv_move rfl) ?_)))))))))
    refine op_fn rfl rfl rfl hH12 (c49 (h0.now hH12 (n := 1) rfl) (by omega)) (fun u16 w14 lo17 hi18 hH15 hv19 => ?_)
    obtain ⟨p21, hu, -⟩ := hv19
    subst hu
    have hH20 := Heap.tup2 hH15 (n := 0) rfl
    refine ops_y hH20 rfl rfl (yv_move rfl) (ops_y hH20 rfl rfl (yv_extract rfl rfl) (ops_y hH20 rfl rfl (yv_extract rfl rfl) (ops_y hH20 rfl rfl (yv_assign rfl) (ops_y hH20 rfl rfl (yv_assign rfl) (ops_nil (thn_n (seq (region (ops_y hH20 rfl rfl (yv_move rfl) ?_)))))))))
    refine op_fnV rfl rfl rfl hH20 (c50 (h0.now hH20 (n := 2) rfl) (by omega)) (fun w22 hH23 => ?_)
    refine ops_y hH23 rfl rfl (yv_move rfl) (ops_y hH23 rfl rfl (yv_extract rfl rfl) (ops_y hH23 rfl rfl (yv_extract rfl rfl) ?_))
    refine op_alloc (z := (.agg #[(.int .i64 0), (.int .i64 0)])) (us := [(.int .i64 0), (.int .i64 0)]) (fun _ => by kernel_rfl) rfl rfl hH23 (fun b24 w25 hH26 => ?_)
    refine op_store (n := 0) (j := 0) (us := [(.int .i64 ((S.spanR l).1.1)), (.int .i64 ((S.spanR l).1.2))]) rfl rfl hH26 rfl T.sz50 rfl rfl rfl (by rfl) (fun w27 hH28 => ?_)
    refine ops_y hH28 rfl rfl (yv_assign rfl) (ops_nil (thn_n (seq (region (ops_y hH28 rfl rfl (yv_move rfl) ?_)))))
    refine op_fnV rfl rfl rfl hH28 (c51 (h0.now hH28 (n := 3) rfl) (by omega)) (fun w29 hH30 => ?_)
    refine ops_y hH30 rfl rfl (yv_move rfl) (ops_y hH30 rfl rfl (yv_extract rfl rfl) (ops_y hH30 rfl rfl (yv_extract rfl rfl) ?_))
    refine op_alloc (z := (.agg #[(.int .i64 0), (.int .i64 0)])) (us := [(.int .i64 0), (.int .i64 0)]) (fun _ => by kernel_rfl) rfl rfl hH30 (fun b31 w32 hH33 => ?_)
    refine op_store (n := 0) (j := 0) (us := [(.int .i64 ((S.spanR l).1.1)), (.int .i64 ((S.spanR l).1.2))]) rfl rfl hH33 rfl T.sz50 rfl rfl rfl (by rfl) (fun w34 hH35 => ?_)
    refine ops_y hH35 rfl rfl (yv_assign rfl) (ops_nil (thn_n (seq (region (ops_y hH35 rfl rfl (yv_move rfl) ?_)))))
    refine op_fnV rfl rfl rfl hH35 (c52 (h0.now hH35 (n := 4) rfl) (by omega)) (fun w36 hH37 => ?_)
    refine ops_y hH37 rfl rfl (yv_move rfl) (ops_y hH37 rfl rfl (yv_extract rfl rfl) (ops_y hH37 rfl rfl (yv_extract rfl rfl) (ops_y hH37 rfl rfl (yv_assign rfl) (ops_y hH37 rfl rfl (yv_assign rfl) (ops_nil (thn_n (seq (region (ops_y hH37 rfl rfl (yv_move rfl) ?_)))))))))
    refine op_fnV rfl rfl rfl hH37 (c53 (h0.now hH37 (n := 4) rfl) (by omega)) (fun w38 hH39 => ?_)
    refine ops_y hH39 rfl rfl (yv_move rfl) (ops_y hH39 rfl rfl (yv_extract rfl rfl) (ops_y hH39 rfl rfl (yv_extract rfl rfl) (ops_y hH39 rfl rfl (yv_assign rfl) (ops_y hH39 rfl rfl (yv_assign rfl) (ops_nil (thn_n (seq (region (ops_y hH39 rfl rfl (yv_move rfl) ?_)))))))))
    refine op_fnV rfl rfl rfl hH39 (c54 (h0.now hH39 (n := 4) rfl) (by omega)) (fun w40 hH41 => ?_)
    refine ops_y hH41 rfl rfl (yv_move rfl) ?_
    refine op_fnV rfl rfl rfl hH41 (c55 (h0.now hH41 (n := 4) rfl) (by omega)) (fun w42 hH43 => ?_)
    refine ops_y hH43 rfl rfl (yv_castB (decide_eq_true rfl) (yv_eql rfl rfl)) ?_
    refine ops_y hH43 rfl rfl (yv_move rfl) (guard_yes rfl rfl rfl (ops_y hH43 rfl rfl (yv_move rfl) (guard_yes rfl rfl rfl (ops_y hH43 rfl rfl (yv_move rfl) (guard_yes rfl rfl rfl ?_)))))
    refine op_fnV rfl rfl rfl hH43 (c33 (Heap.rdw T.el22_encI hH43 (n := 3) rfl) (Heap.rdw T.el22_encI hH43 (n := 2) rfl) (by omega) (by omega)) (fun w44 hH45 => ?_)
    refine ops_y hH45 rfl rfl (yv_pick_t rfl rfl rfl) ?_
    refine ops_y hH45 rfl rfl (yv_move rfl) ?_
    refine guard_yes rfl rfl (decide_eq_true rfl) ?_
    refine ops_y hH45 rfl rfl (yv_move rfl) ?_
    refine guard_yes rfl rfl (decide_eq_true rfl) ?_
    refine ops_y hH45 rfl rfl (yv_move rfl) ?_
    refine guard_yes rfl rfl (decide_eq_true rfl) ?_
    refine ops_y hH45 rfl rfl (yv_castB (decide_eq_true rfl) (yv_eql rfl rfl)) ?_
    refine ops_y hH45 rfl rfl (yv_pick_t rfl (decide_eq_true rfl) rfl) ?_
    refine ops_y hH45 rfl rfl (yv_move rfl) (guard_yes rfl rfl rfl ?_)
    refine ops_y hH45 rfl rfl (yv_loadA (cs := [(.int .i64 ((S.spanR l).1.1)), (.int .i64 ((S.spanR l).1.2))]) T.agg50 rfl rfl (fun _ hw => Heap.cellsw hw (n := 1) rfl (k := 0) rfl)) ?_
    refine guard_yes rfl rfl rfl ?_
    refine ops_y hH45 rfl rfl (yv_loadA (cs := [(.int .i64 ((S.spanR l).1.1)), (.int .i64 ((S.spanR l).1.2))]) T.agg50 rfl rfl (fun _ hw => Heap.cellsw hw (n := 0) rfl (k := 0) rfl)) ?_
    refine guard_yes rfl rfl rfl ?_
    refine ops_y hH45 rfl rfl (yv_castB (decide_eq_true rfl) (yv_eqA (a := [(S.spanR l).1.1, (S.spanR l).1.2]) (b := [(S.spanR l).1.1, (S.spanR l).1.2]) T.eqi50 rfl rfl rfl rfl)) ?_
    refine ops_y hH45 rfl rfl (yv_pick_t rfl rfl rfl) ?_
    refine ops_y hH45 rfl rfl (yv_move rfl) (guard_yes rfl rfl rfl (ops_y hH45 rfl rfl (yv_move rfl) (guard_yes rfl rfl rfl (ops_y hH45 rfl rfl (yv_move rfl) (guard_yes rfl rfl rfl ?_)))))
    refine ops_y hH45 rfl rfl (yv_castB (decide_eq_true rfl) (yv_eql rfl rfl)) ?_
    refine ops_y hH45 rfl rfl (yv_pick_t rfl rfl rfl) ?_
    refine ops_y hH45 rfl rfl (yv_move rfl) (guard_yes rfl rfl rfl (ops_y hH45 rfl rfl (yv_move rfl) (guard_yes rfl rfl rfl (ops_y hH45 rfl rfl (yv_move rfl) (guard_yes rfl rfl rfl ?_)))))
    refine ops_y hH45 rfl rfl (yv_castB (decide_eq_true rfl) (yv_eql rfl rfl)) ?_
    refine ops_y hH45 rfl rfl (yv_pick_t rfl rfl rfl) ?_
    refine ops_y hH45 rfl rfl (yv_move rfl) (guard_yes rfl rfl rfl (ops_y hH45 rfl rfl (yv_move rfl) (guard_yes rfl rfl rfl (ops_y hH45 rfl rfl (yv_move rfl) (guard_yes rfl rfl rfl ?_)))))
    refine ops_y hH45 rfl rfl (yv_castB (decide_eq_true rfl) (yv_eql rfl rfl)) ?_
    refine ops_y hH45 rfl rfl (yv_pick_t rfl rfl rfl) ?_
    refine ops_y hH45 rfl rfl (yv_move rfl) (guard_yes rfl rfl rfl ?_)
    refine op_fnV rfl rfl rfl hH45 (c18) (fun w46 hH47 => ?_)
    refine ops_y hH47 rfl rfl (yv_pick_t rfl rfl rfl) ?_
    refine ops_y hH47 rfl rfl (yv_assign rfl) (ops_nil (thn_n (ret ?_)))
    have hH48 := (hH47.sub (List.Sublist.cons _ (List.Sublist.cons _ (List.Sublist.cons _ (List.Sublist.cons _ (List.Sublist.refl _))))))
    refine fin hH48 (fun w' hf => (res1 rfl (show RV _ _ _ (.tmp 2) _ from rfl))) (fun w' hf => ?_)
    rfl

theorem c4 {v vx : Value} {l : List Int} {xs : List S.Pr} {w : World} (h0 : Rd encI 1 v l w) (hx : Rd encP 2 vx xs w)  :
    Fn Try.prog 4 [v, vx].toArray w (fun u _ => u = .bool true) := by
  refine fn_of' (args := [v, vx]) Try.func4 rfl (ent Try.func4 (by kernel_rfl) rfl) rfl rfl (fun hH => ?_)
  refine seq (region (ops_y hH rfl rfl (yv_assign rfl) (ops_nil (thn_n (seq (seq (region (ops_y hH rfl rfl (yv_move rfl) ?_))))))))
  refine op_fnV rfl rfl rfl hH (c17 (h0.now hH (n := 0) rfl)) (fun w1 hH2 => ?_)
  refine ops_y hH2 rfl rfl (yv_move rfl) ?_
  by_cases hc3 : 16 < (l.length : Int)
  · skip
    refine guard_no rfl rfl (decide_eq_true hc3) rfl ?_
    refine guard_no rfl rfl (decide_eq_true hc3) rfl ?_
    refine guard_no rfl rfl (decide_eq_true hc3) rfl ?_
    refine ops_y hH2 rfl rfl (yv_pick_t rfl (decide_eq_true hc3) rfl) ?_
    refine ops_nil (thn_n ?_)
    refine cond_t rfl rfl ?_
    refine seq (region ?_)
    refine op_fnV rfl rfl rfl hH2 (c18) (fun w4 hH5 => ?_)
    refine ops_y hH5 rfl rfl (yv_assign rfl) (ops_nil (thn_n (ret (thn_r ?_))))
    refine fin hH5 (fun w' hf => (res1 rfl (show RV _ _ _ (.tmp 4) _ from rfl))) (fun w' hf => ?_)
    rfl
  · skip
    refine guard_yes rfl rfl (decide_eq_false hc3) ?_
    refine ops_y hH2 rfl rfl (yv_move rfl) ?_
    refine guard_yes rfl rfl (decide_eq_false hc3) ?_
    refine ops_y hH2 rfl rfl (yv_len T.sl29 rfl (hx.now hH2 (n := 0) rfl).is) ?_
    refine guard_yes rfl rfl (decide_eq_false hc3) ?_
    refine ops_y hH2 rfl rfl (yv_gtr rfl rfl) ?_
    refine ops_y hH2 rfl rfl (yv_pick_f rfl (decide_eq_false hc3) rfl) ?_
    refine ops_nil (thn_n ?_)
    by_cases hc6 : 70 < (xs.length : Int)
    · skip
      refine cond_t rfl (decide_eq_true hc6) ?_
      refine seq (region ?_)
      refine op_fnV rfl rfl rfl hH2 (c18) (fun w7 hH8 => ?_)
      refine ops_y hH8 rfl rfl (yv_assign rfl) (ops_nil (thn_n (ret (thn_r ?_))))
      refine fin hH8 (fun w' hf => (res1 rfl (show RV _ _ _ (.tmp 4) _ from rfl))) (fun w' hf => ?_)
      rfl
    · skip
      refine cond_f rfl (decide_eq_false hc6) ?_
      refine skip (thn_n (seq ?_))
      have hl1 := S.len_apply (l := l) (xs := xs)
      have hl2 := S.len_exs (l := l)
      have hl3 := S.len_steps (l := l)
      refine region (ops_y hH2 rfl rfl (yv_move rfl) (ops_y hH2 rfl rfl (yv_move rfl) ?_))
      refine op_fn rfl rfl rfl hH2 (c27 (h0.now hH2 (n := 0) rfl) (hx.now hH2 (n := 0) rfl) (by omega) (by omega)) (fun u11 w9 lo12 hi13 hH10 hv14 => ?_)
      obtain ⟨p16, hu, -⟩ := hv14
      subst hu
      have hH15 := Heap.tup2 hH10 (n := 0) rfl
      refine ops_y hH15 rfl rfl (yv_move rfl) (ops_y hH15 rfl rfl (yv_extract rfl rfl) (ops_y hH15 rfl rfl (yv_extract rfl rfl) (ops_y hH15 rfl rfl (yv_assign rfl) (ops_y hH15 rfl rfl (yv_assign rfl) (ops_nil (thn_n (seq (region (ops_y hH15 rfl rfl (yv_move rfl) ?_)))))))))
      refine ops_y hH15 rfl rfl (yv_move rfl) ?_
      refine op_fn rfl rfl rfl hH15 (c28 (h0.now hH15 (n := 1) rfl) (hx.now hH15 (n := 1) rfl) (by omega) (by omega)) (fun u19 w17 lo20 hi21 hH18 hv22 => ?_)
      obtain ⟨p24, hu, -⟩ := hv22
      subst hu
      have hH23 := Heap.tup2 hH18 (n := 0) rfl
      refine ops_y hH23 rfl rfl (yv_move rfl) (ops_y hH23 rfl rfl (yv_extract rfl rfl) (ops_y hH23 rfl rfl (yv_extract rfl rfl) (ops_y hH23 rfl rfl (yv_assign rfl) (ops_y hH23 rfl rfl (yv_assign rfl) (ops_nil (thn_n (seq (region (ops_y hH23 rfl rfl (yv_move rfl) ?_)))))))))
      refine op_fn rfl rfl rfl hH23 (c29 (h0.now hH23 (n := 2) rfl) (by omega)) (fun u27 w25 lo28 hi29 hH26 hv30 => ?_)
      obtain ⟨p32, hu, -⟩ := hv30
      subst hu
      have hH31 := Heap.tup2 hH26 (n := 0) rfl
      refine ops_y hH31 rfl rfl (yv_move rfl) (ops_y hH31 rfl rfl (yv_extract rfl rfl) (ops_y hH31 rfl rfl (yv_extract rfl rfl) (ops_y hH31 rfl rfl (yv_assign rfl) (ops_y hH31 rfl rfl (yv_assign rfl) (ops_nil (thn_n (seq (region (ops_y hH31 rfl rfl (yv_move rfl) ?_)))))))))
      refine op_fn rfl rfl rfl hH31 (c30 (h0.now hH31 (n := 3) rfl) (by omega)) (fun u35 w33 lo36 hi37 hH34 hv38 => ?_)
      obtain ⟨p40, hu, -⟩ := hv38
      subst hu
      have hH39 := Heap.tup2 hH34 (n := 0) rfl
      refine ops_y hH39 rfl rfl (yv_move rfl) (ops_y hH39 rfl rfl (yv_extract rfl rfl) (ops_y hH39 rfl rfl (yv_extract rfl rfl) (ops_y hH39 rfl rfl (yv_assign rfl) (ops_y hH39 rfl rfl (yv_assign rfl) (ops_nil (thn_n (seq (region (ops_y hH39 rfl rfl (yv_move rfl) ?_)))))))))
      refine op_fn rfl rfl rfl hH39 (c31 (h0.now hH39 (n := 4) rfl) (by omega)) (fun u43 w41 lo44 hi45 hH42 hv46 => ?_)
      obtain ⟨p48, hu, -⟩ := hv46
      subst hu
      have hH47 := Heap.tup2 hH42 (n := 0) rfl
      refine ops_y hH47 rfl rfl (yv_move rfl) (ops_y hH47 rfl rfl (yv_extract rfl rfl) (ops_y hH47 rfl rfl (yv_extract rfl rfl) (ops_y hH47 rfl rfl (yv_assign rfl) (ops_y hH47 rfl rfl (yv_assign rfl) (ops_nil (thn_n (seq (region (ops_y hH47 rfl rfl (yv_move rfl) ?_)))))))))
      refine op_fn rfl rfl rfl hH47 (c32 (h0.now hH47 (n := 5) rfl) (by omega)) (fun u51 w49 lo52 hi53 hH50 hv54 => ?_)
      obtain ⟨p56, hu, -⟩ := hv54
      subst hu
      have hH55 := Heap.tup2 hH50 (n := 0) rfl
      refine ops_y hH55 rfl rfl (yv_move rfl) (ops_y hH55 rfl rfl (yv_extract rfl rfl) (ops_y hH55 rfl rfl (yv_extract rfl rfl) (ops_y hH55 rfl rfl (yv_assign rfl) (ops_y hH55 rfl rfl (yv_assign rfl) (ops_nil (thn_n (seq (region (ops_y hH55 rfl rfl (yv_move rfl) ?_)))))))))
      refine ops_y hH55 rfl rfl (yv_move rfl) ?_
      refine op_fnV rfl rfl rfl hH55 (c33 (Heap.rdw T.el22_encI hH55 (n := 5) rfl) (Heap.rdw T.el22_encI hH55 (n := 4) rfl) (by omega) (by omega)) (fun w57 hH58 => ?_)
      refine ops_y hH58 rfl rfl (yv_move rfl) ?_
      refine guard_yes rfl rfl (decide_eq_true rfl) ?_
      refine ops_y hH58 rfl rfl (yv_move rfl) ?_
      refine guard_yes rfl rfl (decide_eq_true rfl) ?_
      refine ops_y hH58 rfl rfl (yv_move rfl) ?_
      refine guard_yes rfl rfl (decide_eq_true rfl) ?_
      refine ops_y hH58 rfl rfl (yv_castB (decide_eq_true rfl) (yv_eql rfl rfl)) ?_
      refine ops_y hH58 rfl rfl (yv_pick_t rfl (decide_eq_true rfl) rfl) ?_
      refine ops_y hH58 rfl rfl (yv_move rfl) (guard_yes rfl rfl rfl (ops_y hH58 rfl rfl (yv_move rfl) (guard_yes rfl rfl rfl (ops_y hH58 rfl rfl (yv_move rfl) (guard_yes rfl rfl rfl ?_)))))
      refine op_fnV rfl rfl rfl hH58 (c26 (Heap.rdw T.el29_encP hH58 (n := 3) rfl) (Heap.rdw T.el29_encP hH58 (n := 2) rfl) (by omega) (by omega)) (fun w59 hH60 => ?_)
      refine ops_y hH60 rfl rfl (yv_pick_t rfl rfl rfl) ?_
      refine ops_y hH60 rfl rfl (yv_move rfl) ?_
      refine guard_yes rfl rfl (decide_eq_true rfl) ?_
      refine ops_y hH60 rfl rfl (yv_move rfl) ?_
      refine guard_yes rfl rfl (decide_eq_true rfl) ?_
      refine ops_y hH60 rfl rfl (yv_move rfl) ?_
      refine guard_yes rfl rfl (decide_eq_true rfl) ?_
      refine ops_y hH60 rfl rfl (yv_castB (decide_eq_true rfl) (yv_eql rfl rfl)) ?_
      refine ops_y hH60 rfl rfl (yv_pick_t rfl (decide_eq_true rfl) rfl) ?_
      refine ops_y hH60 rfl rfl (yv_move rfl) (guard_yes rfl rfl rfl (ops_y hH60 rfl rfl (yv_move rfl) (guard_yes rfl rfl rfl (ops_y hH60 rfl rfl (yv_move rfl) (guard_yes rfl rfl rfl ?_)))))
      refine op_fnV rfl rfl rfl hH60 (c33 (Heap.rdw T.el22_encI hH60 (n := 1) rfl) (Heap.rdw T.el22_encI hH60 (n := 0) rfl) (by omega) (by omega)) (fun w61 hH62 => ?_)
      refine ops_y hH62 rfl rfl (yv_pick_t rfl rfl rfl) ?_
      refine ops_y hH62 rfl rfl (yv_move rfl) ?_
      refine guard_yes rfl rfl (decide_eq_true rfl) ?_
      refine ops_y hH62 rfl rfl (yv_move rfl) ?_
      refine guard_yes rfl rfl (decide_eq_true rfl) ?_
      refine ops_y hH62 rfl rfl (yv_move rfl) ?_
      refine guard_yes rfl rfl (decide_eq_true rfl) ?_
      refine ops_y hH62 rfl rfl (yv_castB (decide_eq_true rfl) (yv_eql rfl rfl)) ?_
      refine ops_y hH62 rfl rfl (yv_pick_t rfl (decide_eq_true rfl) rfl) ?_
      refine ops_y hH62 rfl rfl (yv_move rfl) (guard_yes rfl rfl rfl ?_)
      refine op_fnV rfl rfl rfl hH62 (c18) (fun w63 hH64 => ?_)
      refine ops_y hH64 rfl rfl (yv_pick_t rfl rfl rfl) ?_
      refine ops_y hH64 rfl rfl (yv_assign rfl) (ops_nil (thn_n (ret ?_)))
      have hH65 := (hH64.sub (List.Sublist.cons _ (List.Sublist.cons _ (List.Sublist.cons _ (List.Sublist.cons _ (List.Sublist.cons _ (List.Sublist.cons _ (List.Sublist.refl _))))))))
      refine fin hH65 (fun w' hf => (res1 rfl (show RV _ _ _ (.tmp 4) _ from rfl))) (fun w' hf => ?_)
      rfl

end Go.Fip
