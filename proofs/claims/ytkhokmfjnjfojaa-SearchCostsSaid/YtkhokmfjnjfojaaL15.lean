/- Walks, by program (wip/tools). -/
import Derived.Test.YtkhokmfjnjfojaaL14
set_option linter.unusedVariables false
set_option linter.unusedSimpArgs false
set_option linter.unusedSectionVars false
set_option linter.unnecessarySimpa false
namespace Go.Fip
open Go.Proofs Go.RowKit

theorem c26 {v : Value} {l : List Int} {w : World} (h0 : Rd encI 1 v l w) (hn : l.length ≤ 1000000)  :
    Fn Try.prog 26 [v].toArray w (fun u _ => u = .tuple #[.int .i64 (Q.leastR l).1, .int .i64 (Q.leastR l).2]) := by
  refine fn_of' (args := [v]) Try.func26 rfl (ent Try.func26 (by kernel_rfl) rfl) rfl rfl (fun hH => ?_)
  refine seq (region (ops_y hH rfl rfl (yv_assign rfl) (ops_y hH rfl rfl (yv_assign rfl) (ops_nil (thn_n (seq (seq (region (ops_y hH rfl rfl (yv_move rfl) ?_)))))))))
  refine op_fnV rfl rfl rfl hH (c32 (h0.now hH (n := 0) rfl) (by omega)) (fun w1 hH2 => ?_)
  refine ops_y hH2 rfl rfl (yv_neq rfl rfl) ?_
  refine ops_nil (thn_n ?_)
  by_cases hc3 : (Q.ckW l) = 0
  · skip
    have hc0 : Q.ckW l = 0 := by omega
    obtain ⟨hl12, hw⟩ := Q.ckW_w hc0
    refine cond_f rfl (not_decide_n hc3) ?_
    refine skip (thn_n (seq (region (ops_y hH2 rfl rfl (yv_move rfl) ?_))))
    have hb4 : Below w.heap.size w w1 := hH2.get (n := 0) rfl
    have rv5 := h0.below hb4
    have hH6 := Heap.start w1
    refine op_fn rfl rfl rfl hH6 (c67 rv5 (by omega) hw) (fun u9 w7 lo10 hi11 hH8 hv12 => ?_)
    obtain ⟨VV2, TT2, hK, hD⟩ := hv12
    have hb13 : Below w1.heap.size w1 w7 := hH8.get (n := 1) rfl
    have rv14 := rv5.below hb13
    have hb15 := below_trans hb4 hb13
    have hH16 := Heap.start w7
    have hK1 := hK.2.1
    have hr0 : (nth TT2 0).length = l.length + 1 := hK.rlen (i := 0) (by omega)
    have hG : Good l (nth (nth TT2 0) (l.length : Int)) 0 l.length w7 := hD 0 l.length (by omega) (by omega) (.inl (by omega))
    obtain ⟨hG1, hG2, hG3⟩ := hG
    refine ops_y hH16 rfl rfl (yv_index T.sl91 rfl rfl ((hK.now hH16 (n := 0) rfl).hd).is (by omega)) ?_
    refine ops_y hH16 rfl rfl (yv_load T.one90 rfl (fun _ hw => Rd.at ((hK.now hw (n := 0) rfl).hd) (i := 0) (by omega) (j := 0) rfl)) ?_
    refine ops_y hH16 rfl rfl (yv_move rfl) ?_
    refine ops_y hH16 rfl rfl (yv_len T.sl30 rfl (rv14.now hH16 (n := 0) rfl).is) ?_
    refine ops_y hH16 rfl rfl (yv_index T.sl90 rfl rfl ((hK.at (i := 0) (by omega) (by omega)).now hH16 (n := 0) rfl).is (by omega)) ?_
    refine ops_y hH16 rfl rfl (yv_field T.f89_0 rfl) ?_
    refine ops_y hH16 rfl rfl (yv_load T.one2 rfl (fun _ hw => Rd.at ((hK.at (i := 0) (by omega) (by omega)).now hw (n := 0) rfl) (i := (l.length : Int)) (by omega) (j := 0) rfl)) ?_
    refine ops_y hH16 rfl rfl (yv_assign rfl) (ops_y hH16 rfl rfl (yv_assign rfl) (ops_nil (thn_n (ret ?_))))
    refine fin (Heap.unbase hH16 hb15) (fun w' hf => (res2 rfl (show RV _ _ _ (.tmp 2) _ from rfl) (show RV _ _ _ (.tmp 3) _ from rfl))) (fun w' hf => ?_)
    first | exact tup2 (Q.le1 hcn) | exact tup2 (by rw [Q.le2 hc0, hG1])
  · skip
    have hcn : ¬ Q.ckW l = 0 := by omega
    refine cond_t rfl (not_decide_t hc3) ?_
    refine seq (region (ops_y hH2 rfl rfl (yv_move rfl) ?_))
    refine op_fnV rfl rfl rfl hH2 (c32 (h0.now hH2 (n := 0) rfl) (by omega)) (fun w17 hH18 => ?_)
    refine ops_y hH18 rfl rfl (yv_assign rfl) (ops_y hH18 rfl rfl (yv_assign rfl) (ops_nil (thn_n (ret (thn_r ?_)))))
    refine fin hH18 (fun w' hf => (res2 rfl (show RV _ _ _ (.tmp 2) _ from rfl) (show RV _ _ _ (.tmp 3) _ from rfl))) (fun w' hf => ?_)
    first | exact tup2 (Q.le1 hcn) | exact tup2 (by rw [Q.le2 hc0, hG1])

theorem c30 {v : Value} {l : List Int} {w : World} (h0 : Rd encI 1 v l w) (hn : l.length ≤ 1000000)  :
    Fn Try.prog 30 [v].toArray w (fun u _ => u = .tuple #[.int .i64 (Q.manyR l).1, .int .i64 (Q.manyR l).2]) := by
  refine fn_of' (args := [v]) Try.func30 rfl (ent Try.func30 (by kernel_rfl) rfl) rfl rfl (fun hH => ?_)
  refine seq (region (ops_y hH rfl rfl (yv_assign rfl) (ops_y hH rfl rfl (yv_assign rfl) (ops_nil (thn_n (seq (seq (region (ops_y hH rfl rfl (yv_move rfl) ?_)))))))))
  refine op_fnV rfl rfl rfl hH (c32 (h0.now hH (n := 0) rfl) (by omega)) (fun w1 hH2 => ?_)
  refine ops_y hH2 rfl rfl (yv_neq rfl rfl) ?_
  refine ops_nil (thn_n ?_)
  by_cases hc3 : (Q.ckW l) = 0
  · skip
    have hc0 : Q.ckW l = 0 := by omega
    obtain ⟨hl12, hw⟩ := Q.ckW_w hc0
    refine cond_f rfl (not_decide_n hc3) ?_
    refine skip (thn_n (seq (region (ops_y hH2 rfl rfl (yv_move rfl) ?_))))
    have hb4 : Below w.heap.size w w1 := hH2.get (n := 0) rfl
    have rv5 := h0.below hb4
    have hH6 := Heap.start w1
    refine op_fn rfl rfl rfl hH6 (c67 rv5 (by omega) hw) (fun u9 w7 lo10 hi11 hH8 hv12 => ?_)
    obtain ⟨VV2, TT2, hK, hD⟩ := hv12
    have hb13 : Below w1.heap.size w1 w7 := hH8.get (n := 1) rfl
    have rv14 := rv5.below hb13
    have hb15 := below_trans hb4 hb13
    have hH16 := Heap.start w7
    have hK1 := hK.2.1
    have hr0 : (nth TT2 0).length = l.length + 1 := hK.rlen (i := 0) (by omega)
    have hG : Good l (nth (nth TT2 0) (l.length : Int)) 0 l.length w7 := hD 0 l.length (by omega) (by omega) (.inl (by omega))
    obtain ⟨hG1, hG2, hG3⟩ := hG
    refine ops_y hH16 rfl rfl (yv_index T.sl91 rfl rfl ((hK.now hH16 (n := 0) rfl).hd).is (by omega)) ?_
    refine ops_y hH16 rfl rfl (yv_load T.one90 rfl (fun _ hw => Rd.at ((hK.now hw (n := 0) rfl).hd) (i := 0) (by omega) (j := 0) rfl)) ?_
    refine ops_y hH16 rfl rfl (yv_move rfl) ?_
    refine ops_y hH16 rfl rfl (yv_len T.sl30 rfl (rv14.now hH16 (n := 0) rfl).is) ?_
    refine ops_y hH16 rfl rfl (yv_index T.sl90 rfl rfl ((hK.at (i := 0) (by omega) (by omega)).now hH16 (n := 0) rfl).is (by omega)) ?_
    refine ops_y hH16 rfl rfl (yv_field T.f89_2 rfl) ?_
    refine ops_y hH16 rfl rfl (yv_load T.one2 rfl (fun _ hw => Rd.at ((hK.at (i := 0) (by omega) (by omega)).now hw (n := 0) rfl) (i := (l.length : Int)) (by omega) (j := 2) rfl)) ?_
    refine ops_y hH16 rfl rfl (yv_assign rfl) (ops_y hH16 rfl rfl (yv_assign rfl) (ops_nil (thn_n (ret ?_))))
    refine fin (Heap.unbase hH16 hb15) (fun w' hf => (res2 rfl (show RV _ _ _ (.tmp 2) _ from rfl) (show RV _ _ _ (.tmp 3) _ from rfl))) (fun w' hf => ?_)
    first | exact tup2 (Q.ma1 hcn) | exact tup2 (by rw [Q.ma2 hc0, hG2])
  · skip
    have hcn : ¬ Q.ckW l = 0 := by omega
    refine cond_t rfl (not_decide_t hc3) ?_
    refine seq (region (ops_y hH2 rfl rfl (yv_move rfl) ?_))
    refine op_fnV rfl rfl rfl hH2 (c32 (h0.now hH2 (n := 0) rfl) (by omega)) (fun w17 hH18 => ?_)
    refine ops_y hH18 rfl rfl (yv_assign rfl) (ops_y hH18 rfl rfl (yv_assign rfl) (ops_nil (thn_n (ret (thn_r ?_)))))
    refine fin hH18 (fun w' hf => (res2 rfl (show RV _ _ _ (.tmp 2) _ from rfl) (show RV _ _ _ (.tmp 3) _ from rfl))) (fun w' hf => ?_)
    first | exact tup2 (Q.ma1 hcn) | exact tup2 (by rw [Q.ma2 hc0, hG2])

theorem c28 {v : Value} {l : List Int} {w : World} (h0 : Rd encI 1 v l w) (hn : l.length ≤ 1000000)  :
    Fn Try.prog 28 [v].toArray w ((fun x w2 => Below w.heap.size w w2 → ∃ q, x = .tuple #[q, .int .i64 (Q.bestR l).2] ∧ Rd encI 1 q (Q.bestR l).1 w2)) := by
  refine fn_of' (args := [v]) Try.func28 rfl (ent Try.func28 (by kernel_rfl) rfl) rfl rfl (fun hH => ?_)
  refine seq (region (ops_y hH rfl rfl (yv_assign rfl) (ops_y hH rfl rfl (yv_assign rfl) (ops_nil (thn_n (seq (seq (region (ops_y hH rfl rfl (yv_move rfl) ?_)))))))))
  refine op_fnV rfl rfl rfl hH (c32 (h0.now hH (n := 0) rfl) (by omega)) (fun w1 hH2 => ?_)
  refine ops_y hH2 rfl rfl (yv_neq rfl rfl) ?_
  refine ops_nil (thn_n ?_)
  by_cases hc3 : (Q.ckW l) = 0
  · skip
    have hc0 : Q.ckW l = 0 := by omega
    obtain ⟨hl12, hw⟩ := Q.ckW_w hc0
    refine cond_f rfl (not_decide_n hc3) ?_
    refine skip (thn_n (seq (region (ops_y hH2 rfl rfl (yv_move rfl) ?_))))
    have hb4 : Below w.heap.size w w1 := hH2.get (n := 0) rfl
    have rv5 := h0.below hb4
    have hH6 := Heap.start w1
    refine op_fn rfl rfl rfl hH6 (c67 rv5 (by omega) hw) (fun u9 w7 lo10 hi11 hH8 hv12 => ?_)
    obtain ⟨VV2, TT2, hK, hD⟩ := hv12
    have hb13 : Below w1.heap.size w1 w7 := hH8.get (n := 1) rfl
    have rv14 := rv5.below hb13
    have hb15 := below_trans hb4 hb13
    have hH16 := Heap.start w7
    have hK1 := hK.2.1
    have hr0 : (nth TT2 0).length = l.length + 1 := hK.rlen (i := 0) (by omega)
    have hG : Good l (nth (nth TT2 0) (l.length : Int)) 0 l.length w7 := hD 0 l.length (by omega) (by omega) (.inl (by omega))
    obtain ⟨hG1, hG2, hG3⟩ := hG
    refine ops_y hH16 rfl rfl (yv_index T.sl91 rfl rfl ((hK.now hH16 (n := 0) rfl).hd).is (by omega)) ?_
    refine ops_y hH16 rfl rfl (yv_load T.one90 rfl (fun _ hw => Rd.at ((hK.now hw (n := 0) rfl).hd) (i := 0) (by omega) (j := 0) rfl)) ?_
    refine ops_y hH16 rfl rfl (yv_move rfl) ?_
    refine ops_y hH16 rfl rfl (yv_len T.sl30 rfl (rv14.now hH16 (n := 0) rfl).is) ?_
    refine ops_y hH16 rfl rfl (yv_index T.sl90 rfl rfl ((hK.at (i := 0) (by omega) (by omega)).now hH16 (n := 0) rfl).is (by omega)) ?_
    refine ops_y hH16 rfl rfl (yv_field T.f89_1 rfl) ?_
    refine ops_y hH16 rfl rfl (yv_load T.one22 rfl (fun _ hw => Rd.at ((hK.at (i := 0) (by omega) (by omega)).now hw (n := 0) rfl) (i := (l.length : Int)) (by omega) (j := 1) rfl)) ?_
    refine ops_y hH16 rfl rfl (yv_assign rfl) (ops_y hH16 rfl rfl (yv_assign rfl) (ops_nil (thn_n (ret ?_))))
    refine finA hb15 hH16 (fun w' hf => (res2 rfl (show RV _ _ _ (.tmp 2) _ from rfl) (show RV _ _ _ (.tmp 3) _ from rfl))) (fun w' hf => ?_)
    first | (rw [Q.be1 hcn]; exact ⟨_, rfl, Rd.nil⟩) | (rw [Q.be2 hc0]; exact ⟨_, rfl, hG3.now hf (n := 0) rfl⟩)
  · skip
    have hcn : ¬ Q.ckW l = 0 := by omega
    refine cond_t rfl (not_decide_t hc3) ?_
    refine seq (region (ops_y hH2 rfl rfl (yv_move rfl) ?_))
    refine op_fnV rfl rfl rfl hH2 (c32 (h0.now hH2 (n := 0) rfl) (by omega)) (fun w17 hH18 => ?_)
    refine ops_y hH18 rfl rfl (yv_assign rfl) (ops_y hH18 rfl rfl (yv_assign rfl) (ops_nil (thn_n (ret (thn_r ?_)))))
    refine finA (Below.refl _ _) hH18 (fun w' hf => (res2 rfl (show RV _ _ _ (.tmp 2) _ from rfl) (show RV _ _ _ (.tmp 3) _ from rfl))) (fun w' hf => ?_)
    first | (rw [Q.be1 hcn]; exact ⟨_, rfl, Rd.nil⟩) | (rw [Q.be2 hc0]; exact ⟨_, rfl, hG3.now hf (n := 0) rfl⟩)

set_option maxHeartbeats 1000000 in
theorem c4 {v u : Value} {l m : List Int} {w : World} (h0 : Rd encI 1 v l w) (h1 : Rd encI 1 u m w) (hy : Q.Up m)  :
    Fn Try.prog 4 [v, u].toArray w (fun u _ => u = .bool true) := by
  refine fn_of' (args := [v, u]) Try.func4 rfl (ent Try.func4 (by kernel_rfl) rfl) rfl rfl (fun hH => ?_)
  refine seq (region (ops_y hH rfl rfl (yv_assign rfl) (ops_nil (thn_n (seq (seq (region (ops_y hH rfl rfl (yv_move rfl) ?_))))))))
  refine op_fnV rfl rfl rfl hH (c22 (h0.now hH (n := 0) rfl)) (fun w1 hH2 => ?_)
  refine ops_y hH2 rfl rfl (yv_move rfl) ?_
  by_cases hc3 : 16 < (l.length : Int)
  · skip
    refine guard_no rfl rfl (decide_eq_true hc3) rfl ?_
    refine guard_no rfl rfl (decide_eq_true hc3) rfl ?_
    refine guard_no rfl rfl (decide_eq_true hc3) rfl ?_
    refine ops_y hH2 rfl rfl (yv_pick_t rfl (decide_eq_true hc3) rfl) ?_
    refine ops_nil (thn_n ?_)
    refine cond_t rfl rfl ?_
    refine seq (region ?_)
    refine op_fnV rfl rfl rfl hH2 (c16) (fun w4 hH5 => ?_)
    refine ops_y hH5 rfl rfl (yv_assign rfl) (ops_nil (thn_n (ret (thn_r ?_))))
    refine fin hH5 (fun w' hf => (res1 rfl (show RV _ _ _ (.tmp 4) _ from rfl))) (fun w' hf => ?_)
    rfl
  · skip
    refine guard_yes rfl rfl (decide_eq_false hc3) ?_
    refine ops_y hH2 rfl rfl (yv_move rfl) ?_
    refine guard_yes rfl rfl (decide_eq_false hc3) ?_
    refine ops_y hH2 rfl rfl (yv_len T.sl22 rfl (h1.now hH2 (n := 0) rfl).is) ?_
    refine guard_yes rfl rfl (decide_eq_false hc3) ?_
    refine ops_y hH2 rfl rfl (yv_gtr rfl rfl) ?_
    refine ops_y hH2 rfl rfl (yv_pick_f rfl (decide_eq_false hc3) rfl) ?_
    refine ops_nil (thn_n ?_)
    by_cases hc6 : 16 < (m.length : Int)
    · skip
      refine cond_t rfl (decide_eq_true hc6) ?_
      refine seq (region ?_)
      refine op_fnV rfl rfl rfl hH2 (c16) (fun w7 hH8 => ?_)
      refine ops_y hH8 rfl rfl (yv_assign rfl) (ops_nil (thn_n (ret (thn_r ?_))))
      refine fin hH8 (fun w' hf => (res1 rfl (show RV _ _ _ (.tmp 4) _ from rfl))) (fun w' hf => ?_)
      rfl
    · skip
      refine cond_f rfl (decide_eq_false hc6) ?_
      refine skip (thn_n (seq ?_))
      have hl1 := Q.len_best (l := l)
      refine region (ops_y hH2 rfl rfl (yv_move rfl) (ops_y hH2 rfl rfl (yv_move rfl) ?_))
      refine op_fnV rfl rfl rfl hH2 (c23 (h0.now hH2 (n := 0) rfl) (h1.now hH2 (n := 0) rfl) (by omega) (by omega) (by first | assumption | decide)) (fun w9 hH10 => ?_)
      refine ops_y hH10 rfl rfl (yv_move rfl) (ops_y hH10 rfl rfl (yv_extract rfl rfl) (ops_y hH10 rfl rfl (yv_extract rfl rfl) (ops_y hH10 rfl rfl (yv_assign rfl) (ops_y hH10 rfl rfl (yv_assign rfl) (ops_nil (thn_n (seq (region (ops_y hH10 rfl rfl (yv_move rfl) ?_)))))))))
      refine ops_y hH10 rfl rfl (yv_move rfl) ?_
      refine op_fnV rfl rfl rfl hH10 (c24 (h0.now hH10 (n := 0) rfl) (h1.now hH10 (n := 0) rfl) (by omega) (by omega) (by first | assumption | decide)) (fun w11 hH12 => ?_)
      refine ops_y hH12 rfl rfl (yv_move rfl) (ops_y hH12 rfl rfl (yv_extract rfl rfl) (ops_y hH12 rfl rfl (yv_extract rfl rfl) (ops_y hH12 rfl rfl (yv_assign rfl) (ops_y hH12 rfl rfl (yv_assign rfl) (ops_nil (thn_n (seq (region (ops_y hH12 rfl rfl (yv_move rfl) ?_)))))))))
      refine op_fnV rfl rfl rfl hH12 (c25 (h0.now hH12 (n := 0) rfl) (by omega)) (fun w13 hH14 => ?_)
      refine ops_y hH14 rfl rfl (yv_move rfl) (ops_y hH14 rfl rfl (yv_extract rfl rfl) (ops_y hH14 rfl rfl (yv_extract rfl rfl) (ops_y hH14 rfl rfl (yv_assign rfl) (ops_y hH14 rfl rfl (yv_assign rfl) (ops_nil (thn_n (seq (region (ops_y hH14 rfl rfl (yv_move rfl) ?_)))))))))
      refine op_fnV rfl rfl rfl hH14 (c26 (h0.now hH14 (n := 0) rfl) (by omega)) (fun w15 hH16 => ?_)
      refine ops_y hH16 rfl rfl (yv_move rfl) (ops_y hH16 rfl rfl (yv_extract rfl rfl) (ops_y hH16 rfl rfl (yv_extract rfl rfl) (ops_y hH16 rfl rfl (yv_assign rfl) (ops_y hH16 rfl rfl (yv_assign rfl) (ops_nil (thn_n (seq (region (ops_y hH16 rfl rfl (yv_move rfl) ?_)))))))))
      refine op_fn rfl rfl rfl hH16 (c27 (h0.now hH16 (n := 0) rfl) (by omega)) (fun u19 w17 lo20 hi21 hH18 hv22 => ?_)
      obtain ⟨p24, hu, -⟩ := hv22
      subst hu
      have hH23 := Heap.tup2 hH18 (n := 0) rfl
      refine ops_y hH23 rfl rfl (yv_move rfl) (ops_y hH23 rfl rfl (yv_extract rfl rfl) (ops_y hH23 rfl rfl (yv_extract rfl rfl) (ops_y hH23 rfl rfl (yv_assign rfl) (ops_y hH23 rfl rfl (yv_assign rfl) (ops_nil (thn_n (seq (region (ops_y hH23 rfl rfl (yv_move rfl) ?_)))))))))
      have hb25 : Below w.heap.size w w17 := hH23.get (n := 1) rfl
      have rr26 : Rd encI 1 p24 ((Q.bestR l).1) w17 := Heap.rdw T.el22_encI hH23 (n := 0) rfl
      have rv27 := h0.below hb25
      have rv28 := h1.below hb25
      have hH29 := Heap.start w17
      refine op_fn rfl rfl rfl hH29 (c28 rv27 (by omega)) (fun u32 w30 lo33 hi34 hH31 hv35 => ?_)
      have hb36 : Below w17.heap.size w17 w30 := hH31.get (n := 1) rfl
      obtain ⟨q37, hu, hq37⟩ := hv35 hb36
      subst hu
      have hb38 : Below w17.heap.size w17 w30 := hH31.get (n := 1) rfl
      have rv39 := rv27.below hb38
      have rv40 := rv28.below hb38
      have rv41 := rr26.below hb38
      have hb42 := below_trans hb25 hb38
      have hH43 := Heap.start w30
      refine ops_y hH43 rfl rfl (yv_move rfl) (ops_y hH43 rfl rfl (yv_extract rfl rfl) (ops_y hH43 rfl rfl (yv_extract rfl rfl) (ops_y hH43 rfl rfl (yv_assign rfl) (ops_y hH43 rfl rfl (yv_assign rfl) (ops_nil (thn_n (seq (region (ops_y hH43 rfl rfl (yv_move rfl) ?_)))))))))
      refine op_fnV rfl rfl rfl hH43 (c29 (rv39.now hH43 (n := 0) rfl) (by omega)) (fun w44 hH45 => ?_)
      refine ops_y hH45 rfl rfl (yv_move rfl) (ops_y hH45 rfl rfl (yv_extract rfl rfl) (ops_y hH45 rfl rfl (yv_extract rfl rfl) (ops_y hH45 rfl rfl (yv_assign rfl) (ops_y hH45 rfl rfl (yv_assign rfl) (ops_nil (thn_n (seq (region (ops_y hH45 rfl rfl (yv_move rfl) ?_)))))))))
      refine op_fnV rfl rfl rfl hH45 (c30 (rv39.now hH45 (n := 0) rfl) (by omega)) (fun w46 hH47 => ?_)
      refine ops_y hH47 rfl rfl (yv_move rfl) (ops_y hH47 rfl rfl (yv_extract rfl rfl) (ops_y hH47 rfl rfl (yv_extract rfl rfl) (ops_y hH47 rfl rfl (yv_assign rfl) (ops_y hH47 rfl rfl (yv_assign rfl) (ops_nil (thn_n (seq (region (ops_y hH47 rfl rfl (yv_move rfl) ?_)))))))))
      refine op_fnV rfl rfl rfl hH47 (c31 (rv39.now hH47 (n := 0) rfl) (by omega)) (fun w48 hH49 => ?_)
      refine ops_y hH49 rfl rfl (yv_move rfl) ?_
      refine op_fnV rfl rfl rfl hH49 (c32 (rv39.now hH49 (n := 0) rfl) (by omega)) (fun w50 hH51 => ?_)
      refine ops_y hH51 rfl rfl (yv_eql rfl rfl) ?_
      refine ops_y hH51 rfl rfl (yv_move rfl) ?_
      refine guard_yes rfl rfl (decide_eq_true rfl) ?_
      refine ops_y hH51 rfl rfl (yv_move rfl) ?_
      refine guard_yes rfl rfl (decide_eq_true rfl) ?_
      refine ops_y hH51 rfl rfl (yv_move rfl) ?_
      refine guard_yes rfl rfl (decide_eq_true rfl) ?_
      refine ops_y hH51 rfl rfl (yv_eql rfl rfl) ?_
      refine ops_y hH51 rfl rfl (yv_pick_t rfl (decide_eq_true rfl) rfl) ?_
      refine ops_y hH51 rfl rfl (yv_move rfl) ?_
      refine guard_yes rfl rfl (decide_eq_true rfl) ?_
      refine ops_y hH51 rfl rfl (yv_move rfl) ?_
      refine guard_yes rfl rfl (decide_eq_true rfl) ?_
      refine ops_y hH51 rfl rfl (yv_move rfl) ?_
      refine guard_yes rfl rfl (decide_eq_true rfl) ?_
      refine ops_y hH51 rfl rfl (yv_eql rfl rfl) ?_
      refine ops_y hH51 rfl rfl (yv_pick_t rfl (decide_eq_true rfl) rfl) ?_
      refine ops_y hH51 rfl rfl (yv_move rfl) ?_
      refine guard_yes rfl rfl (decide_eq_true rfl) ?_
      refine ops_y hH51 rfl rfl (yv_move rfl) ?_
      refine guard_yes rfl rfl (decide_eq_true rfl) ?_
      refine ops_y hH51 rfl rfl (yv_move rfl) ?_
      refine guard_yes rfl rfl (decide_eq_true rfl) ?_
      refine ops_y hH51 rfl rfl (yv_eql rfl rfl) ?_
      refine ops_y hH51 rfl rfl (yv_pick_t rfl (decide_eq_true rfl) rfl) ?_
      refine ops_y hH51 rfl rfl (yv_move rfl) ?_
      refine guard_yes rfl rfl (decide_eq_true rfl) ?_
      refine ops_y hH51 rfl rfl (yv_move rfl) ?_
      refine guard_yes rfl rfl (decide_eq_true rfl) ?_
      refine ops_y hH51 rfl rfl (yv_move rfl) ?_
      refine guard_yes rfl rfl (decide_eq_true rfl) ?_
      refine ops_y hH51 rfl rfl (yv_eql rfl rfl) ?_
      refine ops_y hH51 rfl rfl (yv_pick_t rfl (decide_eq_true rfl) rfl) ?_
      refine ops_y hH51 rfl rfl (yv_move rfl) ?_
      refine guard_yes rfl rfl (decide_eq_true rfl) ?_
      refine ops_y hH51 rfl rfl (yv_move rfl) ?_
      refine guard_yes rfl rfl (decide_eq_true rfl) ?_
      refine ops_y hH51 rfl rfl (yv_move rfl) ?_
      refine guard_yes rfl rfl (decide_eq_true rfl) ?_
      refine op_fnV rfl rfl rfl hH51 (c21 (rv41.now hH51 (n := 0) rfl) (hq37.now hH51 (n := 0) rfl) (by omega) (by omega)) (fun w52 hH53 => ?_)
      refine ops_y hH53 rfl rfl (yv_pick_t rfl (decide_eq_true rfl) rfl) ?_
      refine ops_y hH53 rfl rfl (yv_move rfl) ?_
      refine guard_yes rfl rfl (decide_eq_true rfl) ?_
      refine ops_y hH53 rfl rfl (yv_move rfl) ?_
      refine guard_yes rfl rfl (decide_eq_true rfl) ?_
      refine ops_y hH53 rfl rfl (yv_move rfl) ?_
      refine guard_yes rfl rfl (decide_eq_true rfl) ?_
      refine ops_y hH53 rfl rfl (yv_eql rfl rfl) ?_
      refine ops_y hH53 rfl rfl (yv_pick_t rfl (decide_eq_true rfl) rfl) ?_
      refine ops_y hH53 rfl rfl (yv_move rfl) ?_
      refine guard_yes rfl rfl (decide_eq_true rfl) ?_
      refine ops_y hH53 rfl rfl (yv_move rfl) ?_
      refine guard_yes rfl rfl (decide_eq_true rfl) ?_
      refine ops_y hH53 rfl rfl (yv_move rfl) ?_
      refine guard_yes rfl rfl (decide_eq_true rfl) ?_
      refine ops_y hH53 rfl rfl (yv_eql rfl rfl) ?_
      refine ops_y hH53 rfl rfl (yv_pick_t rfl (decide_eq_true rfl) rfl) ?_
      refine ops_y hH53 rfl rfl (yv_move rfl) ?_
      refine guard_yes rfl rfl (decide_eq_true rfl) ?_
      refine ops_y hH53 rfl rfl (yv_move rfl) ?_
      refine guard_yes rfl rfl (decide_eq_true rfl) ?_
      refine ops_y hH53 rfl rfl (yv_move rfl) ?_
      refine guard_yes rfl rfl (decide_eq_true rfl) ?_
      refine ops_y hH53 rfl rfl (yv_eql rfl rfl) ?_
      refine ops_y hH53 rfl rfl (yv_pick_t rfl (decide_eq_true rfl) rfl) ?_
      refine ops_y hH53 rfl rfl (yv_move rfl) ?_
      refine guard_yes rfl rfl (decide_eq_true rfl) ?_
      refine op_fnV rfl rfl rfl hH53 (c16) (fun w54 hH55 => ?_)
      refine ops_y hH55 rfl rfl (yv_pick_t rfl (decide_eq_true rfl) rfl) ?_
      refine ops_y hH55 rfl rfl (yv_assign rfl) (ops_nil (thn_n (ret ?_)))
      refine fin (Heap.unbase hH55 hb42) (fun w' hf => (res1 rfl (show RV _ _ _ (.tmp 4) _ from rfl))) (fun w' hf => ?_)
      rfl

end Go.Fip
