/- Walks, by program (wip/tools). -/
import Derived.Test.YtlekkopaeiblfaaWe
import Derived.Test.YtlekkopaeiblfaaSy
set_option linter.unusedVariables false
set_option linter.unusedSimpArgs false
set_option linter.unusedSectionVars false
set_option linter.unnecessarySimpa false
namespace Go.Fip
open Go.Proofs Go.RowKit

theorem c45 {v : Value} {js : List S.Pr} {vb vt vf : Value} {B U F : List Int} {w : World} (h0 : Rd encP 2 v js w) (hB : Rd encI 1 vb B w) (hT : Rd encI 1 vt U w) (hF : Rd encI 1 vf F w) (hj : S.Jobs js) (hO : S.Ord js.length B U F)  :
    Fn Try.prog 45 [v, (.agg #[vb, vt, vf])].toArray w (fun u w => ∃ q, u = .tuple #[q, .bool (S.playOf js B U F).isSome] ∧ Own 73 2 encP q ((S.playOf js B U F).getD []) w) := by
  refine fn_of' (args := [v, (.agg #[vb, vt, vf])]) Try.func45 rfl (ent Try.func45 (by kernel_rfl) rfl) rfl rfl (fun hH => ?_)
  have hO8 := hO
  obtain ⟨hlB, hlU, hlF, hOk⟩ := hO8
  have hl1 := hj.1
  have hl8 := hj.2.1
  refine seq ?_
  refine region ?_
  refine op_box (us := [vb, vt, vf]) rfl rfl rfl hH (fun b1 w2 hH3 => ?_)
  refine ops_y hH3 rfl rfl (yv_assign rfl) ?_
  refine ops_y hH3 rfl rfl (yv_assign rfl) ?_
  refine ops_nil ?_
  refine thn_n ?_
  refine seq ?_
  refine region ?_
  refine ops_y hH3 rfl rfl (yv_move rfl) ?_
  refine ops_y hH3 rfl rfl (yv_len T.sl22 rfl (h0.now hH3 (n := 1) rfl).is) ?_
  refine ops_y hH3 rfl rfl (yv_mul rfl rfl (by omega)) ?_
  refine ops_y hH3 rfl rfl (yv_assign rfl) ?_
  refine ops_nil ?_
  refine thn_n ?_
  refine seq ?_
  refine region ?_
  refine ops_y hH3 rfl rfl (yv_move rfl) ?_
  refine op_make T.el116_encI (0 : Int) T.z116_encI rfl rfl rfl hH3 (by omega) (by omega) (fun u4 lo6 hi7 w5 hH8 => ?_)
  refine ops_y hH8 rfl rfl (yv_assign rfl) ?_
  refine ops_nil ?_
  refine thn_n ?_
  refine seq ?_
  refine seq ?_
  refine region ?_
  refine ops_y hH8 rfl rfl (yv_assign rfl) ?_
  refine ops_nil ?_
  refine thn_n ?_
  refine block ?_
  refine loop (S := Nat × List Int × Value × Nat × Nat) (fun (r, A, v_7, lo_7, hi_7) => [(8, (.int .i64 (r : Int))), (7, v_7), (0, v), (3, (.pointer (some ⟨b1, 0, none⟩))), (6, (.int .i64 (2 * (js.length : Int))))]) (fun (r, A, v_7, lo_7, hi_7) w1 => Heap [ow lo_7 hi_7 2 1 encI v_7 A, bx b1 41 [vb, vt, vf], base w] w1 ∧ (r ≤ 2 * js.length + 1 ∧ S.PI js B U F r 0 0 false A) ∧ (r = 2 * js.length + 1 → ¬ ∃ s, S.SolF js B U F s)) (fun (r, A, v_7, lo_7, hi_7) => 2 * js.length + 1 - r) (0, (List.replicate (2 * js.length) 0), u4, lo6, hi7) (Sub.cons rfl (Sub.cons rfl (Sub.cons rfl (Sub.cons rfl (Sub.cons rfl (Sub.nil _)))))) ?_ ?_
  · exact ⟨(Heap.recast (n := 0) hH8 rfl (by congr 1)), ⟨by omega, S.PI.zero hj⟩, fun h => by omega⟩
  · rintro ⟨r, A, v_7, lo_7, hi_7⟩ w9 ⟨hH10, ⟨hr, hP⟩, hno⟩
    show Holds _ _ _ _ _ [(8, (.int .i64 (r : Int))), (7, v_7), (0, v), (3, (.pointer (some ⟨b1, 0, none⟩))), (6, (.int .i64 (2 * (js.length : Int))))] _ _
    refine seq ?_
    refine seq ?_
    refine region ?_
    refine ops_y hH10 rfl rfl (yv_move rfl) ?_
    refine ops_y hH10 rfl rfl (yv_move rfl) ?_
    refine ops_y hH10 rfl rfl (yv_leq rfl rfl) ?_
    refine ops_nil ?_
    refine thn_n ?_
    by_cases hc11 : (r : Int) ≤ (2 * (js.length : Int))
    · skip
      refine cond_t rfl (decide_eq_true hc11) ?_
      refine skip ?_
      refine thn_n ?_
      refine seq ?_
      refine block ?_
      refine seq ?_
      refine region ?_
      refine ops_y hH10 rfl rfl (yv_assign rfl) ?_
      refine ops_nil ?_
      refine thn_n ?_
      refine seq ?_
      refine seq ?_
      refine region ?_
      refine ops_y hH10 rfl rfl (yv_assign rfl) ?_
      refine ops_nil ?_
      refine thn_n ?_
      refine block ?_
      refine loop (S := Nat × List Int × Bool × Value × Nat × Nat) (fun (a, A2, c2, v_7, lo_7, hi_7) => [(10, (.int .i64 (a : Int))), (9, (.bool c2)), (7, v_7), (0, v), (3, (.pointer (some ⟨b1, 0, none⟩))), (6, (.int .i64 (2 * (js.length : Int)))), (8, (.int .i64 (r : Int)))]) (fun (a, A2, c2, v_7, lo_7, hi_7) w1 => Heap [ow lo_7 hi_7 2 1 encI v_7 A2, bx b1 41 [vb, vt, vf], base w] w1 ∧ a ≤ 2 * js.length ∧ S.PI js B U F r a 0 c2 A2) (fun (a, A2, c2, v_7, lo_7, hi_7) => 2 * js.length - a) (0, A, false, v_7, lo_7, hi_7) (Sub.cons rfl (Sub.cons rfl (Sub.cons rfl (Sub.cons rfl (Sub.cons rfl (Sub.cons rfl (Sub.cons rfl (Sub.nil _)))))))) ?_ ?_
      · exact ⟨hH10, by omega, hP⟩
      · rintro ⟨a, A2, c2, v_7, lo_7, hi_7⟩ w12 ⟨hH13, ha, hP⟩
        show Holds _ _ _ _ _ [(10, (.int .i64 (a : Int))), (9, (.bool c2)), (7, v_7), (0, v), (3, (.pointer (some ⟨b1, 0, none⟩))), (6, (.int .i64 (2 * (js.length : Int)))), (8, (.int .i64 (r : Int)))] _ _
        refine seq ?_
        refine seq ?_
        refine region ?_
        refine ops_y hH13 rfl rfl (yv_move rfl) ?_
        refine ops_y hH13 rfl rfl (yv_move rfl) ?_
        refine ops_y hH13 rfl rfl (yv_lss rfl rfl) ?_
        refine ops_nil ?_
        refine thn_n ?_
        by_cases hc14 : (a : Int) < (2 * (js.length : Int))
        · skip
          refine cond_t rfl (decide_eq_true hc14) ?_
          refine skip ?_
          refine thn_n ?_
          refine seq ?_
          refine block ?_
          refine seq ?_
          refine region ?_
          refine ops_y hH13 rfl rfl (yv_assign rfl) ?_
          refine ops_nil ?_
          refine thn_n ?_
          refine block ?_
          refine loop (S := Nat × List Int × Bool × Value × Nat × Nat) (fun (b, A3, c3, v_7, lo_7, hi_7) => [(11, (.int .i64 (b : Int))), (9, (.bool c3)), (7, v_7), (0, v), (3, (.pointer (some ⟨b1, 0, none⟩))), (6, (.int .i64 (2 * (js.length : Int)))), (8, (.int .i64 (r : Int))), (10, (.int .i64 (a : Int)))]) (fun (b, A3, c3, v_7, lo_7, hi_7) w1 => Heap [ow lo_7 hi_7 2 1 encI v_7 A3, bx b1 41 [vb, vt, vf], base w] w1 ∧ b ≤ 2 * js.length ∧ S.PI js B U F r a b c3 A3) (fun (b, A3, c3, v_7, lo_7, hi_7) => 2 * js.length - b) (0, A2, c2, v_7, lo_7, hi_7) (Sub.cons rfl (Sub.cons rfl (Sub.cons rfl (Sub.cons rfl (Sub.cons rfl (Sub.cons rfl (Sub.cons rfl (Sub.cons rfl (Sub.nil _))))))))) ?_ ?_
          · exact ⟨hH13, by omega, hP⟩
          · rintro ⟨b, A3, c3, v_7, lo_7, hi_7⟩ w15 ⟨hH16, hb, hP⟩
            show Holds _ _ _ _ _ [(11, (.int .i64 (b : Int))), (9, (.bool c3)), (7, v_7), (0, v), (3, (.pointer (some ⟨b1, 0, none⟩))), (6, (.int .i64 (2 * (js.length : Int)))), (8, (.int .i64 (r : Int))), (10, (.int .i64 (a : Int)))] _ _
            refine seq ?_
            refine seq ?_
            refine region ?_
            refine ops_y hH16 rfl rfl (yv_move rfl) ?_
            refine ops_y hH16 rfl rfl (yv_move rfl) ?_
            refine ops_y hH16 rfl rfl (yv_lss rfl rfl) ?_
            refine ops_nil ?_
            refine thn_n ?_
            by_cases hc17 : (b : Int) < (2 * (js.length : Int))
            · skip
              refine cond_t rfl (decide_eq_true hc17) ?_
              refine skip ?_
              refine thn_n ?_
              refine seq ?_
              refine block ?_
              refine seq ?_
              have hA := hP.len
              have hhi := hP.hi b (by omega)
              have hlo := hP.lo b (by omega)
              have hmb := hj.at2 (w := (b : Int)) (by omega) (by omega)
              refine region_draw (fun w' => Heap [ow lo_7 hi_7 2 1 encI v_7 A3, bx b1 41 [vb, vt, vf], base w] w') T.mixed (fun w18 hr19 => ?_)
              have hH20 := hH16.redrawn hr19
              refine any_takes [0, 1, 2] (by kernel_rfl) hH20 _ _ _ (by kernel_rfl) ?_
              refine qs_y rfl rfl (yv_loadA (cs := [vb, vt, vf]) T.agg41 rfl rfl (fun _ hw => Heap.cellsw hw (n := 1) rfl (k := 0) rfl)) ?_
              refine qs_y rfl rfl (yv_move rfl) ?_
              refine qs_y rfl rfl (yv_move rfl) ?_
              refine qs_nil ?_
              refine any_all [3] (by kernel_rfl) rfl ?_
              refine ⟨⟨_, rfl, ?_⟩, trivial⟩
              · skip
                refine op_fnV rfl rfl rfl hH20 (c48 (hB.now hH20 (n := 2) rfl) (hT.now hH20 (n := 2) rfl) (hF.now hH20 (n := 2) rfl) (by omega) (by omega) (by omega) (by omega) (by omega) (by omega) (by omega)) (fun w21 hH22 => ?_)
                refine ops_nil ?_
                refine ⟨hH22, ?_⟩
                refine any_takes [4] (by kernel_rfl) hH22 _ _ _ (by kernel_rfl) ?_
                refine qs_y rfl rfl (yv_move rfl) ?_
                refine qs_nil ?_
                by_cases hc23 : S.Waits B U F (a : Int) (b : Int)
                · skip
                  refine any_takes [5, 6, 7, 8, 9, 10, 11, 12, 13, 14] (by kernel_rfl) hH22 _ _ _ (by kernel_rfl) ?_
                  refine qs_yes rfl rfl rfl (decide_eq_true hc23) rfl (yv_move rfl) ?_
                  refine qs_yes rfl rfl rfl (decide_eq_true hc23) rfl (yv_move rfl) ?_
                  refine qs_yes rfl rfl rfl (decide_eq_true hc23) rfl (yv_index T.sl116 rfl rfl (Heap.rdw T.el116_encI hH22 (n := 0) rfl).is (by omega)) ?_
                  refine qs_yes rfl rfl rfl (decide_eq_true hc23) rfl (yv_load T.one2 rfl (fun _ hw => Rd.at (Heap.rdw T.el116_encI hw (n := 0) rfl) (i := (a : Int)) (by omega) (j := 0) rfl)) ?_
                  refine qs_yes rfl rfl rfl (decide_eq_true hc23) rfl (yv_move rfl) ?_
                  refine qs_yes rfl rfl rfl (decide_eq_true hc23) rfl (yv_move rfl) ?_
                  refine qs_yes rfl rfl rfl (decide_eq_true hc23) rfl (yv_index T.sl116 rfl rfl (Heap.rdw T.el116_encI hH22 (n := 0) rfl).is (by omega)) ?_
                  refine qs_yes rfl rfl rfl (decide_eq_true hc23) rfl (yv_load T.one2 rfl (fun _ hw => Rd.at (Heap.rdw T.el116_encI hw (n := 0) rfl) (i := (b : Int)) (by omega) (j := 0) rfl)) ?_
                  refine qs_yes rfl rfl rfl (decide_eq_true hc23) rfl (yv_move rfl) ?_
                  refine qs_yes rfl rfl rfl (decide_eq_true hc23) rfl (yv_move rfl) ?_
                  refine qs_nil ?_
                  refine any_all [15] (by kernel_rfl) rfl ?_
                  refine ⟨⟨_, rfl, ?_⟩, trivial⟩
                  · skip
                    refine guard_yes rfl rfl (decide_eq_true hc23) ?_
                    refine op_fnV rfl rfl rfl hH22 (c49 (h0.now hH22 (n := 2) rfl) (by omega) (by omega) (by omega)) (fun w24 hH25 => ?_)
                    refine ops_nil ?_
                    refine ⟨hH25, ?_⟩
                    refine any_takes [16, 17, 18] (by kernel_rfl) hH25 _ _ _ (by kernel_rfl) ?_
                    refine qs_yes rfl rfl rfl (decide_eq_true hc23) rfl (yv_add rfl rfl (by omega)) ?_
                    refine qs_yes rfl rfl rfl (decide_eq_true hc23) rfl (yv_lss rfl rfl) ?_
                    refine qs_y rfl rfl (yv_pick_t rfl (decide_eq_true hc23) rfl) ?_
                    refine qs_nil ?_
                    refine any_done (by kernel_rfl) ?_
                    refine thn_n ?_
                    by_cases hc26 : (nth A3 (a : Int)) < ((nth A3 (b : Int)) + (S.at2 js (b : Int)))
                    · skip
                      refine cond_t rfl (decide_eq_true hc26) ?_
                      refine seq ?_
                      refine region_draw (fun w' => True) T.mixed (fun w27 hr28 => ?_)
                      have hH29 := hH25.redrawn hr28
                      refine any_takes [0, 1, 2, 3, 4, 6, 7] (by kernel_rfl) trivial _ _ _ (by kernel_rfl) ?_
                      refine qs_y rfl rfl (yv_move rfl) ?_
                      refine qs_y rfl rfl (yv_move rfl) ?_
                      refine qs_y rfl rfl (yv_move rfl) ?_
                      refine qs_y rfl rfl (yv_move rfl) ?_
                      refine qs_y rfl rfl (yv_index T.sl116 rfl rfl (Heap.rdw T.el116_encI hH29 (n := 0) rfl).is (by omega)) ?_
                      refine qs_y rfl rfl (yv_move rfl) ?_
                      refine qs_y rfl rfl (yv_move rfl) ?_
                      refine qs_nil ?_
                      refine any_all [5, 8] (by kernel_rfl) rfl ?_
                      refine ⟨⟨_, rfl, ?_⟩, ⟨_, rfl, ?_⟩, trivial⟩
                      · skip
                        refine ops_y hH29 rfl rfl (yv_load T.one2 rfl (fun _ hw => Rd.at (Heap.rdw T.el116_encI hw (n := 0) rfl) (i := (b : Int)) (by omega) (j := 0) rfl)) ?_
                        refine ops_nil ?_
                        refine ⟨trivial, ?_⟩
                        refine any_all [8] (by kernel_rfl) rfl ?_
                        refine ⟨⟨_, rfl, ?_⟩, trivial⟩
                        · skip
                          refine op_fnV rfl rfl rfl hH29 (c49 (h0.now hH29 (n := 2) rfl) (by omega) (by omega) (by omega)) (fun w30 hH31 => ?_)
                          refine ops_nil ?_
                          refine ⟨trivial, ?_⟩
                          refine any_takes [9, 10] (by kernel_rfl) trivial _ _ _ (by kernel_rfl) ?_
                          refine qs_y rfl rfl (yv_add rfl rfl (by omega)) ?_
                          refine qs_y rfl rfl (yv_index T.sl116 rfl rfl (Heap.rdw T.el116_encI hH31 (n := 0) rfl).is (by omega)) ?_
                          refine qs_nil ?_
                          refine any_all [11] (by kernel_rfl) rfl ?_
                          refine ⟨⟨_, rfl, ?_⟩, trivial⟩
                          · skip
                            refine op_setE (n := 0) (i := (a : Int)) (k := 0) (us := [(.int .i64 ((nth A3 (b : Int)) + (S.at2 js (b : Int))))]) (z := (nth A3 (b : Int)) + (S.at2 js (b : Int))) T.el116_encI rfl rfl hH31 rfl (by omega) T.sz2 rfl rfl rfl (Nat.le_of_ble_eq_true rfl) (fun w32 hH33 => ?_)
                            refine ops_nil ?_
                            refine ⟨trivial, ?_⟩
                            refine any_done (by kernel_rfl) ?_
                            refine thn_n ?_
                            refine region ?_
                            refine ops_y hH33 rfl rfl (yv_assign rfl) ?_
                            refine ops_nil ?_
                            refine blk_n ?_
                            refine thn_n ?_
                            refine region ?_
                            refine ops_y hH33 rfl rfl (yv_move rfl) ?_
                            refine ops_y hH33 rfl rfl (yv_add rfl rfl (by omega)) ?_
                            refine ops_y hH33 rfl rfl (yv_assign rfl) ?_
                            refine ops_nil ?_
                            refine lp_n (b + 1, (A3.set (a : Int).toNat ((nth A3 (b : Int)) + (S.at2 js (b : Int)))), true, v_7, lo_7, hi_7) (Sub.cons rfl (Sub.cons rfl (Sub.cons rfl (Sub.cons rfl (Sub.cons rfl (Sub.cons rfl (Sub.cons rfl (Sub.cons rfl (Sub.nil _))))))))) ?_ ?_
                            · exact ⟨hH33, by omega, hP.relax hj (by omega) (by omega) ‹_› (by omega)⟩
                            · first | (dsimp only; omega) | (show _ < _; omega)
                      · skip
                        refine op_fnV rfl rfl rfl hH29 (c49 (h0.now hH29 (n := 2) rfl) (by omega) (by omega) (by omega)) (fun w34 hH35 => ?_)
                        refine ops_nil ?_
                        refine ⟨trivial, ?_⟩
                        refine any_all [5] (by kernel_rfl) rfl ?_
                        refine ⟨⟨_, rfl, ?_⟩, trivial⟩
                        · skip
                          refine ops_y hH35 rfl rfl (yv_load T.one2 rfl (fun _ hw => Rd.at (Heap.rdw T.el116_encI hw (n := 0) rfl) (i := (b : Int)) (by omega) (j := 0) rfl)) ?_
                          refine ops_nil ?_
                          refine ⟨trivial, ?_⟩
                          refine any_takes [9, 10] (by kernel_rfl) trivial _ _ _ (by kernel_rfl) ?_
                          refine qs_y rfl rfl (yv_add rfl rfl (by omega)) ?_
                          refine qs_y rfl rfl (yv_index T.sl116 rfl rfl (Heap.rdw T.el116_encI hH35 (n := 0) rfl).is (by omega)) ?_
                          refine qs_nil ?_
                          refine any_all [11] (by kernel_rfl) rfl ?_
                          refine ⟨⟨_, rfl, ?_⟩, trivial⟩
                          · skip
                            refine op_setE (n := 0) (i := (a : Int)) (k := 0) (us := [(.int .i64 ((nth A3 (b : Int)) + (S.at2 js (b : Int))))]) (z := (nth A3 (b : Int)) + (S.at2 js (b : Int))) T.el116_encI rfl rfl hH35 rfl (by omega) T.sz2 rfl rfl rfl (Nat.le_of_ble_eq_true rfl) (fun w36 hH37 => ?_)
                            refine ops_nil ?_
                            refine ⟨trivial, ?_⟩
                            refine any_done (by kernel_rfl) ?_
                            refine thn_n ?_
                            refine region ?_
                            refine ops_y hH37 rfl rfl (yv_assign rfl) ?_
                            refine ops_nil ?_
                            refine blk_n ?_
                            refine thn_n ?_
                            refine region ?_
                            refine ops_y hH37 rfl rfl (yv_move rfl) ?_
                            refine ops_y hH37 rfl rfl (yv_add rfl rfl (by omega)) ?_
                            refine ops_y hH37 rfl rfl (yv_assign rfl) ?_
                            refine ops_nil ?_
                            refine lp_n (b + 1, (A3.set (a : Int).toNat ((nth A3 (b : Int)) + (S.at2 js (b : Int)))), true, v_7, lo_7, hi_7) (Sub.cons rfl (Sub.cons rfl (Sub.cons rfl (Sub.cons rfl (Sub.cons rfl (Sub.cons rfl (Sub.cons rfl (Sub.cons rfl (Sub.nil _))))))))) ?_ ?_
                            · exact ⟨hH37, by omega, hP.relax hj (by omega) (by omega) ‹_› (by omega)⟩
                            · first | (dsimp only; omega) | (show _ < _; omega)
                    · skip
                      refine cond_f rfl (decide_eq_false hc26) ?_
                      refine skip ?_
                      refine blk_n ?_
                      refine thn_n ?_
                      refine region ?_
                      refine ops_y hH25 rfl rfl (yv_move rfl) ?_
                      refine ops_y hH25 rfl rfl (yv_add rfl rfl (by omega)) ?_
                      refine ops_y hH25 rfl rfl (yv_assign rfl) ?_
                      refine ops_nil ?_
                      refine lp_n (b + 1, A3, c3, v_7, lo_7, hi_7) (Sub.cons rfl (Sub.cons rfl (Sub.cons rfl (Sub.cons rfl (Sub.cons rfl (Sub.cons rfl (Sub.cons rfl (Sub.cons rfl (Sub.nil _))))))))) ?_ ?_
                      · exact ⟨hH25, by omega, hP.skip hj (by omega) (by omega) (fun h => by rcases h with ⟨h1, h2⟩; first | contradiction | omega)⟩
                      · first | (dsimp only; omega) | (show _ < _; omega)
                · skip
                  refine any_takes [5, 6, 7, 8, 9, 10, 11, 12, 13, 14, 15, 16, 17, 18] (by kernel_rfl) hH22 _ _ _ (by kernel_rfl) ?_
                  refine qs_no rfl rfl rfl (decide_eq_false hc23) rfl ?_
                  refine qs_no rfl rfl rfl (decide_eq_false hc23) rfl ?_
                  refine qs_no rfl rfl rfl (decide_eq_false hc23) rfl ?_
                  refine qs_no rfl rfl rfl (decide_eq_false hc23) rfl ?_
                  refine qs_no rfl rfl rfl (decide_eq_false hc23) rfl ?_
                  refine qs_no rfl rfl rfl (decide_eq_false hc23) rfl ?_
                  refine qs_no rfl rfl rfl (decide_eq_false hc23) rfl ?_
                  refine qs_no rfl rfl rfl (decide_eq_false hc23) rfl ?_
                  refine qs_no rfl rfl rfl (decide_eq_false hc23) rfl ?_
                  refine qs_no rfl rfl rfl (decide_eq_false hc23) rfl ?_
                  refine qs_no rfl rfl rfl (decide_eq_false hc23) rfl ?_
                  refine qs_no rfl rfl rfl (decide_eq_false hc23) rfl ?_
                  refine qs_no rfl rfl rfl (decide_eq_false hc23) rfl ?_
                  refine qs_y rfl rfl (yv_pick_f rfl (decide_eq_false hc23) rfl) ?_
                  refine qs_nil ?_
                  refine any_done (by kernel_rfl) ?_
                  refine thn_n ?_
                  refine cond_f rfl rfl ?_
                  refine skip ?_
                  refine blk_n ?_
                  refine thn_n ?_
                  refine region ?_
                  refine ops_y hH22 rfl rfl (yv_move rfl) ?_
                  refine ops_y hH22 rfl rfl (yv_add rfl rfl (by omega)) ?_
                  refine ops_y hH22 rfl rfl (yv_assign rfl) ?_
                  refine ops_nil ?_
                  refine lp_n (b + 1, A3, c3, v_7, lo_7, hi_7) (Sub.cons rfl (Sub.cons rfl (Sub.cons rfl (Sub.cons rfl (Sub.cons rfl (Sub.cons rfl (Sub.cons rfl (Sub.cons rfl (Sub.nil _))))))))) ?_ ?_
                  · exact ⟨hH22, by omega, hP.skip hj (by omega) (by omega) (fun h => by rcases h with ⟨h1, h2⟩; first | contradiction | omega)⟩
                  · first | (dsimp only; omega) | (show _ < _; omega)
            · skip
              refine cond_f rfl (decide_eq_false hc17) ?_
              refine exit ?_
              refine thn_x ?_
              refine lp_x ?_
              refine blk_here ?_
              refine blk_n ?_
              refine thn_n ?_
              refine region ?_
              refine ops_y hH16 rfl rfl (yv_move rfl) ?_
              refine ops_y hH16 rfl rfl (yv_add rfl rfl (by omega)) ?_
              refine ops_y hH16 rfl rfl (yv_assign rfl) ?_
              refine ops_nil ?_
              refine lp_n (a + 1, A3, c3, v_7, lo_7, hi_7) (Sub.cons rfl (Sub.cons rfl (Sub.cons rfl (Sub.cons rfl (Sub.cons rfl (Sub.cons rfl (Sub.cons rfl (Sub.nil _)))))))) ?_ ?_
              · exact ⟨hH16, by omega, hP.row hj (by omega) (by omega)⟩
              · first | (dsimp only; omega) | (show _ < _; omega)
        · skip
          refine cond_f rfl (decide_eq_false hc14) ?_
          refine exit ?_
          refine thn_x ?_
          refine lp_x ?_
          refine blk_here ?_
          refine thn_n ?_
          refine seq ?_
          refine region ?_
          refine ops_y hH13 rfl rfl (yv_move rfl) ?_
          refine ops_y hH13 rfl rfl (yv_not rfl) ?_
          refine ops_nil ?_
          refine thn_n ?_
          by_cases hc38 : (!c2) = true
          · skip
            have hcf : c2 = false := by simpa using hc38
            have hP0 : S.PI js B U F r a 0 false A2 := by rw [hcf] at hP; exact hP
            have hsol := hP0.sol (by omega)
            have hA := hP0.len
            refine cond_t rfl hc38 ?_
            refine seq ?_
            refine region ?_
            refine ops_y hH13 rfl rfl (yv_assign rfl) ?_
            refine ops_nil ?_
            refine thn_n ?_
            refine seq ?_
            refine seq ?_
            refine region ?_
            refine ops_y hH13 rfl rfl (yv_assign rfl) ?_
            refine ops_nil ?_
            refine thn_n ?_
            refine block ?_
            have hH39 := ow_nil (enc := encP) 73 2 hH13
            refine loop (S := Nat × Value × Nat × Nat) (fun (k, v_12, lo_12, hi_12) => [(13, (.int .i64 (k : Int))), (12, v_12), (0, v), (3, (.pointer (some ⟨b1, 0, none⟩))), (6, (.int .i64 (2 * (js.length : Int)))), (7, v_7), (8, (.int .i64 (r : Int)))]) (fun (k, v_12, lo_12, hi_12) w1 => Heap [ow lo_12 hi_12 73 2 encP v_12 (S.pairsTo A2 k), ow lo_7 hi_7 2 1 encI v_7 A2, bx b1 41 [vb, vt, vf], base w] w1 ∧ k ≤ js.length) (fun (k, v_12, lo_12, hi_12) => js.length - k) (0, (.slice none 0 0), w12.heap.size, w12.heap.size) (Sub.cons rfl (Sub.cons rfl (Sub.cons rfl (Sub.cons rfl (Sub.cons rfl (Sub.cons rfl (Sub.cons rfl (Sub.nil _)))))))) ?_ ?_
            · exact ⟨(Heap.recast (n := 0) hH39 rfl (rfl)), by omega⟩
            · rintro ⟨k, v_12, lo_12, hi_12⟩ w40 ⟨hH41, hk⟩
              show Holds _ _ _ _ _ [(13, (.int .i64 (k : Int))), (12, v_12), (0, v), (3, (.pointer (some ⟨b1, 0, none⟩))), (6, (.int .i64 (2 * (js.length : Int)))), (7, v_7), (8, (.int .i64 (r : Int)))] _ _
              refine seq ?_
              refine seq ?_
              refine region ?_
              refine ops_y hH41 rfl rfl (yv_move rfl) ?_
              refine ops_y hH41 rfl rfl (yv_move rfl) ?_
              refine ops_y hH41 rfl rfl (yv_len T.sl22 rfl (h0.now hH41 (n := 3) rfl).is) ?_
              refine ops_y hH41 rfl rfl (yv_lss rfl rfl) ?_
              refine ops_nil ?_
              refine thn_n ?_
              by_cases hc42 : (k : Int) < (js.length : Int)
              · skip
                refine cond_t rfl (decide_eq_true hc42) ?_
                refine skip ?_
                refine thn_n ?_
                refine seq ?_
                refine block ?_
                have hpl := S.pairsTo_length A2 k
                refine region_draw (fun w' => True) T.mixed (fun w43 hr44 => ?_)
                have hH45 := hH41.redrawn hr44
                refine any_takes [0, 1, 2, 3, 4, 6, 7, 8, 9, 10] (by kernel_rfl) trivial _ _ _ (by kernel_rfl) ?_
                refine qs_y rfl rfl (yv_move rfl) ?_
                refine qs_y rfl rfl (yv_move rfl) ?_
                refine qs_y rfl rfl (yv_move rfl) ?_
                refine qs_y rfl rfl (yv_mul rfl rfl (by omega)) ?_
                refine qs_y rfl rfl (yv_index T.sl116 rfl rfl (Heap.rdw T.el116_encI hH45 (n := 1) rfl).is (by omega)) ?_
                refine qs_y rfl rfl (yv_move rfl) ?_
                refine qs_y rfl rfl (yv_move rfl) ?_
                refine qs_y rfl rfl (yv_mul rfl rfl (by omega)) ?_
                refine qs_y rfl rfl (yv_add rfl rfl (by omega)) ?_
                refine qs_y rfl rfl (yv_index T.sl116 rfl rfl (Heap.rdw T.el116_encI hH45 (n := 1) rfl).is (by omega)) ?_
                refine qs_nil ?_
                refine any_all [5, 11] (by kernel_rfl) rfl ?_
                refine ⟨⟨_, rfl, ?_⟩, ⟨_, rfl, ?_⟩, trivial⟩
                · skip
                  refine ops_y hH45 rfl rfl (yv_load T.one2 rfl (fun _ hw => Rd.at (Heap.rdw T.el116_encI hw (n := 1) rfl) (i := 2 * (k : Int)) (by omega) (j := 0) rfl)) ?_
                  refine ops_nil ?_
                  refine ⟨trivial, ?_⟩
                  refine any_all [11] (by kernel_rfl) rfl ?_
                  refine ⟨⟨_, rfl, ?_⟩, trivial⟩
                  · skip
                    refine ops_y hH45 rfl rfl (yv_load T.one2 rfl (fun _ hw => Rd.at (Heap.rdw T.el116_encI hw (n := 1) rfl) (i := (2 * (k : Int)) + 1) (by omega) (j := 0) rfl)) ?_
                    refine ops_nil ?_
                    refine ⟨trivial, ?_⟩
                    refine any_takes [12] (by kernel_rfl) trivial _ _ _ (by kernel_rfl) ?_
                    refine qs_y rfl rfl (yv_build (v := (.agg #[(.int .i64 (nth A2 (2 * (k : Int)))), (.int .i64 (nth A2 ((2 * (k : Int)) + 1)))])) (us := [(0, (.int .i64 (nth A2 (2 * (k : Int))))), (1, (.int .i64 (nth A2 ((2 * (k : Int)) + 1))))]) (fun a ha => by simp [ha.ev (show ev _ (.tmp 77) = some _ from rfl), ha.ev (show ev _ (.tmp 83) = some _ from rfl)]) (fun w => by kernel_rfl)) ?_
                    refine qs_nil ?_
                    refine any_all [13] (by kernel_rfl) rfl ?_
                    refine ⟨⟨_, rfl, ?_⟩, trivial⟩
                    · skip
                      refine op_lit (us := [(0, (.agg #[(.int .i64 (nth A2 (2 * (k : Int)))), (.int .i64 (nth A2 ((2 * (k : Int)) + 1)))]))]) T.el23_encP [(nth A2 (2 * (k : Int)), nth A2 ((2 * (k : Int)) + 1))] rfl (by decide) rfl (fun a ha => by simp [ha.ev (show ev _ (.tmp 84) = some _ from rfl)]) (fun w => by kernel_rfl) hH45 (fun u46 lo48 hi49 w47 hH50 => ?_)
                      refine ops_nil ?_
                      refine ⟨trivial, ?_⟩
                      refine any_all [14] (by kernel_rfl) rfl ?_
                      refine ⟨⟨_, rfl, ?_⟩, trivial⟩
                      · skip
                        refine op_append (n := 1) T.el23_encP rfl rfl rfl hH50 rfl (Heap.rdw T.el23_encP hH50 (n := 0) rfl) (by first | omega | (simp only [List.length_append, List.length_cons, List.length_nil]; omega)) (fun u51 lo53 hi54 w52 hH55 => ?_)
                        refine ops_nil ?_
                        refine ⟨trivial, ?_⟩
                        refine any_takes [15] (by kernel_rfl) trivial _ _ _ (by kernel_rfl) ?_
                        refine qs_y rfl rfl (yv_assign rfl) ?_
                        refine qs_nil ?_
                        refine any_done (by kernel_rfl) ?_
                        refine blk_n ?_
                        refine thn_n ?_
                        refine region ?_
                        refine ops_y hH55 rfl rfl (yv_move rfl) ?_
                        refine ops_y hH55 rfl rfl (yv_add rfl rfl (by omega)) ?_
                        refine ops_y hH55 rfl rfl (yv_assign rfl) ?_
                        refine ops_nil ?_
                        have hH56 := (hH55.sub (List.Sublist.cons _ (List.Sublist.refl _)))
                        refine lp_n (k + 1, u51, lo53, hi54) (Sub.cons rfl (Sub.cons rfl (Sub.cons rfl (Sub.cons rfl (Sub.cons rfl (Sub.cons rfl (Sub.cons rfl (Sub.nil _)))))))) ?_ ?_
                        · exact ⟨(Heap.recast (n := 0) hH56 rfl (rfl)), by omega⟩
                        · first | (dsimp only; omega) | (show _ < _; omega)
                · skip
                  refine ops_y hH45 rfl rfl (yv_load T.one2 rfl (fun _ hw => Rd.at (Heap.rdw T.el116_encI hw (n := 1) rfl) (i := (2 * (k : Int)) + 1) (by omega) (j := 0) rfl)) ?_
                  refine ops_nil ?_
                  refine ⟨trivial, ?_⟩
                  refine any_all [5] (by kernel_rfl) rfl ?_
                  refine ⟨⟨_, rfl, ?_⟩, trivial⟩
                  · skip
                    refine ops_y hH45 rfl rfl (yv_load T.one2 rfl (fun _ hw => Rd.at (Heap.rdw T.el116_encI hw (n := 1) rfl) (i := 2 * (k : Int)) (by omega) (j := 0) rfl)) ?_
                    refine ops_nil ?_
                    refine ⟨trivial, ?_⟩
                    refine any_takes [12] (by kernel_rfl) trivial _ _ _ (by kernel_rfl) ?_
                    refine qs_y rfl rfl (yv_build (v := (.agg #[(.int .i64 (nth A2 (2 * (k : Int)))), (.int .i64 (nth A2 ((2 * (k : Int)) + 1)))])) (us := [(0, (.int .i64 (nth A2 (2 * (k : Int))))), (1, (.int .i64 (nth A2 ((2 * (k : Int)) + 1))))]) (fun a ha => by simp [ha.ev (show ev _ (.tmp 77) = some _ from rfl), ha.ev (show ev _ (.tmp 83) = some _ from rfl)]) (fun w => by kernel_rfl)) ?_
                    refine qs_nil ?_
                    refine any_all [13] (by kernel_rfl) rfl ?_
                    refine ⟨⟨_, rfl, ?_⟩, trivial⟩
                    · skip
                      refine op_lit (us := [(0, (.agg #[(.int .i64 (nth A2 (2 * (k : Int)))), (.int .i64 (nth A2 ((2 * (k : Int)) + 1)))]))]) T.el23_encP [(nth A2 (2 * (k : Int)), nth A2 ((2 * (k : Int)) + 1))] rfl (by decide) rfl (fun a ha => by simp [ha.ev (show ev _ (.tmp 84) = some _ from rfl)]) (fun w => by kernel_rfl) hH45 (fun u57 lo59 hi60 w58 hH61 => ?_)
                      refine ops_nil ?_
                      refine ⟨trivial, ?_⟩
                      refine any_all [14] (by kernel_rfl) rfl ?_
                      refine ⟨⟨_, rfl, ?_⟩, trivial⟩
                      · skip
                        refine op_append (n := 1) T.el23_encP rfl rfl rfl hH61 rfl (Heap.rdw T.el23_encP hH61 (n := 0) rfl) (by first | omega | (simp only [List.length_append, List.length_cons, List.length_nil]; omega)) (fun u62 lo64 hi65 w63 hH66 => ?_)
                        refine ops_nil ?_
                        refine ⟨trivial, ?_⟩
                        refine any_takes [15] (by kernel_rfl) trivial _ _ _ (by kernel_rfl) ?_
                        refine qs_y rfl rfl (yv_assign rfl) ?_
                        refine qs_nil ?_
                        refine any_done (by kernel_rfl) ?_
                        refine blk_n ?_
                        refine thn_n ?_
                        refine region ?_
                        refine ops_y hH66 rfl rfl (yv_move rfl) ?_
                        refine ops_y hH66 rfl rfl (yv_add rfl rfl (by omega)) ?_
                        refine ops_y hH66 rfl rfl (yv_assign rfl) ?_
                        refine ops_nil ?_
                        have hH67 := (hH66.sub (List.Sublist.cons _ (List.Sublist.refl _)))
                        refine lp_n (k + 1, u62, lo64, hi65) (Sub.cons rfl (Sub.cons rfl (Sub.cons rfl (Sub.cons rfl (Sub.cons rfl (Sub.cons rfl (Sub.cons rfl (Sub.nil _)))))))) ?_ ?_
                        · exact ⟨(Heap.recast (n := 0) hH67 rfl (rfl)), by omega⟩
                        · first | (dsimp only; omega) | (show _ < _; omega)
              · skip
                refine cond_f rfl (decide_eq_false hc42) ?_
                refine exit ?_
                refine thn_x ?_
                refine lp_x ?_
                refine blk_here ?_
                refine thn_n ?_
                refine seq ?_
                refine region ?_
                refine ops_y hH41 rfl rfl (yv_move rfl) ?_
                refine ops_y hH41 rfl rfl (yv_assign rfl) ?_
                refine ops_y hH41 rfl rfl (yv_assign rfl) ?_
                refine ops_nil ?_
                refine thn_n ?_
                refine ret ?_
                refine blk_r ?_
                refine thn_r ?_
                refine lp_r ?_
                refine blk_r ?_
                refine thn_r ?_
                have hH68 := (hH41.sub (List.Sublist.cons_cons _ (List.Sublist.cons _ (List.Sublist.cons _ (List.Sublist.refl _)))))
                refine fin (hH68.front (n := 1) rfl) (fun w' hf => (res2 rfl (show RV _ _ _ (.tmp 4) _ from rfl) (show RV _ _ _ (.tmp 5) _ from rfl))) (fun w' hf => ?_)
                first | (rw [S.playOf_none (hno (by omega))]; exact ⟨_, rfl, own_nil⟩) | (have hk2 : k = js.length := (by omega); subst hk2; rw [S.playOf_some hj (S.solP_pairs hsol)]; exact ⟨_, rfl, Heap.own hf (n := 0) rfl⟩)
          · skip
            have hct : c2 = true := by simpa using (Bool.eq_false_iff.2 hc38)
            have hPt : S.PI js B U F r a 0 true A2 := by rw [hct] at hP; exact hP
            refine cond_f rfl (Bool.eq_false_iff.2 hc38) ?_
            refine skip ?_
            refine blk_n ?_
            refine thn_n ?_
            refine region ?_
            refine ops_y hH13 rfl rfl (yv_move rfl) ?_
            refine ops_y hH13 rfl rfl (yv_add rfl rfl (by omega)) ?_
            refine ops_y hH13 rfl rfl (yv_assign rfl) ?_
            refine ops_nil ?_
            refine lp_n (r + 1, A2, v_7, lo_7, hi_7) (Sub.cons rfl (Sub.cons rfl (Sub.cons rfl (Sub.cons rfl (Sub.cons rfl (Sub.nil _)))))) ?_ ?_
            · exact ⟨hH13, ⟨by omega, hP.round hj (by omega)⟩, fun h => hPt.none (by omega)⟩
            · first | (dsimp only; omega) | (show _ < _; omega)
    · skip
      refine cond_f rfl (decide_eq_false hc11) ?_
      refine exit ?_
      refine thn_x ?_
      refine lp_x ?_
      refine blk_here ?_
      refine thn_n ?_
      refine seq ?_
      refine region ?_
      refine ops_y hH10 rfl rfl (yv_assign rfl) ?_
      refine ops_y hH10 rfl rfl (yv_assign rfl) ?_
      refine ops_nil ?_
      refine thn_n ?_
      refine ret ?_
      have hH69 := (hH10.sub (List.Sublist.cons _ (List.Sublist.cons _ (List.Sublist.refl _))))
      refine fin hH69 (fun w' hf => (res2 rfl (show RV _ _ _ (.tmp 4) _ from rfl) (show RV _ _ _ (.tmp 5) _ from rfl))) (fun w' hf => ?_)
      first | (rw [S.playOf_none (hno (by omega))]; exact ⟨_, rfl, own_nil⟩) | (have hk2 : k = js.length := (by omega); subst hk2; rw [S.playOf_some hj (S.solP_pairs hsol)]; exact ⟨_, rfl, Heap.own hf (n := 0) rfl⟩)

theorem c33 {v : Value} {js : List S.Pr} {vb vt vf : Value} {B U F : List Int} {w : World} (h0 : Rd encP 2 v js w) (hB : Rd encI 1 vb B w) (hT : Rd encI 1 vt U w) (hF : Rd encI 1 vf F w) (hn : js.length ≤ 1000000) (hBl : B.length ≤ 1000000) (hTl : U.length ≤ 1000000) (hFl : F.length ≤ 1000000)  :
    Fn Try.prog 33 [v, (.agg #[vb, vt, vf])].toArray w (fun u w => ∃ q, u = .tuple #[q, .int .i64 (S.play js B U F).2] ∧ Own 73 2 encP q (S.play js B U F).1 w) := by
  refine fn_of' (args := [v, (.agg #[vb, vt, vf])]) Try.func33 rfl (ent Try.func33 (by kernel_rfl) rfl) rfl rfl (fun hH => ?_)
  refine seq ?_
  refine region ?_
  refine op_box (us := [vb, vt, vf]) rfl rfl rfl hH (fun b1 w2 hH3 => ?_)
  refine ops_y hH3 rfl rfl (yv_assign rfl) ?_
  refine ops_y hH3 rfl rfl (yv_assign rfl) ?_
  refine ops_nil ?_
  refine thn_n ?_
  refine seq ?_
  refine seq ?_
  refine region ?_
  refine ops_y hH3 rfl rfl (yv_move rfl) ?_
  refine ops_y hH3 rfl rfl (yv_loadA (cs := [vb, vt, vf]) T.agg41 rfl rfl (fun _ hw => Heap.cellsw hw (n := 0) rfl (k := 0) rfl)) ?_
  refine op_fnV rfl rfl rfl hH3 (c35 (h0.now hH3 (n := 1) rfl) (hB.now hH3 (n := 1) rfl) (hT.now hH3 (n := 1) rfl) (hF.now hH3 (n := 1) rfl) (by omega) (by omega) (by omega) (by omega)) (fun w4 hH5 => ?_)
  refine ops_y hH5 rfl rfl (yv_neq rfl rfl) ?_
  refine ops_nil ?_
  refine thn_n ?_
  by_cases hc6 : (S.checkOrder js B U F) = 0
  · skip
    have hco : S.checkOrder js B U F = 0 := by omega
    obtain ⟨hj, hO⟩ := S.checkOrder_iff.1 hco
    have hO8 := hO
    obtain ⟨hlB, hlU, hlF, hOk⟩ := hO8
    have hl1 := hj.1
    have hl8 := hj.2.1
    refine cond_f rfl (not_decide_n hc6) ?_
    refine skip ?_
    refine thn_n ?_
    refine seq ?_
    refine region ?_
    refine ops_y hH5 rfl rfl (yv_move rfl) ?_
    refine ops_y hH5 rfl rfl (yv_loadA (cs := [vb, vt, vf]) T.agg41 rfl rfl (fun _ hw => Heap.cellsw hw (n := 0) rfl (k := 0) rfl)) ?_
    refine op_fn rfl rfl rfl hH5 (c45 (h0.now hH5 (n := 1) rfl) (hB.now hH5 (n := 1) rfl) (hT.now hH5 (n := 1) rfl) (hF.now hH5 (n := 1) rfl) hj hO) (fun u9 w7 lo10 hi11 hH8 hv12 => ?_)
    obtain ⟨p14, hu, -⟩ := hv12
    subst hu
    have hH13 := Heap.tup2 hH8 (n := 0) rfl
    refine ops_y hH13 rfl rfl (yv_move rfl) ?_
    refine ops_y hH13 rfl rfl (yv_extract rfl rfl) ?_
    refine ops_y hH13 rfl rfl (yv_extract rfl rfl) ?_
    refine ops_y hH13 rfl rfl (yv_assign rfl) ?_
    refine ops_y hH13 rfl rfl (yv_assign rfl) ?_
    refine ops_nil ?_
    refine thn_n ?_
    refine seq ?_
    refine seq ?_
    refine region ?_
    refine ops_y hH13 rfl rfl (yv_move rfl) ?_
    refine ops_y hH13 rfl rfl (yv_not rfl) ?_
    refine ops_nil ?_
    refine thn_n ?_
    by_cases hc15 : (!((S.playOf js B U F).isSome)) = true
    · skip
      refine cond_t rfl hc15 ?_
      refine seq ?_
      refine region ?_
      refine ops_y hH13 rfl rfl (yv_assign rfl) ?_
      refine ops_y hH13 rfl rfl (yv_assign rfl) ?_
      refine ops_nil ?_
      refine thn_n ?_
      refine ret ?_
      refine thn_r ?_
      have hH16 := (hH13.sub (List.Sublist.cons _ (List.Sublist.cons _ (List.Sublist.refl _))))
      refine fin hH16 (fun w' hf => (res2 rfl (show RV _ _ _ (.tmp 4) _ from rfl) (show RV _ _ _ (.tmp 5) _ from rfl))) (fun w' hf => ?_)
      first | (rw [S.pl1 (by assumption)]; exact ⟨_, rfl, own_nil⟩) | (rw [S.pl2 hco (by assumption)]; exact ⟨_, rfl, own_nil⟩) | (rw [S.pl3 hco (by assumption)]; exact ⟨_, rfl, Heap.own hf (n := 0) rfl⟩)
    · skip
      refine cond_f rfl (Bool.eq_false_iff.2 hc15) ?_
      refine skip ?_
      refine thn_n ?_
      refine seq ?_
      refine region ?_
      refine ops_y hH13 rfl rfl (yv_move rfl) ?_
      refine ops_y hH13 rfl rfl (yv_assign rfl) ?_
      refine ops_y hH13 rfl rfl (yv_assign rfl) ?_
      refine ops_nil ?_
      refine thn_n ?_
      refine ret ?_
      have hH17 := (hH13.sub (List.Sublist.cons_cons _ (List.Sublist.cons _ (List.Sublist.refl _))))
      refine fin (hH17.front (n := 1) rfl) (fun w' hf => (res2 rfl (show RV _ _ _ (.tmp 4) _ from rfl) (show RV _ _ _ (.tmp 5) _ from rfl))) (fun w' hf => ?_)
      first | (rw [S.pl1 (by assumption)]; exact ⟨_, rfl, own_nil⟩) | (rw [S.pl2 hco (by assumption)]; exact ⟨_, rfl, own_nil⟩) | (rw [S.pl3 hco (by assumption)]; exact ⟨_, rfl, Heap.own hf (n := 0) rfl⟩)
  · skip
    refine cond_t rfl (not_decide_t hc6) ?_
    refine seq ?_
    refine region ?_
    refine ops_y hH5 rfl rfl (yv_move rfl) ?_
    refine ops_y hH5 rfl rfl (yv_loadA (cs := [vb, vt, vf]) T.agg41 rfl rfl (fun _ hw => Heap.cellsw hw (n := 0) rfl (k := 0) rfl)) ?_
    refine op_fnV rfl rfl rfl hH5 (c35 (h0.now hH5 (n := 1) rfl) (hB.now hH5 (n := 1) rfl) (hT.now hH5 (n := 1) rfl) (hF.now hH5 (n := 1) rfl) (by omega) (by omega) (by omega) (by omega)) (fun w18 hH19 => ?_)
    refine ops_y hH19 rfl rfl (yv_assign rfl) ?_
    refine ops_y hH19 rfl rfl (yv_assign rfl) ?_
    refine ops_nil ?_
    refine thn_n ?_
    refine ret ?_
    refine thn_r ?_
    have hH20 := (hH19.sub (List.Sublist.cons _ (List.Sublist.refl _)))
    refine fin hH20 (fun w' hf => (res2 rfl (show RV _ _ _ (.tmp 4) _ from rfl) (show RV _ _ _ (.tmp 5) _ from rfl))) (fun w' hf => ?_)
    first | (rw [S.pl1 (by assumption)]; exact ⟨_, rfl, own_nil⟩) | (rw [S.pl2 hco (by assumption)]; exact ⟨_, rfl, own_nil⟩) | (rw [S.pl3 hco (by assumption)]; exact ⟨_, rfl, Heap.own hf (n := 0) rfl⟩)

theorem c38 {v : Value} {js : List S.Pr} {vb vt vf : Value} {B U F : List Int} {w : World} (h0 : Rd encP 2 v js w) (hB : Rd encI 1 vb B w) (hT : Rd encI 1 vt U w) (hF : Rd encI 1 vf F w) (hn : js.length ≤ 1000000) (hBl : B.length ≤ 1000000) (hTl : U.length ≤ 1000000) (hFl : F.length ≤ 1000000)  :
    Fn Try.prog 38 [v, (.agg #[vb, vt, vf])].toArray w (fun u _ => u = .int .i64 (S.circleError js B U F)) := by
  refine fn_of' (args := [v, (.agg #[vb, vt, vf])]) Try.func38 rfl (ent Try.func38 (by kernel_rfl) rfl) rfl rfl (fun hH => ?_)
  refine seq ?_
  refine region ?_
  refine op_box (us := [vb, vt, vf]) rfl rfl rfl hH (fun b1 w2 hH3 => ?_)
  refine ops_y hH3 rfl rfl (yv_assign rfl) ?_
  refine ops_nil ?_
  refine thn_n ?_
  refine seq ?_
  refine seq ?_
  refine region ?_
  refine ops_y hH3 rfl rfl (yv_move rfl) ?_
  refine ops_y hH3 rfl rfl (yv_loadA (cs := [vb, vt, vf]) T.agg41 rfl rfl (fun _ hw => Heap.cellsw hw (n := 0) rfl (k := 0) rfl)) ?_
  refine op_fnV rfl rfl rfl hH3 (c35 (h0.now hH3 (n := 1) rfl) (hB.now hH3 (n := 1) rfl) (hT.now hH3 (n := 1) rfl) (hF.now hH3 (n := 1) rfl) (by omega) (by omega) (by omega) (by omega)) (fun w4 hH5 => ?_)
  refine ops_y hH5 rfl rfl (yv_neq rfl rfl) ?_
  refine ops_nil ?_
  refine thn_n ?_
  by_cases hc6 : (S.checkOrder js B U F) = 0
  · skip
    have hco : S.checkOrder js B U F = 0 := by omega
    obtain ⟨hj, hO⟩ := S.checkOrder_iff.1 hco
    have hO8 := hO
    obtain ⟨hlB, hlU, hlF, hOk⟩ := hO8
    have hl1 := hj.1
    have hl8 := hj.2.1
    refine cond_f rfl (not_decide_n hc6) ?_
    refine skip ?_
    refine thn_n ?_
    refine seq ?_
    refine region ?_
    refine ops_y hH5 rfl rfl (yv_move rfl) ?_
    refine ops_y hH5 rfl rfl (yv_loadA (cs := [vb, vt, vf]) T.agg41 rfl rfl (fun _ hw => Heap.cellsw hw (n := 0) rfl (k := 0) rfl)) ?_
    refine op_fn rfl rfl rfl hH5 (c45 (h0.now hH5 (n := 1) rfl) (hB.now hH5 (n := 1) rfl) (hT.now hH5 (n := 1) rfl) (hF.now hH5 (n := 1) rfl) hj hO) (fun u9 w7 lo10 hi11 hH8 hv12 => ?_)
    obtain ⟨p14, hu, -⟩ := hv12
    subst hu
    have hH13 := Heap.tup2 hH8 (n := 0) rfl
    refine ops_y hH13 rfl rfl (yv_move rfl) ?_
    refine ops_y hH13 rfl rfl (yv_extract rfl rfl) ?_
    refine ops_y hH13 rfl rfl (yv_extract rfl rfl) ?_
    refine ops_y hH13 rfl rfl (yv_assign rfl) ?_
    refine ops_y hH13 rfl rfl (yv_assign rfl) ?_
    refine ops_nil ?_
    refine thn_n ?_
    refine seq ?_
    refine seq ?_
    refine region ?_
    refine ops_y hH13 rfl rfl (yv_move rfl) ?_
    refine ops_nil ?_
    refine thn_n ?_
    by_cases hc15 : (S.playOf js B U F).isSome = true
    · skip
      refine cond_t rfl hc15 ?_
      refine seq ?_
      refine region ?_
      refine ops_y hH13 rfl rfl (yv_assign rfl) ?_
      refine ops_nil ?_
      refine thn_n ?_
      refine ret ?_
      refine thn_r ?_
      have hH16 := (hH13.sub (List.Sublist.cons _ (List.Sublist.cons _ (List.Sublist.refl _))))
      refine fin hH16 (fun w' hf => (res1 rfl (show RV _ _ _ (.tmp 4) _ from rfl))) (fun w' hf => ?_)
      first | exact congrArg (Value.int .i64) (S.ce1 (by assumption)).symm | exact congrArg (Value.int .i64) (S.ce2 hco (by assumption)).symm | exact congrArg (Value.int .i64) (S.ce3 hco (by assumption)).symm
    · skip
      refine cond_f rfl (Bool.eq_false_iff.2 hc15) ?_
      refine skip ?_
      refine thn_n ?_
      refine seq ?_
      refine region ?_
      refine ops_y hH13 rfl rfl (yv_assign rfl) ?_
      refine ops_nil ?_
      refine thn_n ?_
      refine ret ?_
      have hH17 := (hH13.sub (List.Sublist.cons _ (List.Sublist.cons _ (List.Sublist.refl _))))
      refine fin hH17 (fun w' hf => (res1 rfl (show RV _ _ _ (.tmp 4) _ from rfl))) (fun w' hf => ?_)
      first | exact congrArg (Value.int .i64) (S.ce1 (by assumption)).symm | exact congrArg (Value.int .i64) (S.ce2 hco (by assumption)).symm | exact congrArg (Value.int .i64) (S.ce3 hco (by assumption)).symm
  · skip
    refine cond_t rfl (not_decide_t hc6) ?_
    refine seq ?_
    refine region ?_
    refine ops_y hH5 rfl rfl (yv_move rfl) ?_
    refine ops_y hH5 rfl rfl (yv_loadA (cs := [vb, vt, vf]) T.agg41 rfl rfl (fun _ hw => Heap.cellsw hw (n := 0) rfl (k := 0) rfl)) ?_
    refine op_fnV rfl rfl rfl hH5 (c35 (h0.now hH5 (n := 1) rfl) (hB.now hH5 (n := 1) rfl) (hT.now hH5 (n := 1) rfl) (hF.now hH5 (n := 1) rfl) (by omega) (by omega) (by omega) (by omega)) (fun w18 hH19 => ?_)
    refine ops_y hH19 rfl rfl (yv_assign rfl) ?_
    refine ops_nil ?_
    refine thn_n ?_
    refine ret ?_
    refine thn_r ?_
    have hH20 := (hH19.sub (List.Sublist.cons _ (List.Sublist.refl _)))
    refine fin hH20 (fun w' hf => (res1 rfl (show RV _ _ _ (.tmp 4) _ from rfl))) (fun w' hf => ?_)
    first | exact congrArg (Value.int .i64) (S.ce1 (by assumption)).symm | exact congrArg (Value.int .i64) (S.ce2 hco (by assumption)).symm | exact congrArg (Value.int .i64) (S.ce3 hco (by assumption)).symm

theorem c40 {v vc : Value} {js : List S.Pr} {c : List Int} {vb vt vf : Value} {B U F : List Int} {w : World} (h0 : Rd encP 2 v js w) (hB : Rd encI 1 vb B w) (hT : Rd encI 1 vt U w) (hF : Rd encI 1 vf F w) (hC : Rd encI 1 vc c w) (hn : js.length ≤ 1000000) (hBl : B.length ≤ 1000000) (hTl : U.length ≤ 1000000) (hFl : F.length ≤ 1000000) (hcl : c.length ≤ 1000000)  :
    Fn Try.prog 40 [v, (.agg #[vb, vt, vf]), vc].toArray w (fun u _ => u = .int .i64 (S.checkCircle js B U F c)) := by
  refine fn_of' (args := [v, (.agg #[vb, vt, vf]), vc]) Try.func40 rfl (ent Try.func40 (by kernel_rfl) rfl) rfl rfl (fun hH => ?_)
  refine seq ?_
  refine region ?_
  refine op_box (us := [vb, vt, vf]) rfl rfl rfl hH (fun b1 w2 hH3 => ?_)
  refine ops_y hH3 rfl rfl (yv_assign rfl) ?_
  refine ops_nil ?_
  refine thn_n ?_
  refine seq ?_
  refine seq ?_
  refine region ?_
  refine ops_y hH3 rfl rfl (yv_move rfl) ?_
  refine ops_y hH3 rfl rfl (yv_loadA (cs := [vb, vt, vf]) T.agg41 rfl rfl (fun _ hw => Heap.cellsw hw (n := 0) rfl (k := 0) rfl)) ?_
  refine op_fnV rfl rfl rfl hH3 (c35 (h0.now hH3 (n := 1) rfl) (hB.now hH3 (n := 1) rfl) (hT.now hH3 (n := 1) rfl) (hF.now hH3 (n := 1) rfl) (by omega) (by omega) (by omega) (by omega)) (fun w4 hH5 => ?_)
  refine ops_y hH5 rfl rfl (yv_neq rfl rfl) ?_
  refine ops_nil ?_
  refine thn_n ?_
  by_cases hc6 : (S.checkOrder js B U F) = 0
  · skip
    have hco : S.checkOrder js B U F = 0 := by omega
    obtain ⟨hj, hO⟩ := S.checkOrder_iff.1 hco
    have hO8 := hO
    obtain ⟨hlB, hlU, hlF, hOk⟩ := hO8
    have hl1 := hj.1
    have hl8 := hj.2.1
    refine cond_f rfl (not_decide_n hc6) ?_
    refine skip ?_
    refine thn_n ?_
    refine seq ?_
    refine seq ?_
    refine region ?_
    refine ops_y hH5 rfl rfl (yv_move rfl) ?_
    refine ops_y hH5 rfl rfl (yv_len T.sl39 rfl (hC.now hH5 (n := 1) rfl).is) ?_
    refine ops_y hH5 rfl rfl (yv_lss rfl rfl) ?_
    refine ops_y hH5 rfl rfl (yv_move rfl) ?_
    by_cases hc7 : (c.length : Int) < 2
    · skip
      refine guard_no rfl rfl (decide_eq_true hc7) rfl ?_
      refine guard_no rfl rfl (decide_eq_true hc7) rfl ?_
      refine guard_no rfl rfl (decide_eq_true hc7) rfl ?_
      refine guard_no rfl rfl (decide_eq_true hc7) rfl ?_
      refine guard_no rfl rfl (decide_eq_true hc7) rfl ?_
      refine guard_no rfl rfl (decide_eq_true hc7) rfl ?_
      refine ops_y hH5 rfl rfl (yv_pick_t rfl (decide_eq_true hc7) rfl) ?_
      refine ops_nil ?_
      refine thn_n ?_
      refine cond_t rfl rfl ?_
      refine seq ?_
      refine region ?_
      refine ops_y hH5 rfl rfl (yv_assign rfl) ?_
      refine ops_nil ?_
      refine thn_n ?_
      refine ret ?_
      refine thn_r ?_
      have hH8 := (hH5.sub (List.Sublist.cons _ (List.Sublist.refl _)))
      refine fin hH8 (fun w' hf => (res1 rfl (show RV _ _ _ (.tmp 6) _ from rfl))) (fun w' hf => ?_)
      first | exact congrArg (Value.int .i64) (S.cc1 (by assumption)).symm | exact congrArg (Value.int .i64) (S.cc2 hco (by omega)).symm | exact congrArg (Value.int .i64) (S.cc3 hco (by omega) hbad).symm | exact congrArg (Value.int .i64) (S.cc4 hco (by omega) hin hbad).symm | exact congrArg (Value.int .i64) (S.cc5 hco (by omega) hin (fun i hi => hcirc i (by omega))).symm
    · skip
      refine guard_yes rfl rfl (decide_eq_false hc7) ?_
      refine ops_y hH5 rfl rfl (yv_move rfl) ?_
      refine guard_yes rfl rfl (decide_eq_false hc7) ?_
      refine ops_y hH5 rfl rfl (yv_len T.sl39 rfl (hC.now hH5 (n := 1) rfl).is) ?_
      refine guard_yes rfl rfl (decide_eq_false hc7) ?_
      refine ops_y hH5 rfl rfl (yv_move rfl) ?_
      refine guard_yes rfl rfl (decide_eq_false hc7) ?_
      refine ops_y hH5 rfl rfl (yv_len T.sl22 rfl (h0.now hH5 (n := 1) rfl).is) ?_
      refine guard_yes rfl rfl (decide_eq_false hc7) ?_
      refine ops_y hH5 rfl rfl (yv_mul rfl rfl (by omega)) ?_
      refine guard_yes rfl rfl (decide_eq_false hc7) ?_
      refine ops_y hH5 rfl rfl (yv_gtr rfl rfl) ?_
      refine ops_y hH5 rfl rfl (yv_pick_f rfl (decide_eq_false hc7) rfl) ?_
      refine ops_nil ?_
      refine thn_n ?_
      by_cases hc9 : (2 * (js.length : Int)) < (c.length : Int)
      · skip
        refine cond_t rfl (decide_eq_true hc9) ?_
        refine seq ?_
        refine region ?_
        refine ops_y hH5 rfl rfl (yv_assign rfl) ?_
        refine ops_nil ?_
        refine thn_n ?_
        refine ret ?_
        refine thn_r ?_
        have hH10 := (hH5.sub (List.Sublist.cons _ (List.Sublist.refl _)))
        refine fin hH10 (fun w' hf => (res1 rfl (show RV _ _ _ (.tmp 6) _ from rfl))) (fun w' hf => ?_)
        first | exact congrArg (Value.int .i64) (S.cc1 (by assumption)).symm | exact congrArg (Value.int .i64) (S.cc2 hco (by omega)).symm | exact congrArg (Value.int .i64) (S.cc3 hco (by omega) hbad).symm | exact congrArg (Value.int .i64) (S.cc4 hco (by omega) hin hbad).symm | exact congrArg (Value.int .i64) (S.cc5 hco (by omega) hin (fun i hi => hcirc i (by omega))).symm
      · skip
        refine cond_f rfl (decide_eq_false hc9) ?_
        refine skip ?_
        refine thn_n ?_
        refine seq ?_
        refine seq ?_
        refine region ?_
        refine ops_y hH5 rfl rfl (yv_assign rfl) ?_
        refine ops_nil ?_
        refine thn_n ?_
        refine block ?_
        refine loop (S := Nat) (fun k => [(7, (.int .i64 (k : Int))), (0, v), (2, vc), (4, (.pointer (some ⟨b1, 0, none⟩)))]) (fun k w1 => Heap [bx b1 41 [vb, vt, vf], base w] w1 ∧ k ≤ c.length ∧ ∀ i, i < k → 0 ≤ nth c (i : Int) ∧ nth c (i : Int) < 2 * (js.length : Int)) (fun k => c.length - k) (0) (Sub.cons rfl (Sub.cons rfl (Sub.cons rfl (Sub.cons rfl (Sub.nil _))))) ?_ ?_
        · exact ⟨hH5, by omega, S.all_zero⟩
        · rintro k w11 ⟨hH12, hk, hall⟩
          show Holds _ _ _ _ _ [(7, (.int .i64 (k : Int))), (0, v), (2, vc), (4, (.pointer (some ⟨b1, 0, none⟩)))] _ _
          refine seq ?_
          refine seq ?_
          refine region ?_
          refine ops_y hH12 rfl rfl (yv_move rfl) ?_
          refine ops_y hH12 rfl rfl (yv_move rfl) ?_
          refine ops_y hH12 rfl rfl (yv_len T.sl39 rfl (hC.now hH12 (n := 1) rfl).is) ?_
          refine ops_y hH12 rfl rfl (yv_lss rfl rfl) ?_
          refine ops_nil ?_
          refine thn_n ?_
          by_cases hc13 : (k : Int) < (c.length : Int)
          · skip
            refine cond_t rfl (decide_eq_true hc13) ?_
            refine skip ?_
            refine thn_n ?_
            refine seq ?_
            refine block ?_
            refine seq ?_
            refine region ?_
            refine ops_y hH12 rfl rfl (yv_move rfl) ?_
            refine ops_y hH12 rfl rfl (yv_move rfl) ?_
            refine ops_y hH12 rfl rfl (yv_index T.sl39 rfl rfl (hC.now hH12 (n := 1) rfl).is (by omega)) ?_
            refine ops_y hH12 rfl rfl (yv_load T.one3 rfl (fun _ hw => Rd.at (hC.now hw (n := 1) rfl) (i := (k : Int)) (by omega) (j := 0) rfl)) ?_
            refine ops_y hH12 rfl rfl (yv_lss rfl rfl) ?_
            refine ops_y hH12 rfl rfl (yv_move rfl) ?_
            by_cases hc14 : (nth c (k : Int)) < 0
            · skip
              have hbad : ¬ S.InC js.length c := fun h => absurd (h k (by omega)) (by omega)
              refine guard_no rfl rfl (decide_eq_true hc14) rfl ?_
              refine guard_no rfl rfl (decide_eq_true hc14) rfl ?_
              refine guard_no rfl rfl (decide_eq_true hc14) rfl ?_
              refine guard_no rfl rfl (decide_eq_true hc14) rfl ?_
              refine guard_no rfl rfl (decide_eq_true hc14) rfl ?_
              refine guard_no rfl rfl (decide_eq_true hc14) rfl ?_
              refine guard_no rfl rfl (decide_eq_true hc14) rfl ?_
              refine guard_no rfl rfl (decide_eq_true hc14) rfl ?_
              refine ops_y hH12 rfl rfl (yv_pick_t rfl (decide_eq_true hc14) rfl) ?_
              refine ops_nil ?_
              refine thn_n ?_
              refine cond_t rfl rfl ?_
              refine seq ?_
              refine region ?_
              refine ops_y hH12 rfl rfl (yv_assign rfl) ?_
              refine ops_nil ?_
              refine thn_n ?_
              refine ret ?_
              refine blk_r ?_
              refine thn_r ?_
              refine lp_r ?_
              refine blk_r ?_
              refine thn_r ?_
              have hH15 := (hH12.sub (List.Sublist.cons _ (List.Sublist.refl _)))
              refine fin hH15 (fun w' hf => (res1 rfl (show RV _ _ _ (.tmp 6) _ from rfl))) (fun w' hf => ?_)
              first | exact congrArg (Value.int .i64) (S.cc1 (by assumption)).symm | exact congrArg (Value.int .i64) (S.cc2 hco (by omega)).symm | exact congrArg (Value.int .i64) (S.cc3 hco (by omega) hbad).symm | exact congrArg (Value.int .i64) (S.cc4 hco (by omega) hin hbad).symm | exact congrArg (Value.int .i64) (S.cc5 hco (by omega) hin (fun i hi => hcirc i (by omega))).symm
            · skip
              refine guard_yes rfl rfl (decide_eq_false hc14) ?_
              refine ops_y hH12 rfl rfl (yv_move rfl) ?_
              refine guard_yes rfl rfl (decide_eq_false hc14) ?_
              refine ops_y hH12 rfl rfl (yv_move rfl) ?_
              refine guard_yes rfl rfl (decide_eq_false hc14) ?_
              refine ops_y hH12 rfl rfl (yv_index T.sl39 rfl rfl (hC.now hH12 (n := 1) rfl).is (by omega)) ?_
              refine guard_yes rfl rfl (decide_eq_false hc14) ?_
              refine ops_y hH12 rfl rfl (yv_load T.one3 rfl (fun _ hw => Rd.at (hC.now hw (n := 1) rfl) (i := (k : Int)) (by omega) (j := 0) rfl)) ?_
              refine guard_yes rfl rfl (decide_eq_false hc14) ?_
              refine ops_y hH12 rfl rfl (yv_move rfl) ?_
              refine guard_yes rfl rfl (decide_eq_false hc14) ?_
              refine ops_y hH12 rfl rfl (yv_len T.sl22 rfl (h0.now hH12 (n := 1) rfl).is) ?_
              refine guard_yes rfl rfl (decide_eq_false hc14) ?_
              refine ops_y hH12 rfl rfl (yv_mul rfl rfl (by omega)) ?_
              refine guard_yes rfl rfl (decide_eq_false hc14) ?_
              refine ops_y hH12 rfl rfl (yv_geq rfl rfl) ?_
              refine ops_y hH12 rfl rfl (yv_pick_f rfl (decide_eq_false hc14) rfl) ?_
              refine ops_nil ?_
              refine thn_n ?_
              by_cases hc16 : (2 * (js.length : Int)) ≤ (nth c (k : Int))
              · skip
                have hbad : ¬ S.InC js.length c := fun h => absurd (h k (by omega)) (by omega)
                refine cond_t rfl (decide_eq_true hc16) ?_
                refine seq ?_
                refine region ?_
                refine ops_y hH12 rfl rfl (yv_assign rfl) ?_
                refine ops_nil ?_
                refine thn_n ?_
                refine ret ?_
                refine blk_r ?_
                refine thn_r ?_
                refine lp_r ?_
                refine blk_r ?_
                refine thn_r ?_
                have hH17 := (hH12.sub (List.Sublist.cons _ (List.Sublist.refl _)))
                refine fin hH17 (fun w' hf => (res1 rfl (show RV _ _ _ (.tmp 6) _ from rfl))) (fun w' hf => ?_)
                first | exact congrArg (Value.int .i64) (S.cc1 (by assumption)).symm | exact congrArg (Value.int .i64) (S.cc2 hco (by omega)).symm | exact congrArg (Value.int .i64) (S.cc3 hco (by omega) hbad).symm | exact congrArg (Value.int .i64) (S.cc4 hco (by omega) hin hbad).symm | exact congrArg (Value.int .i64) (S.cc5 hco (by omega) hin (fun i hi => hcirc i (by omega))).symm
              · skip
                refine cond_f rfl (decide_eq_false hc16) ?_
                refine skip ?_
                refine blk_n ?_
                refine thn_n ?_
                refine region ?_
                refine ops_y hH12 rfl rfl (yv_move rfl) ?_
                refine ops_y hH12 rfl rfl (yv_add rfl rfl (by omega)) ?_
                refine ops_y hH12 rfl rfl (yv_assign rfl) ?_
                refine ops_nil ?_
                refine lp_n (k + 1) (Sub.cons rfl (Sub.cons rfl (Sub.cons rfl (Sub.cons rfl (Sub.nil _))))) ?_ ?_
                · exact ⟨hH12, by omega, S.all_snoc hall (by omega)⟩
                · first | (dsimp only; omega) | (show _ < _; omega)
          · skip
            have hin : S.InC js.length c := fun i hi => hall i (by omega)
            refine cond_f rfl (decide_eq_false hc13) ?_
            refine exit ?_
            refine thn_x ?_
            refine lp_x ?_
            refine blk_here ?_
            refine thn_n ?_
            refine seq ?_
            refine region ?_
            refine ops_y hH12 rfl rfl (yv_move rfl) ?_
            refine ops_y hH12 rfl rfl (yv_move rfl) ?_
            refine ops_y hH12 rfl rfl (yv_len T.sl39 rfl (hC.now hH12 (n := 1) rfl).is) ?_
            refine ops_y hH12 rfl rfl (yv_sub rfl rfl (by omega)) ?_
            refine ops_y hH12 rfl rfl (yv_index T.sl39 rfl rfl (hC.now hH12 (n := 1) rfl).is (by omega)) ?_
            refine ops_y hH12 rfl rfl (yv_load T.one3 rfl (fun _ hw => Rd.at (hC.now hw (n := 1) rfl) (i := (c.length : Int) - 1) (by omega) (j := 0) rfl)) ?_
            refine ops_y hH12 rfl rfl (yv_assign rfl) ?_
            refine ops_nil ?_
            refine thn_n ?_
            refine seq ?_
            refine seq ?_
            refine region ?_
            refine ops_y hH12 rfl rfl (yv_assign rfl) ?_
            refine ops_nil ?_
            refine thn_n ?_
            refine block ?_
            refine loop (S := Nat) (fun k => [(9, (.int .i64 (k : Int))), (8, (.int .i64 (S.prev c k))), (2, vc), (4, (.pointer (some ⟨b1, 0, none⟩)))]) (fun k w1 => Heap [bx b1 41 [vb, vt, vf], base w] w1 ∧ k ≤ c.length ∧ ∀ i, i < k → S.Waits B U F (nth c (i : Int)) (S.prev c i)) (fun k => c.length - k) (0) (Sub.cons rfl (Sub.cons rfl (Sub.cons rfl (Sub.cons rfl (Sub.nil _))))) ?_ ?_
            · exact ⟨hH12, by omega, S.all_zero⟩
            · rintro k w18 ⟨hH19, hk, hcirc⟩
              show Holds _ _ _ _ _ [(9, (.int .i64 (k : Int))), (8, (.int .i64 (S.prev c k))), (2, vc), (4, (.pointer (some ⟨b1, 0, none⟩)))] _ _
              refine seq ?_
              refine seq ?_
              refine region ?_
              refine ops_y hH19 rfl rfl (yv_move rfl) ?_
              refine ops_y hH19 rfl rfl (yv_move rfl) ?_
              refine ops_y hH19 rfl rfl (yv_len T.sl39 rfl (hC.now hH19 (n := 1) rfl).is) ?_
              refine ops_y hH19 rfl rfl (yv_lss rfl rfl) ?_
              refine ops_nil ?_
              refine thn_n ?_
              by_cases hc20 : (k : Int) < (c.length : Int)
              · skip
                refine cond_t rfl (decide_eq_true hc20) ?_
                refine skip ?_
                refine thn_n ?_
                refine seq ?_
                refine block ?_
                refine seq ?_
                refine seq ?_
                have hpi := S.prev_in hin (by omega) (i := k) (by omega)
                have hci := hin k (by omega)
                refine region_draw (fun w' => Heap [bx b1 41 [vb, vt, vf], base w] w') T.mixed (fun w21 hr22 => ?_)
                have hH23 := hH19.redrawn hr22
                refine any_takes [0, 1, 2, 3, 4, 5] (by kernel_rfl) hH23 _ _ _ (by kernel_rfl) ?_
                refine qs_y rfl rfl (yv_loadA (cs := [vb, vt, vf]) T.agg41 rfl rfl (fun _ hw => Heap.cellsw hw (n := 0) rfl (k := 0) rfl)) ?_
                refine qs_y rfl rfl (yv_move rfl) ?_
                refine qs_y rfl rfl (yv_move rfl) ?_
                refine qs_y rfl rfl (yv_index T.sl39 rfl rfl (hC.now hH23 (n := 1) rfl).is (by omega)) ?_
                refine qs_y rfl rfl (yv_load T.one3 rfl (fun _ hw => Rd.at (hC.now hw (n := 1) rfl) (i := (k : Int)) (by omega) (j := 0) rfl)) ?_
                refine qs_y rfl rfl (yv_move rfl) ?_
                refine qs_nil ?_
                refine any_all [6] (by kernel_rfl) rfl ?_
                refine ⟨⟨_, rfl, ?_⟩, trivial⟩
                · skip
                  refine op_fnV rfl rfl rfl hH23 (c48 (hB.now hH23 (n := 1) rfl) (hT.now hH23 (n := 1) rfl) (hF.now hH23 (n := 1) rfl) (by omega) (by omega) (by omega) (by omega) (by omega) (by omega) (by omega)) (fun w24 hH25 => ?_)
                  refine ops_nil ?_
                  refine ⟨hH25, ?_⟩
                  refine any_takes [7] (by kernel_rfl) hH25 _ _ _ (by kernel_rfl) ?_
                  refine qs_y rfl rfl (yv_not rfl) ?_
                  refine qs_nil ?_
                  refine any_done (by kernel_rfl) ?_
                  refine thn_n ?_
                  by_cases hc26 : S.Waits B U F (nth c (k : Int)) (S.prev c k)
                  · skip
                    refine cond_f rfl (not_decide_n hc26) ?_
                    refine skip ?_
                    refine thn_n ?_
                    refine region ?_
                    refine ops_y hH25 rfl rfl (yv_move rfl) ?_
                    refine ops_y hH25 rfl rfl (yv_move rfl) ?_
                    refine ops_y hH25 rfl rfl (yv_index T.sl39 rfl rfl (hC.now hH25 (n := 1) rfl).is (by omega)) ?_
                    refine ops_y hH25 rfl rfl (yv_load T.one3 rfl (fun _ hw => Rd.at (hC.now hw (n := 1) rfl) (i := (k : Int)) (by omega) (j := 0) rfl)) ?_
                    refine ops_y hH25 rfl rfl (yv_assign rfl) ?_
                    refine ops_nil ?_
                    refine blk_n ?_
                    refine thn_n ?_
                    refine region ?_
                    refine ops_y hH25 rfl rfl (yv_move rfl) ?_
                    refine ops_y hH25 rfl rfl (yv_add rfl rfl (by omega)) ?_
                    refine ops_y hH25 rfl rfl (yv_assign rfl) ?_
                    refine ops_nil ?_
                    refine lp_n (k + 1) (Sub.cons rfl (Sub.cons (by rw [S.prev_succ]; rfl) (Sub.cons rfl (Sub.cons rfl (Sub.nil _))))) ?_ ?_
                    · exact ⟨hH25, by omega, S.all_snoc hcirc ‹_›⟩
                    · first | (dsimp only; omega) | (show _ < _; omega)
                  · skip
                    have hbad : ¬ S.Circ B U F c := fun h => absurd (h k (by omega)) ‹_›
                    refine cond_t rfl (not_decide_t hc26) ?_
                    refine seq ?_
                    refine region ?_
                    refine ops_y hH25 rfl rfl (yv_assign rfl) ?_
                    refine ops_nil ?_
                    refine thn_n ?_
                    refine ret ?_
                    refine thn_r ?_
                    refine blk_r ?_
                    refine thn_r ?_
                    refine lp_r ?_
                    refine blk_r ?_
                    refine thn_r ?_
                    have hH27 := (hH25.sub (List.Sublist.cons _ (List.Sublist.refl _)))
                    refine fin hH27 (fun w' hf => (res1 rfl (show RV _ _ _ (.tmp 6) _ from rfl))) (fun w' hf => ?_)
                    first | exact congrArg (Value.int .i64) (S.cc1 (by assumption)).symm | exact congrArg (Value.int .i64) (S.cc2 hco (by omega)).symm | exact congrArg (Value.int .i64) (S.cc3 hco (by omega) hbad).symm | exact congrArg (Value.int .i64) (S.cc4 hco (by omega) hin hbad).symm | exact congrArg (Value.int .i64) (S.cc5 hco (by omega) hin (fun i hi => hcirc i (by omega))).symm
              · skip
                refine cond_f rfl (decide_eq_false hc20) ?_
                refine exit ?_
                refine thn_x ?_
                refine lp_x ?_
                refine blk_here ?_
                refine thn_n ?_
                refine seq ?_
                refine region ?_
                refine ops_y hH19 rfl rfl (yv_assign rfl) ?_
                refine ops_nil ?_
                refine thn_n ?_
                refine ret ?_
                have hH28 := (hH19.sub (List.Sublist.cons _ (List.Sublist.refl _)))
                refine fin hH28 (fun w' hf => (res1 rfl (show RV _ _ _ (.tmp 6) _ from rfl))) (fun w' hf => ?_)
                first | exact congrArg (Value.int .i64) (S.cc1 (by assumption)).symm | exact congrArg (Value.int .i64) (S.cc2 hco (by omega)).symm | exact congrArg (Value.int .i64) (S.cc3 hco (by omega) hbad).symm | exact congrArg (Value.int .i64) (S.cc4 hco (by omega) hin hbad).symm | exact congrArg (Value.int .i64) (S.cc5 hco (by omega) hin (fun i hi => hcirc i (by omega))).symm
  · skip
    refine cond_t rfl (not_decide_t hc6) ?_
    refine seq ?_
    refine region ?_
    refine ops_y hH5 rfl rfl (yv_move rfl) ?_
    refine ops_y hH5 rfl rfl (yv_loadA (cs := [vb, vt, vf]) T.agg41 rfl rfl (fun _ hw => Heap.cellsw hw (n := 0) rfl (k := 0) rfl)) ?_
    refine op_fnV rfl rfl rfl hH5 (c35 (h0.now hH5 (n := 1) rfl) (hB.now hH5 (n := 1) rfl) (hT.now hH5 (n := 1) rfl) (hF.now hH5 (n := 1) rfl) (by omega) (by omega) (by omega) (by omega)) (fun w29 hH30 => ?_)
    refine ops_y hH30 rfl rfl (yv_assign rfl) ?_
    refine ops_nil ?_
    refine thn_n ?_
    refine ret ?_
    refine thn_r ?_
    have hH31 := (hH30.sub (List.Sublist.cons _ (List.Sublist.refl _)))
    refine fin hH31 (fun w' hf => (res1 rfl (show RV _ _ _ (.tmp 6) _ from rfl))) (fun w' hf => ?_)
    first | exact congrArg (Value.int .i64) (S.cc1 (by assumption)).symm | exact congrArg (Value.int .i64) (S.cc2 hco (by omega)).symm | exact congrArg (Value.int .i64) (S.cc3 hco (by omega) hbad).symm | exact congrArg (Value.int .i64) (S.cc4 hco (by omega) hin hbad).symm | exact congrArg (Value.int .i64) (S.cc5 hco (by omega) hin (fun i hi => hcirc i (by omega))).symm

end Go.Fip
