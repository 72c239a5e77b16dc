/- Walks, by program (wip/tools). -/
import Derived.Test.YtlekkopaeiblfaaXf
set_option linter.unusedVariables false
set_option linter.unusedSimpArgs false
set_option linter.unusedSectionVars false
set_option linter.unnecessarySimpa false
namespace Go.Fip
open Go.Proofs Go.RowKit

set_option maxHeartbeats 4000000 in
theorem c12 {v vby : Value} {js : List S.Pr} {bs : List Int} {w : World} (h0 : Rd encP 2 v js w) (hby : Rd encB 1 vby bs w) (hbb : ∀ n ∈ bs, 0 ≤ n ∧ n ≤ 255)  :
    Fn Try.prog 12 [v, vby].toArray w (fun u _ => u = .bool true) := by
  refine fn_of' (args := [v, vby]) Try.func12 rfl (ent Try.func12 (by kernel_rfl) rfl) rfl rfl (fun hH => ?_)
  refine seq ?_
  refine region ?_
  refine ops_y hH rfl rfl (yv_assign rfl) ?_
  refine ops_nil ?_
  refine thn_n ?_
  refine seq ?_
  refine seq ?_
  by_cases hc1 : S.Jobs js
  · skip
    have hj : S.Jobs js := ‹_›
    have hl1 := hj.1
    have hl8 := hj.2.1
    have hc0 := S.checkJobs_iff.2 hj
    refine region ?_
    refine ops_y hH rfl rfl (yv_move rfl) ?_
    refine op_fnV rfl rfl rfl hH (c41c (h0.now hH (n := 0) rfl)) (fun w2 hH3 => ?_)
    refine ops_y hH3 rfl rfl (yv_castB (bnot_f (decide_eq_true hc1)) (yv_not rfl)) ?_
    refine ops_y hH3 rfl rfl (yv_move rfl) ?_
    refine guard_yes rfl rfl rfl ?_
    refine ops_y hH3 rfl rfl (yv_move rfl) ?_
    refine guard_yes rfl rfl rfl ?_
    refine ops_y hH3 rfl rfl (yv_len T.sl54 rfl (hby.now hH3 (n := 0) rfl).is) ?_
    refine guard_yes rfl rfl rfl ?_
    refine ops_y hH3 rfl rfl (yv_gtr rfl rfl) ?_
    refine ops_y hH3 rfl rfl (yv_pick_f rfl rfl rfl) ?_
    refine ops_nil ?_
    refine thn_n ?_
    by_cases hc4 : 60 < (bs.length : Int)
    · skip
      refine cond_t rfl (decide_eq_true hc4) ?_
      refine seq ?_
      refine region ?_
      refine op_fnV rfl rfl rfl hH3 (c17) (fun w5 hH6 => ?_)
      refine ops_y hH6 rfl rfl (yv_assign rfl) ?_
      refine ops_nil ?_
      refine thn_n ?_
      refine ret ?_
      refine thn_r ?_
      refine fin hH6 (fun w' hf => (res1 rfl (show RV _ _ _ (.tmp 4) _ from rfl))) (fun w' hf => ?_)
      rfl
    · skip
      refine cond_f rfl (decide_eq_false hc4) ?_
      refine skip ?_
      refine thn_n ?_
      refine seq ?_
      refine region ?_
      refine ops_y hH3 rfl rfl (yv_assign rfl) ?_
      refine ops_nil ?_
      refine thn_n ?_
      refine seq ?_
      refine seq ?_
      refine region ?_
      refine ops_y hH3 rfl rfl (yv_assign rfl) ?_
      refine ops_nil ?_
      refine thn_n ?_
      refine block ?_
      have hH7 := ow_nil (enc := encP) 71 2 hH3
      refine loop (S := Nat × Value × Nat × Nat) (fun (k, v_5, lo_5, hi_5) => [(6, (.int .i64 (k : Int))), (5, v_5), (0, v), (1, vby), (4, (.bool false))]) (fun (k, v_5, lo_5, hi_5) w1 => Heap [ow lo_5 hi_5 71 2 encP v_5 ((S.sw js).take k), base w] w1 ∧ k ≤ js.length) (fun (k, v_5, lo_5, hi_5) => js.length - k) (0, (.slice none 0 0), w2.heap.size, w2.heap.size) (Sub.cons rfl (Sub.cons rfl (Sub.cons rfl (Sub.cons rfl (Sub.cons rfl (Sub.nil _)))))) ?_ ?_
      · exact ⟨(Heap.recast (n := 0) hH7 rfl (rfl)), by omega⟩
      · rintro ⟨k, v_5, lo_5, hi_5⟩ w8 ⟨hH9, hk⟩
        show Holds _ _ _ _ _ [(6, (.int .i64 (k : Int))), (5, v_5), (0, v), (1, vby), (4, (.bool false))] _ _
        have hswl := S.sw_length js
        have htk : ((S.sw js).take k).length = k := by rw [List.length_take]; omega
        refine seq ?_
        refine seq ?_
        refine region ?_
        refine ops_y hH9 rfl rfl (yv_move rfl) ?_
        refine ops_y hH9 rfl rfl (yv_move rfl) ?_
        refine ops_y hH9 rfl rfl (yv_len T.sl22 rfl (h0.now hH9 (n := 1) rfl).is) ?_
        refine ops_y hH9 rfl rfl (yv_lss rfl rfl) ?_
        refine ops_nil ?_
        refine thn_n ?_
        by_cases hc10 : (k : Int) < (js.length : Int)
        · skip
          refine cond_t rfl (decide_eq_true hc10) ?_
          refine skip ?_
          refine thn_n ?_
          refine seq ?_
          refine block ?_
          refine region_draw (fun w' => Heap [base w] w') T.mixed (fun w11 hr12 => ?_)
          have hH13 := hH9.redrawn hr12
          refine any_takes [0, 1, 2, 3, 4, 5, 6, 7, 8, 9, 10, 11] (by kernel_rfl) (hH13.sub (List.Sublist.cons _ (List.Sublist.refl _))) _ _ _ (by kernel_rfl) ?_
          refine qs_y rfl rfl (yv_move rfl) ?_
          refine qs_y rfl rfl (yv_move rfl) ?_
          refine qs_y rfl rfl (yv_move rfl) ?_
          refine qs_y rfl rfl (yv_index T.sl22 rfl rfl (h0.now hH13 (n := 1) rfl).is (by omega)) ?_
          refine qs_y rfl rfl (yv_field T.f71_1 rfl) ?_
          refine qs_y rfl rfl (yv_load T.one2 rfl (fun _ hw => Rd.at (h0.now hw (n := 0) rfl) (i := (k : Int)) (by omega) (j := 1) rfl)) ?_
          refine qs_y rfl rfl (yv_move rfl) ?_
          refine qs_y rfl rfl (yv_move rfl) ?_
          refine qs_y rfl rfl (yv_index T.sl22 rfl rfl (h0.now hH13 (n := 1) rfl).is (by omega)) ?_
          refine qs_y rfl rfl (yv_field T.f71_0 rfl) ?_
          refine qs_y rfl rfl (yv_load T.one2 rfl (fun _ hw => Rd.at (h0.now hw (n := 0) rfl) (i := (k : Int)) (by omega) (j := 0) rfl)) ?_
          refine qs_y rfl rfl (yv_build (v := (.agg #[(.int .i64 ((nth js (k : Int)).2)), (.int .i64 ((nth js (k : Int)).1))])) (us := [(0, (.int .i64 ((nth js (k : Int)).2))), (1, (.int .i64 ((nth js (k : Int)).1)))]) (fun a ha => by simp [ha.ev (show ev _ (.tmp 45) = some _ from rfl), ha.ev (show ev _ (.tmp 50) = some _ from rfl)]) (fun w => by kernel_rfl)) ?_
          refine qs_nil ?_
          refine any_all [12] (by kernel_rfl) rfl ?_
          refine ⟨⟨_, rfl, ?_⟩, trivial⟩
          · skip
            refine op_lit (us := [(0, (.agg #[(.int .i64 ((nth js (k : Int)).2)), (.int .i64 ((nth js (k : Int)).1))]))]) T.el22_encP [((nth js (k : Int)).2, (nth js (k : Int)).1)] rfl (by decide) rfl (fun a ha => by simp [ha.ev (show ev _ (.tmp 51) = some _ from rfl)]) (fun w => by kernel_rfl) hH13 (fun u14 lo16 hi17 w15 hH18 => ?_)
            refine ops_nil ?_
            refine ⟨(hH18.sub (List.Sublist.cons _ (List.Sublist.cons _ (List.Sublist.refl _)))), ?_⟩
            refine any_all [13] (by kernel_rfl) rfl ?_
            refine ⟨⟨_, rfl, ?_⟩, trivial⟩
            · skip
              refine op_append (n := 1) T.el22_encP rfl rfl rfl hH18 rfl (Heap.rdw T.el22_encP hH18 (n := 0) rfl) (by first | omega | (simp only [List.length_append, List.length_cons, List.length_nil]; omega)) (fun u19 lo21 hi22 w20 hH23 => ?_)
              refine ops_nil ?_
              refine ⟨(hH23.sub (List.Sublist.cons _ (List.Sublist.cons _ (List.Sublist.refl _)))), ?_⟩
              refine any_takes [14] (by kernel_rfl) (hH23.sub (List.Sublist.cons _ (List.Sublist.cons _ (List.Sublist.refl _)))) _ _ _ (by kernel_rfl) ?_
              refine qs_y rfl rfl (yv_assign rfl) ?_
              refine qs_nil ?_
              refine any_done (by kernel_rfl) ?_
              refine blk_n ?_
              refine thn_n ?_
              refine region ?_
              refine ops_y hH23 rfl rfl (yv_move rfl) ?_
              refine ops_y hH23 rfl rfl (yv_add rfl rfl (by omega)) ?_
              refine ops_y hH23 rfl rfl (yv_assign rfl) ?_
              refine ops_nil ?_
              have hH24 := (hH23.sub (List.Sublist.cons _ (List.Sublist.refl _)))
              refine lp_n (k + 1, u19, lo21, hi22) (Sub.cons rfl (Sub.cons rfl (Sub.cons rfl (Sub.cons rfl (Sub.cons rfl (Sub.nil _)))))) ?_ ?_
              · exact ⟨(Heap.recast (n := 0) hH24 rfl (by rw [← S.nth_sw]; exact take_snoc (by rw [S.sw_length]; omega))), by omega⟩
              · first | (dsimp only; omega) | (show _ < _; omega)
        · skip
          refine cond_f rfl (decide_eq_false hc10) ?_
          refine exit ?_
          refine thn_x ?_
          refine lp_x ?_
          refine blk_here ?_
          refine thn_n ?_
          refine seq ?_
          have hk2 : k = js.length := by omega
          have hH25 := Heap.recast (n := 0) hH9 rfl (show _ = (S.sw js) from by rw [hk2, ← S.sw_length js, List.take_length])
          refine region ?_
          refine ops_y hH25 rfl rfl (yv_move rfl) ?_
          refine op_fn rfl rfl rfl hH25 (c42 (h0.now hH25 (n := 1) rfl) hj) (fun u28 w26 lo29 hi30 hH27 hv31 => ?_)
          obtain ⟨q32, p33, hu, ho35, hp36⟩ := hv31
          subst hu
          have hH34 := Heap.toOwAny hH27 (n := 0) rfl (fun w' h => by obtain ⟨_, ys, e, h, _⟩ := h; cases e; exact ⟨ys, h⟩) ho35
          refine ops_y hH34 rfl rfl (yv_move rfl) ?_
          refine ops_y hH34 rfl rfl (yv_extract rfl rfl) ?_
          refine ops_y hH34 rfl rfl (yv_extract rfl rfl) ?_
          refine ops_y hH34 rfl rfl (yv_extract rfl rfl) ?_
          refine ops_y hH34 rfl rfl (yv_assign rfl) ?_
          refine ops_y hH34 rfl rfl (yv_assign rfl) ?_
          refine ops_y hH34 rfl rfl (yv_assign rfl) ?_
          refine ops_nil ?_
          refine thn_n ?_
          refine seq ?_
          obtain ⟨q9, e9, hps, hpc⟩ := S.plan_ok hj
          rw [hp36] at e9
          obtain rfl : p33 = q9 := congrArg Prod.fst e9
          have hpn := hps.1
          have hpO := (S.planOrd_ok hj).1
          have hpT := hps.allT hj
          have hpR := hps.right hj hpO
          have hpE := congrArg Prod.fst ((hps.check hj hpO).symm.trans hpc)
          have hjs := hj.sw
          have hss := S.shortestOf_sw js
          have hb40 := (S.shortTo_bd hj js.length (Nat.le_refl _)).2
          have hb41 : S.shortestOf js ≤ 4000 := hb40
          have hb42 : 1 ≤ S.shortestOf js := (S.shortTo_bd hj js.length (Nat.le_refl _)).1
          refine region ?_
          refine ops_y hH34 rfl rfl (yv_move rfl) ?_
          refine op_fn rfl rfl rfl hH34 (c42 (Heap.rdw T.el22_encP hH34 (n := 1) rfl) hjs) (fun u39 w37 lo40 hi41 hH38 hv42 => ?_)
          obtain ⟨q43, p44, hu, ho46, hp47⟩ := hv42
          subst hu
          have hH45 := Heap.toOwAny hH38 (n := 0) rfl (fun w' h => by obtain ⟨_, ys, e, h, _⟩ := h; cases e; exact ⟨ys, h⟩) ho46
          refine ops_y hH45 rfl rfl (yv_move rfl) ?_
          refine ops_y hH45 rfl rfl (yv_extract rfl rfl) ?_
          refine ops_y hH45 rfl rfl (yv_extract rfl rfl) ?_
          refine ops_y hH45 rfl rfl (yv_extract rfl rfl) ?_
          refine ops_y hH45 rfl rfl (yv_assign rfl) ?_
          refine ops_y hH45 rfl rfl (yv_assign rfl) ?_
          refine ops_y hH45 rfl rfl (yv_assign rfl) ?_
          refine ops_nil ?_
          refine thn_n ?_
          refine seq ?_
          refine seq ?_
          refine region ?_
          refine ops_y hH45 rfl rfl (yv_move rfl) ?_
          refine ops_y hH45 rfl rfl (yv_not rfl) ?_
          refine ops_y hH45 rfl rfl (yv_move rfl) ?_
          refine guard_yes rfl rfl rfl ?_
          refine ops_y hH45 rfl rfl (yv_move rfl) ?_
          refine guard_yes rfl rfl rfl ?_
          refine ops_y hH45 rfl rfl (yv_not rfl) ?_
          refine ops_y hH45 rfl rfl (yv_pick_f rfl rfl rfl) ?_
          refine ops_y hH45 rfl rfl (yv_move rfl) ?_
          refine guard_yes rfl rfl rfl ?_
          refine ops_y hH45 rfl rfl (yv_move rfl) ?_
          refine guard_yes rfl rfl rfl ?_
          refine ops_y hH45 rfl rfl (yv_move rfl) ?_
          refine guard_yes rfl rfl rfl ?_
          refine ops_y hH45 rfl rfl (yv_neq rfl rfl) ?_
          refine ops_y hH45 rfl rfl (yv_pick_f rfl rfl rfl) ?_
          refine ops_nil ?_
          refine thn_n ?_
          have hc48 : ¬ (¬ ((S.shortestOf (S.sw js)) = (S.shortestOf js))) := by omega
          refine cond_f rfl (not_decide_f hc48) ?_
          refine skip ?_
          refine thn_n ?_
          refine seq ?_
          refine region ?_
          refine ops_y hH45 rfl rfl (yv_assign rfl) ?_
          refine ops_nil ?_
          refine thn_n ?_
          refine seq ?_
          refine seq ?_
          refine region ?_
          refine ops_y hH45 rfl rfl (yv_assign rfl) ?_
          refine ops_nil ?_
          refine thn_n ?_
          refine block ?_
          have hH49 := ow_nil (enc := encP) 73 2 hH45
          refine loop (S := Nat × Value × Nat × Nat) (fun (i, v_13, lo_13, hi_13) => [(14, (.int .i64 (i : Int))), (13, v_13), (0, v), (1, vby), (4, (.bool false)), (5, v_5), (7, (.int .i64 (S.shortestOf js))), (8, q32)]) (fun (i, v_13, lo_13, hi_13) w1 => Heap [ow lo_13 hi_13 73 2 encP v_13 ((S.back js p33 (S.shortestOf js)).take i), ow lo40 hi41 73 2 encP q43 p44, ow lo29 hi30 73 2 encP q32 p33, ow lo_5 hi_5 71 2 encP v_5 (S.sw js), base w] w1 ∧ i ≤ js.length) (fun (i, v_13, lo_13, hi_13) => js.length - i) (0, (.slice none 0 0), w37.heap.size, w37.heap.size) (Sub.cons rfl (Sub.cons rfl (Sub.cons rfl (Sub.cons rfl (Sub.cons rfl (Sub.cons rfl (Sub.cons rfl (Sub.cons rfl (Sub.nil _))))))))) ?_ ?_
          · exact ⟨(Heap.recast (n := 0) hH49 rfl (rfl)), by omega⟩
          · rintro ⟨i, v_13, lo_13, hi_13⟩ w50 ⟨hH51, hi⟩
            show Holds _ _ _ _ _ [(14, (.int .i64 (i : Int))), (13, v_13), (0, v), (1, vby), (4, (.bool false)), (5, v_5), (7, (.int .i64 (S.shortestOf js))), (8, q32)] _ _
            have hbl := S.back_length (l := js) (p := p33) (n := S.shortestOf js)
            have htb : ((S.back js p33 (S.shortestOf js)).take i).length = i := by rw [List.length_take]; omega
            refine seq ?_
            refine seq ?_
            refine region ?_
            refine ops_y hH51 rfl rfl (yv_move rfl) ?_
            refine ops_y hH51 rfl rfl (yv_move rfl) ?_
            refine ops_y hH51 rfl rfl (yv_len T.sl22 rfl (h0.now hH51 (n := 4) rfl).is) ?_
            refine ops_y hH51 rfl rfl (yv_lss rfl rfl) ?_
            refine ops_nil ?_
            refine thn_n ?_
            by_cases hc52 : (i : Int) < (js.length : Int)
            · skip
              refine cond_t rfl (decide_eq_true hc52) ?_
              refine skip ?_
              refine thn_n ?_
              refine seq ?_
              refine block ?_
              have hn1 := hj.nth (i := (i : Int)) (by omega) (by omega)
              have hn2 := hpT i (by omega)
              unfold S.okJob at hn1
              unfold S.okTime at hn2
              refine region_draw (fun w' => Heap [ow lo40 hi41 73 2 encP q43 p44, ow lo29 hi30 73 2 encP q32 p33, ow lo_5 hi_5 71 2 encP v_5 (S.sw js), base w] w') T.mixed (fun w53 hr54 => ?_)
              have hH55 := hH51.redrawn hr54
              refine any_takes [0, 1, 2, 3, 4, 5, 6, 7, 8, 9, 10, 11, 12, 13, 14, 15, 16, 17, 18, 19, 20, 21, 22, 23, 24, 25, 26, 27] (by kernel_rfl) (hH55.sub (List.Sublist.cons _ (List.Sublist.refl _))) _ _ _ (by kernel_rfl) ?_
              refine qs_y rfl rfl (yv_move rfl) ?_
              refine qs_y rfl rfl (yv_move rfl) ?_
              refine qs_y rfl rfl (yv_move rfl) ?_
              refine qs_y rfl rfl (yv_move rfl) ?_
              refine qs_y rfl rfl (yv_index T.sl23 rfl rfl (Heap.rdw T.el23_encP hH55 (n := 2) rfl).is (by omega)) ?_
              refine qs_y rfl rfl (yv_field T.f73_0 rfl) ?_
              refine qs_y rfl rfl (yv_load T.one2 rfl (fun _ hw => Rd.at (Heap.rdw T.el23_encP hw (n := 1) rfl) (i := (i : Int)) (by omega) (j := 0) rfl)) ?_
              refine qs_y rfl rfl (yv_sub rfl rfl (by omega)) ?_
              refine qs_y rfl rfl (yv_move rfl) ?_
              refine qs_y rfl rfl (yv_move rfl) ?_
              refine qs_y rfl rfl (yv_index T.sl22 rfl rfl (h0.now hH55 (n := 4) rfl).is (by omega)) ?_
              refine qs_y rfl rfl (yv_field T.f71_0 rfl) ?_
              refine qs_y rfl rfl (yv_load T.one2 rfl (fun _ hw => Rd.at (h0.now hw (n := 3) rfl) (i := (i : Int)) (by omega) (j := 0) rfl)) ?_
              refine qs_y rfl rfl (yv_sub rfl rfl (by omega)) ?_
              refine qs_y rfl rfl (yv_move rfl) ?_
              refine qs_y rfl rfl (yv_move rfl) ?_
              refine qs_y rfl rfl (yv_move rfl) ?_
              refine qs_y rfl rfl (yv_index T.sl23 rfl rfl (Heap.rdw T.el23_encP hH55 (n := 2) rfl).is (by omega)) ?_
              refine qs_y rfl rfl (yv_field T.f73_1 rfl) ?_
              refine qs_y rfl rfl (yv_load T.one2 rfl (fun _ hw => Rd.at (Heap.rdw T.el23_encP hw (n := 1) rfl) (i := (i : Int)) (by omega) (j := 1) rfl)) ?_
              refine qs_y rfl rfl (yv_sub rfl rfl (by omega)) ?_
              refine qs_y rfl rfl (yv_move rfl) ?_
              refine qs_y rfl rfl (yv_move rfl) ?_
              refine qs_y rfl rfl (yv_index T.sl22 rfl rfl (h0.now hH55 (n := 4) rfl).is (by omega)) ?_
              refine qs_y rfl rfl (yv_field T.f71_1 rfl) ?_
              refine qs_y rfl rfl (yv_load T.one2 rfl (fun _ hw => Rd.at (h0.now hw (n := 3) rfl) (i := (i : Int)) (by omega) (j := 1) rfl)) ?_
              refine qs_y rfl rfl (yv_sub rfl rfl (by omega)) ?_
              refine qs_y rfl rfl (yv_build (v := (.agg #[(.int .i64 (((S.shortestOf js) - ((nth p33 (i : Int)).1)) - ((nth js (i : Int)).1))), (.int .i64 (((S.shortestOf js) - ((nth p33 (i : Int)).2)) - ((nth js (i : Int)).2)))])) (us := [(0, (.int .i64 (((S.shortestOf js) - ((nth p33 (i : Int)).1)) - ((nth js (i : Int)).1)))), (1, (.int .i64 (((S.shortestOf js) - ((nth p33 (i : Int)).2)) - ((nth js (i : Int)).2))))]) (fun a ha => by simp [ha.ev (show ev _ (.tmp 96) = some _ from rfl), ha.ev (show ev _ (.tmp 109) = some _ from rfl)]) (fun w => by kernel_rfl)) ?_
              refine qs_nil ?_
              refine any_all [28] (by kernel_rfl) rfl ?_
              refine ⟨⟨_, rfl, ?_⟩, trivial⟩
              · skip
                refine op_lit (us := [(0, (.agg #[(.int .i64 (((S.shortestOf js) - ((nth p33 (i : Int)).1)) - ((nth js (i : Int)).1))), (.int .i64 (((S.shortestOf js) - ((nth p33 (i : Int)).2)) - ((nth js (i : Int)).2)))]))]) T.el23_encP [(((S.shortestOf js) - ((nth p33 (i : Int)).1)) - ((nth js (i : Int)).1), ((S.shortestOf js) - ((nth p33 (i : Int)).2)) - ((nth js (i : Int)).2))] rfl (by decide) rfl (fun a ha => by simp [ha.ev (show ev _ (.tmp 110) = some _ from rfl)]) (fun w => by kernel_rfl) hH55 (fun u56 lo58 hi59 w57 hH60 => ?_)
                refine ops_nil ?_
                refine ⟨(hH60.sub (List.Sublist.cons _ (List.Sublist.cons _ (List.Sublist.refl _)))), ?_⟩
                refine any_all [29] (by kernel_rfl) rfl ?_
                refine ⟨⟨_, rfl, ?_⟩, trivial⟩
                · skip
                  refine op_append (n := 1) T.el23_encP rfl rfl rfl hH60 rfl (Heap.rdw T.el23_encP hH60 (n := 0) rfl) (by first | omega | (simp only [List.length_append, List.length_cons, List.length_nil]; omega)) (fun u61 lo63 hi64 w62 hH65 => ?_)
                  refine ops_nil ?_
                  refine ⟨(hH65.sub (List.Sublist.cons _ (List.Sublist.cons _ (List.Sublist.refl _)))), ?_⟩
                  refine any_takes [30] (by kernel_rfl) (hH65.sub (List.Sublist.cons _ (List.Sublist.cons _ (List.Sublist.refl _)))) _ _ _ (by kernel_rfl) ?_
                  refine qs_y rfl rfl (yv_assign rfl) ?_
                  refine qs_nil ?_
                  refine any_done (by kernel_rfl) ?_
                  refine blk_n ?_
                  refine thn_n ?_
                  refine region ?_
                  refine ops_y hH65 rfl rfl (yv_move rfl) ?_
                  refine ops_y hH65 rfl rfl (yv_add rfl rfl (by omega)) ?_
                  refine ops_y hH65 rfl rfl (yv_assign rfl) ?_
                  refine ops_nil ?_
                  have hH66 := (hH65.sub (List.Sublist.cons _ (List.Sublist.refl _)))
                  refine lp_n (i + 1, u61, lo63, hi64) (Sub.cons rfl (Sub.cons rfl (Sub.cons rfl (Sub.cons rfl (Sub.cons rfl (Sub.cons rfl (Sub.cons rfl (Sub.cons rfl (Sub.nil _))))))))) ?_ ?_
                  · exact ⟨(Heap.recast (n := 0) hH66 rfl (by rw [← S.nth_back (by omega)]; exact take_snoc (by rw [S.back_length]; omega))), by omega⟩
                  · first | (dsimp only; omega) | (show _ < _; omega)
            · skip
              refine cond_f rfl (decide_eq_false hc52) ?_
              refine exit ?_
              refine thn_x ?_
              refine lp_x ?_
              refine blk_here ?_
              refine thn_n ?_
              refine seq ?_
              have hi2 : i = js.length := by omega
              have hH67 := Heap.recast (n := 0) hH51 rfl (show _ = (S.back js p33 (S.shortestOf js)) from by rw [hi2, ← S.back_length (l := js) (p := p33) (n := S.shortestOf js), List.take_length])
              obtain ⟨hbk, hbe⟩ := S.back_ok hj hpT hpn hpR (n := S.shortestOf js) hpE (by omega)
              have hbl := S.back_length (l := js) (p := p33) (n := S.shortestOf js)
              refine region ?_
              refine ops_y hH67 rfl rfl (yv_move rfl) ?_
              refine ops_y hH67 rfl rfl (yv_move rfl) ?_
              have hev70 : Fn Try.prog 44 [v, v_13].toArray _ _ := c44 (h0.now hH67 (n := 4) rfl) (Heap.rdw T.el23_encP hH67 (n := 0) rfl) (by omega) (by omega)
              simp only [hbk, decide_true] at hev70
              refine op_fnV rfl rfl rfl hH67 (hev70) (fun w68 hH69 => ?_)
              refine ops_y hH69 rfl rfl (yv_move rfl) ?_
              refine ops_y hH69 rfl rfl (yv_extract rfl rfl) ?_
              refine ops_y hH69 rfl rfl (yv_extract rfl rfl) ?_
              refine ops_y hH69 rfl rfl (yv_assign rfl) ?_
              refine ops_y hH69 rfl rfl (yv_assign rfl) ?_
              refine ops_nil ?_
              refine thn_n ?_
              refine seq ?_
              refine seq ?_
              refine region ?_
              refine ops_y hH69 rfl rfl (yv_move rfl) ?_
              refine ops_y hH69 rfl rfl (yv_not rfl) ?_
              refine ops_y hH69 rfl rfl (yv_move rfl) ?_
              refine guard_yes rfl rfl rfl ?_
              refine ops_y hH69 rfl rfl (yv_move rfl) ?_
              refine guard_yes rfl rfl rfl ?_
              refine ops_y hH69 rfl rfl (yv_move rfl) ?_
              refine guard_yes rfl rfl rfl ?_
              refine ops_y hH69 rfl rfl (yv_gtr rfl rfl) ?_
              refine ops_y hH69 rfl rfl (yv_pick_f rfl rfl rfl) ?_
              refine ops_nil ?_
              refine thn_n ?_
              have hc71 : ¬ ((S.shortestOf js) < (S.endOf js (S.back js p33 (S.shortestOf js)))) := by omega
              refine cond_f rfl (decide_eq_false hc71) ?_
              refine skip ?_
              refine thn_n ?_
              refine seq ?_
              have hO := S.ordered_ok (by_ := bs) js.length
              have hco := S.checkOrder_iff.2 ⟨hj, hO⟩
              have hoB : (S.ordB bs js.length).length = js.length := hO.1
              have hoU : (S.ordU bs js.length).length = js.length := hO.2.1
              have hoF : (S.ordF bs js.length).length = js.length := hO.2.2.1
              have hpl := S.play_len2 (l := js) (B := (S.ordB bs js.length)) (U := (S.ordU bs js.length)) (F := (S.ordF bs js.length))
              have hfl := S.flipF_length (F := S.ordF bs js.length)
              refine region ?_
              refine ops_y hH69 rfl rfl (yv_move rfl) ?_
              refine ops_y hH69 rfl rfl (yv_len T.sl22 rfl (h0.now hH69 (n := 4) rfl).is) ?_
              refine ops_y hH69 rfl rfl (yv_move rfl) ?_
              refine op_fn rfl rfl rfl hH69 (c43 (n := js.length) ((hby.now hH69 (n := 4) rfl)) (by omega) hbb (by omega)) (fun u74 w72 lo75 hi76 hH73 hv77 => ?_)
              obtain ⟨ob78, ot79, of80, hu, -⟩ := hv77
              subst hu
              have hH81 := Heap.rd3 hH73 (n := 0) rfl
              refine op_alloc (z := (.agg #[(.slice none 0 0), (.slice none 0 0), (.slice none 0 0)])) (us := [(.slice none 0 0), (.slice none 0 0), (.slice none 0 0)]) (fun _ => by kernel_rfl) rfl rfl hH81 (fun b82 w83 hH84 => ?_)
              refine op_store (n := 0) (j := 0) (us := [ob78, ot79, of80]) rfl rfl hH84 rfl T.sz41 rfl rfl rfl (all_one (SliceIs.one1 ((Heap.getRd3 hH84 (n := 1) rfl).1).is) (all_one (SliceIs.one1 ((Heap.getRd3 hH84 (n := 1) rfl).2.1).is) (all_one (SliceIs.one1 ((Heap.getRd3 hH84 (n := 1) rfl).2.2).is) rfl))) (fun w85 hH86 => ?_)
              refine ops_nil ?_
              refine thn_n ?_
              refine seq ?_
              refine region ?_
              refine ops_y hH86 rfl rfl (yv_field T.f41_1 rfl) ?_
              refine ops_y hH86 rfl rfl (yv_load T.one39 rfl (fun _ hw => Heap.cellw hw (n := 0) rfl rfl)) ?_
              refine ops_y hH86 rfl rfl (yv_field T.f41_0 rfl) ?_
              refine ops_y hH86 rfl rfl (yv_load T.one39 rfl (fun _ hw => Heap.cellw hw (n := 0) rfl rfl)) ?_
              obtain ⟨_, _, hb87, _⟩ := ((Heap.getRd3 hH86 (n := 1) rfl).2.1).is
              obtain ⟨_, _, hb88, _⟩ := ((Heap.getRd3 hH86 (n := 1) rfl).1).is
              refine ops_y hH86 rfl rfl (yv_build (v := (.agg #[ot79, ob78, (.slice none 0 0)])) (us := [(0, ot79), (1, ob78)]) (fun a ha => by simp [ha.ev (show ev _ (.tmp 131) = some _ from rfl), ha.ev (show ev _ (.tmp 133) = some _ from rfl)]) (fun w => by rw [hb87, hb88]; kernel_rfl)) ?_
              refine op_alloc (z := (.agg #[(.slice none 0 0), (.slice none 0 0), (.slice none 0 0)])) (us := [(.slice none 0 0), (.slice none 0 0), (.slice none 0 0)]) (fun _ => by kernel_rfl) rfl rfl hH86 (fun b89 w90 hH91 => ?_)
              refine op_store (n := 0) (j := 0) (us := [ot79, ob78, (.slice none 0 0)]) rfl rfl hH91 rfl T.sz41 rfl rfl rfl (all_one (SliceIs.one1 ((Heap.getRd3 hH91 (n := 2) rfl).2.1).is) (all_one (SliceIs.one1 ((Heap.getRd3 hH91 (n := 2) rfl).1).is) (all_one rfl rfl))) (fun w92 hH93 => ?_)
              refine ops_nil ?_
              refine thn_n ?_
              refine seq ?_
              refine seq ?_
              refine region ?_
              refine ops_y hH93 rfl rfl (yv_assign rfl) ?_
              refine ops_nil ?_
              refine thn_n ?_
              refine block ?_
              have hH94 := ow_nil (enc := encI) 3 1 hH93
              refine loop (S := Nat × Value × Nat × Nat) (fun (q, v_b18, lo_b18, hi_b18) => [(19, (.int .i64 (q : Int))), (0, v), (4, (.bool false)), (5, v_5), (17, (.pointer (some ⟨b82, 0, none⟩))), (18, (.pointer (some ⟨b89, 0, none⟩)))]) (fun (q, v_b18, lo_b18, hi_b18) w1 => Heap [ow lo_b18 hi_b18 3 1 encI v_b18 ((S.flipF (S.ordF bs js.length)).take q), bx b89 41 [ot79, ob78, v_b18], bx b82 41 [ob78, ot79, of80], ⟨lo75, hi76, Rd3 ob78 ot79 of80 (S.ordB bs js.length) (S.ordU bs js.length) (S.ordF bs js.length)⟩, ow lo_13 hi_13 73 2 encP v_13 (S.back js p33 (S.shortestOf js)), ow lo40 hi41 73 2 encP q43 p44, ow lo29 hi30 73 2 encP q32 p33, ow lo_5 hi_5 71 2 encP v_5 (S.sw js), base w] w1 ∧ q ≤ js.length) (fun (q, v_b18, lo_b18, hi_b18) => js.length - q) (0, (.slice none 0 0), w92.heap.size, w92.heap.size) (Sub.cons rfl (Sub.cons rfl (Sub.cons rfl (Sub.cons rfl (Sub.cons rfl (Sub.cons rfl (Sub.nil _))))))) ?_ ?_
              · exact ⟨hH94, by omega⟩
              · rintro ⟨q, v_b18, lo_b18, hi_b18⟩ w95 ⟨hH96, hq⟩
                show Holds _ _ _ _ _ [(19, (.int .i64 (q : Int))), (0, v), (4, (.bool false)), (5, v_5), (17, (.pointer (some ⟨b82, 0, none⟩))), (18, (.pointer (some ⟨b89, 0, none⟩)))] _ _
                have htq : ((S.flipF (S.ordF bs js.length)).take q).length = q := by rw [List.length_take]; omega
                refine seq ?_
                refine seq ?_
                refine region ?_
                refine ops_y hH96 rfl rfl (yv_move rfl) ?_
                refine ops_y hH96 rfl rfl (yv_move rfl) ?_
                refine ops_y hH96 rfl rfl (yv_len T.sl22 rfl (h0.now hH96 (n := 8) rfl).is) ?_
                refine ops_y hH96 rfl rfl (yv_lss rfl rfl) ?_
                refine ops_nil ?_
                refine thn_n ?_
                by_cases hc97 : (q : Int) < (js.length : Int)
                · skip
                  refine cond_t rfl (decide_eq_true hc97) ?_
                  refine skip ?_
                  refine thn_n ?_
                  refine seq ?_
                  refine block ?_
                  have hfo := S.ordF_ok (by_ := bs) js.length q (by omega)
                  refine region_drawX (fun w' => Heap [bx b89 41 [ot79, ob78, v_b18], bx b82 41 [ob78, ot79, of80], ⟨lo75, hi76, Rd3 ob78 ot79 of80 (S.ordB bs js.length) (S.ordU bs js.length) (S.ordF bs js.length)⟩, base w] w') [11] T.mixed (fun w98 hr99 => ?_)
                  have hH100 := hH96.redrawn hr99
                  refine any_takesX [0, 1, 2, 3, 4, 5, 6, 7] (by kernel_rfl) (hH100.sub (List.Sublist.cons _ (List.Sublist.cons_cons _ (List.Sublist.cons_cons _ (List.Sublist.cons_cons _ (List.Sublist.cons _ (List.Sublist.cons _ (List.Sublist.cons _ (List.Sublist.cons _ (List.Sublist.refl _)))))))))) _ _ _ (by kernel_rfl) ?_
                  refine qs_y rfl rfl (yv_field T.f41_2 rfl) ?_
                  refine qs_y rfl rfl (yv_load T.one39 rfl (fun _ hw => Heap.cellw hw (n := 0) rfl rfl)) ?_
                  refine qs_y rfl rfl (yv_field T.f41_2 rfl) ?_
                  refine qs_y rfl rfl (yv_load T.one39 rfl (fun _ hw => Heap.cellw hw (n := 1) rfl rfl)) ?_
                  refine qs_y rfl rfl (yv_move rfl) ?_
                  refine qs_y rfl rfl (yv_index T.sl39 rfl rfl ((Heap.getRd3 hH100 (n := 3) rfl).2.2).is (by omega)) ?_
                  refine qs_y rfl rfl (yv_load T.one3 rfl (fun _ hw => Rd.at ((Heap.getRd3 hw (n := 2) rfl).2.2) (i := (q : Int)) (by omega) (j := 0) rfl)) ?_
                  refine qs_y rfl rfl (yv_sub rfl rfl (by omega)) ?_
                  refine qs_nil ?_
                  refine any_allX [8] (by kernel_rfl) rfl ?_
                  refine ⟨⟨_, rfl, ?_⟩, trivial⟩
                  · skip
                    refine op_lit (us := [(0, (.int .i64 (1 - (nth (S.ordF bs js.length) (q : Int)))))]) T.el39_encI [1 - (nth (S.ordF bs js.length) (q : Int))] rfl (by decide) rfl (fun a ha => by simp [ha.ev (show ev _ (.tmp 148) = some _ from rfl)]) (fun w => by kernel_rfl) hH100 (fun u101 lo103 hi104 w102 hH105 => ?_)
                    refine ops_nil ?_
                    refine ⟨fun _ => (hH105.sub (List.Sublist.cons _ (List.Sublist.cons _ (List.Sublist.cons_cons _ (List.Sublist.cons_cons _ (List.Sublist.cons_cons _ (List.Sublist.cons _ (List.Sublist.cons _ (List.Sublist.cons _ (List.Sublist.cons _ (List.Sublist.refl _))))))))))), ?_⟩
                    refine any_allX [9] (by kernel_rfl) rfl ?_
                    refine ⟨⟨_, rfl, ?_⟩, trivial⟩
                    · skip
                      refine op_append (n := 1) T.el39_encI rfl rfl rfl hH105 rfl (Heap.rdw T.el39_encI hH105 (n := 0) rfl) (by first | omega | (simp only [List.length_append, List.length_cons, List.length_nil]; omega)) (fun u106 lo108 hi109 w107 hH110 => ?_)
                      refine ops_nil ?_
                      refine ⟨fun _ => (hH110.sub (List.Sublist.cons _ (List.Sublist.cons _ (List.Sublist.cons_cons _ (List.Sublist.cons_cons _ (List.Sublist.cons_cons _ (List.Sublist.cons _ (List.Sublist.cons _ (List.Sublist.cons _ (List.Sublist.cons _ (List.Sublist.refl _))))))))))), ?_⟩
                      refine any_takesX [10] (by kernel_rfl) (hH110.sub (List.Sublist.cons _ (List.Sublist.cons _ (List.Sublist.cons_cons _ (List.Sublist.cons_cons _ (List.Sublist.cons_cons _ (List.Sublist.cons _ (List.Sublist.cons _ (List.Sublist.cons _ (List.Sublist.cons _ (List.Sublist.refl _))))))))))) _ _ _ (by kernel_rfl) ?_
                      refine qs_y rfl rfl (yv_field T.f41_2 rfl) ?_
                      refine qs_nil ?_
                      refine any_allX [11] (by kernel_rfl) rfl ?_
                      refine ⟨⟨_, rfl, ?_⟩, trivial⟩
                      · skip
                        refine op_store (n := 2) (j := 2) (us := [u106]) rfl rfl hH110 rfl T.sz39 (SliceIs.cells (Heap.rdw T.el39_encI hH110 (n := 1) rfl).is) rfl rfl (SliceIs.one (Heap.rdw T.el39_encI hH110 (n := 1) rfl).is) (fun w111 hH112 => ?_)
                        refine ops_nil ?_
                        refine ⟨(fun h => by cases h), ?_⟩
                        refine any_doneX (by kernel_rfl) ?_
                        refine blk_n ?_
                        refine thn_n ?_
                        refine region ?_
                        refine ops_y hH112 rfl rfl (yv_move rfl) ?_
                        refine ops_y hH112 rfl rfl (yv_add rfl rfl (by omega)) ?_
                        refine ops_y hH112 rfl rfl (yv_assign rfl) ?_
                        refine ops_nil ?_
                        have hH113 := (hH112.sub (List.Sublist.cons _ (List.Sublist.refl _)))
                        refine lp_n (q + 1, u106, lo108, hi109) (Sub.cons rfl (Sub.cons rfl (Sub.cons rfl (Sub.cons rfl (Sub.cons rfl (Sub.cons rfl (Sub.nil _))))))) ?_ ?_
                        · exact ⟨(Heap.recast (n := 0) hH113 rfl (by rw [← S.nth_flipF (by omega) (by omega)]; exact take_snoc (by rw [S.flipF_length]; omega))), by omega⟩
                        · first | (dsimp only; omega) | (show _ < _; omega)
                · skip
                  refine cond_f rfl (decide_eq_false hc97) ?_
                  refine exit ?_
                  refine thn_x ?_
                  refine lp_x ?_
                  refine blk_here ?_
                  refine thn_n ?_
                  refine seq ?_
                  have hq2 : q = js.length := by omega
                  have hH114 := Heap.recast (n := 0) hH96 rfl (show _ = (S.flipF (S.ordF bs js.length)) from List.take_of_length_le (by rw [S.flipF_length]; omega))
                  have hpsw := S.play_sw hj hO
                  refine region ?_
                  refine ops_y hH114 rfl rfl (yv_move rfl) ?_
                  refine ops_y hH114 rfl rfl (yv_loadA (cs := [ob78, ot79, of80]) T.agg41 rfl rfl (fun _ hw => Heap.cellsw hw (n := 2) rfl (k := 0) rfl)) ?_
                  refine op_fn rfl rfl rfl hH114 (c32 (h0.now hH114 (n := 8) rfl) ((Heap.getRd3 hH114 (n := 3) rfl).1) ((Heap.getRd3 hH114 (n := 3) rfl).2.1) ((Heap.getRd3 hH114 (n := 3) rfl).2.2) (by omega) (by omega) (by omega) (by omega)) (fun u117 w115 lo118 hi119 hH116 hv120 => ?_)
                  obtain ⟨p122, hu, -⟩ := hv120
                  subst hu
                  have hH121 := Heap.tup2 hH116 (n := 0) rfl
                  refine ops_y hH121 rfl rfl (yv_move rfl) ?_
                  refine ops_y hH121 rfl rfl (yv_extract rfl rfl) ?_
                  refine ops_y hH121 rfl rfl (yv_extract rfl rfl) ?_
                  refine ops_y hH121 rfl rfl (yv_assign rfl) ?_
                  refine ops_y hH121 rfl rfl (yv_assign rfl) ?_
                  refine ops_nil ?_
                  refine thn_n ?_
                  refine seq ?_
                  refine region ?_
                  refine ops_y hH121 rfl rfl (yv_move rfl) ?_
                  refine ops_y hH121 rfl rfl (yv_loadA (cs := [ot79, ob78, v_b18]) T.agg41 rfl rfl (fun _ hw => Heap.cellsw hw (n := 2) rfl (k := 0) rfl)) ?_
                  have hev125 : Fn Try.prog 32 [v_5, (.agg #[ot79, ob78, v_b18])].toArray _ _ := c32 (Heap.rdw T.el22_encP hH121 (n := 8) rfl) ((Heap.getRd3 hH121 (n := 4) rfl).2.1) ((Heap.getRd3 hH121 (n := 4) rfl).1) (Heap.rdw T.el39_encI hH121 (n := 1) rfl) (by omega) (by omega) (by omega) (by omega)
                  simp only [hpsw] at hev125
                  refine op_fn rfl rfl rfl hH121 (hev125) (fun u126 w123 lo127 hi128 hH124 hv129 => ?_)
                  obtain ⟨p131, hu, -⟩ := hv129
                  subst hu
                  have hH130 := Heap.tup2 hH124 (n := 0) rfl
                  refine ops_y hH130 rfl rfl (yv_move rfl) ?_
                  refine ops_y hH130 rfl rfl (yv_extract rfl rfl) ?_
                  refine ops_y hH130 rfl rfl (yv_extract rfl rfl) ?_
                  refine ops_y hH130 rfl rfl (yv_assign rfl) ?_
                  refine ops_y hH130 rfl rfl (yv_assign rfl) ?_
                  refine ops_nil ?_
                  refine thn_n ?_
                  refine seq ?_
                  refine seq ?_
                  have hswA := S.sw_length (S.play js (S.ordB bs js.length) (S.ordU bs js.length) (S.ordF bs js.length)).1
                  refine region ?_
                  refine ops_y hH130 rfl rfl (yv_move rfl) ?_
                  refine ops_y hH130 rfl rfl (yv_move rfl) ?_
                  refine ops_y hH130 rfl rfl (yv_castB (not_decide_n rfl) (yv_neq rfl rfl)) ?_
                  refine ops_y hH130 rfl rfl (yv_move rfl) ?_
                  refine guard_yes rfl rfl rfl ?_
                  refine ops_y hH130 rfl rfl (yv_move rfl) ?_
                  refine guard_yes rfl rfl rfl ?_
                  refine ops_y hH130 rfl rfl (yv_len T.sl23 rfl (Heap.rdw T.el23_encP hH130 (n := 1) rfl).is) ?_
                  refine guard_yes rfl rfl rfl ?_
                  refine ops_y hH130 rfl rfl (yv_move rfl) ?_
                  refine guard_yes rfl rfl rfl ?_
                  refine ops_y hH130 rfl rfl (yv_len T.sl23 rfl (Heap.rdw T.el23_encP hH130 (n := 0) rfl).is) ?_
                  refine guard_yes rfl rfl rfl ?_
                  refine ops_y hH130 rfl rfl (yv_neq rfl rfl) ?_
                  refine ops_y hH130 rfl rfl (yv_pick_f rfl rfl rfl) ?_
                  refine ops_nil ?_
                  refine thn_n ?_
                  have hc132 : ¬ (¬ ((((S.play js (S.ordB bs js.length) (S.ordU bs js.length) (S.ordF bs js.length)).1).length : Int) = ((S.sw (S.play js (S.ordB bs js.length) (S.ordU bs js.length) (S.ordF bs js.length)).1).length : Int))) := by omega
                  refine cond_f rfl (not_decide_f hc132) ?_
                  refine skip ?_
                  refine thn_n ?_
                  refine seq ?_
                  refine seq ?_
                  refine region ?_
                  refine ops_y hH130 rfl rfl (yv_assign rfl) ?_
                  refine ops_nil ?_
                  refine thn_n ?_
                  refine block ?_
                  refine loop (S := Nat) (fun j => [(24, (.int .i64 (j : Int))), (20, p122), (21, (.int .i64 ((S.play js (S.ordB bs js.length) (S.ordU bs js.length) (S.ordF bs js.length)).2))), (22, p131)]) (fun j w1 => Heap [ow lo127 hi128 73 2 encP p131 (S.sw (S.play js (S.ordB bs js.length) (S.ordU bs js.length) (S.ordF bs js.length)).1), ow lo118 hi119 73 2 encP p122 ((S.play js (S.ordB bs js.length) (S.ordU bs js.length) (S.ordF bs js.length)).1), ow lo_b18 hi_b18 3 1 encI v_b18 (S.flipF (S.ordF bs js.length)), bx b89 41 [ot79, ob78, v_b18], bx b82 41 [ob78, ot79, of80], ⟨lo75, hi76, Rd3 ob78 ot79 of80 (S.ordB bs js.length) (S.ordU bs js.length) (S.ordF bs js.length)⟩, ow lo_13 hi_13 73 2 encP v_13 (S.back js p33 (S.shortestOf js)), ow lo40 hi41 73 2 encP q43 p44, ow lo29 hi30 73 2 encP q32 p33, ow lo_5 hi_5 71 2 encP v_5 (S.sw js), base w] w1 ∧ j ≤ (S.play js (S.ordB bs js.length) (S.ordU bs js.length) (S.ordF bs js.length)).1.length) (fun j => (S.play js (S.ordB bs js.length) (S.ordU bs js.length) (S.ordF bs js.length)).1.length - j) (0) (Sub.cons rfl (Sub.cons rfl (Sub.cons rfl (Sub.cons rfl (Sub.nil _))))) ?_ ?_
                  · exact ⟨hH130, by omega⟩
                  · rintro j w133 ⟨hH134, hjj⟩
                    show Holds _ _ _ _ _ [(24, (.int .i64 (j : Int))), (20, p122), (21, (.int .i64 ((S.play js (S.ordB bs js.length) (S.ordU bs js.length) (S.ordF bs js.length)).2))), (22, p131)] _ _
                    refine seq ?_
                    refine seq ?_
                    refine region ?_
                    refine ops_y hH134 rfl rfl (yv_move rfl) ?_
                    refine ops_y hH134 rfl rfl (yv_move rfl) ?_
                    refine ops_y hH134 rfl rfl (yv_len T.sl23 rfl (Heap.rdw T.el23_encP hH134 (n := 1) rfl).is) ?_
                    refine ops_y hH134 rfl rfl (yv_lss rfl rfl) ?_
                    refine ops_nil ?_
                    refine thn_n ?_
                    by_cases hc135 : (j : Int) < (((S.play js (S.ordB bs js.length) (S.ordU bs js.length) (S.ordF bs js.length)).1).length : Int)
                    · skip
                      refine cond_t rfl (decide_eq_true hc135) ?_
                      refine skip ?_
                      refine thn_n ?_
                      refine seq ?_
                      refine block ?_
                      refine seq ?_
                      have hn4 : (nth (S.sw (S.play js (S.ordB bs js.length) (S.ordU bs js.length) (S.ordF bs js.length)).1) (j : Int)).1 = (nth (S.play js (S.ordB bs js.length) (S.ordU bs js.length) (S.ordF bs js.length)).1 (j : Int)).2 := by rw [S.nth_sw]
                      have hn5 : (nth (S.sw (S.play js (S.ordB bs js.length) (S.ordU bs js.length) (S.ordF bs js.length)).1) (j : Int)).2 = (nth (S.play js (S.ordB bs js.length) (S.ordU bs js.length) (S.ordF bs js.length)).1 (j : Int)).1 := by rw [S.nth_sw]
                      refine region_draw (fun w' => Heap [ow lo127 hi128 73 2 encP p131 (S.sw (S.play js (S.ordB bs js.length) (S.ordU bs js.length) (S.ordF bs js.length)).1), ow lo118 hi119 73 2 encP p122 ((S.play js (S.ordB bs js.length) (S.ordU bs js.length) (S.ordF bs js.length)).1), ow lo_b18 hi_b18 3 1 encI v_b18 (S.flipF (S.ordF bs js.length)), bx b89 41 [ot79, ob78, v_b18], bx b82 41 [ob78, ot79, of80], ⟨lo75, hi76, Rd3 ob78 ot79 of80 (S.ordB bs js.length) (S.ordU bs js.length) (S.ordF bs js.length)⟩, ow lo_13 hi_13 73 2 encP v_13 (S.back js p33 (S.shortestOf js)), ow lo40 hi41 73 2 encP q43 p44, ow lo29 hi30 73 2 encP q32 p33, ow lo_5 hi_5 71 2 encP v_5 (S.sw js), base w] w') T.mixed (fun w136 hr137 => ?_)
                      have hH138 := hH134.redrawn hr137
                      refine any_takes [0, 1, 2, 3, 4, 5, 6, 7, 8, 9, 10, 11] (by kernel_rfl) hH138 _ _ _ (by kernel_rfl) ?_
                      refine qs_y rfl rfl (yv_move rfl) ?_
                      refine qs_y rfl rfl (yv_move rfl) ?_
                      refine qs_y rfl rfl (yv_index T.sl23 rfl rfl (Heap.rdw T.el23_encP hH138 (n := 1) rfl).is (by omega)) ?_
                      refine qs_y rfl rfl (yv_field T.f73_0 rfl) ?_
                      refine qs_y rfl rfl (yv_load T.one2 rfl (fun _ hw => Rd.at (Heap.rdw T.el23_encP hw (n := 1) rfl) (i := (j : Int)) (by omega) (j := 0) rfl)) ?_
                      refine qs_y rfl rfl (yv_move rfl) ?_
                      refine qs_y rfl rfl (yv_move rfl) ?_
                      refine qs_y rfl rfl (yv_index T.sl23 rfl rfl (Heap.rdw T.el23_encP hH138 (n := 0) rfl).is (by omega)) ?_
                      refine qs_y rfl rfl (yv_field T.f73_1 rfl) ?_
                      refine qs_y rfl rfl (yv_load T.one2 rfl (fun _ hw => Rd.at (Heap.rdw T.el23_encP hw (n := 0) rfl) (i := (j : Int)) (by omega) (j := 1) rfl)) ?_
                      refine qs_y rfl rfl (yv_neq rfl rfl) ?_
                      refine qs_y rfl rfl (yv_move rfl) ?_
                      refine qs_nil ?_
                      have hc139 : ¬ (¬ (((nth ((S.play js (S.ordB bs js.length) (S.ordU bs js.length) (S.ordF bs js.length)).1) (j : Int)).1) = ((nth (S.sw (S.play js (S.ordB bs js.length) (S.ordU bs js.length) (S.ordF bs js.length)).1) (j : Int)).2))) := by omega
                      refine any_takes [12, 13, 14, 15, 16, 17, 18, 19, 20, 21, 22, 23] (by kernel_rfl) hH138 _ _ _ (by kernel_rfl) ?_
                      refine qs_yes rfl rfl rfl (not_decide_f hc139) rfl (yv_move rfl) ?_
                      refine qs_yes rfl rfl rfl (not_decide_f hc139) rfl (yv_move rfl) ?_
                      refine qs_yes rfl rfl rfl (not_decide_f hc139) rfl (yv_index T.sl23 rfl rfl (Heap.rdw T.el23_encP hH138 (n := 1) rfl).is (by omega)) ?_
                      refine qs_yes rfl rfl rfl (not_decide_f hc139) rfl (yv_field T.f73_1 rfl) ?_
                      refine qs_yes rfl rfl rfl (not_decide_f hc139) rfl (yv_load T.one2 rfl (fun _ hw => Rd.at (Heap.rdw T.el23_encP hw (n := 1) rfl) (i := (j : Int)) (by omega) (j := 1) rfl)) ?_
                      refine qs_yes rfl rfl rfl (not_decide_f hc139) rfl (yv_move rfl) ?_
                      refine qs_yes rfl rfl rfl (not_decide_f hc139) rfl (yv_move rfl) ?_
                      refine qs_yes rfl rfl rfl (not_decide_f hc139) rfl (yv_index T.sl23 rfl rfl (Heap.rdw T.el23_encP hH138 (n := 0) rfl).is (by omega)) ?_
                      refine qs_yes rfl rfl rfl (not_decide_f hc139) rfl (yv_field T.f73_0 rfl) ?_
                      refine qs_yes rfl rfl rfl (not_decide_f hc139) rfl (yv_load T.one2 rfl (fun _ hw => Rd.at (Heap.rdw T.el23_encP hw (n := 0) rfl) (i := (j : Int)) (by omega) (j := 0) rfl)) ?_
                      refine qs_yes rfl rfl rfl (not_decide_f hc139) rfl (yv_neq rfl rfl) ?_
                      refine qs_y rfl rfl (yv_pick_f rfl (not_decide_f hc139) rfl) ?_
                      refine qs_nil ?_
                      refine any_done (by kernel_rfl) ?_
                      refine thn_n ?_
                      have hc140 : ¬ (¬ (((nth ((S.play js (S.ordB bs js.length) (S.ordU bs js.length) (S.ordF bs js.length)).1) (j : Int)).2) = ((nth (S.sw (S.play js (S.ordB bs js.length) (S.ordU bs js.length) (S.ordF bs js.length)).1) (j : Int)).1))) := by omega
                      refine cond_f rfl (not_decide_f hc140) ?_
                      refine skip ?_
                      refine blk_n ?_
                      refine thn_n ?_
                      refine region ?_
                      refine ops_y hH138 rfl rfl (yv_move rfl) ?_
                      refine ops_y hH138 rfl rfl (yv_add rfl rfl (by omega)) ?_
                      refine ops_y hH138 rfl rfl (yv_assign rfl) ?_
                      refine ops_nil ?_
                      refine lp_n (j + 1) (Sub.cons rfl (Sub.cons rfl (Sub.cons rfl (Sub.cons rfl (Sub.nil _))))) ?_ ?_
                      · exact ⟨hH138, by omega⟩
                      · first | (dsimp only; omega) | (show _ < _; omega)
                    · skip
                      refine cond_f rfl (decide_eq_false hc135) ?_
                      refine exit ?_
                      refine thn_x ?_
                      refine lp_x ?_
                      refine blk_here ?_
                      refine thn_n ?_
                      refine seq ?_
                      have hpe := S.play_err hj hco
                      refine region ?_
                      refine ops_y hH134 rfl rfl (yv_move rfl) ?_
                      refine ops_y hH134 rfl rfl (yv_eql rfl rfl) ?_
                      refine ops_y hH134 rfl rfl (yv_move rfl) ?_
                      by_cases hc141 : ((S.play js (S.ordB bs js.length) (S.ordU bs js.length) (S.ordF bs js.length)).2) = 0
                      · skip
                        refine guard_no rfl rfl (decide_eq_true hc141) rfl ?_
                        refine guard_no rfl rfl (decide_eq_true hc141) rfl ?_
                        refine ops_y hH134 rfl rfl (yv_pick_t rfl (decide_eq_true hc141) rfl) ?_
                        refine ops_y hH134 rfl rfl (yv_move rfl) ?_
                        refine guard_yes rfl rfl rfl ?_
                        refine op_fnV rfl rfl rfl hH134 (c17) (fun w142 hH143 => ?_)
                        refine ops_y hH143 rfl rfl (yv_pick_t rfl rfl rfl) ?_
                        refine ops_y hH143 rfl rfl (yv_assign rfl) ?_
                        refine ops_nil ?_
                        refine thn_n ?_
                        refine ret ?_
                        have hH144 := (hH143.sub (List.Sublist.cons _ (List.Sublist.cons _ (List.Sublist.cons _ (List.Sublist.cons _ (List.Sublist.cons _ (List.Sublist.cons _ (List.Sublist.cons _ (List.Sublist.cons _ (List.Sublist.cons _ (List.Sublist.cons _ (List.Sublist.refl _))))))))))))
                        refine fin hH144 (fun w' hf => (res1 rfl (show RV _ _ _ (.tmp 4) _ from rfl))) (fun w' hf => ?_)
                        rfl
                      · skip
                        refine guard_yes rfl rfl (decide_eq_false hc141) ?_
                        refine ops_y hH134 rfl rfl (yv_move rfl) ?_
                        refine guard_yes rfl rfl (decide_eq_false hc141) ?_
                        refine ops_y hH134 rfl rfl (yv_eql rfl rfl) ?_
                        refine ops_y hH134 rfl rfl (yv_pick_f rfl (decide_eq_false hc141) rfl) ?_
                        refine ops_y hH134 rfl rfl (yv_move rfl) ?_
                        have hc145 : ((S.play js (S.ordB bs js.length) (S.ordU bs js.length) (S.ordF bs js.length)).2) = 13 := by omega
                        refine guard_yes rfl rfl (decide_eq_true hc145) ?_
                        refine op_fnV rfl rfl rfl hH134 (c17) (fun w146 hH147 => ?_)
                        refine ops_y hH147 rfl rfl (yv_pick_t rfl (decide_eq_true hc145) rfl) ?_
                        refine ops_y hH147 rfl rfl (yv_assign rfl) ?_
                        refine ops_nil ?_
                        refine thn_n ?_
                        refine ret ?_
                        have hH148 := (hH147.sub (List.Sublist.cons _ (List.Sublist.cons _ (List.Sublist.cons _ (List.Sublist.cons _ (List.Sublist.cons _ (List.Sublist.cons _ (List.Sublist.cons _ (List.Sublist.cons _ (List.Sublist.cons _ (List.Sublist.cons _ (List.Sublist.refl _))))))))))))
                        refine fin hH148 (fun w' hf => (res1 rfl (show RV _ _ _ (.tmp 4) _ from rfl))) (fun w' hf => ?_)
                        rfl
  · skip
    have hnj : ¬ S.Jobs js := ‹_›
    refine region ?_
    refine ops_y hH rfl rfl (yv_move rfl) ?_
    refine op_fnV rfl rfl rfl hH (c41c (h0.now hH (n := 0) rfl)) (fun w149 hH150 => ?_)
    refine ops_y hH150 rfl rfl (yv_castB (bnot_t (decide_eq_false hc1)) (yv_not rfl)) ?_
    refine ops_y hH150 rfl rfl (yv_move rfl) ?_
    refine guard_no rfl rfl rfl rfl ?_
    refine guard_no rfl rfl rfl rfl ?_
    refine guard_no rfl rfl rfl rfl ?_
    refine ops_y hH150 rfl rfl (yv_pick_t rfl rfl rfl) ?_
    refine ops_nil ?_
    refine thn_n ?_
    refine cond_t rfl rfl ?_
    refine seq ?_
    refine region ?_
    refine op_fnV rfl rfl rfl hH150 (c17) (fun w151 hH152 => ?_)
    refine ops_y hH152 rfl rfl (yv_assign rfl) ?_
    refine ops_nil ?_
    refine thn_n ?_
    refine ret ?_
    refine thn_r ?_
    refine fin hH152 (fun w' hf => (res1 rfl (show RV _ _ _ (.tmp 4) _ from rfl))) (fun w' hf => ?_)
    rfl

end Go.Fip
