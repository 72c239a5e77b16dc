/- Walks, by program (wip/tools). -/
import Derived.Test.YtlekkopaeiblfaaXf
import Derived.Test.YtlekkopaeiblfaaSb2
set_option linter.unusedVariables false
set_option linter.unusedSimpArgs false
set_option linter.unusedSectionVars false
set_option linter.unnecessarySimpa false
namespace Go.Fip
open Go.Proofs Go.RowKit

set_option maxHeartbeats 4000000 in
theorem c13 {v vby : Value} {js : List S.Pr} {bs : List Int} {a : Int} {w : World} (h0 : Rd encP 2 v js w) (hby : Rd encB 1 vby bs w) (hbb : ∀ n ∈ bs, 0 ≤ n ∧ n ≤ 255) (ha : 0 ≤ a ∧ a ≤ 255)  :
    Fn Try.prog 13 [v, vby, (.int .u8 a)].toArray w (fun u _ => u = .bool true) := by
  refine fn_of' (args := [v, vby, (.int .u8 a)]) Try.func13 rfl (ent Try.func13 (by kernel_rfl) rfl) rfl rfl (fun hH => ?_)
  obtain ⟨kk, hkk⟩ : ∃ kk, kk = 1 + a % 5 := ⟨_, rfl⟩
  have hk1 : 1 ≤ kk := by omega
  have hk5 : kk ≤ 5 := by omega
  refine seq ?_
  refine region ?_
  refine ops_y hH rfl rfl (yv_assign rfl) ?_
  refine ops_nil ?_
  refine thn_n ?_
  refine seq ?_
  refine seq ?_
  by_cases hc1 : S.Jobs js
  · skip
    have hj : S.Jobs js := ‹_›
    have hl1 := hj.1
    have hl8 := hj.2.1
    have hc0 := S.checkJobs_iff.2 hj
    refine region ?_
    refine ops_y hH rfl rfl (yv_move rfl) ?_
    refine op_fnV rfl rfl rfl hH (c41c (h0.now hH (n := 0) rfl)) (fun w2 hH3 => ?_)
    refine ops_y hH3 rfl rfl (yv_castB (bnot_f (decide_eq_true hc1)) (yv_not rfl)) ?_
    refine ops_y hH3 rfl rfl (yv_move rfl) ?_
    refine guard_yes rfl rfl rfl ?_
    refine ops_y hH3 rfl rfl (yv_move rfl) ?_
    refine guard_yes rfl rfl rfl ?_
    refine ops_y hH3 rfl rfl (yv_len T.sl54 rfl (hby.now hH3 (n := 0) rfl).is) ?_
    refine guard_yes rfl rfl rfl ?_
    refine ops_y hH3 rfl rfl (yv_gtr rfl rfl) ?_
    refine ops_y hH3 rfl rfl (yv_pick_f rfl rfl rfl) ?_
    refine ops_nil ?_
    refine thn_n ?_
    by_cases hc4 : 60 < (bs.length : Int)
    · skip
      refine cond_t rfl (decide_eq_true hc4) ?_
      refine seq ?_
      refine region ?_
      refine op_fnV rfl rfl rfl hH3 (c17) (fun w5 hH6 => ?_)
      refine ops_y hH6 rfl rfl (yv_assign rfl) ?_
      refine ops_nil ?_
      refine thn_n ?_
      refine ret ?_
      refine thn_r ?_
      refine fin hH6 (fun w' hf => (res1 rfl (show RV _ _ _ (.tmp 6) _ from rfl))) (fun w' hf => ?_)
      rfl
    · skip
      refine cond_f rfl (decide_eq_false hc4) ?_
      refine skip ?_
      refine thn_n ?_
      refine seq ?_
      refine region ?_
      refine ops_y hH3 rfl rfl (yv_move rfl) ?_
      refine ops_y hH3 rfl rfl (yv_rem rfl rfl (by omega) (by omega)) ?_
      refine ops_y hH3 rfl rfl (yv_conv Try.underlying5 Try.underlying2 rfl (wrap_i64 (by omega))) ?_
      refine ops_y hH3 rfl rfl (yv_cast hkk.symm (yv_add rfl rfl (by omega))) ?_
      refine ops_y hH3 rfl rfl (yv_assign rfl) ?_
      refine ops_nil ?_
      refine thn_n ?_
      refine seq ?_
      refine region ?_
      refine ops_y hH3 rfl rfl (yv_assign rfl) ?_
      refine ops_nil ?_
      refine thn_n ?_
      refine seq ?_
      refine seq ?_
      refine region ?_
      refine ops_y hH3 rfl rfl (yv_assign rfl) ?_
      refine ops_nil ?_
      refine thn_n ?_
      refine block ?_
      have hH7 := ow_nil (enc := encP) 71 2 hH3
      refine loop (S := Nat × Value × Nat × Nat) (fun (k, v_8, lo_8, hi_8) => [(9, (.int .i64 (k : Int))), (8, v_8), (0, v), (1, vby), (6, (.bool false)), (7, (.int .i64 kk))]) (fun (k, v_8, lo_8, hi_8) w1 => Heap [ow lo_8 hi_8 71 2 encP v_8 ((S.scale kk js).take k), base w] w1 ∧ k ≤ js.length) (fun (k, v_8, lo_8, hi_8) => js.length - k) (0, (.slice none 0 0), w2.heap.size, w2.heap.size) (Sub.cons rfl (Sub.cons rfl (Sub.cons rfl (Sub.cons rfl (Sub.cons rfl (Sub.cons rfl (Sub.nil _))))))) ?_ ?_
      · exact ⟨(Heap.recast (n := 0) hH7 rfl (rfl)), by omega⟩
      · rintro ⟨k, v_8, lo_8, hi_8⟩ w8 ⟨hH9, hk⟩
        show Holds _ _ _ _ _ [(9, (.int .i64 (k : Int))), (8, v_8), (0, v), (1, vby), (6, (.bool false)), (7, (.int .i64 kk))] _ _
        have hscl := S.scale_length (l := js) (k := kk)
        have htk : ((S.scale kk js).take k).length = k := by rw [List.length_take]; omega
        refine seq ?_
        refine seq ?_
        refine region ?_
        refine ops_y hH9 rfl rfl (yv_move rfl) ?_
        refine ops_y hH9 rfl rfl (yv_move rfl) ?_
        refine ops_y hH9 rfl rfl (yv_len T.sl22 rfl (h0.now hH9 (n := 1) rfl).is) ?_
        refine ops_y hH9 rfl rfl (yv_lss rfl rfl) ?_
        refine ops_nil ?_
        refine thn_n ?_
        by_cases hc10 : (k : Int) < (js.length : Int)
        · skip
          refine cond_t rfl (decide_eq_true hc10) ?_
          refine skip ?_
          refine thn_n ?_
          refine seq ?_
          refine block ?_
          have hn1 := hj.nth (i := (k : Int)) (by omega) (by omega)
          unfold S.okJob at hn1
          have m1 := S.mul_bd hk1 hk5 hn1.1 hn1.2.1
          have m2 := S.mul_bd hk1 hk5 hn1.2.2.1 hn1.2.2.2
          refine region_draw (fun w' => Heap [base w] w') T.mixed (fun w11 hr12 => ?_)
          have hH13 := hH9.redrawn hr12
          refine any_takes [0, 1, 2, 3, 4, 5, 6, 7, 8, 9, 10, 11, 12, 13, 14, 15] (by kernel_rfl) (hH13.sub (List.Sublist.cons _ (List.Sublist.refl _))) _ _ _ (by kernel_rfl) ?_
          refine qs_y rfl rfl (yv_move rfl) ?_
          refine qs_y rfl rfl (yv_move rfl) ?_
          refine qs_y rfl rfl (yv_move rfl) ?_
          refine qs_y rfl rfl (yv_move rfl) ?_
          refine qs_y rfl rfl (yv_index T.sl22 rfl rfl (h0.now hH13 (n := 1) rfl).is (by omega)) ?_
          refine qs_y rfl rfl (yv_field T.f71_0 rfl) ?_
          refine qs_y rfl rfl (yv_load T.one2 rfl (fun _ hw => Rd.at (h0.now hw (n := 0) rfl) (i := (k : Int)) (by omega) (j := 0) rfl)) ?_
          refine qs_y rfl rfl (yv_mul rfl rfl (by omega)) ?_
          refine qs_y rfl rfl (yv_move rfl) ?_
          refine qs_y rfl rfl (yv_move rfl) ?_
          refine qs_y rfl rfl (yv_move rfl) ?_
          refine qs_y rfl rfl (yv_index T.sl22 rfl rfl (h0.now hH13 (n := 1) rfl).is (by omega)) ?_
          refine qs_y rfl rfl (yv_field T.f71_1 rfl) ?_
          refine qs_y rfl rfl (yv_load T.one2 rfl (fun _ hw => Rd.at (h0.now hw (n := 0) rfl) (i := (k : Int)) (by omega) (j := 1) rfl)) ?_
          refine qs_y rfl rfl (yv_mul rfl rfl (by omega)) ?_
          refine qs_y rfl rfl (yv_build (v := (.agg #[(.int .i64 (kk * ((nth js (k : Int)).1))), (.int .i64 (kk * ((nth js (k : Int)).2)))])) (us := [(0, (.int .i64 (kk * ((nth js (k : Int)).1)))), (1, (.int .i64 (kk * ((nth js (k : Int)).2))))]) (fun a ha => by simp [ha.ev (show ev _ (.tmp 48) = some _ from rfl), ha.ev (show ev _ (.tmp 55) = some _ from rfl)]) (fun w => by kernel_rfl)) ?_
          refine qs_nil ?_
          refine any_all [16] (by kernel_rfl) rfl ?_
          refine ⟨⟨_, rfl, ?_⟩, trivial⟩
          · skip
            refine op_lit (us := [(0, (.agg #[(.int .i64 (kk * ((nth js (k : Int)).1))), (.int .i64 (kk * ((nth js (k : Int)).2)))]))]) T.el22_encP [(kk * ((nth js (k : Int)).1), kk * ((nth js (k : Int)).2))] rfl (by decide) rfl (fun a ha => by simp [ha.ev (show ev _ (.tmp 56) = some _ from rfl)]) (fun w => by kernel_rfl) hH13 (fun u14 lo16 hi17 w15 hH18 => ?_)
            refine ops_nil ?_
            refine ⟨(hH18.sub (List.Sublist.cons _ (List.Sublist.cons _ (List.Sublist.refl _)))), ?_⟩
            refine any_all [17] (by kernel_rfl) rfl ?_
            refine ⟨⟨_, rfl, ?_⟩, trivial⟩
            · skip
              refine op_append (n := 1) T.el22_encP rfl rfl rfl hH18 rfl (Heap.rdw T.el22_encP hH18 (n := 0) rfl) (by first | omega | (simp only [List.length_append, List.length_cons, List.length_nil]; omega)) (fun u19 lo21 hi22 w20 hH23 => ?_)
              refine ops_nil ?_
              refine ⟨(hH23.sub (List.Sublist.cons _ (List.Sublist.cons _ (List.Sublist.refl _)))), ?_⟩
              refine any_takes [18] (by kernel_rfl) (hH23.sub (List.Sublist.cons _ (List.Sublist.cons _ (List.Sublist.refl _)))) _ _ _ (by kernel_rfl) ?_
              refine qs_y rfl rfl (yv_assign rfl) ?_
              refine qs_nil ?_
              refine any_done (by kernel_rfl) ?_
              refine blk_n ?_
              refine thn_n ?_
              refine region ?_
              refine ops_y hH23 rfl rfl (yv_move rfl) ?_
              refine ops_y hH23 rfl rfl (yv_add rfl rfl (by omega)) ?_
              refine ops_y hH23 rfl rfl (yv_assign rfl) ?_
              refine ops_nil ?_
              have hH24 := (hH23.sub (List.Sublist.cons _ (List.Sublist.refl _)))
              refine lp_n (k + 1, u19, lo21, hi22) (Sub.cons rfl (Sub.cons rfl (Sub.cons rfl (Sub.cons rfl (Sub.cons rfl (Sub.cons rfl (Sub.nil _))))))) ?_ ?_
              · exact ⟨(Heap.recast (n := 0) hH24 rfl (by rw [← S.nth_scale]; exact take_snoc (by rw [S.scale_length]; omega))), by omega⟩
              · first | (dsimp only; omega) | (show _ < _; omega)
        · skip
          refine cond_f rfl (decide_eq_false hc10) ?_
          refine exit ?_
          refine thn_x ?_
          refine lp_x ?_
          refine blk_here ?_
          refine thn_n ?_
          refine seq ?_
          refine seq ?_
          by_cases hc25 : S.Jobs (S.scale kk js)
          · skip
            have hjx : S.Jobs (S.scale kk js) := ‹_›
            have hk2 : k = js.length := by omega
            have hH26 := Heap.recast (n := 0) hH9 rfl (show _ = (S.scale kk js) from List.take_of_length_le (by rw [S.scale_length]; omega))
            refine region ?_
            refine ops_y hH26 rfl rfl (yv_move rfl) ?_
            refine op_fnV rfl rfl rfl hH26 (c41c (Heap.rdw T.el22_encP hH26 (n := 0) rfl)) (fun w27 hH28 => ?_)
            refine ops_y hH28 rfl rfl (yv_castB (bnot_f (decide_eq_true hc25)) (yv_not rfl)) ?_
            refine ops_nil ?_
            refine thn_n ?_
            refine cond_f rfl rfl ?_
            refine skip ?_
            refine thn_n ?_
            refine seq ?_
            refine region ?_
            refine ops_y hH28 rfl rfl (yv_move rfl) ?_
            refine op_fn rfl rfl rfl hH28 (c42 (h0.now hH28 (n := 1) rfl) hj) (fun u31 w29 lo32 hi33 hH30 hv34 => ?_)
            obtain ⟨q35, p36, hu, ho38, hp39⟩ := hv34
            subst hu
            have hH37 := Heap.toOwAny hH30 (n := 0) rfl (fun w' h => by obtain ⟨_, ys, e, h, _⟩ := h; cases e; exact ⟨ys, h⟩) ho38
            refine ops_y hH37 rfl rfl (yv_move rfl) ?_
            refine ops_y hH37 rfl rfl (yv_extract rfl rfl) ?_
            refine ops_y hH37 rfl rfl (yv_extract rfl rfl) ?_
            refine ops_y hH37 rfl rfl (yv_extract rfl rfl) ?_
            refine ops_y hH37 rfl rfl (yv_assign rfl) ?_
            refine ops_y hH37 rfl rfl (yv_assign rfl) ?_
            refine ops_y hH37 rfl rfl (yv_assign rfl) ?_
            refine ops_nil ?_
            refine thn_n ?_
            refine seq ?_
            refine region ?_
            refine ops_y hH37 rfl rfl (yv_move rfl) ?_
            refine op_fn rfl rfl rfl hH37 (c42 (Heap.rdw T.el22_encP hH37 (n := 1) rfl) hjx) (fun u42 w40 lo43 hi44 hH41 hv45 => ?_)
            obtain ⟨q46, p47, hu, ho49, hp50⟩ := hv45
            subst hu
            have hH48 := Heap.toOwAny hH41 (n := 0) rfl (fun w' h => by obtain ⟨_, ys, e, h, _⟩ := h; cases e; exact ⟨ys, h⟩) ho49
            refine ops_y hH48 rfl rfl (yv_move rfl) ?_
            refine ops_y hH48 rfl rfl (yv_extract rfl rfl) ?_
            refine ops_y hH48 rfl rfl (yv_extract rfl rfl) ?_
            refine ops_y hH48 rfl rfl (yv_extract rfl rfl) ?_
            refine ops_y hH48 rfl rfl (yv_assign rfl) ?_
            refine ops_y hH48 rfl rfl (yv_assign rfl) ?_
            refine ops_y hH48 rfl rfl (yv_assign rfl) ?_
            refine ops_nil ?_
            refine thn_n ?_
            refine seq ?_
            have hO := S.ordered_ok (by_ := bs) js.length
            have hco := S.checkOrder_iff.2 ⟨hj, hO⟩
            have hoB : (S.ordB bs js.length).length = js.length := hO.1
            have hoU : (S.ordU bs js.length).length = js.length := hO.2.1
            have hoF : (S.ordF bs js.length).length = js.length := hO.2.2.1
            have hpl := S.play_len2 (l := js) (B := (S.ordB bs js.length)) (U := (S.ordU bs js.length)) (F := (S.ordF bs js.length))
            have hss := S.shortestOf_scale (l := js) (k := kk) (by omega)
            have hb41 : S.shortestOf js ≤ 4000 := (S.shortTo_bd hj js.length (Nat.le_refl _)).2
            have hb42 : 1 ≤ S.shortestOf js := (S.shortTo_bd hj js.length (Nat.le_refl _)).1
            have hb43 := S.mul_bd5 hk1 hk5 hb42 hb41
            have hpsc := S.play_scale hj hk1 hjx hO
            refine region ?_
            refine ops_y hH48 rfl rfl (yv_move rfl) ?_
            refine ops_y hH48 rfl rfl (yv_len T.sl22 rfl (h0.now hH48 (n := 3) rfl).is) ?_
            refine ops_y hH48 rfl rfl (yv_move rfl) ?_
            refine op_fn rfl rfl rfl hH48 (c43 (n := js.length) ((hby.now hH48 (n := 3) rfl)) (by omega) hbb (by omega)) (fun u53 w51 lo54 hi55 hH52 hv56 => ?_)
            obtain ⟨ob57, ot58, of59, hu, -⟩ := hv56
            subst hu
            have hH60 := Heap.rd3 hH52 (n := 0) rfl
            refine op_alloc (z := (.agg #[(.slice none 0 0), (.slice none 0 0), (.slice none 0 0)])) (us := [(.slice none 0 0), (.slice none 0 0), (.slice none 0 0)]) (fun _ => by kernel_rfl) rfl rfl hH60 (fun b61 w62 hH63 => ?_)
            refine op_store (n := 0) (j := 0) (us := [ob57, ot58, of59]) rfl rfl hH63 rfl T.sz41 rfl rfl rfl (all_one (SliceIs.one1 ((Heap.getRd3 hH63 (n := 1) rfl).1).is) (all_one (SliceIs.one1 ((Heap.getRd3 hH63 (n := 1) rfl).2.1).is) (all_one (SliceIs.one1 ((Heap.getRd3 hH63 (n := 1) rfl).2.2).is) rfl))) (fun w64 hH65 => ?_)
            refine ops_nil ?_
            refine thn_n ?_
            refine seq ?_
            refine region ?_
            refine ops_y hH65 rfl rfl (yv_move rfl) ?_
            refine ops_y hH65 rfl rfl (yv_loadA (cs := [ob57, ot58, of59]) T.agg41 rfl rfl (fun _ hw => Heap.cellsw hw (n := 0) rfl (k := 0) rfl)) ?_
            refine op_fn rfl rfl rfl hH65 (c32 (h0.now hH65 (n := 5) rfl) ((Heap.getRd3 hH65 (n := 1) rfl).1) ((Heap.getRd3 hH65 (n := 1) rfl).2.1) ((Heap.getRd3 hH65 (n := 1) rfl).2.2) (by omega) (by omega) (by omega) (by omega)) (fun u68 w66 lo69 hi70 hH67 hv71 => ?_)
            obtain ⟨p73, hu, -⟩ := hv71
            subst hu
            have hH72 := Heap.tup2 hH67 (n := 0) rfl
            refine ops_y hH72 rfl rfl (yv_move rfl) ?_
            refine ops_y hH72 rfl rfl (yv_extract rfl rfl) ?_
            refine ops_y hH72 rfl rfl (yv_extract rfl rfl) ?_
            refine ops_y hH72 rfl rfl (yv_assign rfl) ?_
            refine ops_y hH72 rfl rfl (yv_assign rfl) ?_
            refine ops_nil ?_
            refine thn_n ?_
            refine seq ?_
            refine region ?_
            refine ops_y hH72 rfl rfl (yv_move rfl) ?_
            refine ops_y hH72 rfl rfl (yv_loadA (cs := [ob57, ot58, of59]) T.agg41 rfl rfl (fun _ hw => Heap.cellsw hw (n := 1) rfl (k := 0) rfl)) ?_
            have hev76 : Fn Try.prog 32 [v_8, (.agg #[ob57, ot58, of59])].toArray _ _ := c32 (Heap.rdw T.el22_encP hH72 (n := 5) rfl) ((Heap.getRd3 hH72 (n := 2) rfl).1) ((Heap.getRd3 hH72 (n := 2) rfl).2.1) ((Heap.getRd3 hH72 (n := 2) rfl).2.2) (by omega) (by omega) (by omega) (by omega)
            simp only [hpsc] at hev76
            refine op_fn rfl rfl rfl hH72 (hev76) (fun u77 w74 lo78 hi79 hH75 hv80 => ?_)
            obtain ⟨p82, hu, -⟩ := hv80
            subst hu
            have hH81 := Heap.tup2 hH75 (n := 0) rfl
            refine ops_y hH81 rfl rfl (yv_move rfl) ?_
            refine ops_y hH81 rfl rfl (yv_extract rfl rfl) ?_
            refine ops_y hH81 rfl rfl (yv_extract rfl rfl) ?_
            refine ops_y hH81 rfl rfl (yv_assign rfl) ?_
            refine ops_y hH81 rfl rfl (yv_assign rfl) ?_
            refine ops_nil ?_
            refine thn_n ?_
            refine seq ?_
            refine seq ?_
            have hlA := S.scale_length (l := (S.play js (S.ordB bs js.length) (S.ordU bs js.length) (S.ordF bs js.length)).1) (k := kk)
            refine region ?_
            refine ops_y hH81 rfl rfl (yv_move rfl) ?_
            refine ops_y hH81 rfl rfl (yv_not rfl) ?_
            refine ops_y hH81 rfl rfl (yv_move rfl) ?_
            refine guard_yes rfl rfl rfl ?_
            refine ops_y hH81 rfl rfl (yv_move rfl) ?_
            refine guard_yes rfl rfl rfl ?_
            refine ops_y hH81 rfl rfl (yv_not rfl) ?_
            refine ops_y hH81 rfl rfl (yv_pick_f rfl rfl rfl) ?_
            refine ops_y hH81 rfl rfl (yv_move rfl) ?_
            refine guard_yes rfl rfl rfl ?_
            refine ops_y hH81 rfl rfl (yv_move rfl) ?_
            refine guard_yes rfl rfl rfl ?_
            refine ops_y hH81 rfl rfl (yv_move rfl) ?_
            refine guard_yes rfl rfl rfl ?_
            refine ops_y hH81 rfl rfl (yv_move rfl) ?_
            refine guard_yes rfl rfl rfl ?_
            refine ops_y hH81 rfl rfl (yv_mul rfl rfl (by omega)) ?_
            refine guard_yes rfl rfl rfl ?_
            refine ops_y hH81 rfl rfl (yv_neq rfl rfl) ?_
            refine ops_y hH81 rfl rfl (yv_pick_f rfl rfl rfl) ?_
            refine ops_y hH81 rfl rfl (yv_move rfl) ?_
            have hc83 : ¬ (¬ ((S.shortestOf (S.scale kk js)) = (kk * (S.shortestOf js)))) := fun h => h hss
            refine guard_yes rfl rfl (not_decide_f hc83) ?_
            refine ops_y hH81 rfl rfl (yv_move rfl) ?_
            refine guard_yes rfl rfl (not_decide_f hc83) ?_
            refine ops_y hH81 rfl rfl (yv_move rfl) ?_
            refine guard_yes rfl rfl (not_decide_f hc83) ?_
            refine ops_y hH81 rfl rfl (yv_castB (not_decide_n rfl) (yv_neq rfl rfl)) ?_
            refine ops_y hH81 rfl rfl (yv_pick_f rfl (not_decide_f hc83) rfl) ?_
            refine ops_y hH81 rfl rfl (yv_move rfl) ?_
            refine guard_yes rfl rfl rfl ?_
            refine ops_y hH81 rfl rfl (yv_move rfl) ?_
            refine guard_yes rfl rfl rfl ?_
            refine ops_y hH81 rfl rfl (yv_len T.sl23 rfl (Heap.rdw T.el23_encP hH81 (n := 1) rfl).is) ?_
            refine guard_yes rfl rfl rfl ?_
            refine ops_y hH81 rfl rfl (yv_move rfl) ?_
            refine guard_yes rfl rfl rfl ?_
            refine ops_y hH81 rfl rfl (yv_len T.sl23 rfl (Heap.rdw T.el23_encP hH81 (n := 0) rfl).is) ?_
            refine guard_yes rfl rfl rfl ?_
            refine ops_y hH81 rfl rfl (yv_neq rfl rfl) ?_
            refine ops_y hH81 rfl rfl (yv_pick_f rfl rfl rfl) ?_
            refine ops_nil ?_
            refine thn_n ?_
            have hc84 : ¬ (¬ ((((S.play js (S.ordB bs js.length) (S.ordU bs js.length) (S.ordF bs js.length)).1).length : Int) = ((S.scale kk (S.play js (S.ordB bs js.length) (S.ordU bs js.length) (S.ordF bs js.length)).1).length : Int))) := by omega
            refine cond_f rfl (not_decide_f hc84) ?_
            refine skip ?_
            refine thn_n ?_
            refine seq ?_
            refine seq ?_
            refine region ?_
            refine ops_y hH81 rfl rfl (yv_assign rfl) ?_
            refine ops_nil ?_
            refine thn_n ?_
            refine block ?_
            refine loop (S := Nat) (fun j => [(21, (.int .i64 (j : Int))), (7, (.int .i64 kk)), (17, p73), (19, p82)]) (fun j w1 => Heap [ow lo78 hi79 73 2 encP p82 (S.scale kk (S.play js (S.ordB bs js.length) (S.ordU bs js.length) (S.ordF bs js.length)).1), ow lo69 hi70 73 2 encP p73 ((S.play js (S.ordB bs js.length) (S.ordU bs js.length) (S.ordF bs js.length)).1), bx b61 41 [ob57, ot58, of59], ⟨lo54, hi55, Rd3 ob57 ot58 of59 (S.ordB bs js.length) (S.ordU bs js.length) (S.ordF bs js.length)⟩, ow lo43 hi44 73 2 encP q46 p47, ow lo32 hi33 73 2 encP q35 p36, ow lo_8 hi_8 71 2 encP v_8 (S.scale kk js), base w] w1 ∧ j ≤ (S.play js (S.ordB bs js.length) (S.ordU bs js.length) (S.ordF bs js.length)).1.length) (fun j => (S.play js (S.ordB bs js.length) (S.ordU bs js.length) (S.ordF bs js.length)).1.length - j) (0) (Sub.cons rfl (Sub.cons rfl (Sub.cons rfl (Sub.cons rfl (Sub.nil _))))) ?_ ?_
            · exact ⟨hH81, by omega⟩
            · rintro j w85 ⟨hH86, hjj⟩
              show Holds _ _ _ _ _ [(21, (.int .i64 (j : Int))), (7, (.int .i64 kk)), (17, p73), (19, p82)] _ _
              refine seq ?_
              refine seq ?_
              refine region ?_
              refine ops_y hH86 rfl rfl (yv_move rfl) ?_
              refine ops_y hH86 rfl rfl (yv_move rfl) ?_
              refine ops_y hH86 rfl rfl (yv_len T.sl23 rfl (Heap.rdw T.el23_encP hH86 (n := 1) rfl).is) ?_
              refine ops_y hH86 rfl rfl (yv_lss rfl rfl) ?_
              refine ops_nil ?_
              refine thn_n ?_
              by_cases hc87 : (j : Int) < (((S.play js (S.ordB bs js.length) (S.ordU bs js.length) (S.ordF bs js.length)).1).length : Int)
              · skip
                refine cond_t rfl (decide_eq_true hc87) ?_
                refine skip ?_
                refine thn_n ?_
                refine seq ?_
                refine block ?_
                refine seq ?_
                have hA := S.play_allT hj hco j (by omega)
                unfold S.okTime at hA
                have hn4 : (nth (S.scale kk (S.play js (S.ordB bs js.length) (S.ordU bs js.length) (S.ordF bs js.length)).1) (j : Int)).1 = kk * (nth (S.play js (S.ordB bs js.length) (S.ordU bs js.length) (S.ordF bs js.length)).1 (j : Int)).1 := by rw [S.nth_scale]
                have hn5 : (nth (S.scale kk (S.play js (S.ordB bs js.length) (S.ordU bs js.length) (S.ordF bs js.length)).1) (j : Int)).2 = kk * (nth (S.play js (S.ordB bs js.length) (S.ordU bs js.length) (S.ordF bs js.length)).1 (j : Int)).2 := by rw [S.nth_scale]
                have m1 := S.mul_bd6 hk1 hk5 hA.1 hA.2.1
                have m2 := S.mul_bd6 hk1 hk5 hA.2.2.1 hA.2.2.2
                refine region_draw (fun w' => Heap [ow lo78 hi79 73 2 encP p82 (S.scale kk (S.play js (S.ordB bs js.length) (S.ordU bs js.length) (S.ordF bs js.length)).1), ow lo69 hi70 73 2 encP p73 ((S.play js (S.ordB bs js.length) (S.ordU bs js.length) (S.ordF bs js.length)).1), bx b61 41 [ob57, ot58, of59], ⟨lo54, hi55, Rd3 ob57 ot58 of59 (S.ordB bs js.length) (S.ordU bs js.length) (S.ordF bs js.length)⟩, ow lo43 hi44 73 2 encP q46 p47, ow lo32 hi33 73 2 encP q35 p36, ow lo_8 hi_8 71 2 encP v_8 (S.scale kk js), base w] w') T.mixed (fun w88 hr89 => ?_)
                have hH90 := hH86.redrawn hr89
                refine any_takes [0, 1, 2, 3, 4, 5, 6] (by kernel_rfl) hH90 _ _ _ (by kernel_rfl) ?_
                refine qs_y rfl rfl (yv_move rfl) ?_
                refine qs_y rfl rfl (yv_move rfl) ?_
                refine qs_y rfl rfl (yv_index T.sl23 rfl rfl (Heap.rdw T.el23_encP hH90 (n := 1) rfl).is (by omega)) ?_
                refine qs_y rfl rfl (yv_field T.f73_0 rfl) ?_
                refine qs_y rfl rfl (yv_load T.one2 rfl (fun _ hw => Rd.at (Heap.rdw T.el23_encP hw (n := 1) rfl) (i := (j : Int)) (by omega) (j := 0) rfl)) ?_
                refine qs_y rfl rfl (yv_lss rfl rfl) ?_
                refine qs_y rfl rfl (yv_move rfl) ?_
                refine qs_nil ?_
                have hc91 : ¬ (((nth ((S.play js (S.ordB bs js.length) (S.ordU bs js.length) (S.ordF bs js.length)).1) (j : Int)).1) < 0) := by omega
                refine any_takes [7, 8, 9, 10, 11, 12, 13, 14] (by kernel_rfl) hH90 _ _ _ (by kernel_rfl) ?_
                refine qs_yes rfl rfl rfl (decide_eq_false hc91) rfl (yv_move rfl) ?_
                refine qs_yes rfl rfl rfl (decide_eq_false hc91) rfl (yv_move rfl) ?_
                refine qs_yes rfl rfl rfl (decide_eq_false hc91) rfl (yv_index T.sl23 rfl rfl (Heap.rdw T.el23_encP hH90 (n := 1) rfl).is (by omega)) ?_
                refine qs_yes rfl rfl rfl (decide_eq_false hc91) rfl (yv_field T.f73_0 rfl) ?_
                refine qs_yes rfl rfl rfl (decide_eq_false hc91) rfl (yv_load T.one2 rfl (fun _ hw => Rd.at (Heap.rdw T.el23_encP hw (n := 1) rfl) (i := (j : Int)) (by omega) (j := 0) rfl)) ?_
                refine qs_yes rfl rfl rfl (decide_eq_false hc91) rfl (yv_gtr rfl rfl) ?_
                refine qs_y rfl rfl (yv_pick_f rfl (decide_eq_false hc91) rfl) ?_
                refine qs_y rfl rfl (yv_move rfl) ?_
                refine qs_nil ?_
                have hc92 : ¬ (100000 < ((nth ((S.play js (S.ordB bs js.length) (S.ordU bs js.length) (S.ordF bs js.length)).1) (j : Int)).1)) := by omega
                refine any_takes [15, 16, 17, 18, 19, 20, 21, 22] (by kernel_rfl) hH90 _ _ _ (by kernel_rfl) ?_
                refine qs_yes rfl rfl rfl (decide_eq_false hc92) rfl (yv_move rfl) ?_
                refine qs_yes rfl rfl rfl (decide_eq_false hc92) rfl (yv_move rfl) ?_
                refine qs_yes rfl rfl rfl (decide_eq_false hc92) rfl (yv_index T.sl23 rfl rfl (Heap.rdw T.el23_encP hH90 (n := 1) rfl).is (by omega)) ?_
                refine qs_yes rfl rfl rfl (decide_eq_false hc92) rfl (yv_field T.f73_1 rfl) ?_
                refine qs_yes rfl rfl rfl (decide_eq_false hc92) rfl (yv_load T.one2 rfl (fun _ hw => Rd.at (Heap.rdw T.el23_encP hw (n := 1) rfl) (i := (j : Int)) (by omega) (j := 1) rfl)) ?_
                refine qs_yes rfl rfl rfl (decide_eq_false hc92) rfl (yv_lss rfl rfl) ?_
                refine qs_y rfl rfl (yv_pick_f rfl (decide_eq_false hc92) rfl) ?_
                refine qs_y rfl rfl (yv_move rfl) ?_
                refine qs_nil ?_
                have hc93 : ¬ (((nth ((S.play js (S.ordB bs js.length) (S.ordU bs js.length) (S.ordF bs js.length)).1) (j : Int)).2) < 0) := by omega
                refine any_takes [23, 24, 25, 26, 27, 28, 29, 30] (by kernel_rfl) hH90 _ _ _ (by kernel_rfl) ?_
                refine qs_yes rfl rfl rfl (decide_eq_false hc93) rfl (yv_move rfl) ?_
                refine qs_yes rfl rfl rfl (decide_eq_false hc93) rfl (yv_move rfl) ?_
                refine qs_yes rfl rfl rfl (decide_eq_false hc93) rfl (yv_index T.sl23 rfl rfl (Heap.rdw T.el23_encP hH90 (n := 1) rfl).is (by omega)) ?_
                refine qs_yes rfl rfl rfl (decide_eq_false hc93) rfl (yv_field T.f73_1 rfl) ?_
                refine qs_yes rfl rfl rfl (decide_eq_false hc93) rfl (yv_load T.one2 rfl (fun _ hw => Rd.at (Heap.rdw T.el23_encP hw (n := 1) rfl) (i := (j : Int)) (by omega) (j := 1) rfl)) ?_
                refine qs_yes rfl rfl rfl (decide_eq_false hc93) rfl (yv_gtr rfl rfl) ?_
                refine qs_y rfl rfl (yv_pick_f rfl (decide_eq_false hc93) rfl) ?_
                refine qs_y rfl rfl (yv_move rfl) ?_
                refine qs_nil ?_
                have hc94 : ¬ (100000 < ((nth ((S.play js (S.ordB bs js.length) (S.ordU bs js.length) (S.ordF bs js.length)).1) (j : Int)).2)) := by omega
                refine any_takes [31, 32, 33, 34, 35, 36, 37, 38, 39, 40, 41, 42, 43, 44, 45] (by kernel_rfl) hH90 _ _ _ (by kernel_rfl) ?_
                refine qs_yes rfl rfl rfl (decide_eq_false hc94) rfl (yv_move rfl) ?_
                refine qs_yes rfl rfl rfl (decide_eq_false hc94) rfl (yv_move rfl) ?_
                refine qs_yes rfl rfl rfl (decide_eq_false hc94) rfl (yv_index T.sl23 rfl rfl (Heap.rdw T.el23_encP hH90 (n := 0) rfl).is (by omega)) ?_
                refine qs_yes rfl rfl rfl (decide_eq_false hc94) rfl (yv_field T.f73_0 rfl) ?_
                refine qs_yes rfl rfl rfl (decide_eq_false hc94) rfl (yv_load T.one2 rfl (fun _ hw => Rd.at (Heap.rdw T.el23_encP hw (n := 0) rfl) (i := (j : Int)) (by omega) (j := 0) rfl)) ?_
                refine qs_yes rfl rfl rfl (decide_eq_false hc94) rfl (yv_move rfl) ?_
                refine qs_yes rfl rfl rfl (decide_eq_false hc94) rfl (yv_move rfl) ?_
                refine qs_yes rfl rfl rfl (decide_eq_false hc94) rfl (yv_move rfl) ?_
                refine qs_yes rfl rfl rfl (decide_eq_false hc94) rfl (yv_index T.sl23 rfl rfl (Heap.rdw T.el23_encP hH90 (n := 1) rfl).is (by omega)) ?_
                refine qs_yes rfl rfl rfl (decide_eq_false hc94) rfl (yv_field T.f73_0 rfl) ?_
                refine qs_yes rfl rfl rfl (decide_eq_false hc94) rfl (yv_load T.one2 rfl (fun _ hw => Rd.at (Heap.rdw T.el23_encP hw (n := 1) rfl) (i := (j : Int)) (by omega) (j := 0) rfl)) ?_
                refine qs_yes rfl rfl rfl (decide_eq_false hc94) rfl (yv_mul rfl rfl (by omega)) ?_
                refine qs_yes rfl rfl rfl (decide_eq_false hc94) rfl (yv_neq rfl rfl) ?_
                refine qs_y rfl rfl (yv_pick_f rfl (decide_eq_false hc94) rfl) ?_
                refine qs_y rfl rfl (yv_move rfl) ?_
                refine qs_nil ?_
                have hc95 : ¬ (¬ (((nth (S.scale kk (S.play js (S.ordB bs js.length) (S.ordU bs js.length) (S.ordF bs js.length)).1) (j : Int)).1) = (kk * ((nth ((S.play js (S.ordB bs js.length) (S.ordU bs js.length) (S.ordF bs js.length)).1) (j : Int)).1)))) := by omega
                refine any_takes [46, 47, 48, 49, 50, 51, 52, 53, 54, 55, 56, 57, 58, 59] (by kernel_rfl) hH90 _ _ _ (by kernel_rfl) ?_
                refine qs_yes rfl rfl rfl (not_decide_f hc95) rfl (yv_move rfl) ?_
                refine qs_yes rfl rfl rfl (not_decide_f hc95) rfl (yv_move rfl) ?_
                refine qs_yes rfl rfl rfl (not_decide_f hc95) rfl (yv_index T.sl23 rfl rfl (Heap.rdw T.el23_encP hH90 (n := 0) rfl).is (by omega)) ?_
                refine qs_yes rfl rfl rfl (not_decide_f hc95) rfl (yv_field T.f73_1 rfl) ?_
                refine qs_yes rfl rfl rfl (not_decide_f hc95) rfl (yv_load T.one2 rfl (fun _ hw => Rd.at (Heap.rdw T.el23_encP hw (n := 0) rfl) (i := (j : Int)) (by omega) (j := 1) rfl)) ?_
                refine qs_yes rfl rfl rfl (not_decide_f hc95) rfl (yv_move rfl) ?_
                refine qs_yes rfl rfl rfl (not_decide_f hc95) rfl (yv_move rfl) ?_
                refine qs_yes rfl rfl rfl (not_decide_f hc95) rfl (yv_move rfl) ?_
                refine qs_yes rfl rfl rfl (not_decide_f hc95) rfl (yv_index T.sl23 rfl rfl (Heap.rdw T.el23_encP hH90 (n := 1) rfl).is (by omega)) ?_
                refine qs_yes rfl rfl rfl (not_decide_f hc95) rfl (yv_field T.f73_1 rfl) ?_
                refine qs_yes rfl rfl rfl (not_decide_f hc95) rfl (yv_load T.one2 rfl (fun _ hw => Rd.at (Heap.rdw T.el23_encP hw (n := 1) rfl) (i := (j : Int)) (by omega) (j := 1) rfl)) ?_
                refine qs_yes rfl rfl rfl (not_decide_f hc95) rfl (yv_mul rfl rfl (by omega)) ?_
                refine qs_yes rfl rfl rfl (not_decide_f hc95) rfl (yv_neq rfl rfl) ?_
                refine qs_y rfl rfl (yv_pick_f rfl (not_decide_f hc95) rfl) ?_
                refine qs_nil ?_
                refine any_done (by kernel_rfl) ?_
                refine thn_n ?_
                have hc96 : ¬ (¬ (((nth (S.scale kk (S.play js (S.ordB bs js.length) (S.ordU bs js.length) (S.ordF bs js.length)).1) (j : Int)).2) = (kk * ((nth ((S.play js (S.ordB bs js.length) (S.ordU bs js.length) (S.ordF bs js.length)).1) (j : Int)).2)))) := by omega
                refine cond_f rfl (not_decide_f hc96) ?_
                refine skip ?_
                refine blk_n ?_
                refine thn_n ?_
                refine region ?_
                refine ops_y hH90 rfl rfl (yv_move rfl) ?_
                refine ops_y hH90 rfl rfl (yv_add rfl rfl (by omega)) ?_
                refine ops_y hH90 rfl rfl (yv_assign rfl) ?_
                refine ops_nil ?_
                refine lp_n (j + 1) (Sub.cons rfl (Sub.cons rfl (Sub.cons rfl (Sub.cons rfl (Sub.nil _))))) ?_ ?_
                · exact ⟨hH90, by omega⟩
                · first | (dsimp only; omega) | (show _ < _; omega)
              · skip
                refine cond_f rfl (decide_eq_false hc87) ?_
                refine exit ?_
                refine thn_x ?_
                refine lp_x ?_
                refine blk_here ?_
                refine thn_n ?_
                refine seq ?_
                refine region ?_
                refine op_fnV rfl rfl rfl hH86 (c17) (fun w97 hH98 => ?_)
                refine ops_y hH98 rfl rfl (yv_assign rfl) ?_
                refine ops_nil ?_
                refine thn_n ?_
                refine ret ?_
                have hH99 := (hH98.sub (List.Sublist.cons _ (List.Sublist.cons _ (List.Sublist.cons _ (List.Sublist.cons _ (List.Sublist.cons _ (List.Sublist.cons _ (List.Sublist.cons _ (List.Sublist.refl _)))))))))
                refine fin hH99 (fun w' hf => (res1 rfl (show RV _ _ _ (.tmp 6) _ from rfl))) (fun w' hf => ?_)
                rfl
          · skip
            have hnx : ¬ S.Jobs (S.scale kk js) := ‹_›
            have hk2 : k = js.length := by omega
            have hH100 := Heap.recast (n := 0) hH9 rfl (show _ = (S.scale kk js) from List.take_of_length_le (by rw [S.scale_length]; omega))
            refine region ?_
            refine ops_y hH100 rfl rfl (yv_move rfl) ?_
            refine op_fnV rfl rfl rfl hH100 (c41c (Heap.rdw T.el22_encP hH100 (n := 0) rfl)) (fun w101 hH102 => ?_)
            refine ops_y hH102 rfl rfl (yv_castB (bnot_t (decide_eq_false hc25)) (yv_not rfl)) ?_
            refine ops_nil ?_
            refine thn_n ?_
            refine cond_t rfl rfl ?_
            refine seq ?_
            refine region ?_
            refine op_fnV rfl rfl rfl hH102 (c17) (fun w103 hH104 => ?_)
            refine ops_y hH104 rfl rfl (yv_assign rfl) ?_
            refine ops_nil ?_
            refine thn_n ?_
            refine ret ?_
            refine thn_r ?_
            have hH105 := (hH104.sub (List.Sublist.cons _ (List.Sublist.refl _)))
            refine fin hH105 (fun w' hf => (res1 rfl (show RV _ _ _ (.tmp 6) _ from rfl))) (fun w' hf => ?_)
            rfl
  · skip
    have hnj : ¬ S.Jobs js := ‹_›
    refine region ?_
    refine ops_y hH rfl rfl (yv_move rfl) ?_
    refine op_fnV rfl rfl rfl hH (c41c (h0.now hH (n := 0) rfl)) (fun w106 hH107 => ?_)
    refine ops_y hH107 rfl rfl (yv_castB (bnot_t (decide_eq_false hc1)) (yv_not rfl)) ?_
    refine ops_y hH107 rfl rfl (yv_move rfl) ?_
    refine guard_no rfl rfl rfl rfl ?_
    refine guard_no rfl rfl rfl rfl ?_
    refine guard_no rfl rfl rfl rfl ?_
    refine ops_y hH107 rfl rfl (yv_pick_t rfl rfl rfl) ?_
    refine ops_nil ?_
    refine thn_n ?_
    refine cond_t rfl rfl ?_
    refine seq ?_
    refine region ?_
    refine op_fnV rfl rfl rfl hH107 (c17) (fun w108 hH109 => ?_)
    refine ops_y hH109 rfl rfl (yv_assign rfl) ?_
    refine ops_nil ?_
    refine thn_n ?_
    refine ret ?_
    refine thn_r ?_
    refine fin hH109 (fun w' hf => (res1 rfl (show RV _ _ _ (.tmp 6) _ from rfl))) (fun w' hf => ?_)
    rfl

end Go.Fip
