/- Walks, by program (wip/tools). -/
import Derived.Test.YtlekkopaeiblfaaWc
import Derived.Test.YtlekkopaeiblfaaSb
set_option linter.unusedVariables false
set_option linter.unusedSimpArgs false
set_option linter.unusedSectionVars false
set_option linter.unnecessarySimpa false
namespace Go.Fip
open Go.Proofs Go.RowKit

theorem c61 {v : Value} {js : List S.Pr} {w : World} (h0 : Rd encP 2 v js w) (hj : S.Jobs js)  :
    Fn Try.prog 61 [v].toArray w (fun u _ => u = .agg #[.int .i64 (S.sumOf js 0), .int .i64 (S.sumOf js 1)]) := by
  refine fn_of' (args := [v]) Try.func61 rfl (ent Try.func61 (by kernel_rfl) rfl) rfl rfl (fun hH => ?_)
  have hl8 := hj.2.1
  refine seq ?_
  refine region ?_
  refine op_alloc (z := (.agg #[(.int .i64 0), (.int .i64 0)])) (us := [(.int .i64 0), (.int .i64 0)]) (fun _ => by kernel_rfl) rfl rfl hH (fun b1 w2 hH3 => ?_)
  refine ops_nil ?_
  refine thn_n ?_
  refine seq ?_
  refine region ?_
  refine op_alloc (z := (.agg #[(.int .i64 0), (.int .i64 0)])) (us := [(.int .i64 0), (.int .i64 0)]) (fun _ => by kernel_rfl) rfl rfl hH3 (fun b4 w5 hH6 => ?_)
  refine ops_nil ?_
  refine thn_n ?_
  refine seq ?_
  refine seq ?_
  refine region ?_
  refine ops_y hH6 rfl rfl (yv_move rfl) ?_
  refine ops_y hH6 rfl rfl (yv_len T.sl22 rfl (h0.now hH6 (n := 2) rfl).is) ?_
  refine ops_y hH6 rfl rfl (yv_move rfl) ?_
  refine ops_nil ?_
  refine thn_n ?_
  refine block ?_
  refine loop (S := Nat) (fun k => [(8, (.int .i64 (k : Int))), (2, (.pointer (some ⟨b1, 0, none⟩))), (3, (.pointer (some ⟨b4, 0, none⟩))), (6, v), (7, (.int .i64 (js.length : Int)))]) (fun k w1 => Heap [bx b4 85 [(.int .i64 (S.sumTo js 0 k)), (.int .i64 (S.sumTo js 1 k))], bx b1 85 [(.int .i64 0), (.int .i64 0)], base w] w1 ∧ k ≤ js.length) (fun k => js.length - k) (0) (Sub.cons rfl (Sub.cons rfl (Sub.cons rfl (Sub.cons rfl (Sub.cons rfl (Sub.nil _)))))) ?_ ?_
  · exact ⟨(Heap.recastBx (n := 0) hH6 rfl (rfl)), by omega⟩
  · rintro k w7 ⟨hH8, hk⟩
    show Holds _ _ _ _ _ [(8, (.int .i64 (k : Int))), (2, (.pointer (some ⟨b1, 0, none⟩))), (3, (.pointer (some ⟨b4, 0, none⟩))), (6, v), (7, (.int .i64 (js.length : Int)))] _ _
    refine seq ?_
    refine region ?_
    refine ops_y hH8 rfl rfl (yv_lss rfl rfl) ?_
    refine ops_nil ?_
    refine thn_n ?_
    refine seq ?_
    by_cases hc9 : (k : Int) < (js.length : Int)
    · skip
      refine cond_t rfl (decide_eq_true hc9) ?_
      refine skip ?_
      refine thn_n ?_
      refine seq ?_
      refine block ?_
      refine seq ?_
      have ho := hj.nth (i := (k : Int)) (by omega) (by omega)
      unfold S.okJob at ho
      have hb0 := S.sumTo_bd hj (b := 0) (by omega) (by omega) k hk
      have hb1 := S.sumTo_bd hj (b := 1) (by omega) (by omega) k hk
      refine region ?_
      refine ops_y hH8 rfl rfl (yv_index T.sl22 rfl rfl (h0.now hH8 (n := 2) rfl).is (by omega)) ?_
      refine ops_y hH8 rfl rfl (yv_loadA (cs := [(.int .i64 ((nth js (k : Int)).1)), (.int .i64 ((nth js (k : Int)).2))]) T.agg71 rfl rfl (fun _ hw => Rd.atA (h0.now hw (n := 2) rfl) (i := (k : Int)) (by omega))) ?_
      refine op_alloc (z := (.agg #[(.int .i64 0), (.int .i64 0)])) (us := [(.int .i64 0), (.int .i64 0)]) (fun _ => by kernel_rfl) rfl rfl hH8 (fun b10 w11 hH12 => ?_)
      refine op_store (n := 0) (j := 0) (us := [(.int .i64 ((nth js (k : Int)).1)), (.int .i64 ((nth js (k : Int)).2))]) rfl rfl hH12 rfl T.sz71 rfl rfl rfl (by rfl) (fun w13 hH14 => ?_)
      refine ops_nil ?_
      refine thn_n ?_
      refine seq ?_
      refine region ?_
      refine ops_y hH14 rfl rfl (yv_indexA T.arr85 rfl rfl (by omega)) ?_
      refine ops_y hH14 rfl rfl (yv_load T.one2 rfl (fun _ hw => Heap.cellw hw (n := 1) rfl rfl)) ?_
      refine ops_y hH14 rfl rfl (yv_field T.f71_0 rfl) ?_
      refine ops_y hH14 rfl rfl (yv_load T.one2 rfl (fun _ hw => Heap.cellw hw (n := 0) rfl rfl)) ?_
      refine ops_y hH14 rfl rfl (yv_add rfl rfl (by omega)) ?_
      refine ops_y hH14 rfl rfl (yv_indexA T.arr85 rfl rfl (by omega)) ?_
      refine op_store (n := 1) (j := 0) (us := [(.int .i64 ((S.sumTo js 0 k) + ((nth js (k : Int)).1)))]) rfl rfl hH14 rfl T.sz2 rfl rfl rfl (by rfl) (fun w15 hH16 => ?_)
      refine ops_nil ?_
      refine thn_n ?_
      refine region ?_
      refine ops_y hH16 rfl rfl (yv_indexA T.arr85 rfl rfl (by omega)) ?_
      refine ops_y hH16 rfl rfl (yv_load T.one2 rfl (fun _ hw => Heap.cellw hw (n := 1) rfl rfl)) ?_
      refine ops_y hH16 rfl rfl (yv_field T.f71_1 rfl) ?_
      refine ops_y hH16 rfl rfl (yv_load T.one2 rfl (fun _ hw => Heap.cellw hw (n := 0) rfl rfl)) ?_
      refine ops_y hH16 rfl rfl (yv_add rfl rfl (by omega)) ?_
      refine ops_y hH16 rfl rfl (yv_indexA T.arr85 rfl rfl (by omega)) ?_
      refine op_store (n := 1) (j := 1) (us := [(.int .i64 ((S.sumTo js 1 k) + ((nth js (k : Int)).2)))]) rfl rfl hH16 rfl T.sz2 rfl rfl rfl (by rfl) (fun w17 hH18 => ?_)
      refine ops_nil ?_
      refine blk_n ?_
      refine thn_n ?_
      refine region ?_
      refine ops_y hH18 rfl rfl (yv_add rfl rfl (by omega)) ?_
      refine ops_y hH18 rfl rfl (yv_move rfl) ?_
      refine ops_nil ?_
      have hH19 := (hH18.sub (List.Sublist.cons _ (List.Sublist.refl _)))
      refine lp_n (k + 1) (Sub.cons rfl (Sub.cons rfl (Sub.cons rfl (Sub.cons rfl (Sub.cons rfl (Sub.nil _)))))) ?_ ?_
      · exact ⟨(Heap.recastBx (n := 0) hH19 rfl (by rw [S.sum0, S.sum1]; rfl)), by omega⟩
      · first | (dsimp only; omega) | (show _ < _; omega)
    · skip
      refine cond_f rfl (decide_eq_false hc9) ?_
      refine exit ?_
      refine thn_x ?_
      refine lp_x ?_
      refine blk_here ?_
      refine thn_n ?_
      refine seq ?_
      refine region ?_
      refine ops_y hH8 rfl rfl (yv_loadA (cs := [(.int .i64 (S.sumTo js 0 k)), (.int .i64 (S.sumTo js 1 k))]) T.agg85 rfl rfl (fun _ hw => Heap.cellsw hw (n := 0) rfl (k := 0) rfl)) ?_
      refine op_store (n := 1) (j := 0) (us := [(.int .i64 (S.sumTo js 0 k)), (.int .i64 (S.sumTo js 1 k))]) rfl rfl hH8 rfl T.sz85 rfl rfl rfl (by rfl) (fun w20 hH21 => ?_)
      refine ops_nil ?_
      refine thn_n ?_
      refine ret ?_
      have hH22 := (hH21.sub (List.Sublist.cons _ (List.Sublist.refl _)))
      refine fin (hH22.front (n := 1) rfl) (fun w' hf => (res1 rfl (rvA (cs := [(.int .i64 (S.sumTo js 0 k)), (.int .i64 (S.sumTo js 1 k))]) rfl T.agg85 rfl (bx_cells (Heap.bxw hf (n := 1) rfl) (k := 0) rfl)))) (fun w' hf => ?_)
      have hk2 : k = js.length := by omega
      subst hk2; rfl

theorem c65 {v : Value} {js : List S.Pr} {b i : Int} {w : World} (h0 : Rd encP 2 v js w) (hj : S.Jobs js) (hb : 0 ≤ b) (hb2 : b ≤ 2) (hi : 0 ≤ i) (hi2 : i < (js.length : Int))  :
    Fn Try.prog 65 [v, (.int .i64 b), (.int .i64 i)].toArray w (fun u _ => u = .int .i64 (S.boundOf js b i)) := by
  refine fn_of' (args := [v, (.int .i64 b), (.int .i64 i)]) Try.func65 rfl (ent Try.func65 (by kernel_rfl) rfl) rfl rfl (fun hH => ?_)
  have hl8 := hj.2.1
  have ho := hj.nth hi hi2
  unfold S.okJob at ho
  refine seq ?_
  refine region ?_
  refine ops_y hH rfl rfl (yv_assign rfl) ?_
  refine ops_nil ?_
  refine thn_n ?_
  refine seq ?_
  refine seq ?_
  refine region ?_
  refine ops_y hH rfl rfl (yv_move rfl) ?_
  refine ops_y hH rfl rfl (yv_eql rfl rfl) ?_
  refine ops_nil ?_
  refine thn_n ?_
  by_cases hc1 : b = 2
  · skip
    refine cond_t rfl (decide_eq_true hc1) ?_
    refine seq ?_
    refine region_draw (fun w' => Heap [base w] w') T.mixed (fun w2 hr3 => ?_)
    have hH4 := hH.redrawn hr3
    refine any_takes [0, 1, 2, 3, 4, 5, 6, 7, 8, 9, 10, 11] (by kernel_rfl) hH4 _ _ _ (by kernel_rfl) ?_
    refine qs_y rfl rfl (yv_move rfl) ?_
    refine qs_y rfl rfl (yv_move rfl) ?_
    refine qs_y rfl rfl (yv_index T.sl22 rfl rfl (h0.now hH4 (n := 0) rfl).is (by omega)) ?_
    refine qs_y rfl rfl (yv_field T.f71_0 rfl) ?_
    refine qs_y rfl rfl (yv_load T.one2 rfl (fun _ hw => Rd.at (h0.now hw (n := 0) rfl) (i := i) (by omega) (j := 0) rfl)) ?_
    refine qs_y rfl rfl (yv_move rfl) ?_
    refine qs_y rfl rfl (yv_move rfl) ?_
    refine qs_y rfl rfl (yv_index T.sl22 rfl rfl (h0.now hH4 (n := 0) rfl).is (by omega)) ?_
    refine qs_y rfl rfl (yv_field T.f71_1 rfl) ?_
    refine qs_y rfl rfl (yv_load T.one2 rfl (fun _ hw => Rd.at (h0.now hw (n := 0) rfl) (i := i) (by omega) (j := 1) rfl)) ?_
    refine qs_y rfl rfl (yv_add rfl rfl (by omega)) ?_
    refine qs_y rfl rfl (yv_assign rfl) ?_
    refine qs_nil ?_
    refine any_done (by kernel_rfl) ?_
    refine thn_n ?_
    refine ret ?_
    refine thn_r ?_
    refine fin hH4 (fun w' hf => (res1 rfl (show RV _ _ _ (.tmp 6) _ from rfl))) (fun w' hf => ?_)
    show _ = _; unfold S.boundOf; first | (rw [if_pos ‹_›]; done) | (rcases (by omega : b = 0 ∨ b = 1) with rfl | rfl <;> rfl)
  · skip
    refine cond_f rfl (decide_eq_false hc1) ?_
    refine skip ?_
    refine thn_n ?_
    refine seq ?_
    refine region ?_
    refine ops_y hH rfl rfl (yv_move rfl) ?_
    refine op_fnV rfl rfl rfl hH (c61 (h0.now hH (n := 0) rfl) hj) (fun w5 hH6 => ?_)
    refine ops_y hH6 rfl rfl (yv_move rfl) ?_
    refine ops_y hH6 rfl rfl (yv_idx2 T.arr85 T.one2 rfl rfl (by omega)) ?_
    refine ops_y hH6 rfl rfl (yv_assign rfl) ?_
    refine ops_nil ?_
    refine thn_n ?_
    refine ret ?_
    refine fin hH6 (fun w' hf => (res1 rfl (show RV _ _ _ (.tmp 6) _ from rfl))) (fun w' hf => ?_)
    show _ = _; unfold S.boundOf; first | (rw [if_pos ‹_›]; done) | (rcases (by omega : b = 0 ∨ b = 1) with rfl | rfl <;> rfl)

theorem c68 {v : Value} {js : List S.Pr} {w : World} (h0 : Rd encP 2 v js w) (hj : S.Jobs js)  :
    Fn Try.prog 68 [v].toArray w (fun u w => Own 94 3 encN u (S.boundsTo js js.length) w) := by
  refine fn_of' (args := [v]) Try.func68 rfl (ent Try.func68 (by kernel_rfl) rfl) rfl rfl (fun hH => ?_)
  have hl8 := hj.2.1
  have hl1 := hj.1
  refine seq ?_
  refine region ?_
  refine ops_y hH rfl rfl (yv_assign rfl) ?_
  refine ops_nil ?_
  refine thn_n ?_
  refine seq ?_
  refine region ?_
  refine ops_y hH rfl rfl (yv_move rfl) ?_
  refine op_fnV rfl rfl rfl hH (c65 (h0.now hH (n := 0) rfl) hj (by omega) (by omega) (by omega) (by omega)) (fun w1 hH2 => ?_)
  refine ops_y hH2 rfl rfl (yv_build (v := (.agg #[(.int .i64 0), (.int .i64 0), (.int .i64 (S.boundOf js 0 0))])) (us := [(0, (.int .i64 0)), (1, (.int .i64 0)), (2, (.int .i64 (S.boundOf js 0 0)))]) (fun a ha => by simp [ha.ev (show ev _ (.const (.int .i64 0)) = some _ from rfl), ha.ev (show ev _ (.const (.int .i64 0)) = some _ from rfl), ha.ev (show ev _ (.tmp 6) = some _ from rfl)]) (fun w => by kernel_rfl)) ?_
  refine ops_y hH2 rfl rfl (yv_move rfl) ?_
  refine op_fnV rfl rfl rfl hH2 (c65 (h0.now hH2 (n := 0) rfl) hj (by omega) (by omega) (by omega) (by omega)) (fun w3 hH4 => ?_)
  refine ops_y hH4 rfl rfl (yv_build (v := (.agg #[(.int .i64 1), (.int .i64 0), (.int .i64 (S.boundOf js 1 0))])) (us := [(0, (.int .i64 1)), (1, (.int .i64 0)), (2, (.int .i64 (S.boundOf js 1 0)))]) (fun a ha => by simp [ha.ev (show ev _ (.const (.int .i64 1)) = some _ from rfl), ha.ev (show ev _ (.const (.int .i64 0)) = some _ from rfl), ha.ev (show ev _ (.tmp 9) = some _ from rfl)]) (fun w => by kernel_rfl)) ?_
  refine op_lit (us := [(0, (.agg #[(.int .i64 0), (.int .i64 0), (.int .i64 (S.boundOf js 0 0))])), (1, (.agg #[(.int .i64 1), (.int .i64 0), (.int .i64 (S.boundOf js 1 0))]))]) T.el91_encN [(0, 0, S.boundOf js 0 0), (1, 0, S.boundOf js 1 0)] rfl (by decide) rfl (fun a ha => by simp [ha.ev (show ev _ (.tmp 7) = some _ from rfl), ha.ev (show ev _ (.tmp 10) = some _ from rfl)]) (fun w => by kernel_rfl) hH4 (fun u5 lo7 hi8 w6 hH9 => ?_)
  refine ops_y hH9 rfl rfl (yv_assign rfl) ?_
  refine ops_nil ?_
  refine thn_n ?_
  refine seq ?_
  refine seq ?_
  refine region ?_
  refine ops_y hH9 rfl rfl (yv_move rfl) ?_
  refine ops_y hH9 rfl rfl (yv_len T.sl22 rfl (h0.now hH9 (n := 1) rfl).is) ?_
  refine ops_y hH9 rfl rfl (yv_move rfl) ?_
  refine ops_nil ?_
  refine thn_n ?_
  refine block ?_
  refine loop (S := Nat × Value × Nat × Nat) (fun (k, v_3, lo_3, hi_3) => [(14, (.int .i64 (k : Int))), (3, v_3), (0, v), (2, (.slice none 0 0)), (13, (.int .i64 (js.length : Int)))]) (fun (k, v_3, lo_3, hi_3) w1 => Heap [ow lo_3 hi_3 94 3 encN v_3 (S.boundsTo js k), base w] w1 ∧ k ≤ js.length) (fun (k, v_3, lo_3, hi_3) => js.length - k) (0, u5, lo7, hi8) (Sub.cons rfl (Sub.cons rfl (Sub.cons rfl (Sub.cons rfl (Sub.cons rfl (Sub.nil _)))))) ?_ ?_
  · exact ⟨(Heap.recast (n := 0) hH9 rfl (rfl)), by omega⟩
  · rintro ⟨k, v_3, lo_3, hi_3⟩ w10 ⟨hH11, hk⟩
    show Holds _ _ _ _ _ [(14, (.int .i64 (k : Int))), (3, v_3), (0, v), (2, (.slice none 0 0)), (13, (.int .i64 (js.length : Int)))] _ _
    refine seq ?_
    refine region ?_
    refine ops_y hH11 rfl rfl (yv_lss rfl rfl) ?_
    refine ops_nil ?_
    refine thn_n ?_
    refine seq ?_
    by_cases hc12 : (k : Int) < (js.length : Int)
    · skip
      refine cond_t rfl (decide_eq_true hc12) ?_
      refine skip ?_
      refine thn_n ?_
      refine seq ?_
      refine block ?_
      refine seq ?_
      refine region ?_
      refine ops_y hH11 rfl rfl (yv_move rfl) ?_
      refine ops_y hH11 rfl rfl (yv_assign rfl) ?_
      refine ops_nil ?_
      refine thn_n ?_
      have hbl := S.boundsTo_length js k
      refine region ?_
      refine ops_y hH11 rfl rfl (yv_move rfl) ?_
      refine ops_y hH11 rfl rfl (yv_move rfl) ?_
      refine ops_y hH11 rfl rfl (yv_move rfl) ?_
      refine ops_y hH11 rfl rfl (yv_move rfl) ?_
      refine op_fnV rfl rfl rfl hH11 (c65 (h0.now hH11 (n := 1) rfl) hj (by omega) (by omega) (by omega) (by omega)) (fun w13 hH14 => ?_)
      refine ops_y hH14 rfl rfl (yv_build (v := (.agg #[(.int .i64 2), (.int .i64 (k : Int)), (.int .i64 (S.boundOf js 2 (k : Int)))])) (us := [(0, (.int .i64 2)), (1, (.int .i64 (k : Int))), (2, (.int .i64 (S.boundOf js 2 (k : Int))))]) (fun a ha => by simp [ha.ev (show ev _ (.const (.int .i64 2)) = some _ from rfl), ha.ev (show ev _ (.tmp 18) = some _ from rfl), ha.ev (show ev _ (.tmp 21) = some _ from rfl)]) (fun w => by kernel_rfl)) ?_
      refine op_lit (us := [(0, (.agg #[(.int .i64 2), (.int .i64 (k : Int)), (.int .i64 (S.boundOf js 2 (k : Int)))]))]) T.el91_encN [(2, (k : Int), S.boundOf js 2 (k : Int))] rfl (by decide) rfl (fun a ha => by simp [ha.ev (show ev _ (.tmp 22) = some _ from rfl)]) (fun w => by kernel_rfl) hH14 (fun u15 lo17 hi18 w16 hH19 => ?_)
      refine op_append (n := 1) T.el91_encN rfl rfl rfl hH19 rfl (Heap.rdw T.el91_encN hH19 (n := 0) rfl) (by first | omega | (simp only [List.length_append, List.length_cons, List.length_nil]; omega)) (fun u20 lo22 hi23 w21 hH24 => ?_)
      refine ops_y hH24 rfl rfl (yv_assign rfl) ?_
      refine ops_nil ?_
      refine blk_n ?_
      refine thn_n ?_
      refine region ?_
      refine ops_y hH24 rfl rfl (yv_add rfl rfl (by omega)) ?_
      refine ops_y hH24 rfl rfl (yv_move rfl) ?_
      refine ops_nil ?_
      have hH25 := (hH24.sub (List.Sublist.cons _ (List.Sublist.refl _)))
      refine lp_n (k + 1, u20, lo22, hi23) (Sub.cons rfl (Sub.cons rfl (Sub.cons rfl (Sub.cons rfl (Sub.cons rfl (Sub.nil _)))))) ?_ ?_
      · exact ⟨(Heap.recast (n := 0) hH25 rfl (rfl)), by omega⟩
      · first | (dsimp only; omega) | (show _ < _; omega)
    · skip
      refine cond_f rfl (decide_eq_false hc12) ?_
      refine exit ?_
      refine thn_x ?_
      refine lp_x ?_
      refine blk_here ?_
      refine thn_n ?_
      refine seq ?_
      refine region ?_
      refine ops_y hH11 rfl rfl (yv_move rfl) ?_
      refine ops_y hH11 rfl rfl (yv_assign rfl) ?_
      refine ops_nil ?_
      refine thn_n ?_
      refine ret ?_
      refine fin (hH11.front (n := 1) rfl) (fun w' hf => (res1 rfl (show RV _ _ _ (.tmp 2) _ from rfl))) (fun w' hf => ?_)
      have hk2 : k = js.length := by omega
      subst hk2; exact Heap.own hf (n := 0) rfl

theorem c70 {x y : S.Nm} {w : World}  :
    Fn Try.prog 70 [(.agg #[(.int .i64 x.1), (.int .i64 x.2.1), (.int .i64 x.2.2)]), (.agg #[(.int .i64 y.1), (.int .i64 y.2.1), (.int .i64 y.2.2)])].toArray w (fun u _ => u = .bool (S.better x y)) := by
  refine fn_of' (args := [(.agg #[(.int .i64 x.1), (.int .i64 x.2.1), (.int .i64 x.2.2)]), (.agg #[(.int .i64 y.1), (.int .i64 y.2.1), (.int .i64 y.2.2)])]) Try.func70 rfl (ent Try.func70 (by kernel_rfl) rfl) rfl rfl (fun hH => ?_)
  refine seq ?_
  refine region ?_
  refine op_box (us := [(.int .i64 x.1), (.int .i64 x.2.1), (.int .i64 x.2.2)]) rfl rfl rfl hH (fun b1 w2 hH3 => ?_)
  refine op_box (us := [(.int .i64 y.1), (.int .i64 y.2.1), (.int .i64 y.2.2)]) rfl rfl rfl hH3 (fun b4 w5 hH6 => ?_)
  refine ops_y hH6 rfl rfl (yv_assign rfl) ?_
  refine ops_nil ?_
  refine thn_n ?_
  refine seq ?_
  refine region ?_
  refine ops_y hH6 rfl rfl (yv_field T.f94_2 rfl) ?_
  refine ops_y hH6 rfl rfl (yv_load T.one2 rfl (fun _ hw => Heap.cellw hw (n := 1) rfl rfl)) ?_
  refine ops_y hH6 rfl rfl (yv_field T.f94_2 rfl) ?_
  refine ops_y hH6 rfl rfl (yv_load T.one2 rfl (fun _ hw => Heap.cellw hw (n := 0) rfl rfl)) ?_
  refine ops_y hH6 rfl rfl (yv_gtr rfl rfl) ?_
  refine ops_y hH6 rfl rfl (yv_assign rfl) ?_
  refine ops_nil ?_
  refine thn_n ?_
  refine ret ?_
  have hH7 := (hH6.sub (List.Sublist.cons _ (List.Sublist.cons _ (List.Sublist.refl _))))
  refine fin hH7 (fun w' hf => (res1 rfl (show RV _ _ _ (.tmp 4) _ from rfl))) (fun w' hf => ?_)
  rfl

theorem c69 {v : Value} {l : List S.Nm} {w : World} (h0 : Rd encN 3 v l w) (hn : 1 ≤ l.length) (hn2 : l.length ≤ 1000000)  :
    Fn Try.prog 69 [v, (.func (.func 70) #[] #[])].toArray w (fun u _ => u = .agg #[.int .i64 (bestTo S.better l (l.length - 1)).1, .int .i64 (bestTo S.better l (l.length - 1)).2.1, .int .i64 (bestTo S.better l (l.length - 1)).2.2]) := by
  refine fn_of' (args := [v, (.func (.func 70) #[] #[])]) Try.func69 rfl (ent Try.func69 (by kernel_rfl) rfl) rfl rfl (fun hH => ?_)
  have hd : (l.drop 1).length = l.length - 1 := List.length_drop
  refine seq ?_
  refine region ?_
  refine op_alloc (z := (.agg #[(.int .i64 0), (.int .i64 0), (.int .i64 0)])) (us := [(.int .i64 0), (.int .i64 0), (.int .i64 0)]) (fun _ => by kernel_rfl) rfl rfl hH (fun b1 w2 hH3 => ?_)
  refine ops_nil ?_
  refine thn_n ?_
  refine seq ?_
  refine region ?_
  refine ops_y hH3 rfl rfl (yv_move rfl) ?_
  refine ops_y hH3 rfl rfl (yv_index T.sl91 rfl rfl (h0.now hH3 (n := 1) rfl).is (by omega)) ?_
  refine ops_y hH3 rfl rfl (yv_loadA (cs := [(.int .i64 ((nth l 0).1)), (.int .i64 ((nth l 0).2.1)), (.int .i64 ((nth l 0).2.2))]) T.agg94 rfl rfl (fun _ hw => Rd.atA (h0.now hw (n := 1) rfl) (i := 0) (by omega))) ?_
  refine op_alloc (z := (.agg #[(.int .i64 0), (.int .i64 0), (.int .i64 0)])) (us := [(.int .i64 0), (.int .i64 0), (.int .i64 0)]) (fun _ => by kernel_rfl) rfl rfl hH3 (fun b4 w5 hH6 => ?_)
  refine op_store (n := 0) (j := 0) (us := [(.int .i64 ((nth l 0).1)), (.int .i64 ((nth l 0).2.1)), (.int .i64 ((nth l 0).2.2))]) rfl rfl hH6 rfl T.sz94 rfl rfl rfl (by rfl) (fun w7 hH8 => ?_)
  refine ops_nil ?_
  refine thn_n ?_
  refine seq ?_
  refine seq ?_
  refine region ?_
  refine ops_y hH8 rfl rfl (yv_move rfl) ?_
  refine ops_y hH8 rfl rfl (yv_cut_lo T.sl91 rfl rfl (h0.now hH8 (n := 2) rfl).is (by omega)) ?_
  refine ops_y hH8 rfl rfl (yv_len T.sl91 rfl (Rd.from (h0.now hH8 (n := 2) rfl) (lo := 1) (by omega)).is) ?_
  refine ops_y hH8 rfl rfl (yv_move rfl) ?_
  refine ops_nil ?_
  refine thn_n ?_
  refine block ?_
  refine loop (S := Nat) (fun k => [(14, (.int .i64 (k : Int))), (1, (.func (.func 70) #[] #[])), (4, (.pointer (some ⟨b1, 0, none⟩))), (5, (.pointer (some ⟨b4, 0, none⟩))), (12, (cutv v 3 1 l.length)), (13, (.int .i64 ((l.drop 1).length : Int)))]) (fun k w1 => Heap [bx b4 94 [(.int .i64 ((bestTo S.better l k).1)), (.int .i64 ((bestTo S.better l k).2.1)), (.int .i64 ((bestTo S.better l k).2.2))], bx b1 94 [(.int .i64 0), (.int .i64 0), (.int .i64 0)], base w] w1 ∧ k ≤ (l.drop 1).length) (fun k => (l.drop 1).length - k) (0) (Sub.cons rfl (Sub.cons rfl (Sub.cons rfl (Sub.cons rfl (Sub.cons rfl (Sub.cons rfl (Sub.nil _))))))) ?_ ?_
  · exact ⟨(Heap.recastBx (n := 0) hH8 rfl (rfl)), by omega⟩
  · rintro k w9 ⟨hH10, hk⟩
    show Holds _ _ _ _ _ [(14, (.int .i64 (k : Int))), (1, (.func (.func 70) #[] #[])), (4, (.pointer (some ⟨b1, 0, none⟩))), (5, (.pointer (some ⟨b4, 0, none⟩))), (12, (cutv v 3 1 l.length)), (13, (.int .i64 ((l.drop 1).length : Int)))] _ _
    refine seq ?_
    refine region ?_
    refine ops_y hH10 rfl rfl (yv_lss rfl rfl) ?_
    refine ops_nil ?_
    refine thn_n ?_
    refine seq ?_
    by_cases hc11 : (k : Int) < ((l.drop 1).length : Int)
    · skip
      refine cond_t rfl (decide_eq_true hc11) ?_
      refine skip ?_
      refine thn_n ?_
      refine seq ?_
      refine block ?_
      refine seq ?_
      refine region ?_
      refine ops_y hH10 rfl rfl (yv_index T.sl91 rfl rfl (Rd.from (h0.now hH10 (n := 2) rfl) (lo := 1) (by omega)).is (by omega)) ?_
      refine ops_y hH10 rfl rfl (yv_loadA (cs := [(.int .i64 ((nth (l.drop 1) (k : Int)).1)), (.int .i64 ((nth (l.drop 1) (k : Int)).2.1)), (.int .i64 ((nth (l.drop 1) (k : Int)).2.2))]) T.agg94 rfl rfl (fun _ hw => Rd.atA (Rd.from (h0.now hw (n := 2) rfl) (lo := 1) (by omega)) (i := (k : Int)) (by omega))) ?_
      refine op_alloc (z := (.agg #[(.int .i64 0), (.int .i64 0), (.int .i64 0)])) (us := [(.int .i64 0), (.int .i64 0), (.int .i64 0)]) (fun _ => by kernel_rfl) rfl rfl hH10 (fun b12 w13 hH14 => ?_)
      refine op_store (n := 0) (j := 0) (us := [(.int .i64 ((nth (l.drop 1) (k : Int)).1)), (.int .i64 ((nth (l.drop 1) (k : Int)).2.1)), (.int .i64 ((nth (l.drop 1) (k : Int)).2.2))]) rfl rfl hH14 rfl T.sz94 rfl rfl rfl (by rfl) (fun w15 hH16 => ?_)
      refine ops_nil ?_
      refine thn_n ?_
      refine seq ?_
      refine region ?_
      refine ops_y hH16 rfl rfl (yv_move rfl) ?_
      refine ops_y hH16 rfl rfl (yv_loadA (cs := [(.int .i64 ((nth (l.drop 1) (k : Int)).1)), (.int .i64 ((nth (l.drop 1) (k : Int)).2.1)), (.int .i64 ((nth (l.drop 1) (k : Int)).2.2))]) T.agg94 rfl rfl (fun _ hw => Heap.cellsw hw (n := 0) rfl (k := 0) rfl)) ?_
      refine ops_y hH16 rfl rfl (yv_loadA (cs := [(.int .i64 ((bestTo S.better l k).1)), (.int .i64 ((bestTo S.better l k).2.1)), (.int .i64 ((bestTo S.better l k).2.2))]) T.agg94 rfl rfl (fun _ hw => Heap.cellsw hw (n := 1) rfl (k := 0) rfl)) ?_
      refine op_fnV rfl rfl rfl hH16 ((c70 (x := ((nth (l.drop 1) (k : Int)).1, (nth (l.drop 1) (k : Int)).2.1, (nth (l.drop 1) (k : Int)).2.2)) (y := ((bestTo S.better l k).1, (bestTo S.better l k).2.1, (bestTo S.better l k).2.2)))) (fun w17 hH18 => ?_)
      refine ops_nil ?_
      refine thn_n ?_
      by_cases hc19 : S.better ((nth (l.drop 1) (k : Int)).1, (nth (l.drop 1) (k : Int)).2.1, (nth (l.drop 1) (k : Int)).2.2) ((bestTo S.better l k).1, (bestTo S.better l k).2.1, (bestTo S.better l k).2.2) = true
      · skip
        have hp : S.better (nth (l.drop 1) (k : Int)) (bestTo S.better l k) = true := hc19
        refine cond_t rfl hc19 ?_
        refine region ?_
        refine ops_y hH18 rfl rfl (yv_loadA (cs := [(.int .i64 ((nth (l.drop 1) (k : Int)).1)), (.int .i64 ((nth (l.drop 1) (k : Int)).2.1)), (.int .i64 ((nth (l.drop 1) (k : Int)).2.2))]) T.agg94 rfl rfl (fun _ hw => Heap.cellsw hw (n := 0) rfl (k := 0) rfl)) ?_
        refine op_store (n := 1) (j := 0) (us := [(.int .i64 ((nth (l.drop 1) (k : Int)).1)), (.int .i64 ((nth (l.drop 1) (k : Int)).2.1)), (.int .i64 ((nth (l.drop 1) (k : Int)).2.2))]) rfl rfl hH18 rfl T.sz94 rfl rfl rfl (by rfl) (fun w20 hH21 => ?_)
        refine ops_nil ?_
        refine blk_n ?_
        refine thn_n ?_
        refine region ?_
        refine ops_y hH21 rfl rfl (yv_add rfl rfl (by omega)) ?_
        refine ops_y hH21 rfl rfl (yv_move rfl) ?_
        refine ops_nil ?_
        have hH22 := (hH21.sub (List.Sublist.cons _ (List.Sublist.refl _)))
        refine lp_n (k + 1) (Sub.cons rfl (Sub.cons rfl (Sub.cons rfl (Sub.cons rfl (Sub.cons rfl (Sub.cons rfl (Sub.nil _))))))) ?_ ?_
        · exact ⟨(Heap.recastBx (n := 0) hH22 rfl (by first | (rw [bestTo_t hp]; rfl) | (rw [bestTo_f hp]; done) | (rw [bestTo_f hp]; rfl))), by omega⟩
        · first | (dsimp only; omega) | (show _ < _; omega)
      · skip
        have hp : S.better (nth (l.drop 1) (k : Int)) (bestTo S.better l k) = false := (Bool.eq_false_iff.2 hc19)
        refine cond_f rfl (Bool.eq_false_iff.2 hc19) ?_
        refine skip ?_
        refine blk_n ?_
        refine thn_n ?_
        refine region ?_
        refine ops_y hH18 rfl rfl (yv_add rfl rfl (by omega)) ?_
        refine ops_y hH18 rfl rfl (yv_move rfl) ?_
        refine ops_nil ?_
        have hH23 := (hH18.sub (List.Sublist.cons _ (List.Sublist.refl _)))
        refine lp_n (k + 1) (Sub.cons rfl (Sub.cons rfl (Sub.cons rfl (Sub.cons rfl (Sub.cons rfl (Sub.cons rfl (Sub.nil _))))))) ?_ ?_
        · exact ⟨(Heap.recastBx (n := 0) hH23 rfl (by first | (rw [bestTo_t hp]; rfl) | (rw [bestTo_f hp]; done) | (rw [bestTo_f hp]; rfl))), by omega⟩
        · first | (dsimp only; omega) | (show _ < _; omega)
    · skip
      refine cond_f rfl (decide_eq_false hc11) ?_
      refine exit ?_
      refine thn_x ?_
      refine lp_x ?_
      refine blk_here ?_
      refine thn_n ?_
      refine seq ?_
      refine region ?_
      refine ops_y hH10 rfl rfl (yv_loadA (cs := [(.int .i64 ((bestTo S.better l k).1)), (.int .i64 ((bestTo S.better l k).2.1)), (.int .i64 ((bestTo S.better l k).2.2))]) T.agg94 rfl rfl (fun _ hw => Heap.cellsw hw (n := 0) rfl (k := 0) rfl)) ?_
      refine op_store (n := 1) (j := 0) (us := [(.int .i64 ((bestTo S.better l k).1)), (.int .i64 ((bestTo S.better l k).2.1)), (.int .i64 ((bestTo S.better l k).2.2))]) rfl rfl hH10 rfl T.sz94 rfl rfl rfl (by rfl) (fun w24 hH25 => ?_)
      refine ops_nil ?_
      refine thn_n ?_
      refine ret ?_
      have hH26 := (hH25.sub (List.Sublist.cons _ (List.Sublist.refl _)))
      refine fin (hH26.front (n := 1) rfl) (fun w' hf => (res1 rfl (rvA (cs := [(.int .i64 ((bestTo S.better l k).1)), (.int .i64 ((bestTo S.better l k).2.1)), (.int .i64 ((bestTo S.better l k).2.2))]) rfl T.agg94 rfl (bx_cells (Heap.bxw hf (n := 1) rfl) (k := 0) rfl)))) (fun w' hf => ?_)
      have hk2 : k = l.length - 1 := by omega
      subst hk2; rfl

theorem tup3 {p : Int × Int × Int} {a b c : Int} {k k' k'' : IntKind} (h : p = (a, b, c)) : Value.tuple #[.int k a, .int k' b, .int k'' c] = .tuple #[.int k p.1, .int k' p.2.1, .int k'' p.2.2] := by subst h; rfl
theorem tight_ok {js : List S.Pr} (h : S.checkJobs js = 0) : S.tight js = ((bestTo S.better (S.boundsTo js js.length) ((S.boundsTo js js.length).length - 1)).1, (bestTo S.better (S.boundsTo js js.length) ((S.boundsTo js js.length).length - 1)).2.1, 0) := by
  rw [S.tightest_spec.1, if_neg (by omega), S.boundsTo_length]
  rfl
theorem tight_no {js : List S.Pr} (h : ¬ S.checkJobs js = 0) : S.tight js = (0, 0, S.checkJobs js) := by
  rw [S.tightest_spec.1, if_pos h]

theorem c28 {v : Value} {js : List S.Pr} {w : World} (h0 : Rd encP 2 v js w) (hn : js.length ≤ 1000000)  :
    Fn Try.prog 28 [v].toArray w (fun u _ => u = .tuple #[.int .i64 (S.tight js).1, .int .i64 (S.tight js).2.1, .int .i64 (S.tight js).2.2]) := by
  refine fn_of' (args := [v]) Try.func28 rfl (ent Try.func28 (by kernel_rfl) rfl) rfl rfl (fun hH => ?_)
  refine seq ?_
  refine region ?_
  refine ops_y hH rfl rfl (yv_assign rfl) ?_
  refine ops_y hH rfl rfl (yv_assign rfl) ?_
  refine ops_y hH rfl rfl (yv_assign rfl) ?_
  refine ops_nil ?_
  refine thn_n ?_
  refine seq ?_
  refine seq ?_
  refine region ?_
  refine ops_y hH rfl rfl (yv_move rfl) ?_
  refine op_fnV rfl rfl rfl hH (c22 (h0.now hH (n := 0) rfl) (by omega)) (fun w1 hH2 => ?_)
  refine ops_y hH2 rfl rfl (yv_assign rfl) ?_
  refine ops_nil ?_
  refine thn_n ?_
  refine seq ?_
  refine region ?_
  refine ops_y hH2 rfl rfl (yv_move rfl) ?_
  refine ops_y hH2 rfl rfl (yv_neq rfl rfl) ?_
  refine ops_nil ?_
  refine thn_n ?_
  by_cases hc3 : (S.checkJobs js) = 0
  · skip
    have hc0 : S.checkJobs js = 0 := by omega
    have hj := S.checkJobs_iff.1 hc0
    have hl1 := hj.1
    have hl8 := hj.2.1
    refine cond_f rfl (not_decide_n hc3) ?_
    refine skip ?_
    refine thn_n ?_
    refine seq ?_
    have hbl := S.boundsTo_length js js.length
    refine region ?_
    refine ops_y hH2 rfl rfl (yv_move rfl) ?_
    refine op_fn rfl rfl rfl hH2 (c68 (h0.now hH2 (n := 0) rfl) hj) (fun u6 w4 lo7 hi8 hH5 hv9 => ?_)
    have hH10 := Heap.toOw hH5 (n := 0) rfl
    refine ops_y hH10 rfl rfl (yv_assign rfl) ?_
    refine ops_nil ?_
    refine thn_n ?_
    refine seq ?_
    refine region ?_
    refine ops_y hH10 rfl rfl (yv_move rfl) ?_
    refine op_fnV rfl rfl rfl hH10 (c69 (Heap.rdw T.el91_encN hH10 (n := 0) rfl) (by omega) (by omega)) (fun w11 hH12 => ?_)
    refine op_alloc (z := (.agg #[(.int .i64 0), (.int .i64 0), (.int .i64 0)])) (us := [(.int .i64 0), (.int .i64 0), (.int .i64 0)]) (fun _ => by kernel_rfl) rfl rfl hH12 (fun b13 w14 hH15 => ?_)
    refine op_store (n := 0) (j := 0) (us := [(.int .i64 ((bestTo S.better (S.boundsTo js js.length) ((S.boundsTo js js.length).length - 1)).1)), (.int .i64 ((bestTo S.better (S.boundsTo js js.length) ((S.boundsTo js js.length).length - 1)).2.1)), (.int .i64 ((bestTo S.better (S.boundsTo js js.length) ((S.boundsTo js js.length).length - 1)).2.2))]) rfl rfl hH15 rfl T.sz94 rfl rfl rfl (by rfl) (fun w16 hH17 => ?_)
    refine ops_nil ?_
    refine thn_n ?_
    refine seq ?_
    refine region_draw (fun w' => Heap [bx b13 94 [(.int .i64 ((bestTo S.better (S.boundsTo js js.length) ((S.boundsTo js js.length).length - 1)).1)), (.int .i64 ((bestTo S.better (S.boundsTo js js.length) ((S.boundsTo js js.length).length - 1)).2.1)), (.int .i64 ((bestTo S.better (S.boundsTo js js.length) ((S.boundsTo js js.length).length - 1)).2.2))], ow lo7 hi8 94 3 encN u6 (S.boundsTo js js.length), base w] w') T.mixed (fun w18 hr19 => ?_)
    have hH20 := hH17.redrawn hr19
    refine any_takes [0, 1, 2, 3, 4, 5, 6] (by kernel_rfl) hH20 _ _ _ (by kernel_rfl) ?_
    refine qs_y rfl rfl (yv_field T.f94_0 rfl) ?_
    refine qs_y rfl rfl (yv_load T.one3 rfl (fun _ hw => Heap.cellw hw (n := 0) rfl rfl)) ?_
    refine qs_y rfl rfl (yv_field T.f94_1 rfl) ?_
    refine qs_y rfl rfl (yv_load T.one3 rfl (fun _ hw => Heap.cellw hw (n := 0) rfl rfl)) ?_
    refine qs_y rfl rfl (yv_assign rfl) ?_
    refine qs_y rfl rfl (yv_assign rfl) ?_
    refine qs_y rfl rfl (yv_assign rfl) ?_
    refine qs_nil ?_
    refine any_done (by kernel_rfl) ?_
    refine thn_n ?_
    refine ret ?_
    have hH21 := (hH20.sub (List.Sublist.cons _ (List.Sublist.cons _ (List.Sublist.refl _))))
    refine fin hH21 (fun w' hf => (res3 rfl (show RV _ _ _ (.tmp 2) _ from rfl) (show RV _ _ _ (.tmp 3) _ from rfl) (show RV _ _ _ (.tmp 4) _ from rfl))) (fun w' hf => ?_)
    first | exact tup3 (tight_no (by assumption)) | exact tup3 (tight_ok hc0)
  · skip
    refine cond_t rfl (not_decide_t hc3) ?_
    refine seq ?_
    refine region ?_
    refine ops_y hH2 rfl rfl (yv_move rfl) ?_
    refine ops_y hH2 rfl rfl (yv_assign rfl) ?_
    refine ops_y hH2 rfl rfl (yv_assign rfl) ?_
    refine ops_y hH2 rfl rfl (yv_assign rfl) ?_
    refine ops_nil ?_
    refine thn_n ?_
    refine ret ?_
    refine thn_r ?_
    refine fin hH2 (fun w' hf => (res3 rfl (show RV _ _ _ (.tmp 2) _ from rfl) (show RV _ _ _ (.tmp 3) _ from rfl) (show RV _ _ _ (.tmp 4) _ from rfl))) (fun w' hf => ?_)
    first | exact tup3 (tight_no (by assumption)) | exact tup3 (tight_ok hc0)

theorem c29 {v : Value} {js : List S.Pr} {w : World} (h0 : Rd encP 2 v js w) (hn : js.length ≤ 1000000)  :
    Fn Try.prog 29 [v].toArray w (fun u _ => u = .tuple #[.int .i64 (S.tight js).1, .int .i64 (S.tight js).2.1, .int .i64 (S.tight js).2.2]) := by
  refine fn_of' (args := [v]) Try.func29 rfl (ent Try.func29 (by kernel_rfl) rfl) rfl rfl (fun hH => ?_)
  refine seq ?_
  refine region ?_
  refine ops_y hH rfl rfl (yv_assign rfl) ?_
  refine ops_y hH rfl rfl (yv_assign rfl) ?_
  refine ops_y hH rfl rfl (yv_assign rfl) ?_
  refine ops_nil ?_
  refine thn_n ?_
  refine seq ?_
  refine seq ?_
  refine region ?_
  refine ops_y hH rfl rfl (yv_move rfl) ?_
  refine op_fnV rfl rfl rfl hH (c23 (h0.now hH (n := 0) rfl) (by omega)) (fun w1 hH2 => ?_)
  refine ops_y hH2 rfl rfl (yv_neq rfl rfl) ?_
  refine ops_nil ?_
  refine thn_n ?_
  by_cases hc3 : (S.checkJobs js) = 0
  · skip
    have hc0 : S.checkJobs js = 0 := by omega
    have hj := S.checkJobs_iff.1 hc0
    have hl1 := hj.1
    have hl8 := hj.2.1
    refine cond_f rfl (not_decide_n hc3) ?_
    refine skip ?_
    refine thn_n ?_
    refine seq ?_
    refine seq ?_
    refine region ?_
    refine ops_y hH2 rfl rfl (yv_assign rfl) ?_
    refine ops_nil ?_
    refine thn_n ?_
    refine block ?_
    refine loop (S := Nat) (fun k => [(5, (.int .i64 (k : Int))), (0, v)]) (fun k w1 => Heap [base w] w1 ∧ k ≤ 2 ∧ ∀ i, i < k → ¬ S.sumOf js (i : Int) = S.shortestOf js) (fun k => 2 - k) (0) (Sub.cons rfl (Sub.cons rfl (Sub.nil _))) ?_ ?_
    · exact ⟨hH2, by omega, S.all_zero⟩
    · rintro k w4 ⟨hH5, hk, hall⟩
      show Holds _ _ _ _ _ [(5, (.int .i64 (k : Int))), (0, v)] _ _
      refine seq ?_
      refine seq ?_
      refine region ?_
      refine ops_y hH5 rfl rfl (yv_move rfl) ?_
      refine ops_y hH5 rfl rfl (yv_lss rfl rfl) ?_
      refine ops_nil ?_
      refine thn_n ?_
      by_cases hc6 : (k : Int) < 2
      · skip
        refine cond_t rfl (decide_eq_true hc6) ?_
        refine skip ?_
        refine thn_n ?_
        refine seq ?_
        refine block ?_
        refine seq ?_
        refine region ?_
        refine ops_y hH5 rfl rfl (yv_move rfl) ?_
        refine ops_y hH5 rfl rfl (yv_move rfl) ?_
        refine op_fnV rfl rfl rfl hH5 (c62 (h0.now hH5 (n := 0) rfl) hj (by omega) (by omega)) (fun w7 hH8 => ?_)
        refine ops_y hH8 rfl rfl (yv_move rfl) ?_
        refine op_fnV rfl rfl rfl hH8 (c67 (h0.now hH8 (n := 0) rfl) hj) (fun w9 hH10 => ?_)
        refine ops_y hH10 rfl rfl (yv_eql rfl rfl) ?_
        refine ops_nil ?_
        refine thn_n ?_
        by_cases hc11 : (S.sumOf js (k : Int)) = (S.shortestOf js)
        · skip
          refine cond_t rfl (decide_eq_true hc11) ?_
          refine seq ?_
          refine region ?_
          refine ops_y hH10 rfl rfl (yv_move rfl) ?_
          refine ops_y hH10 rfl rfl (yv_assign rfl) ?_
          refine ops_y hH10 rfl rfl (yv_assign rfl) ?_
          refine ops_y hH10 rfl rfl (yv_assign rfl) ?_
          refine ops_nil ?_
          refine thn_n ?_
          refine ret ?_
          refine blk_r ?_
          refine thn_r ?_
          refine lp_r ?_
          refine blk_r ?_
          refine thn_r ?_
          refine fin hH10 (fun w' hf => (res3 rfl (show RV _ _ _ (.tmp 2) _ from rfl) (show RV _ _ _ (.tmp 3) _ from rfl) (show RV _ _ _ (.tmp 4) _ from rfl))) (fun w' hf => ?_)
          first | exact tup3 (tight_no (by assumption)) | exact tup3 (S.tight_at2 hc0 hn0 hn1 hi hall2 (by assumption)) | exact tup3 (S.tight_at hc0 hall (by omega) (by assumption))
        · skip
          refine cond_f rfl (decide_eq_false hc11) ?_
          refine skip ?_
          refine blk_n ?_
          refine thn_n ?_
          refine region ?_
          refine ops_y hH10 rfl rfl (yv_move rfl) ?_
          refine ops_y hH10 rfl rfl (yv_add rfl rfl (by omega)) ?_
          refine ops_y hH10 rfl rfl (yv_assign rfl) ?_
          refine ops_nil ?_
          refine lp_n (k + 1) (Sub.cons rfl (Sub.cons rfl (Sub.nil _))) ?_ ?_
          · exact ⟨hH10, by omega, S.all_snoc hall (by assumption)⟩
          · first | (dsimp only; omega) | (show _ < _; omega)
      · skip
        have hn0 := hall 0 (by omega)
        have hn1 := hall 1 (by omega)
        refine cond_f rfl (decide_eq_false hc6) ?_
        refine exit ?_
        refine thn_x ?_
        refine lp_x ?_
        refine blk_here ?_
        refine thn_n ?_
        refine seq ?_
        refine region ?_
        refine ops_y hH5 rfl rfl (yv_assign rfl) ?_
        refine ops_nil ?_
        refine thn_n ?_
        refine seq ?_
        refine block ?_
        refine loop (S := Nat) (fun i => [(6, (.int .i64 (i : Int))), (0, v)]) (fun i w1 => Heap [base w] w1 ∧ i < js.length ∧ ∀ j, j < i → S.alone js j < S.shortestOf js) (fun i => js.length - i) (0) (Sub.cons rfl (Sub.cons rfl (Sub.nil _))) ?_ ?_
        · exact ⟨hH5, by omega, S.all_zero⟩
        · rintro i w12 ⟨hH13, hi, hall2⟩
          show Holds _ _ _ _ _ [(6, (.int .i64 (i : Int))), (0, v)] _ _
          refine seq ?_
          refine seq ?_
          refine region ?_
          refine ops_y hH13 rfl rfl (yv_move rfl) ?_
          refine ops_y hH13 rfl rfl (yv_move rfl) ?_
          refine op_fnV rfl rfl rfl hH13 (c66 (h0.now hH13 (n := 0) rfl) hj (by omega) (by omega) (by omega) (by omega)) (fun w14 hH15 => ?_)
          refine ops_y hH15 rfl rfl (yv_move rfl) ?_
          refine op_fnV rfl rfl rfl hH15 (c67 (h0.now hH15 (n := 0) rfl) hj) (fun w16 hH17 => ?_)
          refine ops_y hH17 rfl rfl (yv_lss rfl rfl) ?_
          refine ops_nil ?_
          refine thn_n ?_
          by_cases hc18 : (S.boundOf js 2 (i : Int)) < (S.shortestOf js)
          · skip
            refine cond_t rfl (decide_eq_true hc18) ?_
            refine skip ?_
            refine thn_n ?_
            refine block ?_
            refine region ?_
            refine ops_y hH17 rfl rfl (yv_move rfl) ?_
            refine ops_y hH17 rfl rfl (yv_add rfl rfl (by omega)) ?_
            refine ops_y hH17 rfl rfl (yv_assign rfl) ?_
            refine ops_nil ?_
            refine blk_n ?_
            refine lp_n (i + 1) (Sub.cons rfl (Sub.cons rfl (Sub.nil _))) ?_ ?_
            · exact ⟨hH17, S.more_alone hj hn0 hn1 (by omega) (S.all_snoc hall2 (by assumption)), S.all_snoc hall2 (by assumption)⟩
            · first | (dsimp only; omega) | (show _ < _; omega)
          · skip
            refine cond_f rfl (decide_eq_false hc18) ?_
            refine exit ?_
            refine thn_x ?_
            refine lp_x ?_
            refine blk_here ?_
            refine thn_n ?_
            refine seq ?_
            refine region ?_
            refine ops_y hH17 rfl rfl (yv_move rfl) ?_
            refine ops_y hH17 rfl rfl (yv_assign rfl) ?_
            refine ops_y hH17 rfl rfl (yv_assign rfl) ?_
            refine ops_y hH17 rfl rfl (yv_assign rfl) ?_
            refine ops_nil ?_
            refine thn_n ?_
            refine ret ?_
            refine fin hH17 (fun w' hf => (res3 rfl (show RV _ _ _ (.tmp 2) _ from rfl) (show RV _ _ _ (.tmp 3) _ from rfl) (show RV _ _ _ (.tmp 4) _ from rfl))) (fun w' hf => ?_)
            first | exact tup3 (tight_no (by assumption)) | exact tup3 (S.tight_at2 hc0 hn0 hn1 hi hall2 (by assumption)) | exact tup3 (S.tight_at hc0 hall (by omega) (by assumption))
  · skip
    refine cond_t rfl (not_decide_t hc3) ?_
    refine seq ?_
    refine region ?_
    refine ops_y hH2 rfl rfl (yv_move rfl) ?_
    refine op_fnV rfl rfl rfl hH2 (c23 (h0.now hH2 (n := 0) rfl) (by omega)) (fun w19 hH20 => ?_)
    refine ops_y hH20 rfl rfl (yv_assign rfl) ?_
    refine ops_y hH20 rfl rfl (yv_assign rfl) ?_
    refine ops_y hH20 rfl rfl (yv_assign rfl) ?_
    refine ops_nil ?_
    refine thn_n ?_
    refine ret ?_
    refine thn_r ?_
    refine fin hH20 (fun w' hf => (res3 rfl (show RV _ _ _ (.tmp 2) _ from rfl) (show RV _ _ _ (.tmp 3) _ from rfl) (show RV _ _ _ (.tmp 4) _ from rfl))) (fun w' hf => ?_)
    first | exact tup3 (tight_no (by assumption)) | exact tup3 (S.tight_at2 hc0 hn0 hn1 hi hall2 (by assumption)) | exact tup3 (S.tight_at hc0 hall (by omega) (by assumption))

theorem c24 {v : Value} {js : List S.Pr} {b i : Int} {w : World} (h0 : Rd encP 2 v js w) (hn : js.length ≤ 1000000)  :
    Fn Try.prog 24 [v, (.int .i64 b), (.int .i64 i)].toArray w (fun u _ => u = .tuple #[.int .i64 (S.bound js b i).1, .int .i64 (S.bound js b i).2]) := by
  refine fn_of' (args := [v, (.int .i64 b), (.int .i64 i)]) Try.func24 rfl (ent Try.func24 (by kernel_rfl) rfl) rfl rfl (fun hH => ?_)
  refine seq ?_
  refine region ?_
  refine ops_y hH rfl rfl (yv_assign rfl) ?_
  refine ops_y hH rfl rfl (yv_assign rfl) ?_
  refine ops_nil ?_
  refine thn_n ?_
  refine seq ?_
  refine region ?_
  refine ops_y hH rfl rfl (yv_move rfl) ?_
  refine op_fnV rfl rfl rfl hH (c22 (h0.now hH (n := 0) rfl) (by omega)) (fun w1 hH2 => ?_)
  refine ops_y hH2 rfl rfl (yv_assign rfl) ?_
  refine ops_nil ?_
  refine thn_n ?_
  refine seq ?_
  refine block ?_
  refine seq ?_
  refine region ?_
  refine ops_y hH2 rfl rfl (yv_move rfl) ?_
  refine ops_y hH2 rfl rfl (yv_neq rfl rfl) ?_
  refine ops_y hH2 rfl rfl (yv_assign rfl) ?_
  refine ops_nil ?_
  refine thn_n ?_
  by_cases hc3 : (S.checkJobs js) = 0
  · skip
    have hc0 : S.checkJobs js = 0 := by omega
    have hj := S.checkJobs_iff.1 hc0
    have hl1 := hj.1
    have hl8 := hj.2.1
    refine cond_f rfl (not_decide_n hc3) ?_
    refine seq ?_
    refine region ?_
    refine ops_y hH2 rfl rfl (yv_move rfl) ?_
    refine op_lit (us := [(0, (.int .i64 b))]) T.el116_encI [b] rfl (by decide) rfl (fun a ha => by simp [ha.ev (show ev _ (.tmp 16) = some _ from rfl)]) (fun w => by kernel_rfl) hH2 (fun u4 lo6 hi7 w5 hH8 => ?_)
    refine op_fnV rfl rfl rfl hH8 (c56_1 (Heap.rdw T.el116_encI hH8 (n := 0) rfl)) (fun w9 hH10 => ?_)
    refine ops_y hH10 rfl rfl (yv_not rfl) ?_
    refine ops_y hH10 rfl rfl (yv_move rfl) ?_
    by_cases hc11 : 0 ≤ b ∧ b ≤ 2
    · skip
      refine guard_yes rfl rfl (not_decide_n hc11) ?_
      refine ops_y hH10 rfl rfl (yv_move rfl) ?_
      refine guard_yes rfl rfl (not_decide_n hc11) ?_
      refine ops_y hH10 rfl rfl (yv_len T.sl22 rfl (h0.now hH10 (n := 1) rfl).is) ?_
      refine guard_yes rfl rfl (not_decide_n hc11) ?_
      refine ops_y hH10 rfl rfl (yv_sub rfl rfl (by omega)) ?_
      refine guard_yes rfl rfl (not_decide_n hc11) ?_
      refine ops_y hH10 rfl rfl (yv_move rfl) ?_
      refine guard_yes rfl rfl (not_decide_n hc11) ?_
      refine op_lit (us := [(0, (.int .i64 i))]) T.el116_encI [i] rfl (by decide) rfl (fun a ha => by simp [ha.ev (show ev _ (.tmp 24) = some _ from rfl)]) (fun w => by kernel_rfl) hH10 (fun u12 lo14 hi15 w13 hH16 => ?_)
      refine guard_yes rfl rfl (not_decide_n hc11) ?_
      refine op_fnV rfl rfl rfl hH16 (c56_1 (Heap.rdw T.el116_encI hH16 (n := 0) rfl)) (fun w17 hH18 => ?_)
      refine guard_yes rfl rfl (not_decide_n hc11) ?_
      refine ops_y hH18 rfl rfl (yv_not rfl) ?_
      refine ops_y hH18 rfl rfl (yv_pick_f rfl (not_decide_n hc11) rfl) ?_
      refine ops_y hH18 rfl rfl (yv_assign rfl) ?_
      refine ops_nil ?_
      refine thn_n ?_
      by_cases hc19 : 0 ≤ i ∧ i ≤ (js.length : Int) - 1
      · skip
        refine cond_f rfl (not_decide_n hc19) ?_
        refine skip ?_
        refine blk_n ?_
        refine thn_n ?_
        refine seq ?_
        refine region ?_
        refine ops_y hH18 rfl rfl (yv_move rfl) ?_
        refine ops_y hH18 rfl rfl (yv_move rfl) ?_
        refine ops_y hH18 rfl rfl (yv_move rfl) ?_
        refine op_fnV rfl rfl rfl hH18 (c65 (h0.now hH18 (n := 2) rfl) hj (by omega) (by omega) (by omega) (by omega)) (fun w20 hH21 => ?_)
        refine ops_y hH21 rfl rfl (yv_assign rfl) ?_
        refine ops_y hH21 rfl rfl (yv_assign rfl) ?_
        refine ops_nil ?_
        refine thn_n ?_
        refine ret ?_
        have hH22 := (hH21.sub (List.Sublist.cons _ (List.Sublist.cons _ (List.Sublist.refl _))))
        refine fin hH22 (fun w' hf => (res2 rfl (show RV _ _ _ (.tmp 6) _ from rfl) (show RV _ _ _ (.tmp 7) _ from rfl))) (fun w' hf => ?_)
        first | exact tup2 (S.bd1 (by assumption)) | exact tup2 (S.bd2 (by assumption) (by omega)) | exact tup2 (S.bd3 (by assumption) (by omega))
      · skip
        refine cond_t rfl (not_decide_t hc19) ?_
        refine seq ?_
        refine region ?_
        refine ops_y hH18 rfl rfl (yv_assign rfl) ?_
        refine ops_y hH18 rfl rfl (yv_assign rfl) ?_
        refine ops_nil ?_
        refine thn_n ?_
        refine ret ?_
        refine blk_r ?_
        refine thn_r ?_
        have hH23 := (hH18.sub (List.Sublist.cons _ (List.Sublist.cons _ (List.Sublist.refl _))))
        refine fin hH23 (fun w' hf => (res2 rfl (show RV _ _ _ (.tmp 6) _ from rfl) (show RV _ _ _ (.tmp 7) _ from rfl))) (fun w' hf => ?_)
        first | exact tup2 (S.bd1 (by assumption)) | exact tup2 (S.bd2 (by assumption) (by omega)) | exact tup2 (S.bd3 (by assumption) (by omega))
    · skip
      refine guard_no rfl rfl (not_decide_t hc11) rfl ?_
      refine guard_no rfl rfl (not_decide_t hc11) rfl ?_
      refine guard_no rfl rfl (not_decide_t hc11) rfl ?_
      refine guard_no rfl rfl (not_decide_t hc11) rfl ?_
      refine guard_no rfl rfl (not_decide_t hc11) rfl ?_
      refine guard_no rfl rfl (not_decide_t hc11) rfl ?_
      refine guard_no rfl rfl (not_decide_t hc11) rfl ?_
      refine ops_y hH10 rfl rfl (yv_pick_t rfl (not_decide_t hc11) rfl) ?_
      refine ops_y hH10 rfl rfl (yv_assign rfl) ?_
      refine ops_nil ?_
      refine thn_n ?_
      refine cond_t rfl rfl ?_
      refine seq ?_
      refine region ?_
      refine ops_y hH10 rfl rfl (yv_assign rfl) ?_
      refine ops_y hH10 rfl rfl (yv_assign rfl) ?_
      refine ops_nil ?_
      refine thn_n ?_
      refine ret ?_
      refine blk_r ?_
      refine thn_r ?_
      have hH24 := (hH10.sub (List.Sublist.cons _ (List.Sublist.refl _)))
      refine fin hH24 (fun w' hf => (res2 rfl (show RV _ _ _ (.tmp 6) _ from rfl) (show RV _ _ _ (.tmp 7) _ from rfl))) (fun w' hf => ?_)
      first | exact tup2 (S.bd1 (by assumption)) | exact tup2 (S.bd2 (by assumption) (by omega)) | exact tup2 (S.bd3 (by assumption) (by omega))
  · skip
    refine cond_t rfl (not_decide_t hc3) ?_
    refine seq ?_
    refine region ?_
    refine ops_y hH2 rfl rfl (yv_move rfl) ?_
    refine ops_y hH2 rfl rfl (yv_assign rfl) ?_
    refine ops_y hH2 rfl rfl (yv_assign rfl) ?_
    refine ops_nil ?_
    refine thn_n ?_
    refine ret ?_
    refine blk_r ?_
    refine thn_r ?_
    refine fin hH2 (fun w' hf => (res2 rfl (show RV _ _ _ (.tmp 6) _ from rfl) (show RV _ _ _ (.tmp 7) _ from rfl))) (fun w' hf => ?_)
    first | exact tup2 (S.bd1 (by assumption)) | exact tup2 (S.bd2 (by assumption) (by omega)) | exact tup2 (S.bd3 (by assumption) (by omega))

theorem c25 {v : Value} {js : List S.Pr} {b i : Int} {w : World} (h0 : Rd encP 2 v js w) (hn : js.length ≤ 1000000)  :
    Fn Try.prog 25 [v, (.int .i64 b), (.int .i64 i)].toArray w (fun u _ => u = .tuple #[.int .i64 (S.bound js b i).1, .int .i64 (S.bound js b i).2]) := by
  refine fn_of' (args := [v, (.int .i64 b), (.int .i64 i)]) Try.func25 rfl (ent Try.func25 (by kernel_rfl) rfl) rfl rfl (fun hH => ?_)
  refine seq ?_
  refine region ?_
  refine ops_y hH rfl rfl (yv_assign rfl) ?_
  refine ops_y hH rfl rfl (yv_assign rfl) ?_
  refine ops_nil ?_
  refine thn_n ?_
  refine seq ?_
  refine seq ?_
  refine region ?_
  refine ops_y hH rfl rfl (yv_move rfl) ?_
  refine op_fnV rfl rfl rfl hH (c23 (h0.now hH (n := 0) rfl) (by omega)) (fun w1 hH2 => ?_)
  refine ops_y hH2 rfl rfl (yv_neq rfl rfl) ?_
  refine ops_nil ?_
  refine thn_n ?_
  by_cases hc3 : (S.checkJobs js) = 0
  · skip
    have hc0 : S.checkJobs js = 0 := by omega
    have hj := S.checkJobs_iff.1 hc0
    have hl1 := hj.1
    have hl8 := hj.2.1
    refine cond_f rfl (not_decide_n hc3) ?_
    refine skip ?_
    refine thn_n ?_
    refine seq ?_
    refine seq ?_
    refine region ?_
    refine ops_y hH2 rfl rfl (yv_move rfl) ?_
    refine ops_y hH2 rfl rfl (yv_lss rfl rfl) ?_
    refine ops_y hH2 rfl rfl (yv_move rfl) ?_
    by_cases hc4 : b < 0
    · skip
      refine guard_no rfl rfl (decide_eq_true hc4) rfl ?_
      refine guard_no rfl rfl (decide_eq_true hc4) rfl ?_
      refine ops_y hH2 rfl rfl (yv_pick_t rfl (decide_eq_true hc4) rfl) ?_
      refine ops_y hH2 rfl rfl (yv_move rfl) ?_
      refine guard_no rfl rfl rfl rfl ?_
      refine guard_no rfl rfl rfl rfl ?_
      refine ops_y hH2 rfl rfl (yv_pick_t rfl rfl rfl) ?_
      refine ops_y hH2 rfl rfl (yv_move rfl) ?_
      refine guard_no rfl rfl rfl rfl ?_
      refine guard_no rfl rfl rfl rfl ?_
      refine guard_no rfl rfl rfl rfl ?_
      refine guard_no rfl rfl rfl rfl ?_
      refine ops_y hH2 rfl rfl (yv_pick_t rfl rfl rfl) ?_
      refine ops_nil ?_
      refine thn_n ?_
      refine cond_t rfl rfl ?_
      refine seq ?_
      refine region ?_
      refine ops_y hH2 rfl rfl (yv_assign rfl) ?_
      refine ops_y hH2 rfl rfl (yv_assign rfl) ?_
      refine ops_nil ?_
      refine thn_n ?_
      refine ret ?_
      refine thn_r ?_
      refine fin hH2 (fun w' hf => (res2 rfl (show RV _ _ _ (.tmp 6) _ from rfl) (show RV _ _ _ (.tmp 7) _ from rfl))) (fun w' hf => ?_)
      first | exact tup2 (S.bd1 (by assumption)) | exact tup2 (S.bd2 (by assumption) (by omega)) | exact tup2 (S.bd3 (by assumption) (by omega))
    · skip
      refine guard_yes rfl rfl (decide_eq_false hc4) ?_
      refine ops_y hH2 rfl rfl (yv_move rfl) ?_
      refine guard_yes rfl rfl (decide_eq_false hc4) ?_
      refine ops_y hH2 rfl rfl (yv_gtr rfl rfl) ?_
      refine ops_y hH2 rfl rfl (yv_pick_f rfl (decide_eq_false hc4) rfl) ?_
      refine ops_y hH2 rfl rfl (yv_move rfl) ?_
      by_cases hc5 : 2 < b
      · skip
        refine guard_no rfl rfl (decide_eq_true hc5) rfl ?_
        refine guard_no rfl rfl (decide_eq_true hc5) rfl ?_
        refine ops_y hH2 rfl rfl (yv_pick_t rfl (decide_eq_true hc5) rfl) ?_
        refine ops_y hH2 rfl rfl (yv_move rfl) ?_
        refine guard_no rfl rfl rfl rfl ?_
        refine guard_no rfl rfl rfl rfl ?_
        refine guard_no rfl rfl rfl rfl ?_
        refine guard_no rfl rfl rfl rfl ?_
        refine ops_y hH2 rfl rfl (yv_pick_t rfl rfl rfl) ?_
        refine ops_nil ?_
        refine thn_n ?_
        refine cond_t rfl rfl ?_
        refine seq ?_
        refine region ?_
        refine ops_y hH2 rfl rfl (yv_assign rfl) ?_
        refine ops_y hH2 rfl rfl (yv_assign rfl) ?_
        refine ops_nil ?_
        refine thn_n ?_
        refine ret ?_
        refine thn_r ?_
        refine fin hH2 (fun w' hf => (res2 rfl (show RV _ _ _ (.tmp 6) _ from rfl) (show RV _ _ _ (.tmp 7) _ from rfl))) (fun w' hf => ?_)
        first | exact tup2 (S.bd1 (by assumption)) | exact tup2 (S.bd2 (by assumption) (by omega)) | exact tup2 (S.bd3 (by assumption) (by omega))
      · skip
        refine guard_yes rfl rfl (decide_eq_false hc5) ?_
        refine ops_y hH2 rfl rfl (yv_move rfl) ?_
        refine guard_yes rfl rfl (decide_eq_false hc5) ?_
        refine ops_y hH2 rfl rfl (yv_lss rfl rfl) ?_
        refine ops_y hH2 rfl rfl (yv_pick_f rfl (decide_eq_false hc5) rfl) ?_
        refine ops_y hH2 rfl rfl (yv_move rfl) ?_
        by_cases hc6 : i < 0
        · skip
          refine guard_no rfl rfl (decide_eq_true hc6) rfl ?_
          refine guard_no rfl rfl (decide_eq_true hc6) rfl ?_
          refine guard_no rfl rfl (decide_eq_true hc6) rfl ?_
          refine guard_no rfl rfl (decide_eq_true hc6) rfl ?_
          refine ops_y hH2 rfl rfl (yv_pick_t rfl (decide_eq_true hc6) rfl) ?_
          refine ops_nil ?_
          refine thn_n ?_
          refine cond_t rfl rfl ?_
          refine seq ?_
          refine region ?_
          refine ops_y hH2 rfl rfl (yv_assign rfl) ?_
          refine ops_y hH2 rfl rfl (yv_assign rfl) ?_
          refine ops_nil ?_
          refine thn_n ?_
          refine ret ?_
          refine thn_r ?_
          refine fin hH2 (fun w' hf => (res2 rfl (show RV _ _ _ (.tmp 6) _ from rfl) (show RV _ _ _ (.tmp 7) _ from rfl))) (fun w' hf => ?_)
          first | exact tup2 (S.bd1 (by assumption)) | exact tup2 (S.bd2 (by assumption) (by omega)) | exact tup2 (S.bd3 (by assumption) (by omega))
        · skip
          refine guard_yes rfl rfl (decide_eq_false hc6) ?_
          refine ops_y hH2 rfl rfl (yv_move rfl) ?_
          refine guard_yes rfl rfl (decide_eq_false hc6) ?_
          refine ops_y hH2 rfl rfl (yv_move rfl) ?_
          refine guard_yes rfl rfl (decide_eq_false hc6) ?_
          refine ops_y hH2 rfl rfl (yv_len T.sl22 rfl (h0.now hH2 (n := 0) rfl).is) ?_
          refine guard_yes rfl rfl (decide_eq_false hc6) ?_
          refine ops_y hH2 rfl rfl (yv_geq rfl rfl) ?_
          refine ops_y hH2 rfl rfl (yv_pick_f rfl (decide_eq_false hc6) rfl) ?_
          refine ops_nil ?_
          refine thn_n ?_
          by_cases hc7 : (js.length : Int) ≤ i
          · skip
            refine cond_t rfl (decide_eq_true hc7) ?_
            refine seq ?_
            refine region ?_
            refine ops_y hH2 rfl rfl (yv_assign rfl) ?_
            refine ops_y hH2 rfl rfl (yv_assign rfl) ?_
            refine ops_nil ?_
            refine thn_n ?_
            refine ret ?_
            refine thn_r ?_
            refine fin hH2 (fun w' hf => (res2 rfl (show RV _ _ _ (.tmp 6) _ from rfl) (show RV _ _ _ (.tmp 7) _ from rfl))) (fun w' hf => ?_)
            first | exact tup2 (S.bd1 (by assumption)) | exact tup2 (S.bd2 (by assumption) (by omega)) | exact tup2 (S.bd3 (by assumption) (by omega))
          · skip
            refine cond_f rfl (decide_eq_false hc7) ?_
            refine skip ?_
            refine thn_n ?_
            refine seq ?_
            refine region ?_
            refine ops_y hH2 rfl rfl (yv_move rfl) ?_
            refine ops_y hH2 rfl rfl (yv_move rfl) ?_
            refine ops_y hH2 rfl rfl (yv_move rfl) ?_
            refine op_fnV rfl rfl rfl hH2 (c66 (h0.now hH2 (n := 0) rfl) hj (by omega) (by omega) (by omega) (by omega)) (fun w8 hH9 => ?_)
            refine ops_y hH9 rfl rfl (yv_assign rfl) ?_
            refine ops_y hH9 rfl rfl (yv_assign rfl) ?_
            refine ops_nil ?_
            refine thn_n ?_
            refine ret ?_
            refine fin hH9 (fun w' hf => (res2 rfl (show RV _ _ _ (.tmp 6) _ from rfl) (show RV _ _ _ (.tmp 7) _ from rfl))) (fun w' hf => ?_)
            first | exact tup2 (S.bd1 (by assumption)) | exact tup2 (S.bd2 (by assumption) (by omega)) | exact tup2 (S.bd3 (by assumption) (by omega))
  · skip
    refine cond_t rfl (not_decide_t hc3) ?_
    refine seq ?_
    refine region ?_
    refine ops_y hH2 rfl rfl (yv_move rfl) ?_
    refine op_fnV rfl rfl rfl hH2 (c23 (h0.now hH2 (n := 0) rfl) (by omega)) (fun w10 hH11 => ?_)
    refine ops_y hH11 rfl rfl (yv_assign rfl) ?_
    refine ops_y hH11 rfl rfl (yv_assign rfl) ?_
    refine ops_nil ?_
    refine thn_n ?_
    refine ret ?_
    refine thn_r ?_
    refine fin hH11 (fun w' hf => (res2 rfl (show RV _ _ _ (.tmp 6) _ from rfl) (show RV _ _ _ (.tmp 7) _ from rfl))) (fun w' hf => ?_)
    first | exact tup2 (S.bd1 (by assumption)) | exact tup2 (S.bd2 (by assumption) (by omega)) | exact tup2 (S.bd3 (by assumption) (by omega))

theorem c27 {v : Value} {js : List S.Pr} {w : World} (h0 : Rd encP 2 v js w) (hn : js.length ≤ 1000000)  :
    Fn Try.prog 27 [v].toArray w (fun u _ => u = .tuple #[.int .i64 (S.shortest js).1, .int .i64 (S.shortest js).2]) := by
  refine fn_of' (args := [v]) Try.func27 rfl (ent Try.func27 (by kernel_rfl) rfl) rfl rfl (fun hH => ?_)
  refine seq ?_
  refine region ?_
  refine ops_y hH rfl rfl (yv_assign rfl) ?_
  refine ops_y hH rfl rfl (yv_assign rfl) ?_
  refine ops_nil ?_
  refine thn_n ?_
  refine seq ?_
  refine seq ?_
  refine region ?_
  refine ops_y hH rfl rfl (yv_move rfl) ?_
  refine op_fnV rfl rfl rfl hH (c23 (h0.now hH (n := 0) rfl) (by omega)) (fun w1 hH2 => ?_)
  refine ops_y hH2 rfl rfl (yv_neq rfl rfl) ?_
  refine ops_nil ?_
  refine thn_n ?_
  by_cases hc3 : (S.checkJobs js) = 0
  · skip
    have hc0 : S.checkJobs js = 0 := by omega
    have hj := S.checkJobs_iff.1 hc0
    have hl1 := hj.1
    have hl8 := hj.2.1
    refine cond_f rfl (not_decide_n hc3) ?_
    refine skip ?_
    refine thn_n ?_
    refine seq ?_
    refine region ?_
    refine ops_y hH2 rfl rfl (yv_move rfl) ?_
    refine op_fnV rfl rfl rfl hH2 (c67 (h0.now hH2 (n := 0) rfl) hj) (fun w4 hH5 => ?_)
    refine ops_y hH5 rfl rfl (yv_assign rfl) ?_
    refine ops_y hH5 rfl rfl (yv_assign rfl) ?_
    refine ops_nil ?_
    refine thn_n ?_
    refine ret ?_
    refine fin hH5 (fun w' hf => (res2 rfl (show RV _ _ _ (.tmp 2) _ from rfl) (show RV _ _ _ (.tmp 3) _ from rfl))) (fun w' hf => ?_)
    first | exact tup2 (S.sh1 (by assumption)) | exact tup2 (S.sh2 (by assumption))
  · skip
    refine cond_t rfl (not_decide_t hc3) ?_
    refine seq ?_
    refine region ?_
    refine ops_y hH2 rfl rfl (yv_move rfl) ?_
    refine op_fnV rfl rfl rfl hH2 (c23 (h0.now hH2 (n := 0) rfl) (by omega)) (fun w6 hH7 => ?_)
    refine ops_y hH7 rfl rfl (yv_assign rfl) ?_
    refine ops_y hH7 rfl rfl (yv_assign rfl) ?_
    refine ops_nil ?_
    refine thn_n ?_
    refine ret ?_
    refine thn_r ?_
    refine fin hH7 (fun w' hf => (res2 rfl (show RV _ _ _ (.tmp 2) _ from rfl) (show RV _ _ _ (.tmp 3) _ from rfl))) (fun w' hf => ?_)
    first | exact tup2 (S.sh1 (by assumption)) | exact tup2 (S.sh2 (by assumption))

theorem c26 {v : Value} {js : List S.Pr} {w : World} (h0 : Rd encP 2 v js w) (hn : js.length ≤ 1000000)  :
    Fn Try.prog 26 [v].toArray w (fun u _ => u = .tuple #[.int .i64 (S.shortest js).1, .int .i64 (S.shortest js).2]) := by
  refine fn_of' (args := [v]) Try.func26 rfl (ent Try.func26 (by kernel_rfl) rfl) rfl rfl (fun hH => ?_)
  refine seq ?_
  refine region ?_
  refine ops_y hH rfl rfl (yv_assign rfl) ?_
  refine ops_y hH rfl rfl (yv_assign rfl) ?_
  refine ops_nil ?_
  refine thn_n ?_
  refine seq ?_
  refine region ?_
  refine ops_y hH rfl rfl (yv_move rfl) ?_
  refine op_fnV rfl rfl rfl hH (c28 (h0.now hH (n := 0) rfl) (by omega)) (fun w1 hH2 => ?_)
  refine ops_y hH2 rfl rfl (yv_move rfl) ?_
  refine ops_y hH2 rfl rfl (yv_extract rfl rfl) ?_
  refine ops_y hH2 rfl rfl (yv_extract rfl rfl) ?_
  refine ops_y hH2 rfl rfl (yv_extract rfl rfl) ?_
  refine ops_y hH2 rfl rfl (yv_assign rfl) ?_
  refine ops_y hH2 rfl rfl (yv_assign rfl) ?_
  refine ops_y hH2 rfl rfl (yv_assign rfl) ?_
  refine ops_nil ?_
  refine thn_n ?_
  refine seq ?_
  refine seq ?_
  refine region ?_
  refine ops_y hH2 rfl rfl (yv_move rfl) ?_
  refine ops_y hH2 rfl rfl (yv_neq rfl rfl) ?_
  refine ops_nil ?_
  refine thn_n ?_
  by_cases hc3 : ((S.tight js).2.2) = 0
  · skip
    have hc0 : S.checkJobs js = 0 := Classical.not_not.1 fun h => S.tight_err.2 h (by assumption)
    have hj := S.checkJobs_iff.1 hc0
    have htt := S.tight_ok2 hj
    refine cond_f rfl (not_decide_n hc3) ?_
    refine skip ?_
    refine thn_n ?_
    refine seq ?_
    refine region ?_
    refine ops_y hH2 rfl rfl (yv_move rfl) ?_
    refine ops_y hH2 rfl rfl (yv_move rfl) ?_
    refine ops_y hH2 rfl rfl (yv_move rfl) ?_
    refine op_fnV rfl rfl rfl hH2 (c65 (h0.now hH2 (n := 0) rfl) hj htt.2.1 htt.2.2.1 htt.2.2.2.1 htt.2.2.2.2) (fun w4 hH5 => ?_)
    refine ops_y hH5 rfl rfl (yv_assign rfl) ?_
    refine ops_y hH5 rfl rfl (yv_assign rfl) ?_
    refine ops_nil ?_
    refine thn_n ?_
    refine ret ?_
    refine fin hH5 (fun w' hf => (res2 rfl (show RV _ _ _ (.tmp 2) _ from rfl) (show RV _ _ _ (.tmp 3) _ from rfl))) (fun w' hf => ?_)
    first | (show Value.tuple #[_, .int _ (S.tight js).2.2] = _; rw [he]; exact tup2 (S.sh1 hc0)) | (rw [htt.1]; exact tup2 (S.sh2 hc0))
  · skip
    have hc0 : ¬ S.checkJobs js = 0 := S.tight_err.1 (by assumption)
    have he : (S.tight js).2.2 = S.checkJobs js := S.tight_err2 hc0
    refine cond_t rfl (not_decide_t hc3) ?_
    refine seq ?_
    refine region ?_
    refine ops_y hH2 rfl rfl (yv_move rfl) ?_
    refine ops_y hH2 rfl rfl (yv_assign rfl) ?_
    refine ops_y hH2 rfl rfl (yv_assign rfl) ?_
    refine ops_nil ?_
    refine thn_n ?_
    refine ret ?_
    refine thn_r ?_
    refine fin hH2 (fun w' hf => (res2 rfl (show RV _ _ _ (.tmp 2) _ from rfl) (show RV _ _ _ (.tmp 3) _ from rfl))) (fun w' hf => ?_)
    first | (show Value.tuple #[_, .int _ (S.tight js).2.2] = _; rw [he]; exact tup2 (S.sh1 hc0)) | (rw [htt.1]; exact tup2 (S.sh2 hc0))

theorem c20 {v u : Value} {js ps : List S.Pr} {b : Int} {w : World} (h0 : Rd encP 2 v js w) (h1 : Rd encP 2 u ps w) (hn : js.length ≤ 1000000) (hn2 : ps.length ≤ 1000000)  :
    Fn Try.prog 20 [v, u, (.int .i64 b)].toArray w (fun u _ => u = .tuple #[.int .i64 (S.idle js ps b).1, .int .i64 (S.idle js ps b).2]) := by
  refine fn_of' (args := [v, u, (.int .i64 b)]) Try.func20 rfl (ent Try.func20 (by kernel_rfl) rfl) rfl rfl (fun hH => ?_)
  refine seq ?_
  refine region ?_
  refine ops_y hH rfl rfl (yv_assign rfl) ?_
  refine ops_y hH rfl rfl (yv_assign rfl) ?_
  refine ops_nil ?_
  refine thn_n ?_
  refine seq ?_
  refine region ?_
  refine ops_y hH rfl rfl (yv_move rfl) ?_
  refine ops_y hH rfl rfl (yv_move rfl) ?_
  refine op_fnV rfl rfl rfl hH (c18 (h0.now hH (n := 0) rfl) (h1.now hH (n := 0) rfl) (by omega) (by omega)) (fun w1 hH2 => ?_)
  refine ops_y hH2 rfl rfl (yv_move rfl) ?_
  refine ops_y hH2 rfl rfl (yv_extract rfl rfl) ?_
  refine ops_y hH2 rfl rfl (yv_extract rfl rfl) ?_
  refine ops_y hH2 rfl rfl (yv_assign rfl) ?_
  refine ops_y hH2 rfl rfl (yv_assign rfl) ?_
  refine ops_nil ?_
  refine thn_n ?_
  refine seq ?_
  refine block ?_
  refine seq ?_
  refine region ?_
  refine ops_y hH2 rfl rfl (yv_move rfl) ?_
  refine ops_y hH2 rfl rfl (yv_neq rfl rfl) ?_
  refine ops_y hH2 rfl rfl (yv_assign rfl) ?_
  refine ops_nil ?_
  refine thn_n ?_
  by_cases hc3 : ((S.checkPlan js ps).2) = 0
  · skip
    have hcp : (S.checkPlan js ps).2 = 0 := by omega
    obtain ⟨hj, he, hT, _⟩ := S.checkPlan_iff.1 hcp
    have hl8 := hj.2.1
    refine cond_f rfl (not_decide_n hc3) ?_
    refine seq ?_
    refine region ?_
    refine ops_y hH2 rfl rfl (yv_move rfl) ?_
    refine op_lit (us := [(0, (.int .i64 b))]) T.el116_encI [b] rfl (by decide) rfl (fun a ha => by simp [ha.ev (show ev _ (.tmp 23) = some _ from rfl)]) (fun w => by kernel_rfl) hH2 (fun u4 lo6 hi7 w5 hH8 => ?_)
    refine op_fnV rfl rfl rfl hH8 (c56_1 (Heap.rdw T.el116_encI hH8 (n := 0) rfl)) (fun w9 hH10 => ?_)
    refine ops_y hH10 rfl rfl (yv_not rfl) ?_
    refine ops_y hH10 rfl rfl (yv_assign rfl) ?_
    refine ops_nil ?_
    refine thn_n ?_
    by_cases hc11 : 0 ≤ b ∧ b ≤ 1
    · skip
      refine cond_f rfl (not_decide_n hc11) ?_
      refine skip ?_
      refine blk_n ?_
      refine thn_n ?_
      refine seq ?_
      refine region ?_
      refine ops_y hH10 rfl rfl (yv_assign rfl) ?_
      refine ops_nil ?_
      refine thn_n ?_
      refine seq ?_
      refine seq ?_
      refine region ?_
      refine ops_y hH10 rfl rfl (yv_move rfl) ?_
      refine ops_y hH10 rfl rfl (yv_len T.sl22 rfl (h0.now hH10 (n := 1) rfl).is) ?_
      refine ops_y hH10 rfl rfl (yv_move rfl) ?_
      refine ops_nil ?_
      refine thn_n ?_
      refine block ?_
      refine loop (S := Nat) (fun k => [(29, (.int .i64 (k : Int))), (10, (.int .i64 (S.lastTo js ps b k))), (0, v), (1, u), (2, (.int .i64 b)), (6, (.int .i64 0)), (7, (.int .i64 0)), (28, (.int .i64 (js.length : Int)))]) (fun k w1 => Heap [ow lo6 hi7 2 1 encI u4 [b], base w] w1 ∧ k ≤ js.length) (fun k => js.length - k) (0) (Sub.cons rfl (Sub.cons rfl (Sub.cons rfl (Sub.cons rfl (Sub.cons rfl (Sub.cons rfl (Sub.cons rfl (Sub.cons rfl (Sub.nil _))))))))) ?_ ?_
      · exact ⟨hH10, by omega⟩
      · rintro k w12 ⟨hH13, hk⟩
        show Holds _ _ _ _ _ [(29, (.int .i64 (k : Int))), (10, (.int .i64 (S.lastTo js ps b k))), (0, v), (1, u), (2, (.int .i64 b)), (6, (.int .i64 0)), (7, (.int .i64 0)), (28, (.int .i64 (js.length : Int)))] _ _
        refine seq ?_
        refine region ?_
        refine ops_y hH13 rfl rfl (yv_lss rfl rfl) ?_
        refine ops_nil ?_
        refine thn_n ?_
        refine seq ?_
        by_cases hc14 : (k : Int) < (js.length : Int)
        · skip
          refine cond_t rfl (decide_eq_true hc14) ?_
          refine skip ?_
          refine thn_n ?_
          refine seq ?_
          refine block ?_
          refine seq ?_
          refine region ?_
          refine ops_y hH13 rfl rfl (yv_move rfl) ?_
          refine ops_y hH13 rfl rfl (yv_assign rfl) ?_
          refine ops_nil ?_
          refine thn_n ?_
          have hb1 := hj.at2 (w := 2 * (k : Int) + b) (by omega) (by omega)
          have hb2 := hT.at2 (w := 2 * (k : Int) + b) (by omega) (by omega)
          have hb3 := S.lastTo_bd hj hT (by omega) (b := b) (by omega) (by omega) k hk
          refine region ?_
          refine ops_y hH13 rfl rfl (yv_move rfl) ?_
          refine ops_y hH13 rfl rfl (yv_move rfl) ?_
          refine ops_y hH13 rfl rfl (yv_move rfl) ?_
          refine ops_y hH13 rfl rfl (yv_mul rfl rfl (by omega)) ?_
          refine ops_y hH13 rfl rfl (yv_move rfl) ?_
          refine ops_y hH13 rfl rfl (yv_add rfl rfl (by omega)) ?_
          refine op_fnV rfl rfl rfl hH13 (c58 (h1.now hH13 (n := 1) rfl) (by omega) (by omega) (by omega)) (fun w15 hH16 => ?_)
          refine ops_y hH16 rfl rfl (yv_move rfl) ?_
          refine ops_y hH16 rfl rfl (yv_move rfl) ?_
          refine ops_y hH16 rfl rfl (yv_mul rfl rfl (by omega)) ?_
          refine ops_y hH16 rfl rfl (yv_move rfl) ?_
          refine ops_y hH16 rfl rfl (yv_add rfl rfl (by omega)) ?_
          refine op_fnV rfl rfl rfl hH16 (c59 (h0.now hH16 (n := 1) rfl) (by omega) (by omega) (by omega)) (fun w17 hH18 => ?_)
          refine ops_y hH18 rfl rfl (yv_add rfl rfl (by omega)) ?_
          refine ops_y hH18 rfl rfl (yv_max rfl rfl) ?_
          refine ops_y hH18 rfl rfl (yv_assign rfl) ?_
          refine ops_nil ?_
          refine blk_n ?_
          refine thn_n ?_
          refine region ?_
          refine ops_y hH18 rfl rfl (yv_add rfl rfl (by omega)) ?_
          refine ops_y hH18 rfl rfl (yv_move rfl) ?_
          refine ops_nil ?_
          refine lp_n (k + 1) (Sub.cons rfl (Sub.cons rfl (Sub.cons rfl (Sub.cons rfl (Sub.cons rfl (Sub.cons rfl (Sub.cons rfl (Sub.cons rfl (Sub.nil _))))))))) ?_ ?_
          · exact ⟨hH18, by omega⟩
          · first | (dsimp only; omega) | (show _ < _; omega)
        · skip
          have hb3 := S.lastTo_bd hj hT (by omega) (b := b) (by omega) (by omega) k hk
          have hs0 := S.sumOf_bd hj (b := 0) (by omega) (by omega)
          have hs1 := S.sumOf_bd hj (b := 1) (by omega) (by omega)
          have hsb := S.sumOf_bd hj (b := b) (by omega) (by omega)
          refine cond_f rfl (decide_eq_false hc14) ?_
          refine exit ?_
          refine thn_x ?_
          refine lp_x ?_
          refine blk_here ?_
          refine thn_n ?_
          refine seq ?_
          refine region ?_
          refine ops_y hH13 rfl rfl (yv_move rfl) ?_
          refine ops_y hH13 rfl rfl (yv_move rfl) ?_
          refine op_fnV rfl rfl rfl hH13 (c61 (h0.now hH13 (n := 1) rfl) hj) (fun w19 hH20 => ?_)
          refine ops_y hH20 rfl rfl (yv_move rfl) ?_
          refine ops_y hH20 rfl rfl (yv_idx2 T.arr85 T.one2 rfl rfl (by omega)) ?_
          refine ops_y hH20 rfl rfl (yv_sub rfl rfl (by omega)) ?_
          refine ops_y hH20 rfl rfl (yv_assign rfl) ?_
          refine ops_y hH20 rfl rfl (yv_assign rfl) ?_
          refine ops_nil ?_
          refine thn_n ?_
          refine ret ?_
          have hH21 := (hH20.sub (List.Sublist.cons _ (List.Sublist.refl _)))
          refine fin hH21 (fun w' hf => (res2 rfl (show RV _ _ _ (.tmp 6) _ from rfl) (show RV _ _ _ (.tmp 7) _ from rfl))) (fun w' hf => ?_)
          first | exact tup2 (S.id1 (by assumption)) | exact tup2 (S.id2 (by assumption) (by omega)) | (have hk2 : k = js.length := (by omega); subst hk2; first | exact tup2 (S.id3 hcp (by omega)) | (rcases (by omega : b = 0 ∨ b = 1) with rfl | rfl <;> exact tup2 (S.id3 hcp (by omega))))
    · skip
      refine cond_t rfl (not_decide_t hc11) ?_
      refine seq ?_
      refine region ?_
      refine ops_y hH10 rfl rfl (yv_assign rfl) ?_
      refine ops_y hH10 rfl rfl (yv_assign rfl) ?_
      refine ops_nil ?_
      refine thn_n ?_
      refine ret ?_
      refine blk_r ?_
      refine thn_r ?_
      have hH22 := (hH10.sub (List.Sublist.cons _ (List.Sublist.refl _)))
      refine fin hH22 (fun w' hf => (res2 rfl (show RV _ _ _ (.tmp 6) _ from rfl) (show RV _ _ _ (.tmp 7) _ from rfl))) (fun w' hf => ?_)
      first | exact tup2 (S.id1 (by assumption)) | exact tup2 (S.id2 (by assumption) (by omega)) | (have hk2 : k = js.length := (by omega); subst hk2; first | exact tup2 (S.id3 hcp (by omega)) | (rcases (by omega : b = 0 ∨ b = 1) with rfl | rfl <;> exact tup2 (S.id3 hcp (by omega))))
  · skip
    refine cond_t rfl (not_decide_t hc3) ?_
    refine seq ?_
    refine region ?_
    refine ops_y hH2 rfl rfl (yv_move rfl) ?_
    refine ops_y hH2 rfl rfl (yv_assign rfl) ?_
    refine ops_y hH2 rfl rfl (yv_assign rfl) ?_
    refine ops_nil ?_
    refine thn_n ?_
    refine ret ?_
    refine blk_r ?_
    refine thn_r ?_
    refine fin hH2 (fun w' hf => (res2 rfl (show RV _ _ _ (.tmp 6) _ from rfl) (show RV _ _ _ (.tmp 7) _ from rfl))) (fun w' hf => ?_)
    first | exact tup2 (S.id1 (by assumption)) | exact tup2 (S.id2 (by assumption) (by omega)) | (have hk2 : k = js.length := (by omega); subst hk2; first | exact tup2 (S.id3 hcp (by omega)) | (rcases (by omega : b = 0 ∨ b = 1) with rfl | rfl <;> exact tup2 (S.id3 hcp (by omega))))

theorem c21 {v u : Value} {js ps : List S.Pr} {b : Int} {w : World} (h0 : Rd encP 2 v js w) (h1 : Rd encP 2 u ps w) (hn : js.length ≤ 1000000) (hn2 : ps.length ≤ 1000000)  :
    Fn Try.prog 21 [v, u, (.int .i64 b)].toArray w (fun u _ => u = .tuple #[.int .i64 (S.idle js ps b).1, .int .i64 (S.idle js ps b).2]) := by
  refine fn_of' (args := [v, u, (.int .i64 b)]) Try.func21 rfl (ent Try.func21 (by kernel_rfl) rfl) rfl rfl (fun hH => ?_)
  refine seq ?_
  refine region ?_
  refine ops_y hH rfl rfl (yv_assign rfl) ?_
  refine ops_y hH rfl rfl (yv_assign rfl) ?_
  refine ops_nil ?_
  refine thn_n ?_
  refine seq ?_
  refine region ?_
  refine ops_y hH rfl rfl (yv_move rfl) ?_
  refine ops_y hH rfl rfl (yv_move rfl) ?_
  refine op_fnV rfl rfl rfl hH (c19 (h0.now hH (n := 0) rfl) (h1.now hH (n := 0) rfl) (by omega) (by omega)) (fun w1 hH2 => ?_)
  refine ops_y hH2 rfl rfl (yv_move rfl) ?_
  refine ops_y hH2 rfl rfl (yv_extract rfl rfl) ?_
  refine ops_y hH2 rfl rfl (yv_extract rfl rfl) ?_
  refine ops_y hH2 rfl rfl (yv_assign rfl) ?_
  refine ops_y hH2 rfl rfl (yv_assign rfl) ?_
  refine ops_nil ?_
  refine thn_n ?_
  refine seq ?_
  refine seq ?_
  refine region ?_
  refine ops_y hH2 rfl rfl (yv_move rfl) ?_
  refine ops_y hH2 rfl rfl (yv_neq rfl rfl) ?_
  refine ops_nil ?_
  refine thn_n ?_
  by_cases hc3 : ((S.checkPlan js ps).2) = 0
  · skip
    have hcp : (S.checkPlan js ps).2 = 0 := by omega
    obtain ⟨hj, he, hT, _⟩ := S.checkPlan_iff.1 hcp
    have hl8 := hj.2.1
    refine cond_f rfl (not_decide_n hc3) ?_
    refine skip ?_
    refine thn_n ?_
    refine seq ?_
    refine seq ?_
    refine region ?_
    refine ops_y hH2 rfl rfl (yv_move rfl) ?_
    refine ops_y hH2 rfl rfl (yv_lss rfl rfl) ?_
    refine ops_y hH2 rfl rfl (yv_move rfl) ?_
    by_cases hc4 : b < 0
    · skip
      refine guard_no rfl rfl (decide_eq_true hc4) rfl ?_
      refine guard_no rfl rfl (decide_eq_true hc4) rfl ?_
      refine ops_y hH2 rfl rfl (yv_pick_t rfl (decide_eq_true hc4) rfl) ?_
      refine ops_nil ?_
      refine thn_n ?_
      refine cond_t rfl rfl ?_
      refine seq ?_
      refine region ?_
      refine ops_y hH2 rfl rfl (yv_assign rfl) ?_
      refine ops_y hH2 rfl rfl (yv_assign rfl) ?_
      refine ops_nil ?_
      refine thn_n ?_
      refine ret ?_
      refine thn_r ?_
      refine fin hH2 (fun w' hf => (res2 rfl (show RV _ _ _ (.tmp 6) _ from rfl) (show RV _ _ _ (.tmp 7) _ from rfl))) (fun w' hf => ?_)
      first | exact tup2 (S.id1 (by assumption)) | exact tup2 (S.id2 (by assumption) (by omega)) | (have hk2 : k = js.length := (by omega); subst hk2; first | exact tup2 (S.id3 hcp (by omega)) | (rcases (by omega : b = 0 ∨ b = 1) with rfl | rfl <;> exact tup2 (S.id3 hcp (by omega))))
    · skip
      refine guard_yes rfl rfl (decide_eq_false hc4) ?_
      refine ops_y hH2 rfl rfl (yv_move rfl) ?_
      refine guard_yes rfl rfl (decide_eq_false hc4) ?_
      refine ops_y hH2 rfl rfl (yv_gtr rfl rfl) ?_
      refine ops_y hH2 rfl rfl (yv_pick_f rfl (decide_eq_false hc4) rfl) ?_
      refine ops_nil ?_
      refine thn_n ?_
      by_cases hc5 : 1 < b
      · skip
        refine cond_t rfl (decide_eq_true hc5) ?_
        refine seq ?_
        refine region ?_
        refine ops_y hH2 rfl rfl (yv_assign rfl) ?_
        refine ops_y hH2 rfl rfl (yv_assign rfl) ?_
        refine ops_nil ?_
        refine thn_n ?_
        refine ret ?_
        refine thn_r ?_
        refine fin hH2 (fun w' hf => (res2 rfl (show RV _ _ _ (.tmp 6) _ from rfl) (show RV _ _ _ (.tmp 7) _ from rfl))) (fun w' hf => ?_)
        first | exact tup2 (S.id1 (by assumption)) | exact tup2 (S.id2 (by assumption) (by omega)) | (have hk2 : k = js.length := (by omega); subst hk2; first | exact tup2 (S.id3 hcp (by omega)) | (rcases (by omega : b = 0 ∨ b = 1) with rfl | rfl <;> exact tup2 (S.id3 hcp (by omega))))
      · skip
        refine cond_f rfl (decide_eq_false hc5) ?_
        refine skip ?_
        refine thn_n ?_
        refine seq ?_
        refine region ?_
        refine ops_y hH2 rfl rfl (yv_assign rfl) ?_
        refine ops_nil ?_
        refine thn_n ?_
        refine seq ?_
        refine seq ?_
        refine region ?_
        refine ops_y hH2 rfl rfl (yv_assign rfl) ?_
        refine ops_nil ?_
        refine thn_n ?_
        refine block ?_
        refine loop (S := Nat) (fun k => [(11, (.int .i64 (k : Int))), (10, (.int .i64 (S.lastTo js ps b k))), (0, v), (1, u), (2, (.int .i64 b)), (6, (.int .i64 0)), (7, (.int .i64 0))]) (fun k w1 => Heap [base w] w1 ∧ k ≤ js.length) (fun k => js.length - k) (0) (Sub.cons rfl (Sub.cons rfl (Sub.cons rfl (Sub.cons rfl (Sub.cons rfl (Sub.cons rfl (Sub.cons rfl (Sub.nil _)))))))) ?_ ?_
        · exact ⟨hH2, by omega⟩
        · rintro k w6 ⟨hH7, hk⟩
          show Holds _ _ _ _ _ [(11, (.int .i64 (k : Int))), (10, (.int .i64 (S.lastTo js ps b k))), (0, v), (1, u), (2, (.int .i64 b)), (6, (.int .i64 0)), (7, (.int .i64 0))] _ _
          refine seq ?_
          refine seq ?_
          refine region ?_
          refine ops_y hH7 rfl rfl (yv_move rfl) ?_
          refine ops_y hH7 rfl rfl (yv_move rfl) ?_
          refine ops_y hH7 rfl rfl (yv_len T.sl22 rfl (h0.now hH7 (n := 0) rfl).is) ?_
          refine ops_y hH7 rfl rfl (yv_lss rfl rfl) ?_
          refine ops_nil ?_
          refine thn_n ?_
          by_cases hc8 : (k : Int) < (js.length : Int)
          · skip
            refine cond_t rfl (decide_eq_true hc8) ?_
            refine skip ?_
            refine thn_n ?_
            refine seq ?_
            refine block ?_
            have hb1 := hj.at2 (w := 2 * (k : Int) + b) (by omega) (by omega)
            have hb2 := hT.at2 (w := 2 * (k : Int) + b) (by omega) (by omega)
            have hb3 := S.lastTo_bd hj hT (by omega) (b := b) (by omega) (by omega) k hk
            refine region ?_
            refine ops_y hH7 rfl rfl (yv_move rfl) ?_
            refine ops_y hH7 rfl rfl (yv_move rfl) ?_
            refine ops_y hH7 rfl rfl (yv_move rfl) ?_
            refine ops_y hH7 rfl rfl (yv_mul rfl rfl (by omega)) ?_
            refine ops_y hH7 rfl rfl (yv_move rfl) ?_
            refine ops_y hH7 rfl rfl (yv_add rfl rfl (by omega)) ?_
            refine op_fnV rfl rfl rfl hH7 (c47 (h1.now hH7 (n := 0) rfl) (by omega) (by omega) (by omega)) (fun w9 hH10 => ?_)
            refine ops_y hH10 rfl rfl (yv_move rfl) ?_
            refine ops_y hH10 rfl rfl (yv_move rfl) ?_
            refine ops_y hH10 rfl rfl (yv_mul rfl rfl (by omega)) ?_
            refine ops_y hH10 rfl rfl (yv_move rfl) ?_
            refine ops_y hH10 rfl rfl (yv_add rfl rfl (by omega)) ?_
            refine op_fnV rfl rfl rfl hH10 (c49 (h0.now hH10 (n := 0) rfl) (by omega) (by omega) (by omega)) (fun w11 hH12 => ?_)
            refine ops_y hH12 rfl rfl (yv_add rfl rfl (by omega)) ?_
            refine ops_y hH12 rfl rfl (yv_max rfl rfl) ?_
            refine ops_y hH12 rfl rfl (yv_assign rfl) ?_
            refine ops_nil ?_
            refine blk_n ?_
            refine thn_n ?_
            refine region ?_
            refine ops_y hH12 rfl rfl (yv_move rfl) ?_
            refine ops_y hH12 rfl rfl (yv_add rfl rfl (by omega)) ?_
            refine ops_y hH12 rfl rfl (yv_assign rfl) ?_
            refine ops_nil ?_
            refine lp_n (k + 1) (Sub.cons rfl (Sub.cons rfl (Sub.cons rfl (Sub.cons rfl (Sub.cons rfl (Sub.cons rfl (Sub.cons rfl (Sub.nil _)))))))) ?_ ?_
            · exact ⟨hH12, by omega⟩
            · first | (dsimp only; omega) | (show _ < _; omega)
          · skip
            have hb3 := S.lastTo_bd hj hT (by omega) (b := b) (by omega) (by omega) k hk
            have hs0 := S.sumOf_bd hj (b := 0) (by omega) (by omega)
            have hs1 := S.sumOf_bd hj (b := 1) (by omega) (by omega)
            have hsb := S.sumOf_bd hj (b := b) (by omega) (by omega)
            refine cond_f rfl (decide_eq_false hc8) ?_
            refine exit ?_
            refine thn_x ?_
            refine lp_x ?_
            refine blk_here ?_
            refine thn_n ?_
            refine seq ?_
            refine region ?_
            refine ops_y hH7 rfl rfl (yv_move rfl) ?_
            refine ops_y hH7 rfl rfl (yv_move rfl) ?_
            refine ops_y hH7 rfl rfl (yv_move rfl) ?_
            refine op_fnV rfl rfl rfl hH7 (c62 (h0.now hH7 (n := 0) rfl) hj (by omega) (by omega)) (fun w13 hH14 => ?_)
            refine ops_y hH14 rfl rfl (yv_sub rfl rfl (by omega)) ?_
            refine ops_y hH14 rfl rfl (yv_assign rfl) ?_
            refine ops_y hH14 rfl rfl (yv_assign rfl) ?_
            refine ops_nil ?_
            refine thn_n ?_
            refine ret ?_
            refine fin hH14 (fun w' hf => (res2 rfl (show RV _ _ _ (.tmp 6) _ from rfl) (show RV _ _ _ (.tmp 7) _ from rfl))) (fun w' hf => ?_)
            first | exact tup2 (S.id1 (by assumption)) | exact tup2 (S.id2 (by assumption) (by omega)) | (have hk2 : k = js.length := (by omega); subst hk2; first | exact tup2 (S.id3 hcp (by omega)) | (rcases (by omega : b = 0 ∨ b = 1) with rfl | rfl <;> exact tup2 (S.id3 hcp (by omega))))
  · skip
    refine cond_t rfl (not_decide_t hc3) ?_
    refine seq ?_
    refine region ?_
    refine ops_y hH2 rfl rfl (yv_move rfl) ?_
    refine ops_y hH2 rfl rfl (yv_assign rfl) ?_
    refine ops_y hH2 rfl rfl (yv_assign rfl) ?_
    refine ops_nil ?_
    refine thn_n ?_
    refine ret ?_
    refine thn_r ?_
    refine fin hH2 (fun w' hf => (res2 rfl (show RV _ _ _ (.tmp 6) _ from rfl) (show RV _ _ _ (.tmp 7) _ from rfl))) (fun w' hf => ?_)
    first | exact tup2 (S.id1 (by assumption)) | exact tup2 (S.id2 (by assumption) (by omega)) | (have hk2 : k = js.length := (by omega); subst hk2; first | exact tup2 (S.id3 hcp (by omega)) | (rcases (by omega : b = 0 ∨ b = 1) with rfl | rfl <;> exact tup2 (S.id3 hcp (by omega))))

end Go.Fip
