/- Joined texts: V5. -/
import Derived.Test.YticpcefbokhgfaaMH
import Derived.Test.YticpcefbokhgfaaMI
set_option linter.unusedVariables false
set_option linter.unusedSimpArgs false
set_option linter.unusedSectionVars false
set_option linter.unnecessarySimpa false
namespace Go.Fip
open Go.Proofs Go.RowKit

theorem c56 {v : Value} {l : List Int} {w : World} (h0 : Rd encI 1 v l w)  :
    Fn Try.prog 56 [v].toArray w (fun u _ => u = .bool (decide (S.J l))) := by
  refine fn_of' (args := [v]) Try.func56 rfl (ent Try.func56 (by kernel_rfl) rfl) rfl rfl (fun hH => ?_)
  refine seq (region (ops_y hH rfl rfl (yv_assign rfl) (ops_nil (thn_n (seq (region (ops_y hH rfl rfl (yv_move rfl) ?_)))))))
  refine op_fnV rfl rfl rfl hH (c17 (h0.now hH (n := 0) rfl)) (fun w1 hH2 => ?_)
  refine ops_y hH2 rfl rfl (yv_not rfl) ?_
  refine ops_y hH2 rfl rfl (yv_move rfl) ?_
  by_cases hc3 : 16 < (l.length : Int)
  · skip
    refine guard_no rfl rfl (not_decide_n hc3) rfl ?_
    refine guard_no rfl rfl (not_decide_n hc3) rfl ?_
    refine guard_no rfl rfl (not_decide_n hc3) rfl ?_
    refine ops_y hH2 rfl rfl (yv_pick_f rfl (not_decide_n hc3) rfl) ?_
    refine ops_y hH2 rfl rfl (yv_assign rfl) (ops_nil (thn_n (ret ?_)))
    refine fin hH2 (fun w' hf => (res1 rfl (show RV _ _ _ (.tmp 2) _ from rfl))) (fun w' hf => ?_)
    show Value.bool _ = Value.bool _; congr 1; first | exact (decide_eq_false (fun h => absurd h.2.1 (by omega))).symm | (refine decide_eq_decide.2 ?_; exact S.check_iff)
  · skip
    refine guard_yes rfl rfl (not_decide_t hc3) ?_
    refine ops_y hH2 rfl rfl (yv_move rfl) ?_
    refine guard_yes rfl rfl (not_decide_t hc3) ?_
    refine op_fnV rfl rfl rfl hH2 (c24 (h0.now hH2 (n := 0) rfl) (by omega)) (fun w4 hH5 => ?_)
    refine guard_yes rfl rfl (not_decide_t hc3) ?_
    refine ops_y hH5 rfl rfl (yv_eql rfl rfl) ?_
    refine ops_y hH5 rfl rfl (yv_pick_t rfl (not_decide_t hc3) rfl) ?_
    refine ops_y hH5 rfl rfl (yv_assign rfl) (ops_nil (thn_n (ret ?_)))
    refine fin hH5 (fun w' hf => (res1 rfl (show RV _ _ _ (.tmp 2) _ from rfl))) (fun w' hf => ?_)
    show Value.bool _ = Value.bool _; congr 1; first | exact (decide_eq_false (fun h => absurd h.2.1 (by omega))).symm | (refine decide_eq_decide.2 ?_; exact S.check_iff)

theorem c61 {n : Int} {vb : Value} {bs : List Int} {w : World} (hb : Rd encB 1 vb bs w) (hby : ∀ x ∈ bs, 0 ≤ x ∧ x ≤ 255) (hbn : bs.length ≤ 1000) (hn1 : 1 ≤ n) (hn10 : n ≤ 10)  :
    Fn Try.prog 61 [(.int .i64 n), vb].toArray w (fun u w => Own 3 1 encI u (S.giv n.toNat bs) w) := by
  refine fn_of' (args := [(.int .i64 n), vb]) Try.func61 rfl (ent Try.func61 (by kernel_rfl) rfl) rfl rfl (fun hH => ?_)
  have hrl := S.right_length n.toNat
  refine seq (region (ops_y hH rfl rfl (yv_assign rfl) (ops_nil (thn_n (seq (region (ops_y hH rfl rfl (yv_move rfl) ?_)))))))
  refine op_fn rfl rfl rfl hH (c58 (by omega) (by omega)) (fun u3 w1 lo4 hi5 hH2 hv6 => ?_)
  have hH7 := Heap.toOw hH2 (n := 0) rfl
  refine ops_y hH7 rfl rfl (yv_assign rfl) (ops_nil (thn_n (seq (seq (region (ops_y hH7 rfl rfl (yv_assign rfl) (ops_nil (thn_n (block ?_)))))))))
  refine loop (S := Nat × Value × Nat × Nat) (fun (k, v_5, lo_5, hi_5) => [(6, (.int .i64 (k : Int))), (5, v_5), (0, (.int .i64 n)), (1, vb), (4, (.slice none 0 0))]) (fun (k, v_5, lo_5, hi_5) w1 => Heap [ow lo_5 hi_5 3 1 encI v_5 (S.givTo n.toNat bs k), base w] w1 ∧ (k : Int) ≤ n ∧ (k = 0 ∨ 1 ≤ bs.length)) (fun (k, v_5, lo_5, hi_5) => n.toNat - k) (0, u3, lo4, hi5) (Sub.cons rfl (Sub.cons rfl (Sub.cons rfl (Sub.cons rfl (Sub.cons rfl (Sub.nil _)))))) ?_ ?_
  · exact ⟨(Heap.recast (n := 0) hH7 rfl (rfl)), by omega, .inl rfl⟩
  · rintro ⟨k, v_5, lo_5, hi_5⟩ w8 ⟨hH9, hk, hk0⟩
    show Holds _ _ _ _ _ [(6, (.int .i64 (k : Int))), (5, v_5), (0, (.int .i64 n)), (1, vb), (4, (.slice none 0 0))] _ _
    have hgl := S.givTo_len (n := n.toNat) (bs := bs) k
    refine seq (seq (region (ops_y hH9 rfl rfl (yv_move rfl) (ops_y hH9 rfl rfl (yv_move rfl) ?_))))
    refine ops_y hH9 rfl rfl (yv_lss rfl rfl) ?_
    refine ops_y hH9 rfl rfl (yv_move rfl) ?_
    by_cases hc10 : (k : Int) < n
    · skip
      refine guard_yes rfl rfl (decide_eq_true hc10) ?_
      refine ops_y hH9 rfl rfl (yv_move rfl) ?_
      refine guard_yes rfl rfl (decide_eq_true hc10) ?_
      refine ops_y hH9 rfl rfl (yv_len T.sl53 rfl ((hb.now hH9 (n := 1) rfl)).is) ?_
      refine guard_yes rfl rfl (decide_eq_true hc10) ?_
      refine ops_y hH9 rfl rfl (yv_gtr rfl rfl) ?_
      refine ops_y hH9 rfl rfl (yv_pick_t rfl (decide_eq_true hc10) rfl) ?_
      refine ops_nil (thn_n ?_)
      by_cases hc11 : 0 < (bs.length : Int)
      · skip
        refine cond_t rfl (decide_eq_true hc11) ?_
        refine skip (thn_n (seq (block (seq ?_))))
        have hm1 := emod_bd (a := (k : Int)) (b := (bs.length : Int)) (by omega)
        have hu8 := u8_at hby hm1.1 hm1.2
        have hm2 := emod_bd (a := nth bs ((k : Int) % (bs.length : Int))) (b := (k : Int) + 1) (by omega)
        have hsl : ((S.givTo n.toNat bs k).set ((k : Int)).toNat (nth (S.givTo n.toNat bs k) (nth bs ((k : Int) % (bs.length : Int)) % ((k : Int) + 1)))).length = n.toNat := (List.length_set).trans hgl
        refine region (ops_y hH9 rfl rfl (yv_move rfl) (ops_y hH9 rfl rfl (yv_move rfl) (ops_y hH9 rfl rfl (yv_move rfl) ?_)))
        refine ops_y hH9 rfl rfl (yv_len T.sl53 rfl ((hb.now hH9 (n := 1) rfl)).is) ?_
        refine ops_y hH9 rfl rfl (yv_rem rfl rfl (by omega) (by omega)) ?_
        refine ops_y hH9 rfl rfl (yv_index T.sl53 rfl rfl ((hb.now hH9 (n := 1) rfl)).is (by omega)) ?_
        refine ops_y hH9 rfl rfl (yv_load T.one5 rfl (fun _ hw => Rd.at ((hb.now hw (n := 1) rfl)) (i := (k : Int) % (bs.length : Int)) (by omega) (j := 0) rfl)) ?_
        refine ops_y hH9 rfl rfl (yv_conv Try.underlying5 Try.underlying3 rfl (wrap_i64 (by omega))) ?_
        refine ops_y hH9 rfl rfl (yv_move rfl) ?_
        refine ops_y hH9 rfl rfl (yv_add rfl rfl (by omega)) ?_
        refine ops_y hH9 rfl rfl (yv_rem rfl rfl (by omega) (by omega)) ?_
        refine ops_y hH9 rfl rfl (yv_assign rfl) (ops_nil (thn_n ?_))
        refine region_drawY (fun w' => Heap [ow lo_5 hi_5 3 1 encI v_5 (S.givTo n.toNat bs k), base w] w') [13, 15] T.mixed (fun w12 hr13 => ?_)
        have hH14 := hH9.redrawn hr13
        refine any_takesT [0, 1, 2, 3, 4, 5, 6, 8, 9, 10] (by kernel_rfl)  _ _ _ (by kernel_rfl) ?_
        refine qs_y rfl rfl (yv_move rfl) (qs_y rfl rfl (yv_move rfl) (qs_y rfl rfl (yv_move rfl) (qs_y rfl rfl (yv_move rfl) (qs_y rfl rfl (yv_move rfl) (qs_y rfl rfl (yv_move rfl) ?_)))))
        refine qs_y rfl rfl (yv_index T.sl22 rfl rfl (Heap.rdw T.el22_encI hH14 (n := 0) rfl).is (by omega)) ?_
        refine qs_y rfl rfl (yv_move rfl) (qs_y rfl rfl (yv_move rfl) ?_)
        refine qs_y rfl rfl (yv_index T.sl22 rfl rfl (Heap.rdw T.el22_encI hH14 (n := 0) rfl).is (by omega)) ?_
        refine qs_nil ?_
        refine any_takesY [7, 11] (by kernel_rfl) hH14 _ _ _ (by kernel_rfl) ?_
        refine qs_y rfl rfl (yv_load T.one3 rfl (fun _ hw => Rd.at (Heap.rdw T.el22_encI hw (n := 0) rfl) (i := (nth bs ((k : Int) % (bs.length : Int))) % ((k : Int) + 1)) (by omega) (j := 0) rfl)) ?_
        refine qs_y rfl rfl (yv_load T.one3 rfl (fun _ hw => Rd.at (Heap.rdw T.el22_encI hw (n := 0) rfl) (i := (k : Int)) (by omega) (j := 0) rfl)) ?_
        refine qs_nil ?_
        refine any_takesT [12] (by kernel_rfl)  _ _ _ (by kernel_rfl) ?_
        refine qs_y rfl rfl (yv_index T.sl22 rfl rfl (Heap.rdw T.el22_encI hH14 (n := 0) rfl).is (by omega)) ?_
        refine qs_nil ?_
        refine any_allY [13] (by kernel_rfl) rfl ?_
        refine ⟨⟨_, rfl, ?_⟩, trivial⟩
        · skip
          refine op_setE (n := 0) (i := (k : Int)) (k := 0) (us := [(.int .i64 (nth (S.givTo n.toNat bs k) ((nth bs ((k : Int) % (bs.length : Int))) % ((k : Int) + 1))))]) (z := nth (S.givTo n.toNat bs k) ((nth bs ((k : Int) % (bs.length : Int))) % ((k : Int) + 1))) T.el22_encI rfl rfl hH14 rfl (by omega) T.sz3 rfl rfl rfl (Nat.le_of_ble_eq_true rfl) (fun w15 hH16 => ?_)
          refine ops_nil ?_
          refine ⟨(fun h => by cases h), ?_⟩
          refine any_takesT [14] (by kernel_rfl)  _ _ _ (by kernel_rfl) ?_
          refine qs_y rfl rfl (yv_index T.sl22 rfl rfl (Heap.rdw T.el22_encI hH16 (n := 0) rfl).is (by omega)) ?_
          refine qs_nil ?_
          refine any_allY [15] (by kernel_rfl) rfl ?_
          refine ⟨⟨_, rfl, ?_⟩, trivial⟩
          · skip
            refine op_setE (n := 0) (i := (nth bs ((k : Int) % (bs.length : Int))) % ((k : Int) + 1)) (k := 0) (us := [(.int .i64 (nth (S.givTo n.toNat bs k) (k : Int)))]) (z := nth (S.givTo n.toNat bs k) (k : Int)) T.el22_encI rfl rfl hH16 rfl (by omega) T.sz3 rfl rfl rfl (Nat.le_of_ble_eq_true rfl) (fun w17 hH18 => ?_)
            refine ops_nil ?_
            refine ⟨(fun h => by cases h), ?_⟩
            refine any_doneY (by kernel_rfl) ?_
            refine blk_n (thn_n (region (ops_y hH18 rfl rfl (yv_move rfl) ?_)))
            refine ops_y hH18 rfl rfl (yv_add rfl rfl (by omega)) ?_
            refine ops_y hH18 rfl rfl (yv_assign rfl) (ops_nil ?_)
            refine lp_n (k + 1, v_5, lo_5, hi_5) (Sub.cons rfl (Sub.cons rfl (Sub.cons rfl (Sub.cons rfl (Sub.cons rfl (Sub.nil _)))))) ?_ ?_
            · exact ⟨(Heap.recast (n := 0) hH18 rfl (S.givTo_succ.symm)), by omega, .inr (by omega)⟩
            · first | (dsimp only; omega) | (show _ < _; omega)
      · skip
        refine cond_f rfl (decide_eq_false hc11) ?_
        refine exit (thn_x (lp_x (blk_here (thn_n (seq (region (ops_y hH9 rfl rfl (yv_move rfl) (ops_y hH9 rfl rfl (yv_assign rfl) (ops_nil ?_)))))))))
        refine thn_n (ret ?_)
        refine fin (hH9.front (n := 1) rfl) (fun w' hf => (res1 rfl (show RV _ _ _ (.tmp 4) _ from rfl))) (fun w' hf => ?_)
        rcases Nat.eq_zero_or_pos bs.length with h9 | h9
        · rw [show S.giv n.toNat bs = S.givTo n.toNat bs k by (have hk3 : k = 0 := by omega); subst hk3; unfold S.giv; rw [if_pos h9]; rfl]; exact Heap.own hf (n := 0) rfl
        · rw [show S.giv n.toNat bs = S.givTo n.toNat bs k by (have hk3 : k = n.toNat := by omega); subst hk3; unfold S.giv; rw [if_neg (by omega)]]; exact Heap.own hf (n := 0) rfl
    · skip
      refine guard_no rfl rfl (decide_eq_false hc10) rfl ?_
      refine guard_no rfl rfl (decide_eq_false hc10) rfl ?_
      refine guard_no rfl rfl (decide_eq_false hc10) rfl ?_
      refine ops_y hH9 rfl rfl (yv_pick_f rfl (decide_eq_false hc10) rfl) ?_
      refine ops_nil (thn_n ?_)
      refine cond_f rfl rfl ?_
      refine exit (thn_x (lp_x (blk_here (thn_n (seq (region (ops_y hH9 rfl rfl (yv_move rfl) (ops_y hH9 rfl rfl (yv_assign rfl) (ops_nil ?_)))))))))
      refine thn_n (ret ?_)
      refine fin (hH9.front (n := 1) rfl) (fun w' hf => (res1 rfl (show RV _ _ _ (.tmp 4) _ from rfl))) (fun w' hf => ?_)
      rcases Nat.eq_zero_or_pos bs.length with h9 | h9
      · rw [show S.giv n.toNat bs = S.givTo n.toNat bs k by (have hk3 : k = 0 := by omega); subst hk3; unfold S.giv; rw [if_pos h9]; rfl]; exact Heap.own hf (n := 0) rfl
      · rw [show S.giv n.toNat bs = S.givTo n.toNat bs k by (have hk3 : k = n.toNat := by omega); subst hk3; unfold S.giv; rw [if_neg (by omega)]]; exact Heap.own hf (n := 0) rfl

theorem c64 {v u : Value} {l m : List Int} {w : World} (h0 : Rd encI 1 v l w) (h1 : Rd encI 1 u m w) (hn : l.length ≤ 1000000) (hn2 : m.length ≤ 1000000)  :
    Fn Try.prog 64 [v, u].toArray w (fun u _ => u = .bool (S.lexB l m)) := by
  refine fn_of' (args := [v, u]) Try.func64 rfl (ent Try.func64 (by kernel_rfl) rfl) rfl rfl (fun hH => ?_)
  refine seq (region (ops_y hH rfl rfl (yv_assign rfl) (ops_nil (thn_n (seq (seq (region (ops_y hH rfl rfl (yv_assign rfl) (ops_nil ?_)))))))))
  refine thn_n (block ?_)
  refine loop (S := Nat) (fun k => [(5, (.int .i64 (k : Int))), (0, v), (1, u)]) (fun k w1 => Heap [base w] w1 ∧ k ≤ l.length ∧ k ≤ m.length ∧ ∀ i, i < k → nth l (i : Int) = nth m (i : Int)) (fun k => l.length - k) (0) (Sub.cons rfl (Sub.cons rfl (Sub.cons rfl (Sub.nil _)))) ?_ ?_
  · exact ⟨hH, by omega, by omega, S.all_zero⟩
  · rintro k w1 ⟨hH2, hk, hk2, hall⟩
    show Holds _ _ _ _ _ [(5, (.int .i64 (k : Int))), (0, v), (1, u)] _ _
    refine seq (seq (region (ops_y hH2 rfl rfl (yv_move rfl) (ops_y hH2 rfl rfl (yv_move rfl) ?_))))
    refine ops_y hH2 rfl rfl (yv_len T.sl22 rfl (h0.now hH2 (n := 0) rfl).is) ?_
    refine ops_y hH2 rfl rfl (yv_lss rfl rfl) ?_
    refine ops_y hH2 rfl rfl (yv_move rfl) ?_
    by_cases hc3 : (k : Int) < (l.length : Int)
    · skip
      refine guard_yes rfl rfl (decide_eq_true hc3) ?_
      refine ops_y hH2 rfl rfl (yv_move rfl) ?_
      refine guard_yes rfl rfl (decide_eq_true hc3) ?_
      refine ops_y hH2 rfl rfl (yv_move rfl) ?_
      refine guard_yes rfl rfl (decide_eq_true hc3) ?_
      refine ops_y hH2 rfl rfl (yv_len T.sl22 rfl (h1.now hH2 (n := 0) rfl).is) ?_
      refine guard_yes rfl rfl (decide_eq_true hc3) ?_
      refine ops_y hH2 rfl rfl (yv_lss rfl rfl) ?_
      refine ops_y hH2 rfl rfl (yv_pick_t rfl (decide_eq_true hc3) rfl) ?_
      refine ops_nil (thn_n ?_)
      by_cases hc4 : (k : Int) < (m.length : Int)
      · skip
        refine cond_t rfl (decide_eq_true hc4) ?_
        refine skip (thn_n (seq (block (seq ?_))))
        refine region_draw (fun w' => Heap [base w] w') T.mixed (fun w5 hr6 => ?_)
        have hH7 := hH2.redrawn hr6
        refine any_takes [0, 1, 2, 3, 4, 5, 6, 7, 8] (by kernel_rfl) hH7 _ _ _ (by kernel_rfl) ?_
        refine qs_y rfl rfl (yv_move rfl) (qs_y rfl rfl (yv_move rfl) ?_)
        refine qs_y rfl rfl (yv_index T.sl22 rfl rfl (h0.now hH7 (n := 0) rfl).is (by omega)) ?_
        refine qs_y rfl rfl (yv_load T.one3 rfl (fun _ hw => Rd.at (h0.now hw (n := 0) rfl) (i := (k : Int)) (by omega) (j := 0) rfl)) ?_
        refine qs_y rfl rfl (yv_move rfl) (qs_y rfl rfl (yv_move rfl) ?_)
        refine qs_y rfl rfl (yv_index T.sl22 rfl rfl (h1.now hH7 (n := 0) rfl).is (by omega)) ?_
        refine qs_y rfl rfl (yv_load T.one3 rfl (fun _ hw => Rd.at (h1.now hw (n := 0) rfl) (i := (k : Int)) (by omega) (j := 0) rfl)) ?_
        refine qs_y rfl rfl (yv_neq rfl rfl) ?_
        refine qs_nil ?_
        refine any_done (by kernel_rfl) ?_
        refine thn_n ?_
        by_cases hc8 : (nth l (k : Int)) = (nth m (k : Int))
        · skip
          refine cond_f rfl (not_decide_n hc8) ?_
          refine skip (blk_n (thn_n (region (ops_y hH7 rfl rfl (yv_move rfl) ?_))))
          refine ops_y hH7 rfl rfl (yv_add rfl rfl (by omega)) ?_
          refine ops_y hH7 rfl rfl (yv_assign rfl) (ops_nil ?_)
          refine lp_n (k + 1) (Sub.cons rfl (Sub.cons rfl (Sub.cons rfl (Sub.nil _)))) ?_ ?_
          · exact ⟨hH7, by omega, by omega, S.all_snoc hall (by omega)⟩
          · first | (dsimp only; omega) | (show _ < _; omega)
        · skip
          refine cond_t rfl (not_decide_t hc8) ?_
          refine seq ?_
          refine region_draw (fun w' => Heap [base w] w') T.mixed (fun w9 hr10 => ?_)
          have hH11 := hH7.redrawn hr10
          refine any_takes [0, 1, 2, 3, 4, 5, 6, 7, 8, 9] (by kernel_rfl) hH11 _ _ _ (by kernel_rfl) ?_
          refine qs_y rfl rfl (yv_move rfl) (qs_y rfl rfl (yv_move rfl) ?_)
          refine qs_y rfl rfl (yv_index T.sl22 rfl rfl (h0.now hH11 (n := 0) rfl).is (by omega)) ?_
          refine qs_y rfl rfl (yv_load T.one3 rfl (fun _ hw => Rd.at (h0.now hw (n := 0) rfl) (i := (k : Int)) (by omega) (j := 0) rfl)) ?_
          refine qs_y rfl rfl (yv_move rfl) (qs_y rfl rfl (yv_move rfl) ?_)
          refine qs_y rfl rfl (yv_index T.sl22 rfl rfl (h1.now hH11 (n := 0) rfl).is (by omega)) ?_
          refine qs_y rfl rfl (yv_load T.one3 rfl (fun _ hw => Rd.at (h1.now hw (n := 0) rfl) (i := (k : Int)) (by omega) (j := 0) rfl)) ?_
          refine qs_y rfl rfl (yv_lss rfl rfl) ?_
          refine qs_y rfl rfl (yv_assign rfl) (qs_nil ?_)
          refine any_done (by kernel_rfl) ?_
          refine thn_n (ret (blk_r (thn_r (lp_r (blk_r (thn_r ?_))))))
          refine fin hH11 (fun w' hf => (res1 rfl (show RV _ _ _ (.tmp 4) _ from rfl))) (fun w' hf => ?_)
          show Value.bool _ = Value.bool _; congr 1; rw [Bool.eq_iff_iff, S.lexB_iff]; unfold S.Lex; first | (rw [decide_eq_true_eq]; constructor; (intro h; exact ⟨k, ⟨by omega, by omega⟩, h, hall⟩); (rintro ⟨i, hi, h1, h2⟩; rcases Nat.lt_trichotomy i k with h3 | h3 | h3; (have h4 := hall i h3; omega); (rw [h3] at h1; exact h1); (have h4 := h2 k h3; omega))) | (constructor; (intro h; cases h); (rintro ⟨i, hi, h1, h2⟩; have h4 := hall i (by omega); omega))
      · skip
        refine cond_f rfl (decide_eq_false hc4) ?_
        refine exit (thn_x (lp_x (blk_here (thn_n (seq (region (ops_y hH2 rfl rfl (yv_assign rfl) (ops_nil (thn_n ?_)))))))))
        refine ret ?_
        refine fin hH2 (fun w' hf => (res1 rfl (show RV _ _ _ (.tmp 4) _ from rfl))) (fun w' hf => ?_)
        show Value.bool _ = Value.bool _; congr 1; rw [Bool.eq_iff_iff, S.lexB_iff]; unfold S.Lex; first | (rw [decide_eq_true_eq]; constructor; (intro h; exact ⟨k, ⟨by omega, by omega⟩, h, hall⟩); (rintro ⟨i, hi, h1, h2⟩; rcases Nat.lt_trichotomy i k with h3 | h3 | h3; (have h4 := hall i h3; omega); (rw [h3] at h1; exact h1); (have h4 := h2 k h3; omega))) | (constructor; (intro h; cases h); (rintro ⟨i, hi, h1, h2⟩; have h4 := hall i (by omega); omega))
    · skip
      refine guard_no rfl rfl (decide_eq_false hc3) rfl ?_
      refine guard_no rfl rfl (decide_eq_false hc3) rfl ?_
      refine guard_no rfl rfl (decide_eq_false hc3) rfl ?_
      refine guard_no rfl rfl (decide_eq_false hc3) rfl ?_
      refine ops_y hH2 rfl rfl (yv_pick_f rfl (decide_eq_false hc3) rfl) ?_
      refine ops_nil (thn_n ?_)
      refine cond_f rfl rfl ?_
      refine exit (thn_x (lp_x (blk_here (thn_n (seq (region (ops_y hH2 rfl rfl (yv_assign rfl) (ops_nil (thn_n ?_)))))))))
      refine ret ?_
      refine fin hH2 (fun w' hf => (res1 rfl (show RV _ _ _ (.tmp 4) _ from rfl))) (fun w' hf => ?_)
      show Value.bool _ = Value.bool _; congr 1; rw [Bool.eq_iff_iff, S.lexB_iff]; unfold S.Lex; first | (rw [decide_eq_true_eq]; constructor; (intro h; exact ⟨k, ⟨by omega, by omega⟩, h, hall⟩); (rintro ⟨i, hi, h1, h2⟩; rcases Nat.lt_trichotomy i k with h3 | h3 | h3; (have h4 := hall i h3; omega); (rw [h3] at h1; exact h1); (have h4 := h2 k h3; omega))) | (constructor; (intro h; cases h); (rintro ⟨i, hi, h1, h2⟩; have h4 := hall i (by omega); omega))

theorem c59 {v u : Value} {l m : List Int} {w : World} (h0 : Rd encI 1 v l w) (h1 : Rd encI 1 u m w) (hn : l.length ≤ 10) (hn2 : m.length ≤ 1000) (hks : ∀ i, i < m.length → -1000 ≤ nth m (i : Int) ∧ nth m (i : Int) ≤ 1000)  :
    Fn Try.prog 59 [v, u].toArray w (fun u _ => u = .bool (decide (S.Stepped l m))) := by
  refine fn_of' (args := [v, u]) Try.func59 rfl (ent Try.func59 (by kernel_rfl) rfl) rfl rfl (fun hH => ?_)
  refine seq (region (ops_y hH rfl rfl (yv_assign rfl) (ops_nil (thn_n (seq (region (ops_y hH rfl rfl (yv_move rfl) ?_)))))))
  refine op_fn rfl rfl rfl hH (c60 (h0.now hH (n := 0) rfl) (by omega)) (fun u3 w1 lo4 hi5 hH2 hv6 => ?_)
  have hH7 := Heap.toOw hH2 (n := 0) rfl
  refine ops_y hH7 rfl rfl (yv_assign rfl) (ops_nil (thn_n (seq (seq (region (ops_y hH7 rfl rfl (yv_assign rfl) (ops_nil (thn_n (block ?_)))))))))
  refine loop (S := Nat × Value × Nat × Nat) (fun (k, v_5, lo_5, hi_5) => [(6, (.int .i64 (k : Int))), (5, v_5), (0, v), (1, u)]) (fun (k, v_5, lo_5, hi_5) w1 => Heap [ow lo_5 hi_5 3 1 encI v_5 (S.stp l (m.take k)), base w] w1 ∧ k ≤ m.length ∧ ∀ i, i < k → 0 ≤ nth m (i : Int) ∧ nth m (i : Int) + 1 < (l.length : Int)) (fun (k, v_5, lo_5, hi_5) => m.length - k) (0, u3, lo4, hi5) (Sub.cons rfl (Sub.cons rfl (Sub.cons rfl (Sub.cons rfl (Sub.nil _))))) ?_ ?_
  · exact ⟨(Heap.recast (n := 0) hH7 rfl (rfl)), by omega, S.all_zero⟩
  · rintro ⟨k, v_5, lo_5, hi_5⟩ w8 ⟨hH9, hk, hall⟩
    show Holds _ _ _ _ _ [(6, (.int .i64 (k : Int))), (5, v_5), (0, v), (1, u)] _ _
    have hsl0 : (S.stp l (m.take k)).length = l.length := S.stp_length
    refine seq (seq (region (ops_y hH9 rfl rfl (yv_move rfl) (ops_y hH9 rfl rfl (yv_move rfl) ?_))))
    refine ops_y hH9 rfl rfl (yv_len T.sl22 rfl (h1.now hH9 (n := 1) rfl).is) ?_
    refine ops_y hH9 rfl rfl (yv_lss rfl rfl) ?_
    refine ops_nil (thn_n ?_)
    by_cases hc10 : (k : Int) < (m.length : Int)
    · skip
      refine cond_t rfl (decide_eq_true hc10) ?_
      refine skip (thn_n (seq (block (seq ?_))))
      have hkk := hks k (by omega)
      refine region (ops_y hH9 rfl rfl (yv_move rfl) (ops_y hH9 rfl rfl (yv_move rfl) ?_))
      refine ops_y hH9 rfl rfl (yv_index T.sl22 rfl rfl (h1.now hH9 (n := 1) rfl).is (by omega)) ?_
      refine ops_y hH9 rfl rfl (yv_load T.one3 rfl (fun _ hw => Rd.at (h1.now hw (n := 1) rfl) (i := (k : Int)) (by omega) (j := 0) rfl)) ?_
      refine ops_y hH9 rfl rfl (yv_assign rfl) (ops_nil (thn_n (seq (seq (region (ops_y hH9 rfl rfl (yv_move rfl) ?_))))))
      refine ops_y hH9 rfl rfl (yv_lss rfl rfl) ?_
      refine ops_y hH9 rfl rfl (yv_move rfl) ?_
      by_cases hc11 : (nth m (k : Int)) < 0
      · skip
        refine guard_no rfl rfl (decide_eq_true hc11) rfl ?_
        refine guard_no rfl rfl (decide_eq_true hc11) rfl ?_
        refine guard_no rfl rfl (decide_eq_true hc11) rfl ?_
        refine guard_no rfl rfl (decide_eq_true hc11) rfl ?_
        refine guard_no rfl rfl (decide_eq_true hc11) rfl ?_
        refine ops_y hH9 rfl rfl (yv_pick_t rfl (decide_eq_true hc11) rfl) ?_
        refine ops_nil (thn_n ?_)
        refine cond_t rfl rfl ?_
        refine seq ?_
        have hbad : ¬ S.Stepped l m := fun h => by
          have h9 := S.allK_iff.1 h.1 k (by omega)
          omega
        refine region (ops_y hH9 rfl rfl (yv_assign rfl) (ops_nil (thn_n (ret (thn_r (blk_r (thn_r (lp_r (blk_r ?_)))))))))
        refine thn_r ?_
        have hH12 := (hH9.sub (List.Sublist.cons _ (List.Sublist.refl _)))
        refine fin hH12 (fun w' hf => (res1 rfl (show RV _ _ _ (.tmp 4) _ from rfl))) (fun w' hf => ?_)
        show Value.bool _ = Value.bool _; congr 1; first | exact (decide_eq_false hbad).symm | (refine decide_eq_decide.2 ?_; rw [hke, List.take_length]; exact ⟨fun h => ⟨hall2, h⟩, fun h => h.2⟩)
      · skip
        refine guard_yes rfl rfl (decide_eq_false hc11) ?_
        refine ops_y hH9 rfl rfl (yv_move rfl) ?_
        refine guard_yes rfl rfl (decide_eq_false hc11) ?_
        refine ops_y hH9 rfl rfl (yv_add rfl rfl (by omega)) ?_
        refine guard_yes rfl rfl (decide_eq_false hc11) ?_
        refine ops_y hH9 rfl rfl (yv_move rfl) ?_
        refine guard_yes rfl rfl (decide_eq_false hc11) ?_
        refine ops_y hH9 rfl rfl (yv_len T.sl22 rfl (Heap.rdw T.el22_encI hH9 (n := 0) rfl).is) ?_
        refine guard_yes rfl rfl (decide_eq_false hc11) ?_
        refine ops_y hH9 rfl rfl (yv_geq rfl rfl) ?_
        refine ops_y hH9 rfl rfl (yv_pick_f rfl (decide_eq_false hc11) rfl) ?_
        refine ops_nil (thn_n ?_)
        by_cases hc13 : ((S.stp l (m.take k)).length : Int) ≤ ((nth m (k : Int)) + 1)
        · skip
          refine cond_t rfl (decide_eq_true hc13) ?_
          refine seq ?_
          have hbad : ¬ S.Stepped l m := fun h => by
            have h9 := S.allK_iff.1 h.1 k (by omega)
            omega
          refine region (ops_y hH9 rfl rfl (yv_assign rfl) (ops_nil (thn_n (ret (thn_r (blk_r (thn_r (lp_r (blk_r ?_)))))))))
          refine thn_r ?_
          have hH14 := (hH9.sub (List.Sublist.cons _ (List.Sublist.refl _)))
          refine fin hH14 (fun w' hf => (res1 rfl (show RV _ _ _ (.tmp 4) _ from rfl))) (fun w' hf => ?_)
          show Value.bool _ = Value.bool _; congr 1; first | exact (decide_eq_false hbad).symm | (refine decide_eq_decide.2 ?_; rw [hke, List.take_length]; exact ⟨fun h => ⟨hall2, h⟩, fun h => h.2⟩)
        · skip
          refine cond_f rfl (decide_eq_false hc13) ?_
          refine skip (thn_n ?_)
          have hsl : ((S.stp l (m.take k)).set (nth m (k : Int)).toNat (nth (S.stp l (m.take k)) (nth m (k : Int) + 1))).length = l.length := (List.length_set).trans hsl0
          refine region_drawY (fun w' => Heap [ow lo_5 hi_5 3 1 encI v_5 (S.stp l (m.take k)), base w] w') [15, 17] T.mixed (fun w15 hr16 => ?_)
          have hH17 := hH9.redrawn hr16
          refine any_takesT [0, 1, 2, 3, 4, 5, 6, 7, 8, 10, 11, 12] (by kernel_rfl)  _ _ _ (by kernel_rfl) ?_
          refine qs_y rfl rfl (yv_move rfl) (qs_y rfl rfl (yv_move rfl) (qs_y rfl rfl (yv_move rfl) (qs_y rfl rfl (yv_move rfl) ?_)))
          refine qs_y rfl rfl (yv_add rfl rfl (by omega)) ?_
          refine qs_y rfl rfl (yv_move rfl) (qs_y rfl rfl (yv_move rfl) ?_)
          refine qs_y rfl rfl (yv_add rfl rfl (by omega)) ?_
          refine qs_y rfl rfl (yv_index T.sl22 rfl rfl (Heap.rdw T.el22_encI hH17 (n := 0) rfl).is (by omega)) ?_
          refine qs_y rfl rfl (yv_move rfl) (qs_y rfl rfl (yv_move rfl) ?_)
          refine qs_y rfl rfl (yv_index T.sl22 rfl rfl (Heap.rdw T.el22_encI hH17 (n := 0) rfl).is (by omega)) ?_
          refine qs_nil ?_
          refine any_takesY [9, 13] (by kernel_rfl) hH17 _ _ _ (by kernel_rfl) ?_
          refine qs_y rfl rfl (yv_load T.one3 rfl (fun _ hw => Rd.at (Heap.rdw T.el22_encI hw (n := 0) rfl) (i := (nth m (k : Int)) + 1) (by omega) (j := 0) rfl)) ?_
          refine qs_y rfl rfl (yv_load T.one3 rfl (fun _ hw => Rd.at (Heap.rdw T.el22_encI hw (n := 0) rfl) (i := nth m (k : Int)) (by omega) (j := 0) rfl)) ?_
          refine qs_nil ?_
          refine any_takesT [14] (by kernel_rfl)  _ _ _ (by kernel_rfl) ?_
          refine qs_y rfl rfl (yv_index T.sl22 rfl rfl (Heap.rdw T.el22_encI hH17 (n := 0) rfl).is (by omega)) ?_
          refine qs_nil ?_
          refine any_allY [15] (by kernel_rfl) rfl ?_
          refine ⟨⟨_, rfl, ?_⟩, trivial⟩
          · skip
            refine op_setE (n := 0) (i := nth m (k : Int)) (k := 0) (us := [(.int .i64 (nth (S.stp l (m.take k)) ((nth m (k : Int)) + 1)))]) (z := nth (S.stp l (m.take k)) ((nth m (k : Int)) + 1)) T.el22_encI rfl rfl hH17 rfl (by omega) T.sz3 rfl rfl rfl (Nat.le_of_ble_eq_true rfl) (fun w18 hH19 => ?_)
            refine ops_nil ?_
            refine ⟨(fun h => by cases h), ?_⟩
            refine any_takesT [16] (by kernel_rfl)  _ _ _ (by kernel_rfl) ?_
            refine qs_y rfl rfl (yv_index T.sl22 rfl rfl (Heap.rdw T.el22_encI hH19 (n := 0) rfl).is (by omega)) ?_
            refine qs_nil ?_
            refine any_allY [17] (by kernel_rfl) rfl ?_
            refine ⟨⟨_, rfl, ?_⟩, trivial⟩
            · skip
              refine op_setE (n := 0) (i := (nth m (k : Int)) + 1) (k := 0) (us := [(.int .i64 (nth (S.stp l (m.take k)) (nth m (k : Int))))]) (z := nth (S.stp l (m.take k)) (nth m (k : Int))) T.el22_encI rfl rfl hH19 rfl (by omega) T.sz3 rfl rfl rfl (Nat.le_of_ble_eq_true rfl) (fun w20 hH21 => ?_)
              refine ops_nil ?_
              refine ⟨(fun h => by cases h), ?_⟩
              refine any_doneY (by kernel_rfl) ?_
              refine blk_n (thn_n (region (ops_y hH21 rfl rfl (yv_move rfl) ?_)))
              refine ops_y hH21 rfl rfl (yv_add rfl rfl (by omega)) ?_
              refine ops_y hH21 rfl rfl (yv_assign rfl) (ops_nil ?_)
              refine lp_n (k + 1, v_5, lo_5, hi_5) (Sub.cons rfl (Sub.cons rfl (Sub.cons rfl (Sub.cons rfl (Sub.nil _))))) ?_ ?_
              · exact ⟨(Heap.recast (n := 0) hH21 rfl (S.stp_take (by omega))), by omega, S.all_snoc hall ⟨by omega, by omega⟩⟩
              · first | (dsimp only; omega) | (show _ < _; omega)
    · skip
      refine cond_f rfl (decide_eq_false hc10) ?_
      refine exit (thn_x (lp_x (blk_here (thn_n (seq ?_)))))
      have hrl := S.right_length l.length
      have hrl2 : (S.right ((l.length : Int)).toNat).length = l.length := S.right_length _
      have hke : k = m.length := by omega
      have hall2 : S.AllK l.length m := S.allK_iff.2 (fun i hi => hall i (by omega))
      refine region (ops_y hH9 rfl rfl (yv_move rfl) (ops_y hH9 rfl rfl (yv_move rfl) ?_))
      refine ops_y hH9 rfl rfl (yv_len T.sl22 rfl (h0.now hH9 (n := 1) rfl).is) ?_
      refine op_fn rfl rfl rfl hH9 (c58 (by omega) (by omega)) (fun u24 w22 lo25 hi26 hH23 hv27 => ?_)
      have hH28 := Heap.toOw hH23 (n := 0) rfl
      refine op_fnV rfl rfl rfl hH28 (c33 (Heap.rdw T.el22_encI hH28 (n := 1) rfl) (Heap.rdw T.el22_encI hH28 (n := 0) rfl) (by omega) (by omega)) (fun w29 hH30 => ?_)
      refine ops_y hH30 rfl rfl (yv_assign rfl) (ops_nil (thn_n (ret ?_)))
      have hH31 := (hH30.sub (List.Sublist.cons _ (List.Sublist.cons _ (List.Sublist.refl _))))
      refine fin hH31 (fun w' hf => (res1 rfl (show RV _ _ _ (.tmp 4) _ from rfl))) (fun w' hf => ?_)
      show Value.bool _ = Value.bool _; congr 1; first | exact (decide_eq_false hbad).symm | (refine decide_eq_decide.2 ?_; rw [hke, List.take_length]; exact ⟨fun h => ⟨hall2, h⟩, fun h => h.2⟩)

theorem c57 {v vb : Value} {l bs : List Int} {w : World} (h0 : Rd encI 1 v l w) (hb : Rd encB 1 vb bs w) (hj : S.J l) (hby : ∀ x ∈ bs, 0 ≤ x ∧ x ≤ 255) (hbn : bs.length ≤ 1000)  :
    Fn Try.prog 57 [v, vb].toArray w (fun u w => Own 70 2 encP u (S.put l bs (if 1 < l.length then min 30 (bs.length / 2) else 0)) w) := by
  refine fn_of' (args := [v, vb]) Try.func57 rfl (ent Try.func57 (by kernel_rfl) rfl) rfl rfl (fun hH => ?_)
  have hl10 := hj.2.1
  have hl1 := hj.1
  refine seq (region (ops_y hH rfl rfl (yv_assign rfl) (ops_nil (thn_n (seq (region (ops_y hH rfl rfl (yv_assign rfl) (ops_nil (thn_n ?_)))))))))
  refine seq (seq (region (ops_y hH rfl rfl (yv_assign rfl) (ops_nil (thn_n (block ?_))))))
  have hH1 := ow_nil (enc := encP) 70 2 hH
  refine loop (S := Nat × Value × Nat × Nat) (fun (j, v_5, lo_5, hi_5) => [(6, (.int .i64 (2 * (j : Int)))), (5, v_5), (0, v), (1, vb), (4, (.slice none 0 0))]) (fun (j, v_5, lo_5, hi_5) w1 => Heap [ow lo_5 hi_5 70 2 encP v_5 (S.pairsTo (l.length : Int) bs j), base w] w1 ∧ j ≤ 30 ∧ (j = 0 ∨ (2 * j ≤ bs.length ∧ 1 < l.length))) (fun (j, v_5, lo_5, hi_5) => 30 - j) (0, (.slice none 0 0), w.heap.size, w.heap.size) (Sub.cons rfl (Sub.cons rfl (Sub.cons rfl (Sub.cons rfl (Sub.cons rfl (Sub.nil _)))))) ?_ ?_
  · exact ⟨(Heap.recast (n := 0) hH1 rfl (rfl)), by omega, .inl rfl⟩
  · rintro ⟨j, v_5, lo_5, hi_5⟩ w2 ⟨hH3, hj30, hjb⟩
    show Holds _ _ _ _ _ [(6, (.int .i64 (2 * (j : Int)))), (5, v_5), (0, v), (1, vb), (4, (.slice none 0 0))] _ _
    have hpl := S.pairsTo_len (n := (l.length : Int)) (bs := bs) (k := j)
    refine seq (seq (region (ops_y hH3 rfl rfl (yv_move rfl) ?_)))
    refine ops_y hH3 rfl rfl (yv_add rfl rfl (by omega)) ?_
    refine ops_y hH3 rfl rfl (yv_move rfl) ?_
    refine ops_y hH3 rfl rfl (yv_len T.sl53 rfl ((hb.now hH3 (n := 1) rfl)).is) ?_
    refine ops_y hH3 rfl rfl (yv_lss rfl rfl) ?_
    refine ops_y hH3 rfl rfl (yv_move rfl) ?_
    by_cases hc4 : ((2 * (j : Int)) + 1) < (bs.length : Int)
    · skip
      refine guard_yes rfl rfl (decide_eq_true hc4) ?_
      refine ops_y hH3 rfl rfl (yv_move rfl) ?_
      refine guard_yes rfl rfl (decide_eq_true hc4) ?_
      refine ops_y hH3 rfl rfl (yv_len T.sl22 rfl (h0.now hH3 (n := 1) rfl).is) ?_
      refine guard_yes rfl rfl (decide_eq_true hc4) ?_
      refine ops_y hH3 rfl rfl (yv_gtr rfl rfl) ?_
      refine ops_y hH3 rfl rfl (yv_pick_t rfl (decide_eq_true hc4) rfl) ?_
      refine ops_y hH3 rfl rfl (yv_move rfl) ?_
      by_cases hc5 : 1 < (l.length : Int)
      · skip
        refine guard_yes rfl rfl (decide_eq_true hc5) ?_
        refine ops_y hH3 rfl rfl (yv_move rfl) ?_
        refine guard_yes rfl rfl (decide_eq_true hc5) ?_
        refine ops_y hH3 rfl rfl (yv_lss rfl rfl) ?_
        refine ops_y hH3 rfl rfl (yv_pick_t rfl (decide_eq_true hc5) rfl) ?_
        refine ops_nil (thn_n ?_)
        by_cases hc6 : (2 * (j : Int)) < 60
        · skip
          refine cond_t rfl (decide_eq_true hc6) ?_
          refine skip (thn_n (seq (block (seq ?_))))
          have hua := u8_at hby (i := 2 * (j : Int)) (by omega) (by omega)
          have hub := u8_at hby (i := 2 * (j : Int) + 1) (by omega) (by omega)
          have hma := emod_bd (a := nth bs (2 * (j : Int))) (b := (l.length : Int)) (by omega)
          have hmb := emod_bd (a := nth bs (2 * (j : Int) + 1)) (b := (l.length : Int) - 1) (by omega)
          refine region (ops_y hH3 rfl rfl (yv_move rfl) (ops_y hH3 rfl rfl (yv_move rfl) ?_))
          refine ops_y hH3 rfl rfl (yv_index T.sl53 rfl rfl ((hb.now hH3 (n := 1) rfl)).is (by omega)) ?_
          refine ops_y hH3 rfl rfl (yv_load T.one5 rfl (fun _ hw => Rd.at ((hb.now hw (n := 1) rfl)) (i := (2 * (j : Int))) (by omega) (j := 0) rfl)) ?_
          refine ops_y hH3 rfl rfl (yv_conv Try.underlying5 Try.underlying3 rfl (wrap_i64 (by omega))) ?_
          refine ops_y hH3 rfl rfl (yv_move rfl) ?_
          refine ops_y hH3 rfl rfl (yv_len T.sl22 rfl (h0.now hH3 (n := 1) rfl).is) ?_
          refine ops_y hH3 rfl rfl (yv_rem rfl rfl (by omega) (by omega)) ?_
          refine ops_y hH3 rfl rfl (yv_assign rfl) (ops_nil (thn_n (seq (region (ops_y hH3 rfl rfl (yv_move rfl) ?_)))))
          refine ops_y hH3 rfl rfl (yv_add rfl rfl (by omega)) ?_
          refine ops_y hH3 rfl rfl (yv_move rfl) (ops_y hH3 rfl rfl (yv_move rfl) ?_)
          refine ops_y hH3 rfl rfl (yv_add rfl rfl (by omega)) ?_
          refine ops_y hH3 rfl rfl (yv_index T.sl53 rfl rfl ((hb.now hH3 (n := 1) rfl)).is (by omega)) ?_
          refine ops_y hH3 rfl rfl (yv_load T.one5 rfl (fun _ hw => Rd.at ((hb.now hw (n := 1) rfl)) (i := (2 * (j : Int)) + 1) (by omega) (j := 0) rfl)) ?_
          refine ops_y hH3 rfl rfl (yv_conv Try.underlying5 Try.underlying3 rfl (wrap_i64 (by omega))) ?_
          refine ops_y hH3 rfl rfl (yv_move rfl) ?_
          refine ops_y hH3 rfl rfl (yv_len T.sl22 rfl (h0.now hH3 (n := 1) rfl).is) ?_
          refine ops_y hH3 rfl rfl (yv_sub rfl rfl (by omega)) ?_
          refine ops_y hH3 rfl rfl (yv_rem rfl rfl (by omega) (by omega)) ?_
          refine ops_y hH3 rfl rfl (yv_add rfl rfl (by omega)) ?_
          refine ops_y hH3 rfl rfl (yv_move rfl) ?_
          refine ops_y hH3 rfl rfl (yv_len T.sl22 rfl (h0.now hH3 (n := 1) rfl).is) ?_
          refine ops_y hH3 rfl rfl (yv_rem rfl rfl (by omega) (by omega)) ?_
          refine ops_y hH3 rfl rfl (yv_assign rfl) (ops_nil (thn_n (region (ops_y hH3 rfl rfl (yv_move rfl) (ops_y hH3 rfl rfl (yv_move rfl) (ops_y hH3 rfl rfl (yv_move rfl) ?_))))))
          refine ops_y hH3 rfl rfl (yv_build (v := (.agg #[(.int .i64 ((nth bs (2 * (j : Int))) % (l.length : Int))), (.int .i64 (((((nth bs (2 * (j : Int))) % (l.length : Int)) + 1) + ((nth bs ((2 * (j : Int)) + 1)) % ((l.length : Int) - 1))) % (l.length : Int)))])) (us := [(0, (.int .i64 ((nth bs (2 * (j : Int))) % (l.length : Int)))), (1, (.int .i64 (((((nth bs (2 * (j : Int))) % (l.length : Int)) + 1) + ((nth bs ((2 * (j : Int)) + 1)) % ((l.length : Int) - 1))) % (l.length : Int))))]) (fun a ha => by simp [ha.ev (show ev _ (.tmp 56) = some _ from rfl), ha.ev (show ev _ (.tmp 57) = some _ from rfl)]) (fun w => by kernel_rfl)) ?_
          refine op_lit (us := [(0, (.agg #[(.int .i64 ((nth bs (2 * (j : Int))) % (l.length : Int))), (.int .i64 (((((nth bs (2 * (j : Int))) % (l.length : Int)) + 1) + ((nth bs ((2 * (j : Int)) + 1)) % ((l.length : Int) - 1))) % (l.length : Int)))]))]) T.el29_encP [((nth bs (2 * (j : Int))) % (l.length : Int), ((((nth bs (2 * (j : Int))) % (l.length : Int)) + 1) + ((nth bs ((2 * (j : Int)) + 1)) % ((l.length : Int) - 1))) % (l.length : Int))] rfl (by decide) rfl (fun a ha => by simp [ha.ev (show ev _ (.tmp 58) = some _ from rfl)]) (fun w => by kernel_rfl) hH3 (fun u7 lo9 hi10 w8 hH11 => ?_)
          refine op_append (n := 1) T.el29_encP rfl rfl rfl hH11 rfl (Heap.rdw T.el29_encP hH11 (n := 0) rfl) (by first | omega | (simp only [List.length_append, List.length_cons, List.length_nil]; omega)) (fun u12 lo14 hi15 w13 hH16 => ?_)
          refine ops_y hH16 rfl rfl (yv_assign rfl) (ops_nil (blk_n (thn_n (region (ops_y hH16 rfl rfl (yv_move rfl) ?_)))))
          refine ops_y hH16 rfl rfl (yv_add rfl rfl (by omega)) ?_
          refine ops_y hH16 rfl rfl (yv_assign rfl) (ops_nil ?_)
          have hH17 := (hH16.sub (List.Sublist.cons _ (List.Sublist.refl _)))
          refine lp_n (j + 1, u12, lo14, hi15) (Sub.cons (congrArg (fun z => some (Value.int .i64 z)) (by omega)) (Sub.cons rfl (Sub.cons rfl (Sub.cons rfl (Sub.cons rfl (Sub.nil _)))))) ?_ ?_
          · exact ⟨(Heap.recast (n := 0) hH17 rfl (S.pairsTo_succ.symm)), by omega, .inr ⟨by omega, by omega⟩⟩
          · first | (dsimp only; omega) | (show _ < _; omega)
        · skip
          refine cond_f rfl (decide_eq_false hc6) ?_
          refine exit (thn_x (lp_x (blk_here (thn_n (seq ?_)))))
          have hje : j = (if 1 < l.length then min 30 (bs.length / 2) else 0) := by split <;> omega
          have hpok : S.AllX l.length (S.pairsTo (l.length : Int) bs j) := (hjb.elim (fun h9 => by subst h9; exact (fun x hx => by cases hx)) (fun h9 => S.pairsTo_ok h9.2 j))
          refine region (ops_y hH3 rfl rfl (yv_move rfl) ?_)
          refine op_fn rfl rfl rfl hH3 (c60 (h0.now hH3 (n := 1) rfl) (by omega)) (fun u20 w18 lo21 hi22 hH19 hv23 => ?_)
          have hH24 := Heap.toOw hH19 (n := 0) rfl
          refine ops_y hH24 rfl rfl (yv_assign rfl) (ops_nil (thn_n (seq (seq (region (ops_y hH24 rfl rfl (yv_assign rfl) (ops_nil (thn_n (block ?_)))))))))
          refine loop (S := Nat × Value × Nat × Nat) (fun (q, v_9, lo_9, hi_9) => [(10, (.int .i64 (q : Int))), (9, v_9), (4, (.slice none 0 0)), (5, v_5)]) (fun (q, v_9, lo_9, hi_9) w1 => Heap [ow lo_9 hi_9 3 1 encI v_9 (S.apl l ((S.pairsTo (l.length : Int) bs j).take q)), ow lo_5 hi_5 70 2 encP v_5 (S.pairsTo (l.length : Int) bs j), base w] w1 ∧ q ≤ (S.pairsTo (l.length : Int) bs j).length) (fun (q, v_9, lo_9, hi_9) => (S.pairsTo (l.length : Int) bs j).length - q) (0, u20, lo21, hi22) (Sub.cons rfl (Sub.cons rfl (Sub.cons rfl (Sub.cons rfl (Sub.nil _))))) ?_ ?_
          · exact ⟨(Heap.recast (n := 0) hH24 rfl (rfl)), by omega⟩
          · rintro ⟨q, v_9, lo_9, hi_9⟩ w25 ⟨hH26, hq⟩
            show Holds _ _ _ _ _ [(10, (.int .i64 (q : Int))), (9, v_9), (4, (.slice none 0 0)), (5, v_5)] _ _
            have hal : (S.apl l ((S.pairsTo (l.length : Int) bs j).take q)).length = l.length := S.apl_length
            refine seq (seq (region (ops_y hH26 rfl rfl (yv_move rfl) (ops_y hH26 rfl rfl (yv_move rfl) ?_))))
            refine ops_y hH26 rfl rfl (yv_len T.sl29 rfl (Heap.rdw T.el29_encP hH26 (n := 1) rfl).is) ?_
            refine ops_y hH26 rfl rfl (yv_lss rfl rfl) ?_
            refine ops_nil (thn_n ?_)
            by_cases hc27 : (q : Int) < ((S.pairsTo (l.length : Int) bs j).length : Int)
            · skip
              have hpq : (0 ≤ (nth (S.pairsTo (l.length : Int) bs j) (q : Int)).1 ∧ (nth (S.pairsTo (l.length : Int) bs j) (q : Int)).1 < (l.length : Int)) ∧ (0 ≤ (nth (S.pairsTo (l.length : Int) bs j) (q : Int)).2 ∧ (nth (S.pairsTo (l.length : Int) bs j) (q : Int)).2 < (l.length : Int)) := by (have h9 := hpok _ (List.getElem_mem (show q < (S.pairsTo (l.length : Int) bs j).length by omega))); rw [nth_nat (show q < (S.pairsTo (l.length : Int) bs j).length by omega)]; exact ⟨h9.1, h9.2.1⟩
              have hsl : ((S.apl l ((S.pairsTo (l.length : Int) bs j).take q)).set ((nth (S.pairsTo (l.length : Int) bs j) (q : Int)).1).toNat (nth (S.apl l ((S.pairsTo (l.length : Int) bs j).take q)) (nth (S.pairsTo (l.length : Int) bs j) (q : Int)).2)).length = l.length := (List.length_set).trans hal
              refine cond_t rfl (decide_eq_true hc27) ?_
              refine skip (thn_n (seq (block (seq ?_))))
              refine region_draw (fun w' => Heap [ow lo_9 hi_9 3 1 encI v_9 (S.apl l ((S.pairsTo (l.length : Int) bs j).take q)), ow lo_5 hi_5 70 2 encP v_5 (S.pairsTo (l.length : Int) bs j), base w] w') T.mixed (fun w28 hr29 => ?_)
              have hH30 := hH26.redrawn hr29
              refine any_takes [0, 1, 2, 3, 4, 5, 6, 7, 8, 9, 10, 11] (by kernel_rfl) hH30 _ _ _ (by kernel_rfl) ?_
              refine qs_y rfl rfl (yv_move rfl) (qs_y rfl rfl (yv_move rfl) ?_)
              refine qs_y rfl rfl (yv_index T.sl29 rfl rfl (Heap.rdw T.el29_encP hH30 (n := 1) rfl).is (by omega)) ?_
              refine qs_y rfl rfl (yv_indexA T.arr70 rfl rfl (by omega)) ?_
              refine qs_y rfl rfl (yv_load T.one3 rfl (fun _ hw => Rd.at (Heap.rdw T.el29_encP hw (n := 1) rfl) (i := (q : Int)) (by omega) (j := 0) rfl)) ?_
              refine qs_y rfl rfl (yv_move rfl) (qs_y rfl rfl (yv_move rfl) ?_)
              refine qs_y rfl rfl (yv_index T.sl29 rfl rfl (Heap.rdw T.el29_encP hH30 (n := 1) rfl).is (by omega)) ?_
              refine qs_y rfl rfl (yv_indexA T.arr70 rfl rfl (by omega)) ?_
              refine qs_y rfl rfl (yv_load T.one3 rfl (fun _ hw => Rd.at (Heap.rdw T.el29_encP hw (n := 1) rfl) (i := (q : Int)) (by omega) (j := 1) rfl)) ?_
              refine qs_y rfl rfl (yv_assign rfl) (qs_y rfl rfl (yv_assign rfl) (qs_nil ?_))
              refine any_done (by kernel_rfl) ?_
              refine thn_n ?_
              refine region_drawY (fun w' => Heap [ow lo_9 hi_9 3 1 encI v_9 (S.apl l ((S.pairsTo (l.length : Int) bs j).take q)), ow lo_5 hi_5 70 2 encP v_5 (S.pairsTo (l.length : Int) bs j), base w] w') [13, 15] T.mixed (fun w31 hr32 => ?_)
              have hH33 := hH30.redrawn hr32
              refine any_takesT [0, 1, 2, 3, 4, 5, 6, 8, 9, 10] (by kernel_rfl)  _ _ _ (by kernel_rfl) ?_
              refine qs_y rfl rfl (yv_move rfl) (qs_y rfl rfl (yv_move rfl) (qs_y rfl rfl (yv_move rfl) (qs_y rfl rfl (yv_move rfl) (qs_y rfl rfl (yv_move rfl) (qs_y rfl rfl (yv_move rfl) ?_)))))
              refine qs_y rfl rfl (yv_index T.sl22 rfl rfl (Heap.rdw T.el22_encI hH33 (n := 0) rfl).is (by omega)) ?_
              refine qs_y rfl rfl (yv_move rfl) (qs_y rfl rfl (yv_move rfl) ?_)
              refine qs_y rfl rfl (yv_index T.sl22 rfl rfl (Heap.rdw T.el22_encI hH33 (n := 0) rfl).is (by omega)) ?_
              refine qs_nil ?_
              refine any_takesY [7, 11] (by kernel_rfl) hH33 _ _ _ (by kernel_rfl) ?_
              refine qs_y rfl rfl (yv_load T.one3 rfl (fun _ hw => Rd.at (Heap.rdw T.el22_encI hw (n := 0) rfl) (i := (nth (S.pairsTo (l.length : Int) bs j) (q : Int)).2) (by omega) (j := 0) rfl)) ?_
              refine qs_y rfl rfl (yv_load T.one3 rfl (fun _ hw => Rd.at (Heap.rdw T.el22_encI hw (n := 0) rfl) (i := (nth (S.pairsTo (l.length : Int) bs j) (q : Int)).1) (by omega) (j := 0) rfl)) ?_
              refine qs_nil ?_
              refine any_takesT [12] (by kernel_rfl)  _ _ _ (by kernel_rfl) ?_
              refine qs_y rfl rfl (yv_index T.sl22 rfl rfl (Heap.rdw T.el22_encI hH33 (n := 0) rfl).is (by omega)) ?_
              refine qs_nil ?_
              refine any_allY [13] (by kernel_rfl) rfl ?_
              refine ⟨⟨_, rfl, ?_⟩, trivial⟩
              · skip
                refine op_setE (n := 0) (i := (nth (S.pairsTo (l.length : Int) bs j) (q : Int)).1) (k := 0) (us := [(.int .i64 (nth (S.apl l ((S.pairsTo (l.length : Int) bs j).take q)) ((nth (S.pairsTo (l.length : Int) bs j) (q : Int)).2)))]) (z := nth (S.apl l ((S.pairsTo (l.length : Int) bs j).take q)) ((nth (S.pairsTo (l.length : Int) bs j) (q : Int)).2)) T.el22_encI rfl rfl hH33 rfl (by omega) T.sz3 rfl rfl rfl (Nat.le_of_ble_eq_true rfl) (fun w34 hH35 => ?_)
                refine ops_nil ?_
                refine ⟨(fun h => by cases h), ?_⟩
                refine any_takesT [14] (by kernel_rfl)  _ _ _ (by kernel_rfl) ?_
                refine qs_y rfl rfl (yv_index T.sl22 rfl rfl (Heap.rdw T.el22_encI hH35 (n := 0) rfl).is (by omega)) ?_
                refine qs_nil ?_
                refine any_allY [15] (by kernel_rfl) rfl ?_
                refine ⟨⟨_, rfl, ?_⟩, trivial⟩
                · skip
                  refine op_setE (n := 0) (i := (nth (S.pairsTo (l.length : Int) bs j) (q : Int)).2) (k := 0) (us := [(.int .i64 (nth (S.apl l ((S.pairsTo (l.length : Int) bs j).take q)) ((nth (S.pairsTo (l.length : Int) bs j) (q : Int)).1)))]) (z := nth (S.apl l ((S.pairsTo (l.length : Int) bs j).take q)) ((nth (S.pairsTo (l.length : Int) bs j) (q : Int)).1)) T.el22_encI rfl rfl hH35 rfl (by omega) T.sz3 rfl rfl rfl (Nat.le_of_ble_eq_true rfl) (fun w36 hH37 => ?_)
                  refine ops_nil ?_
                  refine ⟨(fun h => by cases h), ?_⟩
                  refine any_doneY (by kernel_rfl) ?_
                  refine blk_n (thn_n (region (ops_y hH37 rfl rfl (yv_move rfl) ?_)))
                  refine ops_y hH37 rfl rfl (yv_add rfl rfl (by omega)) ?_
                  refine ops_y hH37 rfl rfl (yv_assign rfl) (ops_nil ?_)
                  refine lp_n (q + 1, v_9, lo_9, hi_9) (Sub.cons rfl (Sub.cons rfl (Sub.cons rfl (Sub.cons rfl (Sub.nil _))))) ?_ ?_
                  · exact ⟨(Heap.recast (n := 0) hH37 rfl (S.apl_take (by omega))), by omega⟩
                  · first | (dsimp only; omega) | (show _ < _; omega)
            · skip
              refine cond_f rfl (decide_eq_false hc27) ?_
              refine exit (thn_x (lp_x (blk_here (thn_n (seq ?_)))))
              have hqe : q = (S.pairsTo (l.length : Int) bs j).length := by omega
              have hja : S.J (S.apl l ((S.pairsTo (l.length : Int) bs j).take q)) := by rw [hqe, List.take_length]; exact (hj.apl hpok).1
              have hex : S.exsR (S.apl l ((S.pairsTo (l.length : Int) bs j).take q)) = (S.exs (S.apl l (S.pairsTo (l.length : Int) bs j)), 0) := by rw [S.ex2 (S.check_iff.2 hja), hqe, List.take_length]
              have hxl := hja.exs_len
              have hxl2 : (S.exs (S.apl l (S.pairsTo (l.length : Int) bs j))).length ≤ 10 := by rw [hqe, List.take_length] at hxl; exact hxl
              refine region (ops_y hH26 rfl rfl (yv_move rfl) ?_)
              have hev40 : Fn Try.prog 30 [v_9].toArray _ _ := c30 (Heap.rdw T.el22_encI hH26 (n := 0) rfl) (by omega)
              simp only [hex] at hev40
              refine op_fn rfl rfl rfl hH26 (hev40) (fun u41 w38 lo42 hi43 hH39 hv44 => ?_)
              obtain ⟨p46, hu, -⟩ := hv44
              subst hu
              have hH45 := Heap.tup2 hH39 (n := 0) rfl
              refine ops_y hH45 rfl rfl (yv_move rfl) (ops_y hH45 rfl rfl (yv_extract rfl rfl) (ops_y hH45 rfl rfl (yv_extract rfl rfl) (ops_y hH45 rfl rfl (yv_assign rfl) (ops_y hH45 rfl rfl (yv_assign rfl) (ops_nil (thn_n (seq (region (ops_y hH45 rfl rfl (yv_move rfl) ?_)))))))))
              refine ops_y hH45 rfl rfl (yv_move rfl) ?_
              refine op_append (n := 2) T.el29_encP rfl rfl rfl hH45 rfl (Heap.rdw T.el29_encP hH45 (n := 0) rfl) (by first | omega | (simp only [List.length_append, List.length_cons, List.length_nil]; omega)) (fun u47 lo49 hi50 w48 hH51 => ?_)
              refine ops_y hH51 rfl rfl (yv_assign rfl) (ops_nil (thn_n (ret ?_)))
              have hH52 := (hH51.sub (List.Sublist.cons _ (List.Sublist.cons _ (List.Sublist.refl _))))
              refine fin (hH52.front (n := 1) rfl) (fun w' hf => (res1 rfl (show RV _ _ _ (.tmp 4) _ from rfl))) (fun w' hf => ?_)
              rw [← hje]; exact Heap.own hf (n := 0) rfl
      · skip
        refine guard_no rfl rfl (decide_eq_false hc5) rfl ?_
        refine guard_no rfl rfl (decide_eq_false hc5) rfl ?_
        refine ops_y hH3 rfl rfl (yv_pick_f rfl (decide_eq_false hc5) rfl) ?_
        refine ops_nil (thn_n ?_)
        refine cond_f rfl rfl ?_
        refine exit (thn_x (lp_x (blk_here (thn_n (seq ?_)))))
        have hje : j = (if 1 < l.length then min 30 (bs.length / 2) else 0) := by split <;> omega
        have hpok : S.AllX l.length (S.pairsTo (l.length : Int) bs j) := (hjb.elim (fun h9 => by subst h9; exact (fun x hx => by cases hx)) (fun h9 => S.pairsTo_ok h9.2 j))
        refine region (ops_y hH3 rfl rfl (yv_move rfl) ?_)
        refine op_fn rfl rfl rfl hH3 (c60 (h0.now hH3 (n := 1) rfl) (by omega)) (fun u55 w53 lo56 hi57 hH54 hv58 => ?_)
        have hH59 := Heap.toOw hH54 (n := 0) rfl
        refine ops_y hH59 rfl rfl (yv_assign rfl) (ops_nil (thn_n (seq (seq (region (ops_y hH59 rfl rfl (yv_assign rfl) (ops_nil (thn_n (block ?_)))))))))
        refine loop (S := Nat × Value × Nat × Nat) (fun (q, v_9, lo_9, hi_9) => [(10, (.int .i64 (q : Int))), (9, v_9), (4, (.slice none 0 0)), (5, v_5)]) (fun (q, v_9, lo_9, hi_9) w1 => Heap [ow lo_9 hi_9 3 1 encI v_9 (S.apl l ((S.pairsTo (l.length : Int) bs j).take q)), ow lo_5 hi_5 70 2 encP v_5 (S.pairsTo (l.length : Int) bs j), base w] w1 ∧ q ≤ (S.pairsTo (l.length : Int) bs j).length) (fun (q, v_9, lo_9, hi_9) => (S.pairsTo (l.length : Int) bs j).length - q) (0, u55, lo56, hi57) (Sub.cons rfl (Sub.cons rfl (Sub.cons rfl (Sub.cons rfl (Sub.nil _))))) ?_ ?_
        · exact ⟨(Heap.recast (n := 0) hH59 rfl (rfl)), by omega⟩
        · rintro ⟨q, v_9, lo_9, hi_9⟩ w60 ⟨hH61, hq⟩
          show Holds _ _ _ _ _ [(10, (.int .i64 (q : Int))), (9, v_9), (4, (.slice none 0 0)), (5, v_5)] _ _
          have hal : (S.apl l ((S.pairsTo (l.length : Int) bs j).take q)).length = l.length := S.apl_length
          refine seq (seq (region (ops_y hH61 rfl rfl (yv_move rfl) (ops_y hH61 rfl rfl (yv_move rfl) ?_))))
          refine ops_y hH61 rfl rfl (yv_len T.sl29 rfl (Heap.rdw T.el29_encP hH61 (n := 1) rfl).is) ?_
          refine ops_y hH61 rfl rfl (yv_lss rfl rfl) ?_
          refine ops_nil (thn_n ?_)
          by_cases hc62 : (q : Int) < ((S.pairsTo (l.length : Int) bs j).length : Int)
          · skip
            have hpq : (0 ≤ (nth (S.pairsTo (l.length : Int) bs j) (q : Int)).1 ∧ (nth (S.pairsTo (l.length : Int) bs j) (q : Int)).1 < (l.length : Int)) ∧ (0 ≤ (nth (S.pairsTo (l.length : Int) bs j) (q : Int)).2 ∧ (nth (S.pairsTo (l.length : Int) bs j) (q : Int)).2 < (l.length : Int)) := by (have h9 := hpok _ (List.getElem_mem (show q < (S.pairsTo (l.length : Int) bs j).length by omega))); rw [nth_nat (show q < (S.pairsTo (l.length : Int) bs j).length by omega)]; exact ⟨h9.1, h9.2.1⟩
            have hsl : ((S.apl l ((S.pairsTo (l.length : Int) bs j).take q)).set ((nth (S.pairsTo (l.length : Int) bs j) (q : Int)).1).toNat (nth (S.apl l ((S.pairsTo (l.length : Int) bs j).take q)) (nth (S.pairsTo (l.length : Int) bs j) (q : Int)).2)).length = l.length := (List.length_set).trans hal
            refine cond_t rfl (decide_eq_true hc62) ?_
            refine skip (thn_n (seq (block (seq ?_))))
            refine region_draw (fun w' => Heap [ow lo_9 hi_9 3 1 encI v_9 (S.apl l ((S.pairsTo (l.length : Int) bs j).take q)), ow lo_5 hi_5 70 2 encP v_5 (S.pairsTo (l.length : Int) bs j), base w] w') T.mixed (fun w63 hr64 => ?_)
            have hH65 := hH61.redrawn hr64
            refine any_takes [0, 1, 2, 3, 4, 5, 6, 7, 8, 9, 10, 11] (by kernel_rfl) hH65 _ _ _ (by kernel_rfl) ?_
            refine qs_y rfl rfl (yv_move rfl) (qs_y rfl rfl (yv_move rfl) ?_)
            refine qs_y rfl rfl (yv_index T.sl29 rfl rfl (Heap.rdw T.el29_encP hH65 (n := 1) rfl).is (by omega)) ?_
            refine qs_y rfl rfl (yv_indexA T.arr70 rfl rfl (by omega)) ?_
            refine qs_y rfl rfl (yv_load T.one3 rfl (fun _ hw => Rd.at (Heap.rdw T.el29_encP hw (n := 1) rfl) (i := (q : Int)) (by omega) (j := 0) rfl)) ?_
            refine qs_y rfl rfl (yv_move rfl) (qs_y rfl rfl (yv_move rfl) ?_)
            refine qs_y rfl rfl (yv_index T.sl29 rfl rfl (Heap.rdw T.el29_encP hH65 (n := 1) rfl).is (by omega)) ?_
            refine qs_y rfl rfl (yv_indexA T.arr70 rfl rfl (by omega)) ?_
            refine qs_y rfl rfl (yv_load T.one3 rfl (fun _ hw => Rd.at (Heap.rdw T.el29_encP hw (n := 1) rfl) (i := (q : Int)) (by omega) (j := 1) rfl)) ?_
            refine qs_y rfl rfl (yv_assign rfl) (qs_y rfl rfl (yv_assign rfl) (qs_nil ?_))
            refine any_done (by kernel_rfl) ?_
            refine thn_n ?_
            refine region_drawY (fun w' => Heap [ow lo_9 hi_9 3 1 encI v_9 (S.apl l ((S.pairsTo (l.length : Int) bs j).take q)), ow lo_5 hi_5 70 2 encP v_5 (S.pairsTo (l.length : Int) bs j), base w] w') [13, 15] T.mixed (fun w66 hr67 => ?_)
            have hH68 := hH65.redrawn hr67
            refine any_takesT [0, 1, 2, 3, 4, 5, 6, 8, 9, 10] (by kernel_rfl)  _ _ _ (by kernel_rfl) ?_
            refine qs_y rfl rfl (yv_move rfl) (qs_y rfl rfl (yv_move rfl) (qs_y rfl rfl (yv_move rfl) (qs_y rfl rfl (yv_move rfl) (qs_y rfl rfl (yv_move rfl) (qs_y rfl rfl (yv_move rfl) ?_)))))
            refine qs_y rfl rfl (yv_index T.sl22 rfl rfl (Heap.rdw T.el22_encI hH68 (n := 0) rfl).is (by omega)) ?_
            refine qs_y rfl rfl (yv_move rfl) (qs_y rfl rfl (yv_move rfl) ?_)
            refine qs_y rfl rfl (yv_index T.sl22 rfl rfl (Heap.rdw T.el22_encI hH68 (n := 0) rfl).is (by omega)) ?_
            refine qs_nil ?_
            refine any_takesY [7, 11] (by kernel_rfl) hH68 _ _ _ (by kernel_rfl) ?_
            refine qs_y rfl rfl (yv_load T.one3 rfl (fun _ hw => Rd.at (Heap.rdw T.el22_encI hw (n := 0) rfl) (i := (nth (S.pairsTo (l.length : Int) bs j) (q : Int)).2) (by omega) (j := 0) rfl)) ?_
            refine qs_y rfl rfl (yv_load T.one3 rfl (fun _ hw => Rd.at (Heap.rdw T.el22_encI hw (n := 0) rfl) (i := (nth (S.pairsTo (l.length : Int) bs j) (q : Int)).1) (by omega) (j := 0) rfl)) ?_
            refine qs_nil ?_
            refine any_takesT [12] (by kernel_rfl)  _ _ _ (by kernel_rfl) ?_
            refine qs_y rfl rfl (yv_index T.sl22 rfl rfl (Heap.rdw T.el22_encI hH68 (n := 0) rfl).is (by omega)) ?_
            refine qs_nil ?_
            refine any_allY [13] (by kernel_rfl) rfl ?_
            refine ⟨⟨_, rfl, ?_⟩, trivial⟩
            · skip
              refine op_setE (n := 0) (i := (nth (S.pairsTo (l.length : Int) bs j) (q : Int)).1) (k := 0) (us := [(.int .i64 (nth (S.apl l ((S.pairsTo (l.length : Int) bs j).take q)) ((nth (S.pairsTo (l.length : Int) bs j) (q : Int)).2)))]) (z := nth (S.apl l ((S.pairsTo (l.length : Int) bs j).take q)) ((nth (S.pairsTo (l.length : Int) bs j) (q : Int)).2)) T.el22_encI rfl rfl hH68 rfl (by omega) T.sz3 rfl rfl rfl (Nat.le_of_ble_eq_true rfl) (fun w69 hH70 => ?_)
              refine ops_nil ?_
              refine ⟨(fun h => by cases h), ?_⟩
              refine any_takesT [14] (by kernel_rfl)  _ _ _ (by kernel_rfl) ?_
              refine qs_y rfl rfl (yv_index T.sl22 rfl rfl (Heap.rdw T.el22_encI hH70 (n := 0) rfl).is (by omega)) ?_
              refine qs_nil ?_
              refine any_allY [15] (by kernel_rfl) rfl ?_
              refine ⟨⟨_, rfl, ?_⟩, trivial⟩
              · skip
                refine op_setE (n := 0) (i := (nth (S.pairsTo (l.length : Int) bs j) (q : Int)).2) (k := 0) (us := [(.int .i64 (nth (S.apl l ((S.pairsTo (l.length : Int) bs j).take q)) ((nth (S.pairsTo (l.length : Int) bs j) (q : Int)).1)))]) (z := nth (S.apl l ((S.pairsTo (l.length : Int) bs j).take q)) ((nth (S.pairsTo (l.length : Int) bs j) (q : Int)).1)) T.el22_encI rfl rfl hH70 rfl (by omega) T.sz3 rfl rfl rfl (Nat.le_of_ble_eq_true rfl) (fun w71 hH72 => ?_)
                refine ops_nil ?_
                refine ⟨(fun h => by cases h), ?_⟩
                refine any_doneY (by kernel_rfl) ?_
                refine blk_n (thn_n (region (ops_y hH72 rfl rfl (yv_move rfl) ?_)))
                refine ops_y hH72 rfl rfl (yv_add rfl rfl (by omega)) ?_
                refine ops_y hH72 rfl rfl (yv_assign rfl) (ops_nil ?_)
                refine lp_n (q + 1, v_9, lo_9, hi_9) (Sub.cons rfl (Sub.cons rfl (Sub.cons rfl (Sub.cons rfl (Sub.nil _))))) ?_ ?_
                · exact ⟨(Heap.recast (n := 0) hH72 rfl (S.apl_take (by omega))), by omega⟩
                · first | (dsimp only; omega) | (show _ < _; omega)
          · skip
            refine cond_f rfl (decide_eq_false hc62) ?_
            refine exit (thn_x (lp_x (blk_here (thn_n (seq ?_)))))
            have hqe : q = (S.pairsTo (l.length : Int) bs j).length := by omega
            have hja : S.J (S.apl l ((S.pairsTo (l.length : Int) bs j).take q)) := by rw [hqe, List.take_length]; exact (hj.apl hpok).1
            have hex : S.exsR (S.apl l ((S.pairsTo (l.length : Int) bs j).take q)) = (S.exs (S.apl l (S.pairsTo (l.length : Int) bs j)), 0) := by rw [S.ex2 (S.check_iff.2 hja), hqe, List.take_length]
            have hxl := hja.exs_len
            have hxl2 : (S.exs (S.apl l (S.pairsTo (l.length : Int) bs j))).length ≤ 10 := by rw [hqe, List.take_length] at hxl; exact hxl
            refine region (ops_y hH61 rfl rfl (yv_move rfl) ?_)
            have hev75 : Fn Try.prog 30 [v_9].toArray _ _ := c30 (Heap.rdw T.el22_encI hH61 (n := 0) rfl) (by omega)
            simp only [hex] at hev75
            refine op_fn rfl rfl rfl hH61 (hev75) (fun u76 w73 lo77 hi78 hH74 hv79 => ?_)
            obtain ⟨p81, hu, -⟩ := hv79
            subst hu
            have hH80 := Heap.tup2 hH74 (n := 0) rfl
            refine ops_y hH80 rfl rfl (yv_move rfl) (ops_y hH80 rfl rfl (yv_extract rfl rfl) (ops_y hH80 rfl rfl (yv_extract rfl rfl) (ops_y hH80 rfl rfl (yv_assign rfl) (ops_y hH80 rfl rfl (yv_assign rfl) (ops_nil (thn_n (seq (region (ops_y hH80 rfl rfl (yv_move rfl) ?_)))))))))
            refine ops_y hH80 rfl rfl (yv_move rfl) ?_
            refine op_append (n := 2) T.el29_encP rfl rfl rfl hH80 rfl (Heap.rdw T.el29_encP hH80 (n := 0) rfl) (by first | omega | (simp only [List.length_append, List.length_cons, List.length_nil]; omega)) (fun u82 lo84 hi85 w83 hH86 => ?_)
            refine ops_y hH86 rfl rfl (yv_assign rfl) (ops_nil (thn_n (ret ?_)))
            have hH87 := (hH86.sub (List.Sublist.cons _ (List.Sublist.cons _ (List.Sublist.refl _))))
            refine fin (hH87.front (n := 1) rfl) (fun w' hf => (res1 rfl (show RV _ _ _ (.tmp 4) _ from rfl))) (fun w' hf => ?_)
            rw [← hje]; exact Heap.own hf (n := 0) rfl
    · skip
      refine guard_no rfl rfl (decide_eq_false hc4) rfl ?_
      refine guard_no rfl rfl (decide_eq_false hc4) rfl ?_
      refine guard_no rfl rfl (decide_eq_false hc4) rfl ?_
      refine ops_y hH3 rfl rfl (yv_pick_f rfl (decide_eq_false hc4) rfl) ?_
      refine ops_y hH3 rfl rfl (yv_move rfl) (guard_no rfl rfl rfl rfl (guard_no rfl rfl rfl rfl ?_))
      refine ops_y hH3 rfl rfl (yv_pick_f rfl rfl rfl) ?_
      refine ops_nil (thn_n ?_)
      refine cond_f rfl rfl ?_
      refine exit (thn_x (lp_x (blk_here (thn_n (seq ?_)))))
      have hje : j = (if 1 < l.length then min 30 (bs.length / 2) else 0) := by split <;> omega
      have hpok : S.AllX l.length (S.pairsTo (l.length : Int) bs j) := (hjb.elim (fun h9 => by subst h9; exact (fun x hx => by cases hx)) (fun h9 => S.pairsTo_ok h9.2 j))
      refine region (ops_y hH3 rfl rfl (yv_move rfl) ?_)
      refine op_fn rfl rfl rfl hH3 (c60 (h0.now hH3 (n := 1) rfl) (by omega)) (fun u90 w88 lo91 hi92 hH89 hv93 => ?_)
      have hH94 := Heap.toOw hH89 (n := 0) rfl
      refine ops_y hH94 rfl rfl (yv_assign rfl) (ops_nil (thn_n (seq (seq (region (ops_y hH94 rfl rfl (yv_assign rfl) (ops_nil (thn_n (block ?_)))))))))
      refine loop (S := Nat × Value × Nat × Nat) (fun (q, v_9, lo_9, hi_9) => [(10, (.int .i64 (q : Int))), (9, v_9), (4, (.slice none 0 0)), (5, v_5)]) (fun (q, v_9, lo_9, hi_9) w1 => Heap [ow lo_9 hi_9 3 1 encI v_9 (S.apl l ((S.pairsTo (l.length : Int) bs j).take q)), ow lo_5 hi_5 70 2 encP v_5 (S.pairsTo (l.length : Int) bs j), base w] w1 ∧ q ≤ (S.pairsTo (l.length : Int) bs j).length) (fun (q, v_9, lo_9, hi_9) => (S.pairsTo (l.length : Int) bs j).length - q) (0, u90, lo91, hi92) (Sub.cons rfl (Sub.cons rfl (Sub.cons rfl (Sub.cons rfl (Sub.nil _))))) ?_ ?_
      · exact ⟨(Heap.recast (n := 0) hH94 rfl (rfl)), by omega⟩
      · rintro ⟨q, v_9, lo_9, hi_9⟩ w95 ⟨hH96, hq⟩
        show Holds _ _ _ _ _ [(10, (.int .i64 (q : Int))), (9, v_9), (4, (.slice none 0 0)), (5, v_5)] _ _
        have hal : (S.apl l ((S.pairsTo (l.length : Int) bs j).take q)).length = l.length := S.apl_length
        refine seq (seq (region (ops_y hH96 rfl rfl (yv_move rfl) (ops_y hH96 rfl rfl (yv_move rfl) ?_))))
        refine ops_y hH96 rfl rfl (yv_len T.sl29 rfl (Heap.rdw T.el29_encP hH96 (n := 1) rfl).is) ?_
        refine ops_y hH96 rfl rfl (yv_lss rfl rfl) ?_
        refine ops_nil (thn_n ?_)
        by_cases hc97 : (q : Int) < ((S.pairsTo (l.length : Int) bs j).length : Int)
        · skip
          have hpq : (0 ≤ (nth (S.pairsTo (l.length : Int) bs j) (q : Int)).1 ∧ (nth (S.pairsTo (l.length : Int) bs j) (q : Int)).1 < (l.length : Int)) ∧ (0 ≤ (nth (S.pairsTo (l.length : Int) bs j) (q : Int)).2 ∧ (nth (S.pairsTo (l.length : Int) bs j) (q : Int)).2 < (l.length : Int)) := by (have h9 := hpok _ (List.getElem_mem (show q < (S.pairsTo (l.length : Int) bs j).length by omega))); rw [nth_nat (show q < (S.pairsTo (l.length : Int) bs j).length by omega)]; exact ⟨h9.1, h9.2.1⟩
          have hsl : ((S.apl l ((S.pairsTo (l.length : Int) bs j).take q)).set ((nth (S.pairsTo (l.length : Int) bs j) (q : Int)).1).toNat (nth (S.apl l ((S.pairsTo (l.length : Int) bs j).take q)) (nth (S.pairsTo (l.length : Int) bs j) (q : Int)).2)).length = l.length := (List.length_set).trans hal
          refine cond_t rfl (decide_eq_true hc97) ?_
          refine skip (thn_n (seq (block (seq ?_))))
          refine region_draw (fun w' => Heap [ow lo_9 hi_9 3 1 encI v_9 (S.apl l ((S.pairsTo (l.length : Int) bs j).take q)), ow lo_5 hi_5 70 2 encP v_5 (S.pairsTo (l.length : Int) bs j), base w] w') T.mixed (fun w98 hr99 => ?_)
          have hH100 := hH96.redrawn hr99
          refine any_takes [0, 1, 2, 3, 4, 5, 6, 7, 8, 9, 10, 11] (by kernel_rfl) hH100 _ _ _ (by kernel_rfl) ?_
          refine qs_y rfl rfl (yv_move rfl) (qs_y rfl rfl (yv_move rfl) ?_)
          refine qs_y rfl rfl (yv_index T.sl29 rfl rfl (Heap.rdw T.el29_encP hH100 (n := 1) rfl).is (by omega)) ?_
          refine qs_y rfl rfl (yv_indexA T.arr70 rfl rfl (by omega)) ?_
          refine qs_y rfl rfl (yv_load T.one3 rfl (fun _ hw => Rd.at (Heap.rdw T.el29_encP hw (n := 1) rfl) (i := (q : Int)) (by omega) (j := 0) rfl)) ?_
          refine qs_y rfl rfl (yv_move rfl) (qs_y rfl rfl (yv_move rfl) ?_)
          refine qs_y rfl rfl (yv_index T.sl29 rfl rfl (Heap.rdw T.el29_encP hH100 (n := 1) rfl).is (by omega)) ?_
          refine qs_y rfl rfl (yv_indexA T.arr70 rfl rfl (by omega)) ?_
          refine qs_y rfl rfl (yv_load T.one3 rfl (fun _ hw => Rd.at (Heap.rdw T.el29_encP hw (n := 1) rfl) (i := (q : Int)) (by omega) (j := 1) rfl)) ?_
          refine qs_y rfl rfl (yv_assign rfl) (qs_y rfl rfl (yv_assign rfl) (qs_nil ?_))
          refine any_done (by kernel_rfl) ?_
          refine thn_n ?_
          refine region_drawY (fun w' => Heap [ow lo_9 hi_9 3 1 encI v_9 (S.apl l ((S.pairsTo (l.length : Int) bs j).take q)), ow lo_5 hi_5 70 2 encP v_5 (S.pairsTo (l.length : Int) bs j), base w] w') [13, 15] T.mixed (fun w101 hr102 => ?_)
          have hH103 := hH100.redrawn hr102
          refine any_takesT [0, 1, 2, 3, 4, 5, 6, 8, 9, 10] (by kernel_rfl)  _ _ _ (by kernel_rfl) ?_
          refine qs_y rfl rfl (yv_move rfl) (qs_y rfl rfl (yv_move rfl) (qs_y rfl rfl (yv_move rfl) (qs_y rfl rfl (yv_move rfl) (qs_y rfl rfl (yv_move rfl) (qs_y rfl rfl (yv_move rfl) ?_)))))
          refine qs_y rfl rfl (yv_index T.sl22 rfl rfl (Heap.rdw T.el22_encI hH103 (n := 0) rfl).is (by omega)) ?_
          refine qs_y rfl rfl (yv_move rfl) (qs_y rfl rfl (yv_move rfl) ?_)
          refine qs_y rfl rfl (yv_index T.sl22 rfl rfl (Heap.rdw T.el22_encI hH103 (n := 0) rfl).is (by omega)) ?_
          refine qs_nil ?_
          refine any_takesY [7, 11] (by kernel_rfl) hH103 _ _ _ (by kernel_rfl) ?_
          refine qs_y rfl rfl (yv_load T.one3 rfl (fun _ hw => Rd.at (Heap.rdw T.el22_encI hw (n := 0) rfl) (i := (nth (S.pairsTo (l.length : Int) bs j) (q : Int)).2) (by omega) (j := 0) rfl)) ?_
          refine qs_y rfl rfl (yv_load T.one3 rfl (fun _ hw => Rd.at (Heap.rdw T.el22_encI hw (n := 0) rfl) (i := (nth (S.pairsTo (l.length : Int) bs j) (q : Int)).1) (by omega) (j := 0) rfl)) ?_
          refine qs_nil ?_
          refine any_takesT [12] (by kernel_rfl)  _ _ _ (by kernel_rfl) ?_
          refine qs_y rfl rfl (yv_index T.sl22 rfl rfl (Heap.rdw T.el22_encI hH103 (n := 0) rfl).is (by omega)) ?_
          refine qs_nil ?_
          refine any_allY [13] (by kernel_rfl) rfl ?_
          refine ⟨⟨_, rfl, ?_⟩, trivial⟩
          · skip
            refine op_setE (n := 0) (i := (nth (S.pairsTo (l.length : Int) bs j) (q : Int)).1) (k := 0) (us := [(.int .i64 (nth (S.apl l ((S.pairsTo (l.length : Int) bs j).take q)) ((nth (S.pairsTo (l.length : Int) bs j) (q : Int)).2)))]) (z := nth (S.apl l ((S.pairsTo (l.length : Int) bs j).take q)) ((nth (S.pairsTo (l.length : Int) bs j) (q : Int)).2)) T.el22_encI rfl rfl hH103 rfl (by omega) T.sz3 rfl rfl rfl (Nat.le_of_ble_eq_true rfl) (fun w104 hH105 => ?_)
            refine ops_nil ?_
            refine ⟨(fun h => by cases h), ?_⟩
            refine any_takesT [14] (by kernel_rfl)  _ _ _ (by kernel_rfl) ?_
            refine qs_y rfl rfl (yv_index T.sl22 rfl rfl (Heap.rdw T.el22_encI hH105 (n := 0) rfl).is (by omega)) ?_
            refine qs_nil ?_
            refine any_allY [15] (by kernel_rfl) rfl ?_
            refine ⟨⟨_, rfl, ?_⟩, trivial⟩
            · skip
              refine op_setE (n := 0) (i := (nth (S.pairsTo (l.length : Int) bs j) (q : Int)).2) (k := 0) (us := [(.int .i64 (nth (S.apl l ((S.pairsTo (l.length : Int) bs j).take q)) ((nth (S.pairsTo (l.length : Int) bs j) (q : Int)).1)))]) (z := nth (S.apl l ((S.pairsTo (l.length : Int) bs j).take q)) ((nth (S.pairsTo (l.length : Int) bs j) (q : Int)).1)) T.el22_encI rfl rfl hH105 rfl (by omega) T.sz3 rfl rfl rfl (Nat.le_of_ble_eq_true rfl) (fun w106 hH107 => ?_)
              refine ops_nil ?_
              refine ⟨(fun h => by cases h), ?_⟩
              refine any_doneY (by kernel_rfl) ?_
              refine blk_n (thn_n (region (ops_y hH107 rfl rfl (yv_move rfl) ?_)))
              refine ops_y hH107 rfl rfl (yv_add rfl rfl (by omega)) ?_
              refine ops_y hH107 rfl rfl (yv_assign rfl) (ops_nil ?_)
              refine lp_n (q + 1, v_9, lo_9, hi_9) (Sub.cons rfl (Sub.cons rfl (Sub.cons rfl (Sub.cons rfl (Sub.nil _))))) ?_ ?_
              · exact ⟨(Heap.recast (n := 0) hH107 rfl (S.apl_take (by omega))), by omega⟩
              · first | (dsimp only; omega) | (show _ < _; omega)
        · skip
          refine cond_f rfl (decide_eq_false hc97) ?_
          refine exit (thn_x (lp_x (blk_here (thn_n (seq ?_)))))
          have hqe : q = (S.pairsTo (l.length : Int) bs j).length := by omega
          have hja : S.J (S.apl l ((S.pairsTo (l.length : Int) bs j).take q)) := by rw [hqe, List.take_length]; exact (hj.apl hpok).1
          have hex : S.exsR (S.apl l ((S.pairsTo (l.length : Int) bs j).take q)) = (S.exs (S.apl l (S.pairsTo (l.length : Int) bs j)), 0) := by rw [S.ex2 (S.check_iff.2 hja), hqe, List.take_length]
          have hxl := hja.exs_len
          have hxl2 : (S.exs (S.apl l (S.pairsTo (l.length : Int) bs j))).length ≤ 10 := by rw [hqe, List.take_length] at hxl; exact hxl
          refine region (ops_y hH96 rfl rfl (yv_move rfl) ?_)
          have hev110 : Fn Try.prog 30 [v_9].toArray _ _ := c30 (Heap.rdw T.el22_encI hH96 (n := 0) rfl) (by omega)
          simp only [hex] at hev110
          refine op_fn rfl rfl rfl hH96 (hev110) (fun u111 w108 lo112 hi113 hH109 hv114 => ?_)
          obtain ⟨p116, hu, -⟩ := hv114
          subst hu
          have hH115 := Heap.tup2 hH109 (n := 0) rfl
          refine ops_y hH115 rfl rfl (yv_move rfl) (ops_y hH115 rfl rfl (yv_extract rfl rfl) (ops_y hH115 rfl rfl (yv_extract rfl rfl) (ops_y hH115 rfl rfl (yv_assign rfl) (ops_y hH115 rfl rfl (yv_assign rfl) (ops_nil (thn_n (seq (region (ops_y hH115 rfl rfl (yv_move rfl) ?_)))))))))
          refine ops_y hH115 rfl rfl (yv_move rfl) ?_
          refine op_append (n := 2) T.el29_encP rfl rfl rfl hH115 rfl (Heap.rdw T.el29_encP hH115 (n := 0) rfl) (by first | omega | (simp only [List.length_append, List.length_cons, List.length_nil]; omega)) (fun u117 lo119 hi120 w118 hH121 => ?_)
          refine ops_y hH121 rfl rfl (yv_assign rfl) (ops_nil (thn_n (ret ?_)))
          have hH122 := (hH121.sub (List.Sublist.cons _ (List.Sublist.cons _ (List.Sublist.refl _))))
          refine fin (hH122.front (n := 1) rfl) (fun w' hf => (res1 rfl (show RV _ _ _ (.tmp 4) _ from rfl))) (fun w' hf => ?_)
          rw [← hje]; exact Heap.own hf (n := 0) rfl

end Go.Fip
