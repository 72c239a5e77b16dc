/- Walks, by program (wip/tools). -/
import Derived.Test.YtkhokmfjnjfojaaMI
import Derived.Test.YtkhokmfjnjfojaaMJ
set_option linter.unusedVariables false
set_option linter.unusedSimpArgs false
set_option linter.unusedSectionVars false
set_option linter.unnecessarySimpa false
namespace Go.Fip
open Go.Proofs Go.RowKit

set_option maxHeartbeats 1000000 in
theorem c14 {vb : Value} {by_ : List Int} {w : World} (hby : Rd encB 1 vb by_ w) (hb5 : ∀ n ∈ by_, 0 ≤ n ∧ n ≤ 255) {a c : Int} (ha : 0 ≤ a ∧ a ≤ 255) (hc : 0 ≤ c ∧ c ≤ 65535)  :
    Fn Try.prog 14 [(.int .u8 a), vb, (.int .u16 c)].toArray w (fun u _ => u = .bool true) := by
  refine fn_of' (args := [(.int .u8 a), vb, (.int .u16 c)]) Try.func14 rfl (ent Try.func14 (by kernel_rfl) rfl) rfl rfl (fun hH => ?_)
  refine seq (region (ops_y hH rfl rfl (yv_assign rfl) (ops_nil (thn_n (seq (seq (region (ops_y hH rfl rfl (yv_move rfl) ?_))))))))
  refine ops_y hH rfl rfl (yv_len T.sl44 rfl ((hby.now hH (n := 0) rfl)).is) ?_
  refine ops_y hH rfl rfl (yv_gtr rfl rfl) ?_
  refine ops_nil (thn_n ?_)
  by_cases hc1 : 60 < (by_.length : Int)
  · skip
    refine cond_t rfl (decide_eq_true hc1) ?_
    refine seq (region ?_)
    refine op_fnV rfl rfl rfl hH (c16) (fun w2 hH3 => ?_)
    refine ops_y hH3 rfl rfl (yv_assign rfl) (ops_nil (thn_n (ret (thn_r ?_))))
    refine fin hH3 (fun w' hf => (res1 rfl (show RV _ _ _ (.tmp 6) _ from rfl))) (fun w' hf => ?_)
    first | rfl | (exfalso; omega)
  · skip
    refine cond_f rfl (decide_eq_false hc1) ?_
    refine skip (thn_n (seq ?_))
    obtain ⟨n, hn⟩ : ∃ n : Nat, (n : Int) = 1 + a % 12 := ⟨(1 + a % 12).toNat, by omega⟩
    have hn1 : 1 ≤ n ∧ n ≤ 12 := by omega
    have hgs := Q.gr_size n n by_ (Nat.le_refl _)
    have hgl : (Q.T.dep 0 (Q.gr n by_)).length = n := by rw [Q.T.dep_length, hgs]
    have hgc := Q.ck_of_tree (t := Q.gr n by_) (by omega) (by omega)
    have hgu : Q.Up (Q.T.dep 0 (Q.gr n by_)) := fun x hx => by have := Q.T.dep_lt (Q.gr n by_) 0 x hx; omega
    obtain ⟨hL1, hL2, hL3, hL4, hL5⟩ := Q.low_facts hn1.1 hn1.2
    have hLu : Q.Up (Q.lowF (Q.lvl n) n) := fun x hx => by have := hL5 x hx; omega
    obtain ⟨hV1, hV2⟩ := Q.low_given (t := Q.gr n by_) (by omega) (by omega)
    rw [hgs] at hV1 hV2
    have hlv := Q.lvl_le n hn1.2
    refine region (ops_y hH rfl rfl (yv_move rfl) ?_)
    refine ops_y hH rfl rfl (yv_conv Try.underlying5 Try.underlying3 rfl (wrap_i64 (by omega))) ?_
    refine ops_y hH rfl rfl (yv_rem rfl rfl (by omega) (by omega)) ?_
    refine ops_y hH rfl rfl (yv_add rfl rfl (by omega)) ?_
    refine ops_y hH rfl rfl (yv_cast (show _ = (n : Int) by omega) (yv_assign rfl)) ?_
    refine ops_nil (thn_n (seq (region (ops_y hH rfl rfl (yv_move rfl) (ops_y hH rfl rfl (yv_move rfl) ?_)))))
    refine op_fn rfl rfl rfl hH (c46 (n := n) ((hby.now hH (n := 0) rfl)) hb5 (by omega) (by omega)) (fun u6 w4 lo7 hi8 hH5 hv9 => ?_)
    have hH10 := Heap.toOw hH5 (n := 0) rfl
    refine ops_y hH10 rfl rfl (yv_assign rfl) (ops_nil (thn_n (seq (region (ops_y hH10 rfl rfl (yv_move rfl) ?_)))))
    refine op_fn rfl rfl rfl hH10 ((by have h := c33 (n := (n : Int)) (w := w4); simp only [hL1] at h; exact h)) (fun u13 w11 lo14 hi15 hH12 hv16 => ?_)
    obtain ⟨p18, hu, -⟩ := hv16
    subst hu
    have hH17 := Heap.tup2 hH12 (n := 0) rfl
    refine ops_y hH17 rfl rfl (yv_move rfl) (ops_y hH17 rfl rfl (yv_extract rfl rfl) (ops_y hH17 rfl rfl (yv_extract rfl rfl) (ops_y hH17 rfl rfl (yv_assign rfl) (ops_y hH17 rfl rfl (yv_assign rfl) (ops_nil (thn_n (seq (seq (region ?_)))))))))
    refine ops_y hH17 rfl rfl (yv_move rfl) ?_
    refine ops_y hH17 rfl rfl (yv_castB rfl (yv_neq rfl rfl)) ?_
    refine ops_y hH17 rfl rfl (yv_move rfl) (guard_yes rfl rfl rfl (ops_y hH17 rfl rfl (yv_move rfl) (guard_yes rfl rfl rfl ?_)))
    refine op_fnV rfl rfl rfl hH17 ((by have h := c20 (Heap.rdw T.el22_encI hH17 (n := 0) rfl) (by omega) hLu; simp only [hL4] at h; exact h)) (fun w19 hH20 => ?_)
    refine guard_yes rfl rfl rfl ?_
    refine ops_y hH20 rfl rfl (yv_castB rfl (yv_neq rfl rfl)) ?_
    refine ops_y hH20 rfl rfl (yv_pick_f rfl rfl rfl) ?_
    refine ops_y hH20 rfl rfl (yv_move rfl) (guard_yes rfl rfl rfl (ops_y hH20 rfl rfl (yv_move rfl) (guard_yes rfl rfl rfl ?_)))
    refine ops_y hH20 rfl rfl (yv_len T.sl22 rfl (Heap.rdw T.el22_encI hH20 (n := 0) rfl).is) ?_
    refine guard_yes rfl rfl rfl (ops_y hH20 rfl rfl (yv_move rfl) (guard_yes rfl rfl rfl ?_))
    refine ops_y hH20 rfl rfl (yv_neq rfl rfl) ?_
    refine ops_y hH20 rfl rfl (yv_pick_f rfl rfl rfl) ?_
    refine ops_nil (thn_n ?_)
    by_cases hc21 : ((Q.lowF (Q.lvl n) n).length : Int) = (n : Int)
    · skip
      refine cond_f rfl (not_decide_n hc21) ?_
      refine skip (thn_n (seq (region (ops_y hH20 rfl rfl (yv_move rfl) ?_))))
      refine op_fnV rfl rfl rfl hH20 ((by have h := c53 (Heap.rdw T.el22_encI hH20 (n := 0) rfl) (by omega); rw [hL2, hL3] at h; exact h)) (fun w22 hH23 => ?_)
      refine ops_y hH23 rfl rfl (yv_assign rfl) (ops_y hH23 rfl rfl (yv_assign rfl) (ops_nil (thn_n (seq (block ?_)))))
      refine loop (S := Nat) (fun d => [(11, (.int .i64 (d : Int))), (2, (.int .u16 c)), (6, (.bool false)), (7, (.int .i64 (n : Int))), (8, u6), (9, p18), (10, (.int .i64 0)), (12, (.int .i64 ((Q.lvl n : Int) - 1)))]) (fun d w1 => Heap [ow lo14 hi15 3 1 encI p18 (Q.lowF (Q.lvl n) n), ow lo7 hi8 3 1 encI u6 (Q.T.dep 0 (Q.gr n by_)), base w] w1 ∧ d ≤ 3 ∧ (d = 0 ∨ 2 ^ d ≤ n)) (fun d => 4 - d) (0) (Sub.cons rfl (Sub.cons rfl (Sub.cons rfl (Sub.cons rfl (Sub.cons rfl (Sub.cons rfl (Sub.cons rfl (Sub.cons rfl (Sub.nil _))))))))) ?_ ?_
      · exact ⟨hH23, by omega, .inl rfl⟩
      · rintro d w24 ⟨hH25, hd, hd2⟩
        show Holds _ _ _ _ _ [(11, (.int .i64 (d : Int))), (2, (.int .u16 c)), (6, (.bool false)), (7, (.int .i64 (n : Int))), (8, u6), (9, p18), (10, (.int .i64 0)), (12, (.int .i64 ((Q.lvl n : Int) - 1)))] _ _
        refine seq (seq ?_)
        have hd3 : d = 3 → 2 ^ (d + 1) = 16 := fun e => by subst e; rfl
        refine region (ops_y hH25 rfl rfl (yv_move rfl) ?_)
        refine ops_y hH25 rfl rfl (yv_shl2 rfl rfl (by omega) (Q.shl_two (k := d) (by omega) (by omega))) ?_
        refine ops_y hH25 rfl rfl (yv_move rfl) ?_
        refine ops_y hH25 rfl rfl (yv_leq rfl rfl) ?_
        refine ops_nil (thn_n ?_)
        by_cases hc26 : ((2 ^ (d + 1) : Nat) : Int) ≤ (n : Int)
        · skip
          refine cond_t rfl (decide_eq_true hc26) ?_
          refine skip (thn_n (block (region (ops_y hH25 rfl rfl (yv_move rfl) ?_))))
          refine ops_y hH25 rfl rfl (yv_add rfl rfl (by omega)) ?_
          refine ops_y hH25 rfl rfl (yv_assign rfl) (ops_nil (blk_n ?_))
          refine lp_n (d + 1) (Sub.cons rfl (Sub.cons rfl (Sub.cons rfl (Sub.cons rfl (Sub.cons rfl (Sub.cons rfl (Sub.cons rfl (Sub.cons rfl (Sub.nil _))))))))) ?_ ?_
          · exact ⟨hH25, by omega, .inr (by omega)⟩
          · first | (dsimp only; omega) | (show _ < _; omega)
        · skip
          refine cond_f rfl (decide_eq_false hc26) ?_
          refine exit (thn_x (lp_x (blk_here (thn_n (seq (seq ?_))))))
          have hlw := Q.lvl_ok (n := n) (d := d) (by omega) (by omega) hd (by omega) hd2
          refine region (ops_y hH25 rfl rfl (yv_move rfl) (ops_y hH25 rfl rfl (yv_move rfl) ?_))
          refine ops_y hH25 rfl rfl (yv_neq rfl rfl) ?_
          refine ops_y hH25 rfl rfl (yv_move rfl) ?_
          by_cases hc27 : ((Q.lvl n : Int) - 1) = (d : Int)
          · skip
            refine guard_yes rfl rfl (not_decide_n hc27) ?_
            refine ops_y hH25 rfl rfl (yv_move rfl) ?_
            refine guard_yes rfl rfl (not_decide_n hc27) ?_
            refine op_fnV rfl rfl rfl hH25 ((by have h := c53 (Heap.rdw T.el22_encI hH25 (n := 1) rfl) (by omega); rw [hgl] at h; exact h)) (fun w28 hH29 => ?_)
            refine guard_yes rfl rfl (not_decide_n hc27) ?_
            refine ops_y hH29 rfl rfl (yv_move rfl) ?_
            refine guard_yes rfl rfl (not_decide_n hc27) ?_
            refine ops_y hH29 rfl rfl (yv_lss rfl rfl) ?_
            refine ops_y hH29 rfl rfl (yv_pick_f rfl (not_decide_n hc27) rfl) ?_
            refine ops_y hH29 rfl rfl (yv_move rfl) ?_
            by_cases hc30 : (Q.maxTo (Q.T.dep 0 (Q.gr n by_)) n) < ((Q.lvl n : Int) - 1)
            · skip
              refine guard_no rfl rfl (decide_eq_true hc30) rfl ?_
              refine guard_no rfl rfl (decide_eq_true hc30) rfl ?_
              refine guard_no rfl rfl (decide_eq_true hc30) rfl ?_
              refine guard_no rfl rfl (decide_eq_true hc30) rfl ?_
              refine guard_no rfl rfl (decide_eq_true hc30) rfl ?_
              refine guard_none rfl rfl rfl ?_
              refine guard_none rfl rfl rfl ?_
              refine guard_none rfl rfl rfl ?_
              refine guard_no rfl rfl (decide_eq_true hc30) rfl ?_
              refine ops_y hH29 rfl rfl (yv_pick_t rfl (decide_eq_true hc30) rfl) ?_
              refine ops_nil (thn_n ?_)
              refine cond_t rfl rfl ?_
              refine seq (region (ops_y hH29 rfl rfl (yv_assign rfl) (ops_nil (thn_n (ret (thn_r ?_))))))
              have hH31 := (hH29.sub (List.Sublist.cons _ (List.Sublist.cons _ (List.Sublist.refl _))))
              refine fin hH31 (fun w' hf => (res1 rfl (show RV _ _ _ (.tmp 6) _ from rfl))) (fun w' hf => ?_)
              first | rfl | (exfalso; omega)
            · skip
              refine guard_yes rfl rfl (decide_eq_false hc30) ?_
              refine ops_y hH29 rfl rfl (yv_move rfl) ?_
              refine guard_yes rfl rfl (decide_eq_false hc30) ?_
              refine op_fnV rfl rfl rfl hH29 ((by have h := c53 (Heap.rdw T.el22_encI hH29 (n := 1) rfl) (by omega); rw [hgl] at h; exact h)) (fun w32 hH33 => ?_)
              refine guard_yes rfl rfl (decide_eq_false hc30) ?_
              refine ops_y hH33 rfl rfl (yv_move rfl) ?_
              refine guard_yes rfl rfl (decide_eq_false hc30) ?_
              refine ops_y hH33 rfl rfl (yv_eql rfl rfl) ?_
              refine guard_yes rfl rfl (decide_eq_false hc30) ?_
              refine ops_y hH33 rfl rfl (yv_move rfl) ?_
              by_cases hc34 : (Q.maxTo (Q.T.dep 0 (Q.gr n by_)) n) = ((Q.lvl n : Int) - 1)
              · skip
                refine guard_yes rfl rfl (decide_eq_true hc34) ?_
                refine ops_y hH33 rfl rfl (yv_move rfl) ?_
                refine guard_yes rfl rfl (decide_eq_true hc34) ?_
                refine ops_y hH33 rfl rfl (yv_move rfl) ?_
                refine guard_yes rfl rfl (decide_eq_true hc34) ?_
                refine op_fnV rfl rfl rfl hH33 (c51 (Heap.rdw T.el22_encI hH33 (n := 1) rfl) (Heap.rdw T.el22_encI hH33 (n := 0) rfl) (by omega) (by omega)) (fun w35 hH36 => ?_)
                refine guard_yes rfl rfl (decide_eq_false hc30) ?_
                refine ops_y hH36 rfl rfl (yv_pick_t rfl (decide_eq_true hc34) rfl) ?_
                refine ops_y hH36 rfl rfl (yv_pick_f rfl (decide_eq_false hc30) rfl) ?_
                refine ops_nil (thn_n ?_)
                by_cases hc37 : Q.cmpL (Q.T.dep 0 (Q.gr n by_)) (Q.lowF (Q.lvl n) n) < 0
                · skip
                  refine cond_t rfl (decide_eq_true hc37) ?_
                  refine seq (region (ops_y hH36 rfl rfl (yv_assign rfl) (ops_nil (thn_n (ret (thn_r ?_))))))
                  have hH38 := (hH36.sub (List.Sublist.cons _ (List.Sublist.cons _ (List.Sublist.refl _))))
                  refine fin hH38 (fun w' hf => (res1 rfl (show RV _ _ _ (.tmp 6) _ from rfl))) (fun w' hf => ?_)
                  first | rfl | (exfalso; omega)
                · skip
                  refine cond_f rfl (decide_eq_false hc37) ?_
                  refine skip (thn_n (seq (region (ops_y hH36 rfl rfl (yv_assign rfl) (ops_nil (thn_n (seq (seq (region ?_)))))))))
                  refine ops_y hH36 rfl rfl (yv_assign rfl) (ops_nil (thn_n (block ?_)))
                  have hH39 := ow_nil (enc := encI) 2 1 hH36
                  refine loop (S := Nat × Value × Nat × Nat) (fun (q, v_13, lo_13, hi_13) => [(14, (.int .i64 (q : Int))), (13, v_13), (2, (.int .u16 c)), (6, (.bool false)), (7, (.int .i64 (n : Int))), (10, (.int .i64 0)), (12, (.int .i64 ((Q.lvl n : Int) - 1)))]) (fun (q, v_13, lo_13, hi_13) w1 => Heap [ow lo_13 hi_13 2 1 encI v_13 (List.replicate q (1 + c % 1000)), ow lo14 hi15 3 1 encI p18 (Q.lowF (Q.lvl n) n), ow lo7 hi8 3 1 encI u6 (Q.T.dep 0 (Q.gr n by_)), base w] w1 ∧ q ≤ n) (fun (q, v_13, lo_13, hi_13) => n - q) (0, (.slice none 0 0), w35.heap.size, w35.heap.size) (Sub.cons rfl (Sub.cons rfl (Sub.cons rfl (Sub.cons rfl (Sub.cons rfl (Sub.cons rfl (Sub.cons rfl (Sub.nil _)))))))) ?_ ?_
                  · exact ⟨(Heap.recast (n := 0) hH39 rfl (rfl)), by omega⟩
                  · rintro ⟨q, v_13, lo_13, hi_13⟩ w40 ⟨hH41, hq⟩
                    show Holds _ _ _ _ _ [(14, (.int .i64 (q : Int))), (13, v_13), (2, (.int .u16 c)), (6, (.bool false)), (7, (.int .i64 (n : Int))), (10, (.int .i64 0)), (12, (.int .i64 ((Q.lvl n : Int) - 1)))] _ _
                    have hrl : (List.replicate q (1 + c % 1000)).length = q := List.length_replicate
                    refine seq (seq (region (ops_y hH41 rfl rfl (yv_move rfl) (ops_y hH41 rfl rfl (yv_move rfl) ?_))))
                    refine ops_y hH41 rfl rfl (yv_lss rfl rfl) ?_
                    refine ops_nil (thn_n ?_)
                    by_cases hc42 : (q : Int) < (n : Int)
                    · skip
                      refine cond_t rfl (decide_eq_true hc42) ?_
                      refine skip (thn_n (seq (block (region (ops_y hH41 rfl rfl (yv_move rfl) (ops_y hH41 rfl rfl (yv_move rfl) ?_))))))
                      refine ops_y hH41 rfl rfl (yv_conv Try.underlying58 Try.underlying2 rfl (wrap_i64 (by omega))) ?_
                      refine ops_y hH41 rfl rfl (yv_rem rfl rfl (by omega) (by omega)) ?_
                      refine ops_y hH41 rfl rfl (yv_add rfl rfl (by omega)) ?_
                      refine op_lit (us := [(0, (.int .i64 (1 + (c % 1000))))]) T.el30_encI [1 + (c % 1000)] rfl (by decide) rfl (fun a ha => by simp [ha.ev (show ev _ (.tmp 82) = some _ from rfl)]) (fun w => by kernel_rfl) hH41 (fun u43 lo45 hi46 w44 hH47 => ?_)
                      refine op_append (n := 1) T.el30_encI rfl rfl rfl hH47 rfl (Heap.rdw T.el30_encI hH47 (n := 0) rfl) (by first | omega | (simp only [List.length_append, List.length_cons, List.length_nil]; omega)) (fun u48 lo50 hi51 w49 hH52 => ?_)
                      refine ops_y hH52 rfl rfl (yv_assign rfl) (ops_nil (blk_n (thn_n (region (ops_y hH52 rfl rfl (yv_move rfl) ?_)))))
                      refine ops_y hH52 rfl rfl (yv_add rfl rfl (by omega)) ?_
                      refine ops_y hH52 rfl rfl (yv_assign rfl) (ops_nil ?_)
                      have hH53 := (hH52.sub (List.Sublist.cons _ (List.Sublist.refl _)))
                      refine lp_n (q + 1, u48, lo50, hi51) (Sub.cons rfl (Sub.cons rfl (Sub.cons rfl (Sub.cons rfl (Sub.cons rfl (Sub.cons rfl (Sub.cons rfl (Sub.nil _)))))))) ?_ ?_
                      · exact ⟨(Heap.recast (n := 0) hH53 rfl (List.replicate_succ'.symm)), by omega⟩
                      · first | (dsimp only; omega) | (show _ < _; omega)
                    · skip
                      refine cond_f rfl (decide_eq_false hc42) ?_
                      refine exit (thn_x (lp_x (blk_here (thn_n (seq ?_)))))
                      have hqn : q = n := by omega
                      obtain ⟨hB1, hB2, hB3⟩ := Q.best_rep (n := q) (c := 1 + c % 1000) (by omega) (by omega) (by omega)
                      have hlq : Q.lvl q = Q.lvl n := by rw [hqn]
                      refine region (ops_y hH41 rfl rfl (yv_move rfl) ?_)
                      refine op_fn rfl rfl rfl hH41 ((by have h := c27 (Heap.rdw T.el30_encI hH41 (n := 0) rfl) (by omega) (w := w40); simp only [hB1] at h; exact h)) (fun u56 w54 lo57 hi58 hH55 hv59 => ?_)
                      obtain ⟨p61, hu, -⟩ := hv59
                      subst hu
                      have hH60 := Heap.tup2 hH55 (n := 0) rfl
                      refine ops_y hH60 rfl rfl (yv_move rfl) (ops_y hH60 rfl rfl (yv_extract rfl rfl) (ops_y hH60 rfl rfl (yv_extract rfl rfl) (ops_y hH60 rfl rfl (yv_assign rfl) (ops_y hH60 rfl rfl (yv_assign rfl) (ops_nil (thn_n (seq (region (ops_y hH60 rfl rfl (yv_move rfl) ?_)))))))))
                      refine ops_y hH60 rfl rfl (yv_castB rfl (yv_eql rfl rfl)) ?_
                      refine ops_y hH60 rfl rfl (yv_move rfl) (guard_yes rfl rfl rfl (ops_y hH60 rfl rfl (yv_move rfl) (guard_yes rfl rfl rfl ?_)))
                      refine ops_y hH60 rfl rfl (yv_len T.sl22 rfl (Heap.rdw T.el22_encI hH60 (n := 0) rfl).is) ?_
                      refine guard_yes rfl rfl rfl (ops_y hH60 rfl rfl (yv_move rfl) (guard_yes rfl rfl rfl ?_))
                      refine ops_y hH60 rfl rfl (yv_eql rfl rfl) ?_
                      refine ops_y hH60 rfl rfl (yv_pick_t rfl rfl rfl) ?_
                      refine ops_y hH60 rfl rfl (yv_move rfl) ?_
                      by_cases hc62 : ((Q.F (List.replicate q (1 + c % 1000)) 0 q).length : Int) = (n : Int)
                      · skip
                        refine guard_yes rfl rfl (decide_eq_true hc62) ?_
                        refine ops_y hH60 rfl rfl (yv_move rfl) ?_
                        refine guard_yes rfl rfl (decide_eq_true hc62) ?_
                        refine op_fnV rfl rfl rfl hH60 ((by have h := c53 (Heap.rdw T.el22_encI hH60 (n := 0) rfl) (by omega); rw [hB2, hB3] at h; exact h)) (fun w63 hH64 => ?_)
                        refine guard_yes rfl rfl (decide_eq_true hc62) ?_
                        refine ops_y hH64 rfl rfl (yv_move rfl) ?_
                        refine guard_yes rfl rfl (decide_eq_true hc62) ?_
                        refine ops_y hH64 rfl rfl (yv_eql rfl rfl) ?_
                        refine ops_y hH64 rfl rfl (yv_pick_t rfl (decide_eq_true hc62) rfl) ?_
                        refine ops_y hH64 rfl rfl (yv_move rfl) ?_
                        by_cases hc65 : ((Q.lvl q : Int) - 1) = ((Q.lvl n : Int) - 1)
                        · skip
                          refine guard_yes rfl rfl (decide_eq_true hc65) ?_
                          refine op_fnV rfl rfl rfl hH64 (c16) (fun w66 hH67 => ?_)
                          refine ops_y hH67 rfl rfl (yv_pick_t rfl (decide_eq_true hc65) rfl) ?_
                          refine ops_y hH67 rfl rfl (yv_assign rfl) (ops_nil (thn_n (ret ?_)))
                          have hH68 := (hH67.sub (List.Sublist.cons _ (List.Sublist.cons _ (List.Sublist.cons _ (List.Sublist.cons _ (List.Sublist.refl _))))))
                          refine fin hH68 (fun w' hf => (res1 rfl (show RV _ _ _ (.tmp 6) _ from rfl))) (fun w' hf => ?_)
                          first | rfl | (exfalso; omega)
                        · skip
                          refine guard_no rfl rfl (decide_eq_false hc65) rfl ?_
                          refine ops_y hH64 rfl rfl (yv_pick_f rfl (decide_eq_false hc65) rfl) ?_
                          refine ops_y hH64 rfl rfl (yv_assign rfl) (ops_nil (thn_n (ret ?_)))
                          have hH69 := (hH64.sub (List.Sublist.cons _ (List.Sublist.cons _ (List.Sublist.cons _ (List.Sublist.cons _ (List.Sublist.refl _))))))
                          refine fin hH69 (fun w' hf => (res1 rfl (show RV _ _ _ (.tmp 6) _ from rfl))) (fun w' hf => ?_)
                          first | rfl | (exfalso; omega)
                      · skip
                        refine guard_no rfl rfl (decide_eq_false hc62) rfl ?_
                        refine guard_no rfl rfl (decide_eq_false hc62) rfl ?_
                        refine guard_no rfl rfl (decide_eq_false hc62) rfl ?_
                        refine guard_no rfl rfl (decide_eq_false hc62) rfl ?_
                        refine ops_y hH60 rfl rfl (yv_pick_f rfl (decide_eq_false hc62) rfl) ?_
                        refine ops_y hH60 rfl rfl (yv_move rfl) (guard_no rfl rfl rfl rfl ?_)
                        refine ops_y hH60 rfl rfl (yv_pick_f rfl rfl rfl) ?_
                        refine ops_y hH60 rfl rfl (yv_assign rfl) (ops_nil (thn_n (ret ?_)))
                        have hH70 := (hH60.sub (List.Sublist.cons _ (List.Sublist.cons _ (List.Sublist.cons _ (List.Sublist.cons _ (List.Sublist.refl _))))))
                        refine fin hH70 (fun w' hf => (res1 rfl (show RV _ _ _ (.tmp 6) _ from rfl))) (fun w' hf => ?_)
                        first | rfl | (exfalso; omega)
              · skip
                refine guard_no rfl rfl (decide_eq_false hc34) rfl ?_
                refine guard_no rfl rfl (decide_eq_false hc34) rfl ?_
                refine guard_no rfl rfl (decide_eq_false hc34) rfl ?_
                refine guard_yes rfl rfl (decide_eq_false hc30) ?_
                refine ops_y hH33 rfl rfl (yv_pick_f rfl (decide_eq_false hc34) rfl) ?_
                refine ops_y hH33 rfl rfl (yv_pick_f rfl (decide_eq_false hc30) rfl) ?_
                refine ops_nil (thn_n ?_)
                refine cond_f rfl rfl ?_
                refine skip (thn_n (seq (region (ops_y hH33 rfl rfl (yv_assign rfl) (ops_nil (thn_n (seq (seq (region ?_)))))))))
                refine ops_y hH33 rfl rfl (yv_assign rfl) (ops_nil (thn_n (block ?_)))
                have hH71 := ow_nil (enc := encI) 2 1 hH33
                refine loop (S := Nat × Value × Nat × Nat) (fun (q, v_13, lo_13, hi_13) => [(14, (.int .i64 (q : Int))), (13, v_13), (2, (.int .u16 c)), (6, (.bool false)), (7, (.int .i64 (n : Int))), (10, (.int .i64 0)), (12, (.int .i64 ((Q.lvl n : Int) - 1)))]) (fun (q, v_13, lo_13, hi_13) w1 => Heap [ow lo_13 hi_13 2 1 encI v_13 (List.replicate q (1 + c % 1000)), ow lo14 hi15 3 1 encI p18 (Q.lowF (Q.lvl n) n), ow lo7 hi8 3 1 encI u6 (Q.T.dep 0 (Q.gr n by_)), base w] w1 ∧ q ≤ n) (fun (q, v_13, lo_13, hi_13) => n - q) (0, (.slice none 0 0), w32.heap.size, w32.heap.size) (Sub.cons rfl (Sub.cons rfl (Sub.cons rfl (Sub.cons rfl (Sub.cons rfl (Sub.cons rfl (Sub.cons rfl (Sub.nil _)))))))) ?_ ?_
                · exact ⟨(Heap.recast (n := 0) hH71 rfl (rfl)), by omega⟩
                · rintro ⟨q, v_13, lo_13, hi_13⟩ w72 ⟨hH73, hq⟩
                  show Holds _ _ _ _ _ [(14, (.int .i64 (q : Int))), (13, v_13), (2, (.int .u16 c)), (6, (.bool false)), (7, (.int .i64 (n : Int))), (10, (.int .i64 0)), (12, (.int .i64 ((Q.lvl n : Int) - 1)))] _ _
                  have hrl : (List.replicate q (1 + c % 1000)).length = q := List.length_replicate
                  refine seq (seq (region (ops_y hH73 rfl rfl (yv_move rfl) (ops_y hH73 rfl rfl (yv_move rfl) ?_))))
                  refine ops_y hH73 rfl rfl (yv_lss rfl rfl) ?_
                  refine ops_nil (thn_n ?_)
                  by_cases hc74 : (q : Int) < (n : Int)
                  · skip
                    refine cond_t rfl (decide_eq_true hc74) ?_
                    refine skip (thn_n (seq (block (region (ops_y hH73 rfl rfl (yv_move rfl) (ops_y hH73 rfl rfl (yv_move rfl) ?_))))))
                    refine ops_y hH73 rfl rfl (yv_conv Try.underlying58 Try.underlying2 rfl (wrap_i64 (by omega))) ?_
                    refine ops_y hH73 rfl rfl (yv_rem rfl rfl (by omega) (by omega)) ?_
                    refine ops_y hH73 rfl rfl (yv_add rfl rfl (by omega)) ?_
                    refine op_lit (us := [(0, (.int .i64 (1 + (c % 1000))))]) T.el30_encI [1 + (c % 1000)] rfl (by decide) rfl (fun a ha => by simp [ha.ev (show ev _ (.tmp 82) = some _ from rfl)]) (fun w => by kernel_rfl) hH73 (fun u75 lo77 hi78 w76 hH79 => ?_)
                    refine op_append (n := 1) T.el30_encI rfl rfl rfl hH79 rfl (Heap.rdw T.el30_encI hH79 (n := 0) rfl) (by first | omega | (simp only [List.length_append, List.length_cons, List.length_nil]; omega)) (fun u80 lo82 hi83 w81 hH84 => ?_)
                    refine ops_y hH84 rfl rfl (yv_assign rfl) (ops_nil (blk_n (thn_n (region (ops_y hH84 rfl rfl (yv_move rfl) ?_)))))
                    refine ops_y hH84 rfl rfl (yv_add rfl rfl (by omega)) ?_
                    refine ops_y hH84 rfl rfl (yv_assign rfl) (ops_nil ?_)
                    have hH85 := (hH84.sub (List.Sublist.cons _ (List.Sublist.refl _)))
                    refine lp_n (q + 1, u80, lo82, hi83) (Sub.cons rfl (Sub.cons rfl (Sub.cons rfl (Sub.cons rfl (Sub.cons rfl (Sub.cons rfl (Sub.cons rfl (Sub.nil _)))))))) ?_ ?_
                    · exact ⟨(Heap.recast (n := 0) hH85 rfl (List.replicate_succ'.symm)), by omega⟩
                    · first | (dsimp only; omega) | (show _ < _; omega)
                  · skip
                    refine cond_f rfl (decide_eq_false hc74) ?_
                    refine exit (thn_x (lp_x (blk_here (thn_n (seq ?_)))))
                    have hqn : q = n := by omega
                    obtain ⟨hB1, hB2, hB3⟩ := Q.best_rep (n := q) (c := 1 + c % 1000) (by omega) (by omega) (by omega)
                    have hlq : Q.lvl q = Q.lvl n := by rw [hqn]
                    refine region (ops_y hH73 rfl rfl (yv_move rfl) ?_)
                    refine op_fn rfl rfl rfl hH73 ((by have h := c27 (Heap.rdw T.el30_encI hH73 (n := 0) rfl) (by omega) (w := w72); simp only [hB1] at h; exact h)) (fun u88 w86 lo89 hi90 hH87 hv91 => ?_)
                    obtain ⟨p93, hu, -⟩ := hv91
                    subst hu
                    have hH92 := Heap.tup2 hH87 (n := 0) rfl
                    refine ops_y hH92 rfl rfl (yv_move rfl) (ops_y hH92 rfl rfl (yv_extract rfl rfl) (ops_y hH92 rfl rfl (yv_extract rfl rfl) (ops_y hH92 rfl rfl (yv_assign rfl) (ops_y hH92 rfl rfl (yv_assign rfl) (ops_nil (thn_n (seq (region (ops_y hH92 rfl rfl (yv_move rfl) ?_)))))))))
                    refine ops_y hH92 rfl rfl (yv_castB rfl (yv_eql rfl rfl)) ?_
                    refine ops_y hH92 rfl rfl (yv_move rfl) (guard_yes rfl rfl rfl (ops_y hH92 rfl rfl (yv_move rfl) (guard_yes rfl rfl rfl ?_)))
                    refine ops_y hH92 rfl rfl (yv_len T.sl22 rfl (Heap.rdw T.el22_encI hH92 (n := 0) rfl).is) ?_
                    refine guard_yes rfl rfl rfl (ops_y hH92 rfl rfl (yv_move rfl) (guard_yes rfl rfl rfl ?_))
                    refine ops_y hH92 rfl rfl (yv_eql rfl rfl) ?_
                    refine ops_y hH92 rfl rfl (yv_pick_t rfl rfl rfl) ?_
                    refine ops_y hH92 rfl rfl (yv_move rfl) ?_
                    by_cases hc94 : ((Q.F (List.replicate q (1 + c % 1000)) 0 q).length : Int) = (n : Int)
                    · skip
                      refine guard_yes rfl rfl (decide_eq_true hc94) ?_
                      refine ops_y hH92 rfl rfl (yv_move rfl) ?_
                      refine guard_yes rfl rfl (decide_eq_true hc94) ?_
                      refine op_fnV rfl rfl rfl hH92 ((by have h := c53 (Heap.rdw T.el22_encI hH92 (n := 0) rfl) (by omega); rw [hB2, hB3] at h; exact h)) (fun w95 hH96 => ?_)
                      refine guard_yes rfl rfl (decide_eq_true hc94) ?_
                      refine ops_y hH96 rfl rfl (yv_move rfl) ?_
                      refine guard_yes rfl rfl (decide_eq_true hc94) ?_
                      refine ops_y hH96 rfl rfl (yv_eql rfl rfl) ?_
                      refine ops_y hH96 rfl rfl (yv_pick_t rfl (decide_eq_true hc94) rfl) ?_
                      refine ops_y hH96 rfl rfl (yv_move rfl) ?_
                      by_cases hc97 : ((Q.lvl q : Int) - 1) = ((Q.lvl n : Int) - 1)
                      · skip
                        refine guard_yes rfl rfl (decide_eq_true hc97) ?_
                        refine op_fnV rfl rfl rfl hH96 (c16) (fun w98 hH99 => ?_)
                        refine ops_y hH99 rfl rfl (yv_pick_t rfl (decide_eq_true hc97) rfl) ?_
                        refine ops_y hH99 rfl rfl (yv_assign rfl) (ops_nil (thn_n (ret ?_)))
                        have hH100 := (hH99.sub (List.Sublist.cons _ (List.Sublist.cons _ (List.Sublist.cons _ (List.Sublist.cons _ (List.Sublist.refl _))))))
                        refine fin hH100 (fun w' hf => (res1 rfl (show RV _ _ _ (.tmp 6) _ from rfl))) (fun w' hf => ?_)
                        first | rfl | (exfalso; omega)
                      · skip
                        refine guard_no rfl rfl (decide_eq_false hc97) rfl ?_
                        refine ops_y hH96 rfl rfl (yv_pick_f rfl (decide_eq_false hc97) rfl) ?_
                        refine ops_y hH96 rfl rfl (yv_assign rfl) (ops_nil (thn_n (ret ?_)))
                        have hH101 := (hH96.sub (List.Sublist.cons _ (List.Sublist.cons _ (List.Sublist.cons _ (List.Sublist.cons _ (List.Sublist.refl _))))))
                        refine fin hH101 (fun w' hf => (res1 rfl (show RV _ _ _ (.tmp 6) _ from rfl))) (fun w' hf => ?_)
                        first | rfl | (exfalso; omega)
                    · skip
                      refine guard_no rfl rfl (decide_eq_false hc94) rfl ?_
                      refine guard_no rfl rfl (decide_eq_false hc94) rfl ?_
                      refine guard_no rfl rfl (decide_eq_false hc94) rfl ?_
                      refine guard_no rfl rfl (decide_eq_false hc94) rfl ?_
                      refine ops_y hH92 rfl rfl (yv_pick_f rfl (decide_eq_false hc94) rfl) ?_
                      refine ops_y hH92 rfl rfl (yv_move rfl) (guard_no rfl rfl rfl rfl ?_)
                      refine ops_y hH92 rfl rfl (yv_pick_f rfl rfl rfl) ?_
                      refine ops_y hH92 rfl rfl (yv_assign rfl) (ops_nil (thn_n (ret ?_)))
                      have hH102 := (hH92.sub (List.Sublist.cons _ (List.Sublist.cons _ (List.Sublist.cons _ (List.Sublist.cons _ (List.Sublist.refl _))))))
                      refine fin hH102 (fun w' hf => (res1 rfl (show RV _ _ _ (.tmp 6) _ from rfl))) (fun w' hf => ?_)
                      first | rfl | (exfalso; omega)
          · skip
            refine guard_no rfl rfl (not_decide_t hc27) rfl ?_
            refine guard_no rfl rfl (not_decide_t hc27) rfl ?_
            refine guard_no rfl rfl (not_decide_t hc27) rfl ?_
            refine guard_no rfl rfl (not_decide_t hc27) rfl ?_
            refine ops_y hH25 rfl rfl (yv_pick_t rfl (not_decide_t hc27) rfl) ?_
            refine ops_y hH25 rfl rfl (yv_move rfl) (guard_no rfl rfl rfl rfl (guard_no rfl rfl rfl rfl (guard_no rfl rfl rfl rfl (guard_no rfl rfl rfl rfl (guard_no rfl rfl rfl rfl ?_)))))
            refine guard_none rfl rfl rfl ?_
            refine guard_none rfl rfl rfl ?_
            refine guard_none rfl rfl rfl ?_
            refine guard_no rfl rfl rfl rfl ?_
            refine ops_y hH25 rfl rfl (yv_pick_t rfl rfl rfl) ?_
            refine ops_nil (thn_n ?_)
            refine cond_t rfl rfl ?_
            refine seq (region (ops_y hH25 rfl rfl (yv_assign rfl) (ops_nil (thn_n (ret (thn_r ?_))))))
            have hH103 := (hH25.sub (List.Sublist.cons _ (List.Sublist.cons _ (List.Sublist.refl _))))
            refine fin hH103 (fun w' hf => (res1 rfl (show RV _ _ _ (.tmp 6) _ from rfl))) (fun w' hf => ?_)
            first | rfl | (exfalso; omega)
    · skip
      refine cond_t rfl (not_decide_t hc21) ?_
      refine seq (region (ops_y hH20 rfl rfl (yv_assign rfl) (ops_nil (thn_n (ret (thn_r ?_))))))
      have hH104 := (hH20.sub (List.Sublist.cons _ (List.Sublist.cons _ (List.Sublist.refl _))))
      refine fin hH104 (fun w' hf => (res1 rfl (show RV _ _ _ (.tmp 6) _ from rfl))) (fun w' hf => ?_)
      first | rfl | (exfalso; omega)

end Go.Fip
