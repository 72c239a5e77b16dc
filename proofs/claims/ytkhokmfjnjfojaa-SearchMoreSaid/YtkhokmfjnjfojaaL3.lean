/- Walks, by program (wip/tools). -/
import Derived.Test.YtkhokmfjnjfojaaMI
set_option linter.unusedVariables false
set_option linter.unusedSimpArgs false
set_option linter.unusedSectionVars false
set_option linter.unnecessarySimpa false
namespace Go.Fip
open Go.Proofs Go.RowKit

theorem c13 {v : Value} {l : List Int} {a b c : Int} {e : Bool} {w : World} (h0 : Rd encI 1 v l w) (ha : 0 ≤ a ∧ a ≤ 255) (hc : 0 ≤ c ∧ c ≤ 255) (hb : 0 ≤ b ∧ b ≤ 65535)  :
    Fn Try.prog 13 [v, (.int .u8 a), (.int .u16 b), (.int .u8 c), (.bool e)].toArray w (fun u _ => u = .bool true) := by
  refine fn_of' (args := [v, (.int .u8 a), (.int .u16 b), (.int .u8 c), (.bool e)]) Try.func13 rfl (ent Try.func13 (by kernel_rfl) rfl) rfl rfl (fun hH => ?_)
  refine seq (region (ops_y hH rfl rfl (yv_assign rfl) (ops_nil (thn_n (seq (seq ?_))))))
  by_cases hc1 : Q.ckW l = 0
  · skip
    have hc0 : Q.ckW l = 0 := ‹_›
    obtain ⟨hl12, hw⟩ := Q.ckW_w hc0
    refine region (ops_y hH rfl rfl (yv_move rfl) ?_)
    refine op_fnV rfl rfl rfl hH (c41 (h0.now hH (n := 0) rfl)) (fun w2 hH3 => ?_)
    refine ops_y hH3 rfl rfl (yv_castB (bnot_f (decide_eq_true hc1)) (yv_not rfl)) ?_
    refine ops_nil (thn_n ?_)
    refine cond_f rfl rfl ?_
    refine skip (thn_n (seq ?_))
    obtain ⟨x, hx⟩ : ∃ x : Int, x = b % 1001 := ⟨_, rfl⟩
    obtain ⟨kk, hkk⟩ : ∃ kk : Int, kk = 1 + c % 4 := ⟨_, rfl⟩
    have hx1 : 0 ≤ x ∧ x ≤ 1000 := by omega
    have hk1 : 1 ≤ kk ∧ kk ≤ 4 := by omega
    have hP9 : 0 ≤ Q.P l l.length ∧ Q.P l l.length ≤ 12000 := by have h := Q.P_bd hw (i := 0) l.length (by omega); rw [Nat.zero_add] at h; have e : Q.P l 0 = 0 := rfl; omega
    have hC9 := Q.C_small hw (by omega) (i := 0) (k := l.length) (Nat.le_refl _)
    have hCk : 0 ≤ kk * Q.C l 0 l.length ∧ kk * Q.C l 0 l.length ≤ 576000 := by rcases (show kk = 1 ∨ kk = 2 ∨ kk = 3 ∨ kk = 4 by omega) with h | h | h | h <;> rw [h] <;> omega
    refine region (ops_y hH3 rfl rfl (yv_move rfl) ?_)
    refine ops_y hH3 rfl rfl (yv_conv Try.underlying58 Try.underlying2 rfl (wrap_i64 (by omega))) ?_
    refine ops_y hH3 rfl rfl (yv_cast hx.symm (yv_rem rfl rfl (by omega) (by omega))) ?_
    refine ops_y hH3 rfl rfl (yv_move rfl) ?_
    refine ops_y hH3 rfl rfl (yv_rem rfl rfl (by omega) (by omega)) ?_
    refine ops_y hH3 rfl rfl (yv_conv Try.underlying5 Try.underlying2 rfl (wrap_i64 (by omega))) ?_
    refine ops_y hH3 rfl rfl (yv_cast hkk.symm (yv_add rfl rfl (by omega))) ?_
    refine ops_y hH3 rfl rfl (yv_assign rfl) (ops_y hH3 rfl rfl (yv_assign rfl) (ops_nil (thn_n (seq (region ?_)))))
    refine op_fnV rfl rfl rfl hH3 (c52) (fun w4 hH5 => ?_)
    refine ops_y hH5 rfl rfl (yv_move rfl) ?_
    have hH6 := ow_nil (enc := encI) 2 1 hH5
    refine op_append (n := 0) T.el30_encI rfl rfl rfl hH6 rfl (h0.now hH6 (n := 1) rfl) (by first | omega | (simp only [List.length_append, List.length_cons, List.length_nil]; omega)) (fun u7 lo9 hi10 w8 hH11 => ?_)
    refine ops_y hH11 rfl rfl (yv_assign rfl) (ops_nil (thn_n (seq ?_)))
    obtain ⟨i9, hi9⟩ : ∃ i9 : Int, i9 = a % ((([] : List Int) ++ l).length : Int) := ⟨_, rfl⟩
    have hll : (([] : List Int) ++ l).length = l.length := rfl
    have hi1 := Int.emod_nonneg a (b := ((([] : List Int) ++ l).length : Int)) (by omega)
    have hi2 := Int.emod_lt_of_pos a (b := ((([] : List Int) ++ l).length : Int)) (by omega)
    refine region (ops_y hH11 rfl rfl (yv_move rfl) ?_)
    refine ops_y hH11 rfl rfl (yv_conv Try.underlying5 Try.underlying3 rfl (wrap_i64 (by omega))) ?_
    refine ops_y hH11 rfl rfl (yv_move rfl) ?_
    refine ops_y hH11 rfl rfl (yv_len T.sl30 rfl (Heap.rdw T.el30_encI hH11 (n := 0) rfl).is) ?_
    refine ops_y hH11 rfl rfl (yv_cast hi9.symm (yv_rem rfl rfl (by omega) (by omega))) ?_
    refine ops_y hH11 rfl rfl (yv_assign rfl) (ops_nil (thn_n (seq (region (ops_y hH11 rfl rfl (yv_move rfl) (ops_y hH11 rfl rfl (yv_move rfl) (ops_y hH11 rfl rfl (yv_move rfl) (ops_y hH11 rfl rfl (yv_move rfl) ?_))))))))
    refine ops_y hH11 rfl rfl (yv_index T.sl30 rfl rfl (Heap.rdw T.el30_encI hH11 (n := 0) rfl).is (by omega)) ?_
    refine ops_y hH11 rfl rfl (yv_load T.one2 rfl (fun _ hw => Rd.at (Heap.rdw T.el30_encI hw (n := 0) rfl) (i := i9) (by omega) (j := 0) rfl)) ?_
    refine ops_y hH11 rfl rfl (yv_move rfl) ?_
    refine ops_y hH11 rfl rfl (yv_max rfl rfl) ?_
    refine ops_y hH11 rfl rfl (yv_index T.sl30 rfl rfl (Heap.rdw T.el30_encI hH11 (n := 0) rfl).is (by omega)) ?_
    refine op_setE (n := 0) (i := i9) (k := 0) (us := [(.int .i64 (max (nth (([] : List Int) ++ l) i9) x))]) (z := max (nth (([] : List Int) ++ l) i9) x) T.el30_encI rfl rfl hH11 rfl (by omega) T.sz2 rfl rfl rfl (Nat.le_of_ble_eq_true rfl) (fun w12 hH13 => ?_)
    refine ops_nil (thn_n (seq (region (ops_y hH13 rfl rfl (yv_assign rfl) (ops_nil (thn_n (seq (region (ops_y hH13 rfl rfl (yv_assign rfl) ?_)))))))))
    refine ops_nil (thn_n (seq (seq (region (ops_y hH13 rfl rfl (yv_assign rfl) (ops_nil (thn_n (block ?_))))))))
    have hH14 := ow_nil (enc := encI) 2 1 hH13
    refine loop (S := Nat × Value × Nat × Nat) (fun (q, v_15, lo_15, hi_15) => [(17, (.int .i64 (q : Int))), (16, (.int .i64 (Q.P l q))), (15, v_15), (0, v), (4, (.bool e)), (10, (.bool false)), (11, (.int .i64 x)), (12, (.int .i64 kk)), (13, u7)]) (fun (q, v_15, lo_15, hi_15) w1 => Heap [ow lo_15 hi_15 2 1 encI v_15 (Q.mulTo l kk q), ow lo9 hi10 2 1 encI u7 ((([] : List Int) ++ l).set i9.toNat (max (nth (([] : List Int) ++ l) i9) x)), base w] w1 ∧ q ≤ l.length) (fun (q, v_15, lo_15, hi_15) => l.length - q) (0, (.slice none 0 0), w12.heap.size, w12.heap.size) (Sub.cons rfl (Sub.cons rfl (Sub.cons rfl (Sub.cons rfl (Sub.cons rfl (Sub.cons rfl (Sub.cons rfl (Sub.cons rfl (Sub.cons rfl (Sub.nil _)))))))))) ?_ ?_
    · exact ⟨(Heap.recast (n := 0) hH14 rfl (rfl)), by omega⟩
    · rintro ⟨q, v_15, lo_15, hi_15⟩ w15 ⟨hH16, hq⟩
      show Holds _ _ _ _ _ [(17, (.int .i64 (q : Int))), (16, (.int .i64 (Q.P l q))), (15, v_15), (0, v), (4, (.bool e)), (10, (.bool false)), (11, (.int .i64 x)), (12, (.int .i64 kk)), (13, u7)] _ _
      have hyl := Q.mulTo_length (l := l) (c := kk) (q := q) hq
      refine seq (seq (region (ops_y hH16 rfl rfl (yv_move rfl) (ops_y hH16 rfl rfl (yv_move rfl) ?_))))
      refine ops_y hH16 rfl rfl (yv_len T.sl30 rfl (h0.now hH16 (n := 2) rfl).is) ?_
      refine ops_y hH16 rfl rfl (yv_lss rfl rfl) ?_
      refine ops_nil (thn_n ?_)
      by_cases hc17 : (q : Int) < (l.length : Int)
      · skip
        refine cond_t rfl (decide_eq_true hc17) ?_
        refine skip (thn_n (seq (block (seq ?_))))
        have hwq := Q.of_all hw (i := q) (by omega)
        have hmu : 0 ≤ kk * nth l (q : Int) ∧ kk * nth l (q : Int) ≤ 4000 := by rcases (show kk = 1 ∨ kk = 2 ∨ kk = 3 ∨ kk = 4 by omega) with h | h | h | h <;> rw [h] <;> omega
        have hPq1 := Q.P_bd hw (i := 0) q (by omega)
        rw [Nat.zero_add] at hPq1
        have hP0 : Q.P l 0 = 0 := rfl
        refine region (ops_y hH16 rfl rfl (yv_move rfl) (ops_y hH16 rfl rfl (yv_move rfl) (ops_y hH16 rfl rfl (yv_move rfl) (ops_y hH16 rfl rfl (yv_move rfl) ?_))))
        refine ops_y hH16 rfl rfl (yv_index T.sl30 rfl rfl (h0.now hH16 (n := 2) rfl).is (by omega)) ?_
        refine ops_y hH16 rfl rfl (yv_load T.one2 rfl (fun _ hw => Rd.at (h0.now hw (n := 2) rfl) (i := (q : Int)) (by omega) (j := 0) rfl)) ?_
        refine ops_y hH16 rfl rfl (yv_mul rfl rfl (by omega)) ?_
        refine op_lit (us := [(0, (.int .i64 (kk * (nth l (q : Int)))))]) T.el30_encI [kk * (nth l (q : Int))] rfl (by decide) rfl (fun a ha => by simp [ha.ev (show ev _ (.tmp 71) = some _ from rfl)]) (fun w => by kernel_rfl) hH16 (fun u18 lo20 hi21 w19 hH22 => ?_)
        refine op_append (n := 1) T.el30_encI rfl rfl rfl hH22 rfl (Heap.rdw T.el30_encI hH22 (n := 0) rfl) (by first | omega | (simp only [List.length_append, List.length_cons, List.length_nil]; omega)) (fun u23 lo25 hi26 w24 hH27 => ?_)
        refine ops_y hH27 rfl rfl (yv_assign rfl) (ops_nil (thn_n (region (ops_y hH27 rfl rfl (yv_move rfl) (ops_y hH27 rfl rfl (yv_move rfl) (ops_y hH27 rfl rfl (yv_move rfl) ?_))))))
        refine ops_y hH27 rfl rfl (yv_index T.sl30 rfl rfl (h0.now hH27 (n := 3) rfl).is (by omega)) ?_
        refine ops_y hH27 rfl rfl (yv_load T.one2 rfl (fun _ hw => Rd.at (h0.now hw (n := 3) rfl) (i := (q : Int)) (by omega) (j := 0) rfl)) ?_
        refine ops_y hH27 rfl rfl (yv_add rfl rfl (by omega)) ?_
        refine ops_y hH27 rfl rfl (yv_assign rfl) (ops_nil (blk_n (thn_n (region (ops_y hH27 rfl rfl (yv_move rfl) ?_)))))
        refine ops_y hH27 rfl rfl (yv_add rfl rfl (by omega)) ?_
        refine ops_y hH27 rfl rfl (yv_assign rfl) (ops_nil ?_)
        have hH28 := (hH27.sub (List.Sublist.cons _ (List.Sublist.refl _)))
        refine lp_n (q + 1, u23, lo25, hi26) (Sub.cons rfl (Sub.cons (congrArg (fun z : Int => some (Value.int .i64 z)) (Q.P_succ (by omega)).symm) (Sub.cons rfl (Sub.cons rfl (Sub.cons rfl (Sub.cons rfl (Sub.cons rfl (Sub.cons rfl (Sub.cons rfl (Sub.nil _)))))))))) ?_ ?_
        · exact ⟨(Heap.recast (n := 0) hH28 rfl (Q.mulTo_succ (by omega))), by omega⟩
        · first | (dsimp only; omega) | (show _ < _; omega)
      · skip
        refine cond_f rfl (decide_eq_false hc17) ?_
        refine exit (thn_x (lp_x (blk_here (thn_n (seq ?_)))))
        have hq9 : q = l.length := by omega
        have hPq : Q.P l q = Q.P l l.length := by rw [hq9]
        have hle := Q.le2 hc0
        have hma := Q.ma2 hc0
        obtain ⟨d9, hxd, hxd1, hxd2⟩ := Q.more_set (l := l) (k := i9) (w := x) hc0 (by omega) (by omega) hx1
        have hsl : ((([] : List Int) ++ l).set i9.toNat (max (nth (([] : List Int) ++ l) i9) x)).length = l.length := List.length_set
        refine region (ops_y hH16 rfl rfl (yv_move rfl) ?_)
        refine op_fnV rfl rfl rfl hH16 ((by have h := c25 (h0.now hH16 (n := 2) rfl) (by omega) (w := w15); simp only [hle] at h; exact h)) (fun w29 hH30 => ?_)
        refine ops_y hH30 rfl rfl (yv_move rfl) (ops_y hH30 rfl rfl (yv_extract rfl rfl) (ops_y hH30 rfl rfl (yv_extract rfl rfl) (ops_y hH30 rfl rfl (yv_assign rfl) (ops_y hH30 rfl rfl (yv_assign rfl) (ops_nil (thn_n (seq (region (ops_y hH30 rfl rfl (yv_move rfl) ?_)))))))))
        refine op_fnV rfl rfl rfl hH30 ((by have h := c25 (Heap.rdw T.el30_encI hH30 (n := 1) rfl) (by omega) (w := w29); simp only [hxd] at h; exact h)) (fun w31 hH32 => ?_)
        refine ops_y hH32 rfl rfl (yv_move rfl) (ops_y hH32 rfl rfl (yv_extract rfl rfl) (ops_y hH32 rfl rfl (yv_extract rfl rfl) (ops_y hH32 rfl rfl (yv_assign rfl) (ops_y hH32 rfl rfl (yv_assign rfl) (ops_nil (thn_n (seq (region (ops_y hH32 rfl rfl (yv_move rfl) ?_)))))))))
        refine op_fnV rfl rfl rfl hH32 ((by have h := c29 (h0.now hH32 (n := 2) rfl) (by omega) (w := w31); simp only [hma] at h; exact h)) (fun w33 hH34 => ?_)
        refine ops_y hH34 rfl rfl (yv_move rfl) (ops_y hH34 rfl rfl (yv_extract rfl rfl) (ops_y hH34 rfl rfl (yv_extract rfl rfl) (ops_y hH34 rfl rfl (yv_assign rfl) (ops_y hH34 rfl rfl (yv_assign rfl) (ops_nil (thn_n (seq (seq (region ?_)))))))))
        refine ops_y hH34 rfl rfl (yv_move rfl) ?_
        refine ops_y hH34 rfl rfl (yv_castB rfl (yv_neq rfl rfl)) ?_
        refine ops_y hH34 rfl rfl (yv_move rfl) (guard_yes rfl rfl rfl (ops_y hH34 rfl rfl (yv_move rfl) (guard_yes rfl rfl rfl ?_)))
        refine ops_y hH34 rfl rfl (yv_castB rfl (yv_neq rfl rfl)) ?_
        refine ops_y hH34 rfl rfl (yv_pick_f rfl rfl rfl) ?_
        refine ops_y hH34 rfl rfl (yv_move rfl) (guard_yes rfl rfl rfl (ops_y hH34 rfl rfl (yv_move rfl) (guard_yes rfl rfl rfl ?_)))
        refine ops_y hH34 rfl rfl (yv_castB rfl (yv_neq rfl rfl)) ?_
        refine ops_y hH34 rfl rfl (yv_pick_f rfl rfl rfl) ?_
        refine ops_y hH34 rfl rfl (yv_move rfl) (guard_yes rfl rfl rfl (ops_y hH34 rfl rfl (yv_move rfl) (guard_yes rfl rfl rfl ?_)))
        refine ops_y hH34 rfl rfl (yv_lss rfl rfl) ?_
        refine ops_y hH34 rfl rfl (yv_pick_f rfl rfl rfl) ?_
        refine ops_y hH34 rfl rfl (yv_move rfl) ?_
        by_cases hc35 : (Q.C l 0 l.length) < 0
        · skip
          refine guard_no rfl rfl (decide_eq_true hc35) rfl ?_
          refine guard_no rfl rfl (decide_eq_true hc35) rfl ?_
          refine ops_y hH34 rfl rfl (yv_pick_t rfl (decide_eq_true hc35) rfl) ?_
          refine ops_y hH34 rfl rfl (yv_move rfl) (guard_no rfl rfl rfl rfl (guard_no rfl rfl rfl rfl (guard_no rfl rfl rfl rfl ?_)))
          refine ops_y hH34 rfl rfl (yv_pick_t rfl rfl rfl) ?_
          refine ops_nil (thn_n ?_)
          refine cond_t rfl rfl ?_
          refine seq (region (ops_y hH34 rfl rfl (yv_assign rfl) (ops_nil (thn_n (ret (thn_r ?_))))))
          have hH36 := (hH34.sub (List.Sublist.cons _ (List.Sublist.cons _ (List.Sublist.refl _))))
          refine fin hH36 (fun w' hf => (res1 rfl (show RV _ _ _ (.tmp 10) _ from rfl))) (fun w' hf => ?_)
          first | rfl | (exfalso; omega)
        · skip
          refine guard_yes rfl rfl (decide_eq_false hc35) ?_
          refine ops_y hH34 rfl rfl (yv_move rfl) ?_
          refine guard_yes rfl rfl (decide_eq_false hc35) ?_
          refine ops_y hH34 rfl rfl (yv_gtr rfl rfl) ?_
          refine ops_y hH34 rfl rfl (yv_pick_f rfl (decide_eq_false hc35) rfl) ?_
          refine ops_y hH34 rfl rfl (yv_move rfl) ?_
          by_cases hc37 : 1099511627776 < (Q.C l 0 l.length)
          · skip
            refine guard_no rfl rfl (decide_eq_true hc37) rfl ?_
            refine guard_no rfl rfl (decide_eq_true hc37) rfl ?_
            refine guard_no rfl rfl (decide_eq_true hc37) rfl ?_
            refine ops_y hH34 rfl rfl (yv_pick_t rfl (decide_eq_true hc37) rfl) ?_
            refine ops_nil (thn_n ?_)
            refine cond_t rfl rfl ?_
            refine seq (region (ops_y hH34 rfl rfl (yv_assign rfl) (ops_nil (thn_n (ret (thn_r ?_))))))
            have hH38 := (hH34.sub (List.Sublist.cons _ (List.Sublist.cons _ (List.Sublist.refl _))))
            refine fin hH38 (fun w' hf => (res1 rfl (show RV _ _ _ (.tmp 10) _ from rfl))) (fun w' hf => ?_)
            first | rfl | (exfalso; omega)
          · skip
            refine guard_yes rfl rfl (decide_eq_false hc37) ?_
            refine ops_y hH34 rfl rfl (yv_move rfl) ?_
            refine guard_yes rfl rfl (decide_eq_false hc37) ?_
            refine ops_y hH34 rfl rfl (yv_move rfl) ?_
            refine guard_yes rfl rfl (decide_eq_false hc37) ?_
            refine ops_y hH34 rfl rfl (yv_lss rfl rfl) ?_
            refine ops_y hH34 rfl rfl (yv_pick_f rfl (decide_eq_false hc37) rfl) ?_
            refine ops_nil (thn_n ?_)
            by_cases hc39 : d9 < (Q.C l 0 l.length)
            · skip
              refine cond_t rfl (decide_eq_true hc39) ?_
              refine seq (region (ops_y hH34 rfl rfl (yv_assign rfl) (ops_nil (thn_n (ret (thn_r ?_))))))
              have hH40 := (hH34.sub (List.Sublist.cons _ (List.Sublist.cons _ (List.Sublist.refl _))))
              refine fin hH40 (fun w' hf => (res1 rfl (show RV _ _ _ (.tmp 10) _ from rfl))) (fun w' hf => ?_)
              first | rfl | (exfalso; omega)
            · skip
              refine cond_f rfl (decide_eq_false hc39) ?_
              refine skip (thn_n (seq (seq (region (ops_y hH34 rfl rfl (yv_move rfl) ?_)))))
              refine op_fnV rfl rfl rfl hH34 (c41 (Heap.rdw T.el30_encI hH34 (n := 0) rfl)) (fun w41 hH42 => ?_)
              refine ops_nil (thn_n ?_)
              by_cases hc43 : Q.ckW (Q.mulTo l kk q) = 0
              · skip
                have hy0 : Q.ckW (Q.mulTo l kk q) = 0 := ‹_›
                have hyq := Q.mul_least hq9 (by omega) hy0
                have hym := Q.mul_many hq9 (by omega) hy0
                refine cond_t rfl (decide_eq_true hc43) ?_
                refine seq (region (ops_y hH42 rfl rfl (yv_move rfl) ?_))
                refine op_fnV rfl rfl rfl hH42 ((by have h := c25 (Heap.rdw T.el30_encI hH42 (n := 0) rfl) (by omega) (w := w41); simp only [hyq] at h; exact h)) (fun w44 hH45 => ?_)
                refine ops_y hH45 rfl rfl (yv_move rfl) (ops_y hH45 rfl rfl (yv_extract rfl rfl) (ops_y hH45 rfl rfl (yv_extract rfl rfl) (ops_y hH45 rfl rfl (yv_assign rfl) (ops_y hH45 rfl rfl (yv_assign rfl) (ops_nil (thn_n (seq (region (ops_y hH45 rfl rfl (yv_move rfl) ?_)))))))))
                refine op_fnV rfl rfl rfl hH45 ((by have h := c29 (Heap.rdw T.el30_encI hH45 (n := 0) rfl) (by omega) (w := w44); simp only [hym] at h; exact h)) (fun w46 hH47 => ?_)
                refine ops_y hH47 rfl rfl (yv_move rfl) (ops_y hH47 rfl rfl (yv_extract rfl rfl) (ops_y hH47 rfl rfl (yv_extract rfl rfl) (ops_y hH47 rfl rfl (yv_assign rfl) (ops_y hH47 rfl rfl (yv_assign rfl) (ops_nil (thn_n (seq (region (ops_y hH47 rfl rfl (yv_move rfl) ?_)))))))))
                refine ops_y hH47 rfl rfl (yv_castB rfl (yv_neq rfl rfl)) ?_
                refine ops_y hH47 rfl rfl (yv_move rfl) (guard_yes rfl rfl rfl (ops_y hH47 rfl rfl (yv_move rfl) (guard_yes rfl rfl rfl ?_)))
                refine ops_y hH47 rfl rfl (yv_castB rfl (yv_neq rfl rfl)) ?_
                refine ops_y hH47 rfl rfl (yv_pick_f rfl rfl rfl) ?_
                refine ops_y hH47 rfl rfl (yv_move rfl) (guard_yes rfl rfl rfl (ops_y hH47 rfl rfl (yv_move rfl) (guard_yes rfl rfl rfl (ops_y hH47 rfl rfl (yv_move rfl) (guard_yes rfl rfl rfl (ops_y hH47 rfl rfl (yv_move rfl) (guard_yes rfl rfl rfl ?_)))))))
                refine ops_y hH47 rfl rfl (yv_mul rfl rfl (by omega)) ?_
                refine guard_yes rfl rfl rfl ?_
                refine ops_y hH47 rfl rfl (yv_neq rfl rfl) ?_
                refine ops_y hH47 rfl rfl (yv_pick_f rfl rfl rfl) ?_
                refine ops_y hH47 rfl rfl (yv_move rfl) ?_
                by_cases hc48 : (kk * Q.C l 0 l.length) = (kk * (Q.C l 0 l.length))
                · skip
                  refine guard_yes rfl rfl (not_decide_n hc48) ?_
                  refine ops_y hH47 rfl rfl (yv_move rfl) ?_
                  refine guard_yes rfl rfl (not_decide_n hc48) ?_
                  refine ops_y hH47 rfl rfl (yv_move rfl) ?_
                  refine guard_yes rfl rfl (not_decide_n hc48) ?_
                  refine ops_y hH47 rfl rfl (yv_castB (not_decide_n rfl) (yv_neq rfl rfl)) ?_
                  refine ops_y hH47 rfl rfl (yv_pick_f rfl (not_decide_n hc48) rfl) ?_
                  refine ops_nil (thn_n ?_)
                  refine cond_f rfl rfl ?_
                  refine skip (thn_n (seq (seq (region (ops_y hH47 rfl rfl (yv_move rfl) ?_)))))
                  refine ops_y hH47 rfl rfl (yv_len T.sl30 rfl (h0.now hH47 (n := 2) rfl).is) ?_
                  refine ops_y hH47 rfl rfl (yv_geq rfl rfl) ?_
                  refine ops_nil (thn_n ?_)
                  by_cases hc49 : 12 ≤ (l.length : Int)
                  · skip
                    refine cond_t rfl (decide_eq_true hc49) ?_
                    refine seq (region ?_)
                    refine op_fnV rfl rfl rfl hH47 (c16) (fun w50 hH51 => ?_)
                    refine ops_y hH51 rfl rfl (yv_assign rfl) (ops_nil (thn_n (ret (thn_r ?_))))
                    have hH52 := (hH51.sub (List.Sublist.cons _ (List.Sublist.cons _ (List.Sublist.refl _))))
                    refine fin hH52 (fun w' hf => (res1 rfl (show RV _ _ _ (.tmp 10) _ from rfl))) (fun w' hf => ?_)
                    first | rfl | (exfalso; omega)
                  · skip
                    refine cond_f rfl (decide_eq_false hc49) ?_
                    refine skip (thn_n (seq (region ?_)))
                    refine op_fnV rfl rfl rfl hH47 (c52) (fun w53 hH54 => ?_)
                    refine ops_y hH54 rfl rfl (yv_move rfl) ?_
                    have hH55 := ow_nil (enc := encI) 2 1 hH54
                    refine op_append (n := 0) T.el30_encI rfl rfl rfl hH55 rfl (h0.now hH55 (n := 3) rfl) (by first | omega | (simp only [List.length_append, List.length_cons, List.length_nil]; omega)) (fun u56 lo58 hi59 w57 hH60 => ?_)
                    refine ops_y hH60 rfl rfl (yv_move rfl) ?_
                    refine op_lit (us := [(0, (.int .i64 x))]) T.el30_encI [x] rfl (by decide) rfl (fun a ha => by simp [ha.ev (show ev _ (.tmp 155) = some _ from rfl)]) (fun w => by kernel_rfl) hH60 (fun u61 lo63 hi64 w62 hH65 => ?_)
                    refine op_append (n := 1) T.el30_encI rfl rfl rfl hH65 rfl (Heap.rdw T.el30_encI hH65 (n := 0) rfl) (by first | omega | (simp only [List.length_append, List.length_cons, List.length_nil]; omega)) (fun u66 lo68 hi69 w67 hH70 => ?_)
                    refine ops_y hH70 rfl rfl (yv_assign rfl) (ops_nil (thn_n (seq (seq (region (ops_y hH70 rfl rfl (yv_move rfl) (ops_nil (thn_n ?_))))))))
                    by_cases hc71 : e = true
                    · skip
                      have hend : e = true := ‹_›
                      obtain ⟨d8, hz, hz1, hz2⟩ := Q.more_a (l := l) (x := x) hc0 (by omega) hx1
                      refine cond_t rfl hc71 ?_
                      refine region (ops_y hH70 rfl rfl (yv_move rfl) ?_)
                      refine op_lit (us := [(0, (.int .i64 x))]) T.el30_encI [x] rfl (by decide) rfl (fun a ha => by simp [ha.ev (show ev _ (.tmp 159) = some _ from rfl)]) (fun w => by kernel_rfl) hH70 (fun u72 lo74 hi75 w73 hH76 => ?_)
                      refine op_fnV rfl rfl rfl hH76 (c52) (fun w77 hH78 => ?_)
                      refine ops_y hH78 rfl rfl (yv_move rfl) ?_
                      refine op_append (n := 0) T.el30_encI rfl rfl rfl hH78 rfl (h0.now hH78 (n := 5) rfl) (by first | omega | (simp only [List.length_append, List.length_cons, List.length_nil]; omega)) (fun u79 lo81 hi82 w80 hH83 => ?_)
                      refine ops_y hH83 rfl rfl (yv_assign rfl) (ops_nil (thn_n (seq ?_)))
                      have hll8 : ((([] : List Int) ++ l) ++ [x]).length = l.length + 1 := by simp
                      have hll7 : ([x] ++ l).length = l.length + 1 := by simp
                      refine region (ops_y hH83 rfl rfl (yv_move rfl) ?_)
                      refine op_fnV rfl rfl rfl hH83 ((by have h := c25 (Heap.rdw T.el30_encI hH83 (n := 0) rfl) (by omega) (w := w80); simp only [hz] at h; exact h)) (fun w84 hH85 => ?_)
                      refine ops_y hH85 rfl rfl (yv_move rfl) (ops_y hH85 rfl rfl (yv_extract rfl rfl) (ops_y hH85 rfl rfl (yv_extract rfl rfl) (ops_y hH85 rfl rfl (yv_assign rfl) (ops_y hH85 rfl rfl (yv_assign rfl) (ops_nil (thn_n (seq (region (ops_y hH85 rfl rfl (yv_move rfl) ?_)))))))))
                      refine ops_y hH85 rfl rfl (yv_castB rfl (yv_eql rfl rfl)) ?_
                      refine ops_y hH85 rfl rfl (yv_move rfl) (guard_yes rfl rfl rfl (ops_y hH85 rfl rfl (yv_move rfl) (guard_yes rfl rfl rfl (ops_y hH85 rfl rfl (yv_move rfl) (guard_yes rfl rfl rfl (ops_y hH85 rfl rfl (yv_move rfl) (guard_yes rfl rfl rfl ?_)))))))
                      refine ops_y hH85 rfl rfl (yv_add rfl rfl (by omega)) ?_
                      refine guard_yes rfl rfl rfl ?_
                      refine ops_y hH85 rfl rfl (yv_geq rfl rfl) ?_
                      refine ops_y hH85 rfl rfl (yv_pick_t rfl rfl rfl) ?_
                      refine ops_y hH85 rfl rfl (yv_move rfl) ?_
                      by_cases hc86 : ((Q.C l 0 l.length) + x) ≤ d8
                      · skip
                        refine guard_yes rfl rfl (decide_eq_true hc86) ?_
                        refine ops_y hH85 rfl rfl (yv_move rfl) ?_
                        refine guard_yes rfl rfl (decide_eq_true hc86) ?_
                        refine ops_y hH85 rfl rfl (yv_move rfl) ?_
                        refine guard_yes rfl rfl (decide_eq_true hc86) ?_
                        refine ops_y hH85 rfl rfl (yv_move rfl) ?_
                        refine guard_yes rfl rfl (decide_eq_true hc86) ?_
                        refine ops_y hH85 rfl rfl (yv_add rfl rfl (by omega)) ?_
                        refine guard_yes rfl rfl (decide_eq_true hc86) ?_
                        refine ops_y hH85 rfl rfl (yv_move rfl) ?_
                        refine guard_yes rfl rfl (decide_eq_true hc86) ?_
                        refine ops_y hH85 rfl rfl (yv_add rfl rfl (by omega)) ?_
                        refine guard_yes rfl rfl (decide_eq_true hc86) ?_
                        refine ops_y hH85 rfl rfl (yv_leq rfl rfl) ?_
                        refine ops_y hH85 rfl rfl (yv_pick_t rfl (decide_eq_true hc86) rfl) ?_
                        refine ops_y hH85 rfl rfl (yv_move rfl) ?_
                        by_cases hc87 : d8 ≤ (((Q.C l 0 l.length) + x) + (Q.P l q))
                        · skip
                          refine guard_yes rfl rfl (decide_eq_true hc87) ?_
                          refine op_fnV rfl rfl rfl hH85 (c16) (fun w88 hH89 => ?_)
                          refine ops_y hH89 rfl rfl (yv_pick_t rfl (decide_eq_true hc87) rfl) ?_
                          refine ops_y hH89 rfl rfl (yv_assign rfl) (ops_nil (thn_n (ret ?_)))
                          have hH90 := (hH89.sub (List.Sublist.cons _ (List.Sublist.cons _ (List.Sublist.cons _ (List.Sublist.cons _ (List.Sublist.cons _ (List.Sublist.refl _)))))))
                          refine fin hH90 (fun w' hf => (res1 rfl (show RV _ _ _ (.tmp 10) _ from rfl))) (fun w' hf => ?_)
                          first | rfl | (exfalso; omega)
                        · skip
                          refine guard_no rfl rfl (decide_eq_false hc87) rfl ?_
                          refine ops_y hH85 rfl rfl (yv_pick_f rfl (decide_eq_false hc87) rfl) ?_
                          refine ops_y hH85 rfl rfl (yv_assign rfl) (ops_nil (thn_n (ret ?_)))
                          have hH91 := (hH85.sub (List.Sublist.cons _ (List.Sublist.cons _ (List.Sublist.cons _ (List.Sublist.cons _ (List.Sublist.cons _ (List.Sublist.refl _)))))))
                          refine fin hH91 (fun w' hf => (res1 rfl (show RV _ _ _ (.tmp 10) _ from rfl))) (fun w' hf => ?_)
                          first | rfl | (exfalso; omega)
                      · skip
                        refine guard_no rfl rfl (decide_eq_false hc86) rfl ?_
                        refine guard_no rfl rfl (decide_eq_false hc86) rfl ?_
                        refine guard_no rfl rfl (decide_eq_false hc86) rfl ?_
                        refine guard_no rfl rfl (decide_eq_false hc86) rfl ?_
                        refine guard_no rfl rfl (decide_eq_false hc86) rfl ?_
                        refine guard_no rfl rfl (decide_eq_false hc86) rfl ?_
                        refine guard_no rfl rfl (decide_eq_false hc86) rfl ?_
                        refine ops_y hH85 rfl rfl (yv_pick_f rfl (decide_eq_false hc86) rfl) ?_
                        refine ops_y hH85 rfl rfl (yv_move rfl) (guard_no rfl rfl rfl rfl ?_)
                        refine ops_y hH85 rfl rfl (yv_pick_f rfl rfl rfl) ?_
                        refine ops_y hH85 rfl rfl (yv_assign rfl) (ops_nil (thn_n (ret ?_)))
                        have hH92 := (hH85.sub (List.Sublist.cons _ (List.Sublist.cons _ (List.Sublist.cons _ (List.Sublist.cons _ (List.Sublist.cons _ (List.Sublist.refl _)))))))
                        refine fin hH92 (fun w' hf => (res1 rfl (show RV _ _ _ (.tmp 10) _ from rfl))) (fun w' hf => ?_)
                        first | rfl | (exfalso; omega)
                    · skip
                      obtain ⟨d8, hz, hz1, hz2⟩ := Q.more_b (l := l) (x := x) hc0 (by omega) hx1
                      refine cond_f rfl (Bool.eq_false_iff.2 hc71) ?_
                      refine skip (thn_n (seq ?_))
                      have hll8 : ((([] : List Int) ++ l) ++ [x]).length = l.length + 1 := by simp
                      have hll7 : ([x] ++ l).length = l.length + 1 := by simp
                      refine region (ops_y hH70 rfl rfl (yv_move rfl) ?_)
                      refine op_fnV rfl rfl rfl hH70 ((by have h := c25 (Heap.rdw T.el30_encI hH70 (n := 1) rfl) (by omega) (w := w67); simp only [hz] at h; exact h)) (fun w93 hH94 => ?_)
                      refine ops_y hH94 rfl rfl (yv_move rfl) (ops_y hH94 rfl rfl (yv_extract rfl rfl) (ops_y hH94 rfl rfl (yv_extract rfl rfl) (ops_y hH94 rfl rfl (yv_assign rfl) (ops_y hH94 rfl rfl (yv_assign rfl) (ops_nil (thn_n (seq (region (ops_y hH94 rfl rfl (yv_move rfl) ?_)))))))))
                      refine ops_y hH94 rfl rfl (yv_castB rfl (yv_eql rfl rfl)) ?_
                      refine ops_y hH94 rfl rfl (yv_move rfl) (guard_yes rfl rfl rfl (ops_y hH94 rfl rfl (yv_move rfl) (guard_yes rfl rfl rfl (ops_y hH94 rfl rfl (yv_move rfl) (guard_yes rfl rfl rfl (ops_y hH94 rfl rfl (yv_move rfl) (guard_yes rfl rfl rfl ?_)))))))
                      refine ops_y hH94 rfl rfl (yv_add rfl rfl (by omega)) ?_
                      refine guard_yes rfl rfl rfl ?_
                      refine ops_y hH94 rfl rfl (yv_geq rfl rfl) ?_
                      refine ops_y hH94 rfl rfl (yv_pick_t rfl rfl rfl) ?_
                      refine ops_y hH94 rfl rfl (yv_move rfl) ?_
                      by_cases hc95 : ((Q.C l 0 l.length) + x) ≤ d8
                      · skip
                        refine guard_yes rfl rfl (decide_eq_true hc95) ?_
                        refine ops_y hH94 rfl rfl (yv_move rfl) ?_
                        refine guard_yes rfl rfl (decide_eq_true hc95) ?_
                        refine ops_y hH94 rfl rfl (yv_move rfl) ?_
                        refine guard_yes rfl rfl (decide_eq_true hc95) ?_
                        refine ops_y hH94 rfl rfl (yv_move rfl) ?_
                        refine guard_yes rfl rfl (decide_eq_true hc95) ?_
                        refine ops_y hH94 rfl rfl (yv_add rfl rfl (by omega)) ?_
                        refine guard_yes rfl rfl (decide_eq_true hc95) ?_
                        refine ops_y hH94 rfl rfl (yv_move rfl) ?_
                        refine guard_yes rfl rfl (decide_eq_true hc95) ?_
                        refine ops_y hH94 rfl rfl (yv_add rfl rfl (by omega)) ?_
                        refine guard_yes rfl rfl (decide_eq_true hc95) ?_
                        refine ops_y hH94 rfl rfl (yv_leq rfl rfl) ?_
                        refine ops_y hH94 rfl rfl (yv_pick_t rfl (decide_eq_true hc95) rfl) ?_
                        refine ops_y hH94 rfl rfl (yv_move rfl) ?_
                        by_cases hc96 : d8 ≤ (((Q.C l 0 l.length) + x) + (Q.P l q))
                        · skip
                          refine guard_yes rfl rfl (decide_eq_true hc96) ?_
                          refine op_fnV rfl rfl rfl hH94 (c16) (fun w97 hH98 => ?_)
                          refine ops_y hH98 rfl rfl (yv_pick_t rfl (decide_eq_true hc96) rfl) ?_
                          refine ops_y hH98 rfl rfl (yv_assign rfl) (ops_nil (thn_n (ret ?_)))
                          have hH99 := (hH98.sub (List.Sublist.cons _ (List.Sublist.cons _ (List.Sublist.cons _ (List.Sublist.cons _ (List.Sublist.refl _))))))
                          refine fin hH99 (fun w' hf => (res1 rfl (show RV _ _ _ (.tmp 10) _ from rfl))) (fun w' hf => ?_)
                          first | rfl | (exfalso; omega)
                        · skip
                          refine guard_no rfl rfl (decide_eq_false hc96) rfl ?_
                          refine ops_y hH94 rfl rfl (yv_pick_f rfl (decide_eq_false hc96) rfl) ?_
                          refine ops_y hH94 rfl rfl (yv_assign rfl) (ops_nil (thn_n (ret ?_)))
                          have hH100 := (hH94.sub (List.Sublist.cons _ (List.Sublist.cons _ (List.Sublist.cons _ (List.Sublist.cons _ (List.Sublist.refl _))))))
                          refine fin hH100 (fun w' hf => (res1 rfl (show RV _ _ _ (.tmp 10) _ from rfl))) (fun w' hf => ?_)
                          first | rfl | (exfalso; omega)
                      · skip
                        refine guard_no rfl rfl (decide_eq_false hc95) rfl ?_
                        refine guard_no rfl rfl (decide_eq_false hc95) rfl ?_
                        refine guard_no rfl rfl (decide_eq_false hc95) rfl ?_
                        refine guard_no rfl rfl (decide_eq_false hc95) rfl ?_
                        refine guard_no rfl rfl (decide_eq_false hc95) rfl ?_
                        refine guard_no rfl rfl (decide_eq_false hc95) rfl ?_
                        refine guard_no rfl rfl (decide_eq_false hc95) rfl ?_
                        refine ops_y hH94 rfl rfl (yv_pick_f rfl (decide_eq_false hc95) rfl) ?_
                        refine ops_y hH94 rfl rfl (yv_move rfl) (guard_no rfl rfl rfl rfl ?_)
                        refine ops_y hH94 rfl rfl (yv_pick_f rfl rfl rfl) ?_
                        refine ops_y hH94 rfl rfl (yv_assign rfl) (ops_nil (thn_n (ret ?_)))
                        have hH101 := (hH94.sub (List.Sublist.cons _ (List.Sublist.cons _ (List.Sublist.cons _ (List.Sublist.cons _ (List.Sublist.refl _))))))
                        refine fin hH101 (fun w' hf => (res1 rfl (show RV _ _ _ (.tmp 10) _ from rfl))) (fun w' hf => ?_)
                        first | rfl | (exfalso; omega)
                · skip
                  refine guard_no rfl rfl (not_decide_t hc48) rfl ?_
                  refine guard_no rfl rfl (not_decide_t hc48) rfl ?_
                  refine guard_no rfl rfl (not_decide_t hc48) rfl ?_
                  refine ops_y hH47 rfl rfl (yv_pick_t rfl (not_decide_t hc48) rfl) ?_
                  refine ops_nil (thn_n ?_)
                  refine cond_t rfl rfl ?_
                  refine seq (region (ops_y hH47 rfl rfl (yv_assign rfl) (ops_nil (thn_n (ret (thn_r ?_))))))
                  have hH102 := (hH47.sub (List.Sublist.cons _ (List.Sublist.cons _ (List.Sublist.refl _))))
                  refine fin hH102 (fun w' hf => (res1 rfl (show RV _ _ _ (.tmp 10) _ from rfl))) (fun w' hf => ?_)
                  first | rfl | (exfalso; omega)
              · skip
                refine cond_f rfl (decide_eq_false hc43) ?_
                refine skip (thn_n (seq (seq (region (ops_y hH42 rfl rfl (yv_move rfl) ?_)))))
                refine ops_y hH42 rfl rfl (yv_len T.sl30 rfl (h0.now hH42 (n := 2) rfl).is) ?_
                refine ops_y hH42 rfl rfl (yv_geq rfl rfl) ?_
                refine ops_nil (thn_n ?_)
                by_cases hc103 : 12 ≤ (l.length : Int)
                · skip
                  refine cond_t rfl (decide_eq_true hc103) ?_
                  refine seq (region ?_)
                  refine op_fnV rfl rfl rfl hH42 (c16) (fun w104 hH105 => ?_)
                  refine ops_y hH105 rfl rfl (yv_assign rfl) (ops_nil (thn_n (ret (thn_r ?_))))
                  have hH106 := (hH105.sub (List.Sublist.cons _ (List.Sublist.cons _ (List.Sublist.refl _))))
                  refine fin hH106 (fun w' hf => (res1 rfl (show RV _ _ _ (.tmp 10) _ from rfl))) (fun w' hf => ?_)
                  first | rfl | (exfalso; omega)
                · skip
                  refine cond_f rfl (decide_eq_false hc103) ?_
                  refine skip (thn_n (seq (region ?_)))
                  refine op_fnV rfl rfl rfl hH42 (c52) (fun w107 hH108 => ?_)
                  refine ops_y hH108 rfl rfl (yv_move rfl) ?_
                  have hH109 := ow_nil (enc := encI) 2 1 hH108
                  refine op_append (n := 0) T.el30_encI rfl rfl rfl hH109 rfl (h0.now hH109 (n := 3) rfl) (by first | omega | (simp only [List.length_append, List.length_cons, List.length_nil]; omega)) (fun u110 lo112 hi113 w111 hH114 => ?_)
                  refine ops_y hH114 rfl rfl (yv_move rfl) ?_
                  refine op_lit (us := [(0, (.int .i64 x))]) T.el30_encI [x] rfl (by decide) rfl (fun a ha => by simp [ha.ev (show ev _ (.tmp 155) = some _ from rfl)]) (fun w => by kernel_rfl) hH114 (fun u115 lo117 hi118 w116 hH119 => ?_)
                  refine op_append (n := 1) T.el30_encI rfl rfl rfl hH119 rfl (Heap.rdw T.el30_encI hH119 (n := 0) rfl) (by first | omega | (simp only [List.length_append, List.length_cons, List.length_nil]; omega)) (fun u120 lo122 hi123 w121 hH124 => ?_)
                  refine ops_y hH124 rfl rfl (yv_assign rfl) (ops_nil (thn_n (seq (seq (region (ops_y hH124 rfl rfl (yv_move rfl) (ops_nil (thn_n ?_))))))))
                  by_cases hc125 : e = true
                  · skip
                    have hend : e = true := ‹_›
                    obtain ⟨d8, hz, hz1, hz2⟩ := Q.more_a (l := l) (x := x) hc0 (by omega) hx1
                    refine cond_t rfl hc125 ?_
                    refine region (ops_y hH124 rfl rfl (yv_move rfl) ?_)
                    refine op_lit (us := [(0, (.int .i64 x))]) T.el30_encI [x] rfl (by decide) rfl (fun a ha => by simp [ha.ev (show ev _ (.tmp 159) = some _ from rfl)]) (fun w => by kernel_rfl) hH124 (fun u126 lo128 hi129 w127 hH130 => ?_)
                    refine op_fnV rfl rfl rfl hH130 (c52) (fun w131 hH132 => ?_)
                    refine ops_y hH132 rfl rfl (yv_move rfl) ?_
                    refine op_append (n := 0) T.el30_encI rfl rfl rfl hH132 rfl (h0.now hH132 (n := 5) rfl) (by first | omega | (simp only [List.length_append, List.length_cons, List.length_nil]; omega)) (fun u133 lo135 hi136 w134 hH137 => ?_)
                    refine ops_y hH137 rfl rfl (yv_assign rfl) (ops_nil (thn_n (seq ?_)))
                    have hll8 : ((([] : List Int) ++ l) ++ [x]).length = l.length + 1 := by simp
                    have hll7 : ([x] ++ l).length = l.length + 1 := by simp
                    refine region (ops_y hH137 rfl rfl (yv_move rfl) ?_)
                    refine op_fnV rfl rfl rfl hH137 ((by have h := c25 (Heap.rdw T.el30_encI hH137 (n := 0) rfl) (by omega) (w := w134); simp only [hz] at h; exact h)) (fun w138 hH139 => ?_)
                    refine ops_y hH139 rfl rfl (yv_move rfl) (ops_y hH139 rfl rfl (yv_extract rfl rfl) (ops_y hH139 rfl rfl (yv_extract rfl rfl) (ops_y hH139 rfl rfl (yv_assign rfl) (ops_y hH139 rfl rfl (yv_assign rfl) (ops_nil (thn_n (seq (region (ops_y hH139 rfl rfl (yv_move rfl) ?_)))))))))
                    refine ops_y hH139 rfl rfl (yv_castB rfl (yv_eql rfl rfl)) ?_
                    refine ops_y hH139 rfl rfl (yv_move rfl) (guard_yes rfl rfl rfl (ops_y hH139 rfl rfl (yv_move rfl) (guard_yes rfl rfl rfl (ops_y hH139 rfl rfl (yv_move rfl) (guard_yes rfl rfl rfl (ops_y hH139 rfl rfl (yv_move rfl) (guard_yes rfl rfl rfl ?_)))))))
                    refine ops_y hH139 rfl rfl (yv_add rfl rfl (by omega)) ?_
                    refine guard_yes rfl rfl rfl ?_
                    refine ops_y hH139 rfl rfl (yv_geq rfl rfl) ?_
                    refine ops_y hH139 rfl rfl (yv_pick_t rfl rfl rfl) ?_
                    refine ops_y hH139 rfl rfl (yv_move rfl) ?_
                    by_cases hc140 : ((Q.C l 0 l.length) + x) ≤ d8
                    · skip
                      refine guard_yes rfl rfl (decide_eq_true hc140) ?_
                      refine ops_y hH139 rfl rfl (yv_move rfl) ?_
                      refine guard_yes rfl rfl (decide_eq_true hc140) ?_
                      refine ops_y hH139 rfl rfl (yv_move rfl) ?_
                      refine guard_yes rfl rfl (decide_eq_true hc140) ?_
                      refine ops_y hH139 rfl rfl (yv_move rfl) ?_
                      refine guard_yes rfl rfl (decide_eq_true hc140) ?_
                      refine ops_y hH139 rfl rfl (yv_add rfl rfl (by omega)) ?_
                      refine guard_yes rfl rfl (decide_eq_true hc140) ?_
                      refine ops_y hH139 rfl rfl (yv_move rfl) ?_
                      refine guard_yes rfl rfl (decide_eq_true hc140) ?_
                      refine ops_y hH139 rfl rfl (yv_add rfl rfl (by omega)) ?_
                      refine guard_yes rfl rfl (decide_eq_true hc140) ?_
                      refine ops_y hH139 rfl rfl (yv_leq rfl rfl) ?_
                      refine ops_y hH139 rfl rfl (yv_pick_t rfl (decide_eq_true hc140) rfl) ?_
                      refine ops_y hH139 rfl rfl (yv_move rfl) ?_
                      by_cases hc141 : d8 ≤ (((Q.C l 0 l.length) + x) + (Q.P l q))
                      · skip
                        refine guard_yes rfl rfl (decide_eq_true hc141) ?_
                        refine op_fnV rfl rfl rfl hH139 (c16) (fun w142 hH143 => ?_)
                        refine ops_y hH143 rfl rfl (yv_pick_t rfl (decide_eq_true hc141) rfl) ?_
                        refine ops_y hH143 rfl rfl (yv_assign rfl) (ops_nil (thn_n (ret ?_)))
                        have hH144 := (hH143.sub (List.Sublist.cons _ (List.Sublist.cons _ (List.Sublist.cons _ (List.Sublist.cons _ (List.Sublist.cons _ (List.Sublist.refl _)))))))
                        refine fin hH144 (fun w' hf => (res1 rfl (show RV _ _ _ (.tmp 10) _ from rfl))) (fun w' hf => ?_)
                        first | rfl | (exfalso; omega)
                      · skip
                        refine guard_no rfl rfl (decide_eq_false hc141) rfl ?_
                        refine ops_y hH139 rfl rfl (yv_pick_f rfl (decide_eq_false hc141) rfl) ?_
                        refine ops_y hH139 rfl rfl (yv_assign rfl) (ops_nil (thn_n (ret ?_)))
                        have hH145 := (hH139.sub (List.Sublist.cons _ (List.Sublist.cons _ (List.Sublist.cons _ (List.Sublist.cons _ (List.Sublist.cons _ (List.Sublist.refl _)))))))
                        refine fin hH145 (fun w' hf => (res1 rfl (show RV _ _ _ (.tmp 10) _ from rfl))) (fun w' hf => ?_)
                        first | rfl | (exfalso; omega)
                    · skip
                      refine guard_no rfl rfl (decide_eq_false hc140) rfl ?_
                      refine guard_no rfl rfl (decide_eq_false hc140) rfl ?_
                      refine guard_no rfl rfl (decide_eq_false hc140) rfl ?_
                      refine guard_no rfl rfl (decide_eq_false hc140) rfl ?_
                      refine guard_no rfl rfl (decide_eq_false hc140) rfl ?_
                      refine guard_no rfl rfl (decide_eq_false hc140) rfl ?_
                      refine guard_no rfl rfl (decide_eq_false hc140) rfl ?_
                      refine ops_y hH139 rfl rfl (yv_pick_f rfl (decide_eq_false hc140) rfl) ?_
                      refine ops_y hH139 rfl rfl (yv_move rfl) (guard_no rfl rfl rfl rfl ?_)
                      refine ops_y hH139 rfl rfl (yv_pick_f rfl rfl rfl) ?_
                      refine ops_y hH139 rfl rfl (yv_assign rfl) (ops_nil (thn_n (ret ?_)))
                      have hH146 := (hH139.sub (List.Sublist.cons _ (List.Sublist.cons _ (List.Sublist.cons _ (List.Sublist.cons _ (List.Sublist.cons _ (List.Sublist.refl _)))))))
                      refine fin hH146 (fun w' hf => (res1 rfl (show RV _ _ _ (.tmp 10) _ from rfl))) (fun w' hf => ?_)
                      first | rfl | (exfalso; omega)
                  · skip
                    obtain ⟨d8, hz, hz1, hz2⟩ := Q.more_b (l := l) (x := x) hc0 (by omega) hx1
                    refine cond_f rfl (Bool.eq_false_iff.2 hc125) ?_
                    refine skip (thn_n (seq ?_))
                    have hll8 : ((([] : List Int) ++ l) ++ [x]).length = l.length + 1 := by simp
                    have hll7 : ([x] ++ l).length = l.length + 1 := by simp
                    refine region (ops_y hH124 rfl rfl (yv_move rfl) ?_)
                    refine op_fnV rfl rfl rfl hH124 ((by have h := c25 (Heap.rdw T.el30_encI hH124 (n := 1) rfl) (by omega) (w := w121); simp only [hz] at h; exact h)) (fun w147 hH148 => ?_)
                    refine ops_y hH148 rfl rfl (yv_move rfl) (ops_y hH148 rfl rfl (yv_extract rfl rfl) (ops_y hH148 rfl rfl (yv_extract rfl rfl) (ops_y hH148 rfl rfl (yv_assign rfl) (ops_y hH148 rfl rfl (yv_assign rfl) (ops_nil (thn_n (seq (region (ops_y hH148 rfl rfl (yv_move rfl) ?_)))))))))
                    refine ops_y hH148 rfl rfl (yv_castB rfl (yv_eql rfl rfl)) ?_
                    refine ops_y hH148 rfl rfl (yv_move rfl) (guard_yes rfl rfl rfl (ops_y hH148 rfl rfl (yv_move rfl) (guard_yes rfl rfl rfl (ops_y hH148 rfl rfl (yv_move rfl) (guard_yes rfl rfl rfl (ops_y hH148 rfl rfl (yv_move rfl) (guard_yes rfl rfl rfl ?_)))))))
                    refine ops_y hH148 rfl rfl (yv_add rfl rfl (by omega)) ?_
                    refine guard_yes rfl rfl rfl ?_
                    refine ops_y hH148 rfl rfl (yv_geq rfl rfl) ?_
                    refine ops_y hH148 rfl rfl (yv_pick_t rfl rfl rfl) ?_
                    refine ops_y hH148 rfl rfl (yv_move rfl) ?_
                    by_cases hc149 : ((Q.C l 0 l.length) + x) ≤ d8
                    · skip
                      refine guard_yes rfl rfl (decide_eq_true hc149) ?_
                      refine ops_y hH148 rfl rfl (yv_move rfl) ?_
                      refine guard_yes rfl rfl (decide_eq_true hc149) ?_
                      refine ops_y hH148 rfl rfl (yv_move rfl) ?_
                      refine guard_yes rfl rfl (decide_eq_true hc149) ?_
                      refine ops_y hH148 rfl rfl (yv_move rfl) ?_
                      refine guard_yes rfl rfl (decide_eq_true hc149) ?_
                      refine ops_y hH148 rfl rfl (yv_add rfl rfl (by omega)) ?_
                      refine guard_yes rfl rfl (decide_eq_true hc149) ?_
                      refine ops_y hH148 rfl rfl (yv_move rfl) ?_
                      refine guard_yes rfl rfl (decide_eq_true hc149) ?_
                      refine ops_y hH148 rfl rfl (yv_add rfl rfl (by omega)) ?_
                      refine guard_yes rfl rfl (decide_eq_true hc149) ?_
                      refine ops_y hH148 rfl rfl (yv_leq rfl rfl) ?_
                      refine ops_y hH148 rfl rfl (yv_pick_t rfl (decide_eq_true hc149) rfl) ?_
                      refine ops_y hH148 rfl rfl (yv_move rfl) ?_
                      by_cases hc150 : d8 ≤ (((Q.C l 0 l.length) + x) + (Q.P l q))
                      · skip
                        refine guard_yes rfl rfl (decide_eq_true hc150) ?_
                        refine op_fnV rfl rfl rfl hH148 (c16) (fun w151 hH152 => ?_)
                        refine ops_y hH152 rfl rfl (yv_pick_t rfl (decide_eq_true hc150) rfl) ?_
                        refine ops_y hH152 rfl rfl (yv_assign rfl) (ops_nil (thn_n (ret ?_)))
                        have hH153 := (hH152.sub (List.Sublist.cons _ (List.Sublist.cons _ (List.Sublist.cons _ (List.Sublist.cons _ (List.Sublist.refl _))))))
                        refine fin hH153 (fun w' hf => (res1 rfl (show RV _ _ _ (.tmp 10) _ from rfl))) (fun w' hf => ?_)
                        first | rfl | (exfalso; omega)
                      · skip
                        refine guard_no rfl rfl (decide_eq_false hc150) rfl ?_
                        refine ops_y hH148 rfl rfl (yv_pick_f rfl (decide_eq_false hc150) rfl) ?_
                        refine ops_y hH148 rfl rfl (yv_assign rfl) (ops_nil (thn_n (ret ?_)))
                        have hH154 := (hH148.sub (List.Sublist.cons _ (List.Sublist.cons _ (List.Sublist.cons _ (List.Sublist.cons _ (List.Sublist.refl _))))))
                        refine fin hH154 (fun w' hf => (res1 rfl (show RV _ _ _ (.tmp 10) _ from rfl))) (fun w' hf => ?_)
                        first | rfl | (exfalso; omega)
                    · skip
                      refine guard_no rfl rfl (decide_eq_false hc149) rfl ?_
                      refine guard_no rfl rfl (decide_eq_false hc149) rfl ?_
                      refine guard_no rfl rfl (decide_eq_false hc149) rfl ?_
                      refine guard_no rfl rfl (decide_eq_false hc149) rfl ?_
                      refine guard_no rfl rfl (decide_eq_false hc149) rfl ?_
                      refine guard_no rfl rfl (decide_eq_false hc149) rfl ?_
                      refine guard_no rfl rfl (decide_eq_false hc149) rfl ?_
                      refine ops_y hH148 rfl rfl (yv_pick_f rfl (decide_eq_false hc149) rfl) ?_
                      refine ops_y hH148 rfl rfl (yv_move rfl) (guard_no rfl rfl rfl rfl ?_)
                      refine ops_y hH148 rfl rfl (yv_pick_f rfl rfl rfl) ?_
                      refine ops_y hH148 rfl rfl (yv_assign rfl) (ops_nil (thn_n (ret ?_)))
                      have hH155 := (hH148.sub (List.Sublist.cons _ (List.Sublist.cons _ (List.Sublist.cons _ (List.Sublist.cons _ (List.Sublist.refl _))))))
                      refine fin hH155 (fun w' hf => (res1 rfl (show RV _ _ _ (.tmp 10) _ from rfl))) (fun w' hf => ?_)
                      first | rfl | (exfalso; omega)
  · skip
    have hcn : ¬ Q.ckW l = 0 := ‹_›
    refine region (ops_y hH rfl rfl (yv_move rfl) ?_)
    refine op_fnV rfl rfl rfl hH (c41 (h0.now hH (n := 0) rfl)) (fun w156 hH157 => ?_)
    refine ops_y hH157 rfl rfl (yv_castB (bnot_t (decide_eq_false hc1)) (yv_not rfl)) ?_
    refine ops_nil (thn_n ?_)
    refine cond_t rfl rfl ?_
    refine seq (region ?_)
    refine op_fnV rfl rfl rfl hH157 (c16) (fun w158 hH159 => ?_)
    refine ops_y hH159 rfl rfl (yv_assign rfl) (ops_nil (thn_n (ret (thn_r ?_))))
    refine fin hH159 (fun w' hf => (res1 rfl (show RV _ _ _ (.tmp 10) _ from rfl))) (fun w' hf => ?_)
    first | rfl | (exfalso; omega)

end Go.Fip
