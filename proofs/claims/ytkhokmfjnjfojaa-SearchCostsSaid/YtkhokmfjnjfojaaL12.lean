/- Walks, by program (wip/tools). -/
import Derived.Test.YtkhokmfjnjfojaaL11
import Derived.Test.YtkhokmfjnjfojaaMG
set_option linter.unusedVariables false
set_option linter.unusedSimpArgs false
set_option linter.unusedSectionVars false
set_option linter.unnecessarySimpa false
namespace Go.Fip
open Go.Proofs Go.RowKit

theorem c38 {v : Value} {l : List Int} {w : World} (h0 : Rd encI 1 v l w) (hn : l.length ≤ 1000000) (hx : Q.Up l)  :
    Fn Try.prog 38 [v].toArray w (fun u _ => u = .tuple #[.int .i64 (Q.numR l).1, .int .i64 (Q.numR l).2]) := by
  refine fn_of' (args := [v]) Try.func38 rfl (ent Try.func38 (by kernel_rfl) rfl) rfl rfl (fun hH => ?_)
  refine seq (region (ops_y hH rfl rfl (yv_assign rfl) (ops_y hH rfl rfl (yv_assign rfl) (ops_nil (thn_n (seq (seq (region (ops_y hH rfl rfl (yv_move rfl) ?_)))))))))
  refine op_fnV rfl rfl rfl hH (c20 (h0.now hH (n := 0) rfl) (by omega) (by first | assumption | decide)) (fun w1 hH2 => ?_)
  refine ops_y hH2 rfl rfl (yv_neq rfl rfl) ?_
  refine ops_nil (thn_n ?_)
  by_cases hc3 : (Q.ckT l) = 0
  · skip
    have hc0 : Q.ckT l = 0 := by omega
    obtain ⟨hl12, -⟩ := Q.ck_tree hc0
    refine cond_f rfl (not_decide_n hc3) ?_
    refine skip (thn_n (seq (seq (region (ops_y hH2 rfl rfl (yv_move rfl) ?_)))))
    refine ops_y hH2 rfl rfl (yv_len T.sl22 rfl (h0.now hH2 (n := 0) rfl).is) ?_
    refine ops_y hH2 rfl rfl (yv_gtr rfl rfl) ?_
    refine ops_nil (thn_n ?_)
    by_cases hc4 : 8 < (l.length : Int)
    · skip
      refine cond_t rfl (decide_eq_true hc4) ?_
      refine seq (region (ops_y hH2 rfl rfl (yv_assign rfl) (ops_y hH2 rfl rfl (yv_assign rfl) (ops_nil (thn_n (ret (thn_r ?_)))))))
      refine fin hH2 (fun w' hf => (res2 rfl (show RV _ _ _ (.tmp 2) _ from rfl) (show RV _ _ _ (.tmp 3) _ from rfl))) (fun w' hf => ?_)
      first | exact tup2 (Q.nu1 hcn) | exact tup2 (Q.nu2 hc0 (by omega)) | (have hp := Q.pos_done hall hlt (by assumption); exact tup2 (by rw [Q.nu3 hc0 (by omega), hp]))
    · skip
      refine cond_f rfl (decide_eq_false hc4) ?_
      refine skip (thn_n (seq ?_))
      have hc8 := Q.cnt8 l.length (by omega)
      have htl := Q.treesL_len (n := l.length) (by omega)
      refine region (ops_y hH2 rfl rfl (yv_move rfl) ?_)
      refine ops_y hH2 rfl rfl (yv_len T.sl22 rfl (h0.now hH2 (n := 0) rfl).is) ?_
      have hb5 : Below w.heap.size w w1 := hH2.get (n := 0) rfl
      have rv6 := h0.below hb5
      have hH7 := Heap.start w1
      refine op_fn rfl rfl rfl hH7 (c76 (N := l.length) (by omega)) (fun u10 w8 lo11 hi12 hH9 hv13 => ?_)
      have hb14 : Below w1.heap.size w1 w8 := hH9.get (n := 1) rfl
      obtain ⟨VV, hVV⟩ := hv13 hb14
      have hVVl := hVV.2.1
      have hb15 : Below w1.heap.size w1 w8 := hH9.get (n := 1) rfl
      have rv16 := rv6.below hb15
      have hb17 := below_trans hb5 hb15
      have hH18 := Heap.start w8
      refine ops_y hH18 rfl rfl (yv_assign rfl) (ops_nil (thn_n (seq (region (ops_y hH18 rfl rfl (yv_assign rfl) (ops_nil (thn_n (seq (block ?_)))))))))
      refine loop (S := Nat) (fun m => [(5, (.int .i64 (m : Int))), (0, v), (2, (.int .i64 0)), (3, (.int .i64 0)), (4, u10)]) (fun m w1 => Heap [base w8] w1 ∧ m ≤ (Q.treesL l.length).length ∧ ∀ p : Nat, p < m → Q.cmpL (nth (Q.treesL l.length) (p : Int)) l < 0) (fun m => (Q.treesL l.length).length - m) (0) (Sub.cons rfl (Sub.cons rfl (Sub.cons rfl (Sub.cons rfl (Sub.cons rfl (Sub.nil _)))))) ?_ ?_
      · exact ⟨hH18, by omega, (fun p hp => absurd hp (Nat.not_lt_zero _))⟩
      · rintro m w19 ⟨hH20, hm, hall⟩
        show Holds _ _ _ _ _ [(5, (.int .i64 (m : Int))), (0, v), (2, (.int .i64 0)), (3, (.int .i64 0)), (4, u10)] _ _
        have hlt := Q.pos_in (n := l.length) (t := l) rfl hc0 hall hm
        have htr := Q.tree_row hlt
        refine seq (seq (region (ops_y hH20 rfl rfl (yv_move rfl) (ops_y hH20 rfl rfl (yv_move rfl) ?_))))
        refine ops_y hH20 rfl rfl (yv_index T.sl100 rfl rfl ((hVV.now hH20 (n := 0) rfl).1).is (by omega)) ?_
        refine ops_y hH20 rfl rfl (yv_load T.one22 rfl (fun _ hw => Rd.at ((hVV.now hw (n := 0) rfl).1) (i := (m : Int)) (by omega) (j := 0) rfl)) ?_
        refine ops_y hH20 rfl rfl (yv_move rfl) ?_
        refine op_fnV rfl rfl rfl hH20 (c51 (RowsV.at (hVV.now hH20 (n := 0) rfl) (by omega) (by omega)) (rv16.now hH20 (n := 0) rfl) (by omega) (by omega)) (fun w21 hH22 => ?_)
        refine ops_nil (thn_n ?_)
        by_cases hc23 : Q.cmpL (nth (Q.treesL l.length) (m : Int)) l < 0
        · skip
          refine cond_t rfl (decide_eq_true hc23) ?_
          refine skip (thn_n (block (region (ops_y hH22 rfl rfl (yv_move rfl) ?_))))
          refine ops_y hH22 rfl rfl (yv_add rfl rfl (by omega)) ?_
          refine ops_y hH22 rfl rfl (yv_assign rfl) (ops_nil (blk_n ?_))
          refine lp_n (m + 1) (Sub.cons rfl (Sub.cons rfl (Sub.cons rfl (Sub.cons rfl (Sub.cons rfl (Sub.nil _)))))) ?_ ?_
          · exact ⟨hH22, by omega, (fun p hp => by rcases Nat.lt_or_ge p m with h | h; exact hall p h; rw [show p = m by omega]; assumption)⟩
          · first | (dsimp only; omega) | (show _ < _; omega)
        · skip
          refine cond_f rfl (decide_eq_false hc23) ?_
          refine exit (thn_x (lp_x (blk_here (thn_n (seq (region (ops_y hH22 rfl rfl (yv_move rfl) (ops_y hH22 rfl rfl (yv_assign rfl) (ops_y hH22 rfl rfl (yv_assign rfl) ?_)))))))))
          refine ops_nil (thn_n (ret ?_))
          refine fin (Heap.unbase hH22 hb17) (fun w' hf => (res2 rfl (show RV _ _ _ (.tmp 2) _ from rfl) (show RV _ _ _ (.tmp 3) _ from rfl))) (fun w' hf => ?_)
          first | exact tup2 (Q.nu1 hcn) | exact tup2 (Q.nu2 hc0 (by omega)) | (have hp := Q.pos_done hall hlt (by assumption); exact tup2 (by rw [Q.nu3 hc0 (by omega), hp]))
  · skip
    have hcn : ¬ Q.ckT l = 0 := by omega
    refine cond_t rfl (not_decide_t hc3) ?_
    refine seq (region (ops_y hH2 rfl rfl (yv_move rfl) ?_))
    refine op_fnV rfl rfl rfl hH2 (c20 (h0.now hH2 (n := 0) rfl) (by omega) (by first | assumption | decide)) (fun w24 hH25 => ?_)
    refine ops_y hH25 rfl rfl (yv_assign rfl) (ops_y hH25 rfl rfl (yv_assign rfl) (ops_nil (thn_n (ret (thn_r ?_)))))
    refine fin hH25 (fun w' hf => (res2 rfl (show RV _ _ _ (.tmp 2) _ from rfl) (show RV _ _ _ (.tmp 3) _ from rfl))) (fun w' hf => ?_)
    first | exact tup2 (Q.nu1 hcn) | exact tup2 (Q.nu2 hc0 (by omega)) | (have hp := Q.pos_done hall hlt (by assumption); exact tup2 (by rw [Q.nu3 hc0 (by omega), hp]))

theorem c40 {n k : Int} {w : World}  :
    Fn Try.prog 40 [(.int .i64 n), (.int .i64 k)].toArray w ((fun u w2 => Below w.heap.size w w2 → ∃ q, u = .tuple #[q, .int .i64 (Q.atR n k).2] ∧ Rd encI 1 q (Q.atR n k).1 w2)) := by
  refine fn_of' (args := [(.int .i64 n), (.int .i64 k)]) Try.func40 rfl (ent Try.func40 (by kernel_rfl) rfl) rfl rfl (fun hH => ?_)
  refine seq (region (ops_y hH rfl rfl (yv_assign rfl) (ops_y hH rfl rfl (yv_assign rfl) (ops_nil (thn_n (seq (seq (region (ops_y hH rfl rfl (yv_move rfl) ?_)))))))))
  refine ops_y hH rfl rfl (yv_lss rfl rfl) ?_
  refine ops_y hH rfl rfl (yv_move rfl) ?_
  by_cases hc1 : n < 1
  · skip
    refine guard_no rfl rfl (decide_eq_true hc1) rfl ?_
    refine guard_no rfl rfl (decide_eq_true hc1) rfl ?_
    refine ops_y hH rfl rfl (yv_pick_t rfl (decide_eq_true hc1) rfl) ?_
    refine ops_nil (thn_n ?_)
    refine cond_t rfl rfl ?_
    refine seq (region (ops_y hH rfl rfl (yv_assign rfl) (ops_y hH rfl rfl (yv_assign rfl) (ops_nil (thn_n (ret (thn_r ?_)))))))
    refine finA (Below.refl _ _) hH (fun w' hf => (res2 rfl (show RV _ _ _ (.tmp 4) _ from rfl) (show RV _ _ _ (.tmp 5) _ from rfl))) (fun w' hf => ?_)
    first | (rw [Q.at1 (by omega)]; exact ⟨_, rfl, Rd.nil⟩) | (rw [Q.at2 (by omega) (by omega)]; exact ⟨_, rfl, Rd.nil⟩) | (rw [Q.at3 (by omega) (by omega)]; exact ⟨_, rfl, (h0.now hf (n := 0) rfl).at (by omega) (by omega)⟩)
  · skip
    refine guard_yes rfl rfl (decide_eq_false hc1) ?_
    refine ops_y hH rfl rfl (yv_move rfl) ?_
    refine guard_yes rfl rfl (decide_eq_false hc1) ?_
    refine ops_y hH rfl rfl (yv_gtr rfl rfl) ?_
    refine ops_y hH rfl rfl (yv_pick_f rfl (decide_eq_false hc1) rfl) ?_
    refine ops_nil (thn_n ?_)
    by_cases hc2 : 8 < n
    · skip
      refine cond_t rfl (decide_eq_true hc2) ?_
      refine seq (region (ops_y hH rfl rfl (yv_assign rfl) (ops_y hH rfl rfl (yv_assign rfl) (ops_nil (thn_n (ret (thn_r ?_)))))))
      refine finA (Below.refl _ _) hH (fun w' hf => (res2 rfl (show RV _ _ _ (.tmp 4) _ from rfl) (show RV _ _ _ (.tmp 5) _ from rfl))) (fun w' hf => ?_)
      first | (rw [Q.at1 (by omega)]; exact ⟨_, rfl, Rd.nil⟩) | (rw [Q.at2 (by omega) (by omega)]; exact ⟨_, rfl, Rd.nil⟩) | (rw [Q.at3 (by omega) (by omega)]; exact ⟨_, rfl, (h0.now hf (n := 0) rfl).at (by omega) (by omega)⟩)
    · skip
      refine cond_f rfl (decide_eq_false hc2) ?_
      refine skip (thn_n (seq (seq ?_)))
      have hc8 := Q.cnt8 n.toNat (by omega)
      refine region (ops_y hH rfl rfl (yv_move rfl) ?_)
      refine ops_y hH rfl rfl (yv_lss rfl rfl) ?_
      refine ops_y hH rfl rfl (yv_move rfl) ?_
      by_cases hc3 : k < 0
      · skip
        refine guard_no rfl rfl (decide_eq_true hc3) rfl ?_
        refine guard_no rfl rfl (decide_eq_true hc3) rfl ?_
        refine guard_no rfl rfl (decide_eq_true hc3) rfl ?_
        refine guard_no rfl rfl (decide_eq_true hc3) rfl ?_
        refine ops_y hH rfl rfl (yv_pick_t rfl (decide_eq_true hc3) rfl) ?_
        refine ops_nil (thn_n ?_)
        refine cond_t rfl rfl ?_
        refine seq (region (ops_y hH rfl rfl (yv_assign rfl) (ops_y hH rfl rfl (yv_assign rfl) (ops_nil (thn_n (ret (thn_r ?_)))))))
        refine finA (Below.refl _ _) hH (fun w' hf => (res2 rfl (show RV _ _ _ (.tmp 4) _ from rfl) (show RV _ _ _ (.tmp 5) _ from rfl))) (fun w' hf => ?_)
        first | (rw [Q.at1 (by omega)]; exact ⟨_, rfl, Rd.nil⟩) | (rw [Q.at2 (by omega) (by omega)]; exact ⟨_, rfl, Rd.nil⟩) | (rw [Q.at3 (by omega) (by omega)]; exact ⟨_, rfl, (h0.now hf (n := 0) rfl).at (by omega) (by omega)⟩)
      · skip
        refine guard_yes rfl rfl (decide_eq_false hc3) ?_
        refine ops_y hH rfl rfl (yv_move rfl) ?_
        refine guard_yes rfl rfl (decide_eq_false hc3) ?_
        refine ops_y hH rfl rfl (yv_move rfl) ?_
        refine guard_yes rfl rfl (decide_eq_false hc3) ?_
        refine op_fnV rfl rfl rfl hH (c50 (by omega) (by omega)) (fun w4 hH5 => ?_)
        refine guard_yes rfl rfl (decide_eq_false hc3) ?_
        refine ops_y hH5 rfl rfl (yv_geq rfl rfl) ?_
        refine ops_y hH5 rfl rfl (yv_pick_f rfl (decide_eq_false hc3) rfl) ?_
        refine ops_nil (thn_n ?_)
        by_cases hc6 : (Q.cnt (n).toNat : Int) ≤ k
        · skip
          refine cond_t rfl (decide_eq_true hc6) ?_
          refine seq (region (ops_y hH5 rfl rfl (yv_assign rfl) (ops_y hH5 rfl rfl (yv_assign rfl) (ops_nil (thn_n (ret (thn_r ?_)))))))
          refine finA (Below.refl _ _) hH5 (fun w' hf => (res2 rfl (show RV _ _ _ (.tmp 4) _ from rfl) (show RV _ _ _ (.tmp 5) _ from rfl))) (fun w' hf => ?_)
          first | (rw [Q.at1 (by omega)]; exact ⟨_, rfl, Rd.nil⟩) | (rw [Q.at2 (by omega) (by omega)]; exact ⟨_, rfl, Rd.nil⟩) | (rw [Q.at3 (by omega) (by omega)]; exact ⟨_, rfl, (h0.now hf (n := 0) rfl).at (by omega) (by omega)⟩)
        · skip
          refine cond_f rfl (decide_eq_false hc6) ?_
          refine skip (thn_n (seq ?_))
          have hlen := Q.treesL_len (n := n.toNat) (by omega)
          refine region (ops_y hH5 rfl rfl (yv_move rfl) ?_)
          have hb7 : Below w.heap.size w w4 := hH5.get (n := 0) rfl
          have hH8 := Heap.start w4
          refine op_fn rfl rfl rfl hH8 ((by have h := c76 (N := n.toNat) (w := w4) (by omega); rw [Int.toNat_of_nonneg (by omega)] at h; exact h)) (fun u11 w9 lo12 hi13 hH10 hv14 => ?_)
          have hb15 : Below w4.heap.size w4 w9 := hH10.get (n := 1) rfl
          obtain ⟨VV, hVV⟩ := hv14 hb15
          have hVVl := hVV.2.1
          have hb16 : Below w4.heap.size w4 w9 := hH10.get (n := 1) rfl
          have hb17 := below_trans hb7 hb16
          have hH18 := Heap.start w9
          refine ops_y hH18 rfl rfl (yv_move rfl) ?_
          refine ops_y hH18 rfl rfl (yv_index T.sl100 rfl rfl ((hVV.now hH18 (n := 0) rfl).1).is (by omega)) ?_
          refine ops_y hH18 rfl rfl (yv_load T.one22 rfl (fun _ hw => Rd.at ((hVV.now hw (n := 0) rfl).1) (i := k) (by omega) (j := 0) rfl)) ?_
          refine ops_y hH18 rfl rfl (yv_assign rfl) (ops_y hH18 rfl rfl (yv_assign rfl) (ops_nil (thn_n (ret ?_))))
          refine finA hb17 hH18 (fun w' hf => (res2 rfl (show RV _ _ _ (.tmp 4) _ from rfl) (show RV _ _ _ (.tmp 5) _ from rfl))) (fun w' hf => ?_)
          first | (rw [Q.at1 (by omega)]; exact ⟨_, rfl, Rd.nil⟩) | (rw [Q.at2 (by omega) (by omega)]; exact ⟨_, rfl, Rd.nil⟩) | (rw [Q.at3 (by omega) (by omega)]; exact ⟨_, rfl, (hVV.now hf (n := 0) rfl).at (by omega) (by omega)⟩)

theorem c5 {v : Value} {l : List Int} {n k : Int} {w : World} (h0 : Rd encI 1 v l w) (hx : Q.Up l)  :
    Fn Try.prog 5 [(.int .i64 n), (.int .i64 k), v].toArray w (fun u _ => u = .bool true) := by
  refine fn_of' (args := [(.int .i64 n), (.int .i64 k), v]) Try.func5 rfl (ent Try.func5 (by kernel_rfl) rfl) rfl rfl (fun hH => ?_)
  refine seq (region (ops_y hH rfl rfl (yv_assign rfl) (ops_nil (thn_n (seq (seq (region (ops_y hH rfl rfl (yv_move rfl) ?_))))))))
  refine ops_y hH rfl rfl (yv_len T.sl22 rfl (h0.now hH (n := 0) rfl).is) ?_
  refine ops_y hH rfl rfl (yv_gtr rfl rfl) ?_
  refine ops_nil (thn_n ?_)
  by_cases hc1 : 16 < (l.length : Int)
  · skip
    refine cond_t rfl (decide_eq_true hc1) ?_
    refine seq (region ?_)
    refine op_fnV rfl rfl rfl hH (c16) (fun w2 hH3 => ?_)
    refine ops_y hH3 rfl rfl (yv_assign rfl) (ops_nil (thn_n (ret (thn_r ?_))))
    refine fin hH3 (fun w' hf => (res1 rfl (show RV _ _ _ (.tmp 6) _ from rfl))) (fun w' hf => ?_)
    rfl
  · skip
    refine cond_f rfl (decide_eq_false hc1) ?_
    refine skip (thn_n (seq ?_))
    have hl1 := Q.len_low (n := n)
    have hl2 := Q.len_at (n := n) (k := k)
    refine region (ops_y hH rfl rfl (yv_move rfl) ?_)
    refine op_fn rfl rfl rfl hH (c33 ) (fun u6 w4 lo7 hi8 hH5 hv9 => ?_)
    obtain ⟨p11, hu, -⟩ := hv9
    subst hu
    have hH10 := Heap.tup2 hH5 (n := 0) rfl
    refine ops_y hH10 rfl rfl (yv_move rfl) (ops_y hH10 rfl rfl (yv_extract rfl rfl) (ops_y hH10 rfl rfl (yv_extract rfl rfl) (ops_y hH10 rfl rfl (yv_assign rfl) (ops_y hH10 rfl rfl (yv_assign rfl) (ops_nil (thn_n (seq (region (ops_y hH10 rfl rfl (yv_move rfl) ?_)))))))))
    refine op_fn rfl rfl rfl hH10 (c34 ) (fun u14 w12 lo15 hi16 hH13 hv17 => ?_)
    obtain ⟨p19, hu, -⟩ := hv17
    subst hu
    have hH18 := Heap.tup2 hH13 (n := 0) rfl
    refine ops_y hH18 rfl rfl (yv_move rfl) (ops_y hH18 rfl rfl (yv_extract rfl rfl) (ops_y hH18 rfl rfl (yv_extract rfl rfl) (ops_y hH18 rfl rfl (yv_assign rfl) (ops_y hH18 rfl rfl (yv_assign rfl) (ops_nil (thn_n (seq (region (ops_y hH18 rfl rfl (yv_move rfl) ?_)))))))))
    refine op_fnV rfl rfl rfl hH18 (c35 ) (fun w20 hH21 => ?_)
    refine ops_y hH21 rfl rfl (yv_move rfl) (ops_y hH21 rfl rfl (yv_extract rfl rfl) (ops_y hH21 rfl rfl (yv_extract rfl rfl) (ops_y hH21 rfl rfl (yv_assign rfl) (ops_y hH21 rfl rfl (yv_assign rfl) (ops_nil (thn_n (seq (region (ops_y hH21 rfl rfl (yv_move rfl) ?_)))))))))
    refine op_fnV rfl rfl rfl hH21 (c36 ) (fun w22 hH23 => ?_)
    refine ops_y hH23 rfl rfl (yv_move rfl) (ops_y hH23 rfl rfl (yv_extract rfl rfl) (ops_y hH23 rfl rfl (yv_extract rfl rfl) (ops_y hH23 rfl rfl (yv_assign rfl) (ops_y hH23 rfl rfl (yv_assign rfl) (ops_nil (thn_n (seq (region (ops_y hH23 rfl rfl (yv_move rfl) ?_)))))))))
    refine op_fnV rfl rfl rfl hH23 (c37 (h0.now hH23 (n := 2) rfl) (by omega) (by first | assumption | decide)) (fun w24 hH25 => ?_)
    refine ops_y hH25 rfl rfl (yv_move rfl) (ops_y hH25 rfl rfl (yv_extract rfl rfl) (ops_y hH25 rfl rfl (yv_extract rfl rfl) (ops_y hH25 rfl rfl (yv_assign rfl) (ops_y hH25 rfl rfl (yv_assign rfl) (ops_nil (thn_n (seq (region (ops_y hH25 rfl rfl (yv_move rfl) ?_)))))))))
    refine op_fnV rfl rfl rfl hH25 (c38 (h0.now hH25 (n := 2) rfl) (by omega) (by first | assumption | decide)) (fun w26 hH27 => ?_)
    refine ops_y hH27 rfl rfl (yv_move rfl) (ops_y hH27 rfl rfl (yv_extract rfl rfl) (ops_y hH27 rfl rfl (yv_extract rfl rfl) (ops_y hH27 rfl rfl (yv_assign rfl) (ops_y hH27 rfl rfl (yv_assign rfl) (ops_nil (thn_n (seq (region (ops_y hH27 rfl rfl (yv_move rfl) ?_)))))))))
    refine ops_y hH27 rfl rfl (yv_move rfl) ?_
    refine op_fn rfl rfl rfl hH27 (c39 ) (fun u30 w28 lo31 hi32 hH29 hv33 => ?_)
    obtain ⟨p35, hu, -⟩ := hv33
    subst hu
    have hH34 := Heap.tup2 hH29 (n := 0) rfl
    refine ops_y hH34 rfl rfl (yv_move rfl) (ops_y hH34 rfl rfl (yv_extract rfl rfl) (ops_y hH34 rfl rfl (yv_extract rfl rfl) (ops_y hH34 rfl rfl (yv_assign rfl) (ops_y hH34 rfl rfl (yv_assign rfl) (ops_nil (thn_n (seq (region (ops_y hH34 rfl rfl (yv_move rfl) ?_)))))))))
    refine ops_y hH34 rfl rfl (yv_move rfl) ?_
    have hb36 : Below w.heap.size w w28 := hH34.get (n := 3) rfl
    have rr37 : Rd encI 1 p35 ((Q.atR n k).1) w28 := Heap.rdw T.el22_encI hH34 (n := 0) rfl
    have rr38 : Rd encI 1 p19 ((Q.lowR n).1) w28 := Heap.rdw T.el22_encI hH34 (n := 1) rfl
    have rr39 : Rd encI 1 p11 ((Q.lowR n).1) w28 := Heap.rdw T.el22_encI hH34 (n := 2) rfl
    have hH40 := Heap.start w28
    refine op_fn rfl rfl rfl hH40 (c40) (fun u43 w41 lo44 hi45 hH42 hv46 => ?_)
    have hb47 : Below w28.heap.size w28 w41 := hH42.get (n := 1) rfl
    obtain ⟨q48, hu, hq48⟩ := hv46 hb47
    subst hu
    have hb49 : Below w28.heap.size w28 w41 := hH42.get (n := 1) rfl
    have rv50 := rr37.below hb49
    have rv51 := rr38.below hb49
    have rv52 := rr39.below hb49
    have hb53 := below_trans hb36 hb49
    have hH54 := Heap.start w41
    refine ops_y hH54 rfl rfl (yv_move rfl) (ops_y hH54 rfl rfl (yv_extract rfl rfl) (ops_y hH54 rfl rfl (yv_extract rfl rfl) (ops_y hH54 rfl rfl (yv_assign rfl) (ops_y hH54 rfl rfl (yv_assign rfl) (ops_nil (thn_n (seq (region (ops_y hH54 rfl rfl (yv_move rfl) ?_)))))))))
    refine ops_y hH54 rfl rfl (yv_move rfl) ?_
    refine op_fnV rfl rfl rfl hH54 (c21 (rv52.now hH54 (n := 0) rfl) (rv51.now hH54 (n := 0) rfl) (by omega) (by omega)) (fun w55 hH56 => ?_)
    refine ops_y hH56 rfl rfl (yv_move rfl) ?_
    refine guard_yes rfl rfl (decide_eq_true rfl) ?_
    refine ops_y hH56 rfl rfl (yv_move rfl) ?_
    refine guard_yes rfl rfl (decide_eq_true rfl) ?_
    refine ops_y hH56 rfl rfl (yv_move rfl) ?_
    refine guard_yes rfl rfl (decide_eq_true rfl) ?_
    refine ops_y hH56 rfl rfl (yv_eql rfl rfl) ?_
    refine ops_y hH56 rfl rfl (yv_pick_t rfl (decide_eq_true rfl) rfl) ?_
    refine ops_y hH56 rfl rfl (yv_move rfl) ?_
    refine guard_yes rfl rfl (decide_eq_true rfl) ?_
    refine ops_y hH56 rfl rfl (yv_move rfl) ?_
    refine guard_yes rfl rfl (decide_eq_true rfl) ?_
    refine ops_y hH56 rfl rfl (yv_move rfl) ?_
    refine guard_yes rfl rfl (decide_eq_true rfl) ?_
    refine ops_y hH56 rfl rfl (yv_eql rfl rfl) ?_
    refine ops_y hH56 rfl rfl (yv_pick_t rfl (decide_eq_true rfl) rfl) ?_
    refine ops_y hH56 rfl rfl (yv_move rfl) ?_
    refine guard_yes rfl rfl (decide_eq_true rfl) ?_
    refine ops_y hH56 rfl rfl (yv_move rfl) ?_
    refine guard_yes rfl rfl (decide_eq_true rfl) ?_
    refine ops_y hH56 rfl rfl (yv_move rfl) ?_
    refine guard_yes rfl rfl (decide_eq_true rfl) ?_
    refine ops_y hH56 rfl rfl (yv_eql rfl rfl) ?_
    refine ops_y hH56 rfl rfl (yv_pick_t rfl (decide_eq_true rfl) rfl) ?_
    refine ops_y hH56 rfl rfl (yv_move rfl) ?_
    refine guard_yes rfl rfl (decide_eq_true rfl) ?_
    refine ops_y hH56 rfl rfl (yv_move rfl) ?_
    refine guard_yes rfl rfl (decide_eq_true rfl) ?_
    refine ops_y hH56 rfl rfl (yv_move rfl) ?_
    refine guard_yes rfl rfl (decide_eq_true rfl) ?_
    refine ops_y hH56 rfl rfl (yv_eql rfl rfl) ?_
    refine ops_y hH56 rfl rfl (yv_pick_t rfl (decide_eq_true rfl) rfl) ?_
    refine ops_y hH56 rfl rfl (yv_move rfl) ?_
    refine guard_yes rfl rfl (decide_eq_true rfl) ?_
    refine ops_y hH56 rfl rfl (yv_move rfl) ?_
    refine guard_yes rfl rfl (decide_eq_true rfl) ?_
    refine ops_y hH56 rfl rfl (yv_move rfl) ?_
    refine guard_yes rfl rfl (decide_eq_true rfl) ?_
    refine ops_y hH56 rfl rfl (yv_eql rfl rfl) ?_
    refine ops_y hH56 rfl rfl (yv_pick_t rfl (decide_eq_true rfl) rfl) ?_
    refine ops_y hH56 rfl rfl (yv_move rfl) ?_
    refine guard_yes rfl rfl (decide_eq_true rfl) ?_
    refine ops_y hH56 rfl rfl (yv_move rfl) ?_
    refine guard_yes rfl rfl (decide_eq_true rfl) ?_
    refine ops_y hH56 rfl rfl (yv_move rfl) ?_
    refine guard_yes rfl rfl (decide_eq_true rfl) ?_
    refine op_fnV rfl rfl rfl hH56 (c21 (rv50.now hH56 (n := 0) rfl) (hq48.now hH56 (n := 0) rfl) (by omega) (by omega)) (fun w57 hH58 => ?_)
    refine ops_y hH58 rfl rfl (yv_pick_t rfl (decide_eq_true rfl) rfl) ?_
    refine ops_y hH58 rfl rfl (yv_move rfl) ?_
    refine guard_yes rfl rfl (decide_eq_true rfl) ?_
    refine ops_y hH58 rfl rfl (yv_move rfl) ?_
    refine guard_yes rfl rfl (decide_eq_true rfl) ?_
    refine ops_y hH58 rfl rfl (yv_move rfl) ?_
    refine guard_yes rfl rfl (decide_eq_true rfl) ?_
    refine ops_y hH58 rfl rfl (yv_eql rfl rfl) ?_
    refine ops_y hH58 rfl rfl (yv_pick_t rfl (decide_eq_true rfl) rfl) ?_
    refine ops_y hH58 rfl rfl (yv_move rfl) ?_
    refine guard_yes rfl rfl (decide_eq_true rfl) ?_
    refine op_fnV rfl rfl rfl hH58 (c16) (fun w59 hH60 => ?_)
    refine ops_y hH60 rfl rfl (yv_pick_t rfl (decide_eq_true rfl) rfl) ?_
    refine ops_y hH60 rfl rfl (yv_assign rfl) (ops_nil (thn_n (ret ?_)))
    refine fin (Heap.unbase hH60 hb53) (fun w' hf => (res1 rfl (show RV _ _ _ (.tmp 6) _ from rfl))) (fun w' hf => ?_)
    rfl

end Go.Fip
