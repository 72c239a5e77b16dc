/- Joined texts: Ww, Wx, Wy, Wz. -/
import Derived.Test.YticpcefbokhgfaaMF
import Derived.Test.YticpcefbokhgfaaMC
set_option linter.unusedVariables false
set_option linter.unusedSimpArgs false
set_option linter.unusedSectionVars false
set_option linter.unnecessarySimpa false
namespace Go.Fip
open Go.Proofs Go.RowKit

theorem c121 {n : Int} {w : World} (h0 : 0 ≤ n) (h1 : n ≤ 1000)  :
    Fn Try.prog 121 [(.int .u64 1), (.int .u64 n)].toArray w (fun u _ => u = .tuple #[.int .u64 0, .int .u64 n]) := by
  refine fn_of' (args := [(.int .u64 1), (.int .u64 n)]) Try.func121 rfl (ent Try.func121 (by kernel_rfl) rfl) rfl rfl (fun hH => ?_)
  refine seq (region (ops_y hH rfl rfl (yv_assign rfl) (ops_y hH rfl rfl (yv_assign rfl) (ops_nil (thn_n (seq (region (ops_y hH rfl rfl (yv_move rfl) ?_))))))))
  refine ops_y hH rfl rfl (yv_and32 rfl rfl (by omega)) ?_
  refine ops_y hH rfl rfl (yv_assign rfl) (ops_nil (thn_n (seq (region (ops_y hH rfl rfl (yv_move rfl) ?_)))))
  refine ops_y hH rfl rfl (yv_shr32 rfl rfl (by omega)) ?_
  refine ops_y hH rfl rfl (yv_assign rfl) (ops_nil (thn_n (seq (region (ops_y hH rfl rfl (yv_move rfl) ?_)))))
  refine ops_y hH rfl rfl (yv_and32 rfl rfl (by omega)) ?_
  refine ops_y hH rfl rfl (yv_assign rfl) (ops_nil (thn_n (seq (region (ops_y hH rfl rfl (yv_move rfl) ?_)))))
  refine ops_y hH rfl rfl (yv_shr32 rfl rfl (by omega)) ?_
  refine ops_y hH rfl rfl (yv_assign rfl) (ops_nil (thn_n (seq (region (ops_y hH rfl rfl (yv_move rfl) (ops_y hH rfl rfl (yv_move rfl) ?_))))))
  refine ops_y hH rfl rfl (yv_cast (show 1 * n = n by omega) (yv_mulK rfl rfl (wrap_u64 (by omega)))) ?_
  refine ops_y hH rfl rfl (yv_assign rfl) (ops_nil (thn_n (seq (region (ops_y hH rfl rfl (yv_move rfl) (ops_y hH rfl rfl (yv_move rfl) ?_))))))
  refine ops_y hH rfl rfl (yv_cast (show 0 * n = 0 by omega) (yv_mulK rfl rfl (wrap_u64 (by omega)))) ?_
  refine ops_y hH rfl rfl (yv_move rfl) ?_
  refine ops_y hH rfl rfl (yv_shr32 rfl rfl (by omega)) ?_
  refine ops_y hH rfl rfl (yv_cast (show 0 + 0 = 0 by omega) (yv_addK rfl rfl (wrap_u64 (by omega)))) ?_
  refine ops_y hH rfl rfl (yv_assign rfl) (ops_nil (thn_n (seq (region (ops_y hH rfl rfl (yv_move rfl) ?_)))))
  refine ops_y hH rfl rfl (yv_and32 rfl rfl (by omega)) ?_
  refine ops_y hH rfl rfl (yv_assign rfl) (ops_nil (thn_n (seq (region (ops_y hH rfl rfl (yv_move rfl) ?_)))))
  refine ops_y hH rfl rfl (yv_shr32 rfl rfl (by omega)) ?_
  refine ops_y hH rfl rfl (yv_assign rfl) (ops_nil (thn_n (seq (region (ops_y hH rfl rfl (yv_move rfl) (ops_y hH rfl rfl (yv_move rfl) (ops_y hH rfl rfl (yv_move rfl) ?_)))))))
  refine ops_y hH rfl rfl (yv_cast (show 1 * 0 = 0 by omega) (yv_mulK rfl rfl (wrap_u64 (by omega)))) ?_
  refine ops_y hH rfl rfl (yv_cast (show 0 + 0 = 0 by omega) (yv_addK rfl rfl (wrap_u64 (by omega)))) ?_
  refine ops_y hH rfl rfl (yv_assign rfl) (ops_nil (thn_n (seq (region (ops_y hH rfl rfl (yv_move rfl) (ops_y hH rfl rfl (yv_move rfl) ?_))))))
  refine ops_y hH rfl rfl (yv_cast (show 0 * 0 = 0 by omega) (yv_mulK rfl rfl (wrap_u64 (by omega)))) ?_
  refine ops_y hH rfl rfl (yv_move rfl) ?_
  refine ops_y hH rfl rfl (yv_cast (show 0 + 0 = 0 by omega) (yv_addK rfl rfl (wrap_u64 (by omega)))) ?_
  refine ops_y hH rfl rfl (yv_move rfl) ?_
  refine ops_y hH rfl rfl (yv_shr32 rfl rfl (by omega)) ?_
  refine ops_y hH rfl rfl (yv_cast (show 0 + 0 = 0 by omega) (yv_addK rfl rfl (wrap_u64 (by omega)))) ?_
  refine ops_y hH rfl rfl (yv_assign rfl) (ops_nil (thn_n (seq (region (ops_y hH rfl rfl (yv_move rfl) (ops_y hH rfl rfl (yv_move rfl) ?_))))))
  refine ops_y hH rfl rfl (yv_cast (show 1 * n = n by omega) (yv_mulK rfl rfl (wrap_u64 (by omega)))) ?_
  refine ops_y hH rfl rfl (yv_assign rfl) (ops_nil (thn_n (ret ?_)))
  refine fin hH (fun w' hf => (res2 rfl (show RV _ _ _ (.tmp 4) _ from rfl) (show RV _ _ _ (.tmp 5) _ from rfl))) (fun w' hf => ?_)
  rfl

theorem c119 {n : Int} {w : World} (h0 : 0 ≤ n) (h1 : n ≤ 1000)  :
    Fn Try.prog 119 [(.int .u64 1), (.int .u64 n)].toArray w (fun u _ => u = .tuple #[.int .u64 0, .int .u64 n]) := by
  refine fn_of' (args := [(.int .u64 1), (.int .u64 n)]) Try.func119 rfl (ent Try.func119 (by kernel_rfl) rfl) rfl rfl (fun hH => ?_)
  refine seq (region (ops_y hH rfl rfl (yv_assign rfl) (ops_y hH rfl rfl (yv_assign rfl) (ops_nil (thn_n (seq ?_))))))
  refine cond_f rfl rfl ?_
  refine skip (thn_n (seq (region (ops_y hH rfl rfl (yv_move rfl) (ops_y hH rfl rfl (yv_move rfl) ?_)))))
  refine op_fnV rfl rfl rfl hH (c121 (by omega) (by omega)) (fun w1 hH2 => ?_)
  refine ops_y hH2 rfl rfl (yv_move rfl) (ops_y hH2 rfl rfl (yv_extract rfl rfl) (ops_y hH2 rfl rfl (yv_extract rfl rfl) (ops_y hH2 rfl rfl (yv_assign rfl) (ops_y hH2 rfl rfl (yv_assign rfl) (ops_nil (thn_n (seq (region (ops_y hH2 rfl rfl (yv_move rfl) ?_)))))))))
  refine ops_y hH2 rfl rfl (yv_move rfl) (ops_y hH2 rfl rfl (yv_assign rfl) (ops_y hH2 rfl rfl (yv_assign rfl) (ops_nil (thn_n (ret ?_)))))
  refine fin hH2 (fun w' hf => (res2 rfl (show RV _ _ _ (.tmp 4) _ from rfl) (show RV _ _ _ (.tmp 5) _ from rfl))) (fun w' hf => ?_)
  rfl

def repTo (x : Int) (k N : Nat) : List Int := List.replicate k x ++ List.replicate (N - k) 0
theorem repTo_length {x : Int} {k N : Nat} (h : k ≤ N) : (repTo x k N).length = N := by simp [repTo]; omega
theorem repTo_one {x : Int} {N : Nat} (h : 1 ≤ N) : [x] ++ (List.replicate N (0 : Int)).drop [x].length = repTo x 1 N := by simp [repTo]
theorem repTo_take {x : Int} {k N : Nat} : (repTo x k N).take k = List.replicate k x := by simp [repTo]
theorem repTo_copy {x : Int} {k N : Nat} (h : k ≤ N) : (repTo x k N).take ((k : Int)).toNat ++ ((repTo x k N).take ((k : Int)).toNat).take ((repTo x k N).length - ((k : Int)).toNat) ++ (repTo x k N).drop (((k : Int)).toNat + Nat.min ((repTo x k N).take ((k : Int)).toNat).length ((repTo x k N).length - ((k : Int)).toNat)) = repTo x (k + Nat.min k (N - k)) N := by
  simp only [Int.toNat_natCast, repTo_take, repTo_length h, List.length_replicate, List.take_replicate]
  unfold repTo
  have e : Nat.min k (N - k) = min k (N - k) := rfl
  rw [List.drop_append, List.length_replicate, List.drop_replicate, List.drop_replicate, e, Nat.add_sub_cancel_left, ← List.append_assoc, List.append_assoc (List.replicate k x), List.replicate_append_replicate, List.replicate_append_replicate]
  congr 2 <;> omega
theorem repTo_all {x : Int} {N : Nat} : repTo x N N = List.replicate N x := by simp [repTo]
theorem repTo_min {x : Int} {k N : Nat} (h : k ≤ N) : Nat.min ((repTo x k N).take ((k : Int)).toNat).length ((repTo x k N).length - ((k : Int)).toNat) = Nat.min k (N - k) := by
  simp only [Int.toNat_natCast, repTo_take, repTo_length h, List.length_replicate]

theorem c114 {v : Value} {x n : Int} {w : World} (h0 : Rd encI 1 v [x] w) (hn0 : 1 ≤ n) (hn1 : n ≤ 1000)  :
    Fn Try.prog 114 [v, (.int .i64 n)].toArray w (fun u w => Own 3 1 encI u (List.replicate n.toNat x) w) := by
  refine fn_of' (args := [v, (.int .i64 n)]) Try.func114 rfl (ent Try.func114 (by kernel_rfl) rfl) rfl rfl (fun hH => ?_)
  refine seq (region (ops_y hH rfl rfl (yv_assign rfl) (ops_nil (thn_n (seq (seq (region (ops_y hH rfl rfl (yv_move rfl) ?_))))))))
  refine ops_y hH rfl rfl (yv_lss rfl rfl) ?_
  refine ops_nil (thn_n ?_)
  have hc1 : ¬ (n < 0) := by omega
  refine cond_f rfl (decide_eq_false hc1) ?_
  refine skip (thn_n (seq (region (ops_y hH rfl rfl (yv_move rfl) ?_))))
  refine ops_y hH rfl rfl (yv_cast (show (([x] : List Int).length : Int) = 1 from rfl) (yv_len T.sl22 rfl (h0.now hH (n := 0) rfl).is)) ?_
  refine ops_y hH rfl rfl (yv_conv Try.underlying3 Try.underlying116 rfl (wrap_u64 (by omega))) ?_
  refine ops_y hH rfl rfl (yv_move rfl) ?_
  refine ops_y hH rfl rfl (yv_conv Try.underlying3 Try.underlying116 rfl (wrap_u64 (by omega))) ?_
  refine op_fnV rfl rfl rfl hH (c119 (by omega) (by omega)) (fun w2 hH3 => ?_)
  refine ops_y hH3 rfl rfl (yv_move rfl) (ops_y hH3 rfl rfl (yv_extract rfl rfl) (ops_y hH3 rfl rfl (yv_extract rfl rfl) (ops_y hH3 rfl rfl (yv_assign rfl) (ops_y hH3 rfl rfl (yv_assign rfl) (ops_nil (thn_n (seq (seq (region ?_)))))))))
  refine ops_y hH3 rfl rfl (yv_move rfl) ?_
  refine ops_y hH3 rfl rfl (yv_gtr rfl rfl) ?_
  refine ops_y hH3 rfl rfl (yv_move rfl) (guard_yes rfl rfl rfl (ops_y hH3 rfl rfl (yv_move rfl) (guard_yes rfl rfl rfl ?_)))
  refine ops_y hH3 rfl rfl (yv_gtr rfl rfl) ?_
  refine ops_y hH3 rfl rfl (yv_pick_f rfl rfl rfl) ?_
  refine ops_nil (thn_n ?_)
  have hc4 : ¬ (9223372036854775807 < n) := by omega
  refine cond_f rfl (decide_eq_false hc4) ?_
  refine skip (thn_n (seq (region (ops_y hH3 rfl rfl (yv_move rfl) ?_))))
  refine ops_y hH3 rfl rfl (yv_conv Try.underlying116 Try.underlying3 rfl (wrap_i64 (by omega))) ?_
  refine op_make T.el22_encI (0 : Int) T.z22_encI rfl rfl rfl hH3 (by omega) (by omega) (fun u5 lo7 hi8 w6 hH9 => ?_)
  refine ops_y hH9 rfl rfl (yv_assign rfl) (ops_nil (thn_n (seq (region (ops_y hH9 rfl rfl (yv_move rfl) (ops_y hH9 rfl rfl (yv_move rfl) ?_))))))
  refine op_copy (n := 0) T.el22_encI rfl rfl rfl hH9 rfl (h0.now hH9 (n := 1) rfl) ((by simp; omega)) (fun w10 hH11 => ?_)
  refine ops_y hH11 rfl rfl (yv_assign rfl) (ops_nil (thn_n (seq (block ?_))))
  refine loop (S := Nat × Value × Nat × Nat) (fun (k, v_7, lo_7, hi_7) => [(8, (.int .i64 (k : Int))), (7, v_7), (4, (.slice none 0 0))]) (fun (k, v_7, lo_7, hi_7) w1 => Heap [ow lo_7 hi_7 3 1 encI v_7 (repTo x k n.toNat), base w] w1 ∧ 1 ≤ k ∧ k ≤ n.toNat) (fun (k, v_7, lo_7, hi_7) => n.toNat - k) (1, u5, lo7, hi8) (Sub.cons rfl (Sub.cons rfl (Sub.cons rfl (Sub.nil _)))) ?_ ?_
  · exact ⟨(Heap.recast (n := 0) hH11 rfl (repTo_one (by omega))), by omega, by omega⟩
  · rintro ⟨k, v_7, lo_7, hi_7⟩ w12 ⟨hH13, hk1, hk⟩
    show Holds _ _ _ _ _ [(8, (.int .i64 (k : Int))), (7, v_7), (4, (.slice none 0 0))] _ _
    have hrl := repTo_length (x := x) hk
    have hrm := repTo_min (x := x) hk
    have e8 : Nat.min k (n.toNat - k) = min k (n.toNat - k) := rfl
    refine seq (seq (region (ops_y hH13 rfl rfl (yv_move rfl) (ops_y hH13 rfl rfl (yv_move rfl) ?_))))
    refine ops_y hH13 rfl rfl (yv_len T.sl22 rfl (Heap.rdw T.el22_encI hH13 (n := 0) rfl).is) ?_
    refine ops_y hH13 rfl rfl (yv_lss rfl rfl) ?_
    refine ops_nil (thn_n ?_)
    by_cases hc14 : (k : Int) < ((repTo x k n.toNat).length : Int)
    · skip
      refine cond_t rfl (decide_eq_true hc14) ?_
      refine skip (thn_n (block ?_))
      refine region_draw (fun w' => True) T.mixed (fun w15 hr16 => ?_)
      have hH17 := hH13.redrawn hr16
      refine any_takes [0, 1, 2, 3, 4, 5, 6] (by kernel_rfl) trivial _ _ _ (by kernel_rfl) ?_
      refine qs_y rfl rfl (yv_move rfl) (qs_y rfl rfl (yv_move rfl) (qs_y rfl rfl (yv_move rfl) ?_))
      refine qs_y rfl rfl (yv_cut_lo T.sl22 rfl rfl (Heap.rdw T.el22_encI hH17 (n := 0) rfl).is (by omega)) ?_
      refine qs_y rfl rfl (yv_move rfl) (qs_y rfl rfl (yv_move rfl) ?_)
      refine qs_y rfl rfl (yv_cut_hi T.sl22 rfl rfl (Heap.rdw T.el22_encI hH17 (n := 0) rfl).is (by omega)) ?_
      refine qs_nil ?_
      refine any_all [7] (by kernel_rfl) rfl ?_
      refine ⟨⟨_, rfl, ?_⟩, trivial⟩
      · skip
        refine op_copy_tail (n := 0) (q := (k : Int).toNat) T.el22_encI rfl rfl rfl hH17 rfl (Rd.upto (Heap.rdw T.el22_encI hH17 (n := 0) rfl) (hi := (k : Int).toNat) (by omega)) (by omega) (fun w18 hH19 => ?_)
        refine ops_nil ?_
        refine ⟨trivial, ?_⟩
        refine any_takes [8, 9] (by kernel_rfl) trivial _ _ _ (by kernel_rfl) ?_
        refine qs_y rfl rfl (yv_add rfl rfl (by omega)) ?_
        refine qs_y rfl rfl (yv_assign rfl) (qs_nil ?_)
        refine any_done (by kernel_rfl) ?_
        refine blk_n ?_
        refine lp_n ((k + Nat.min k (n.toNat - k)), v_7, lo_7, hi_7) (Sub.cons (congrArg (fun z : Nat => some (Value.int .i64 ((k : Int) + (z : Int)))) (repTo_min hk)) (Sub.cons rfl (Sub.cons rfl (Sub.nil _)))) ?_ ?_
        · exact ⟨(Heap.recast (n := 0) hH19 rfl (repTo_copy hk)), by omega, (by have h9 := Nat.min_le_right k (n.toNat - k); have e9 : Nat.min k (n.toNat - k) = min k (n.toNat - k) := rfl; omega)⟩
        · (have e9 : Nat.min k (n.toNat - k) = min k (n.toNat - k) := rfl; dsimp only; omega)
    · skip
      refine cond_f rfl (decide_eq_false hc14) ?_
      refine exit (thn_x (lp_x (blk_here (thn_n (seq (region (ops_y hH13 rfl rfl (yv_move rfl) (ops_y hH13 rfl rfl (yv_assign rfl) (ops_nil ?_)))))))))
      refine thn_n (ret ?_)
      refine fin (hH13.front (n := 1) rfl) (fun w' hf => (res1 rfl (show RV _ _ _ (.tmp 4) _ from rfl))) (fun w' hf => ?_)
      have hk2 : k = n.toNat := by omega
      subst hk2; rw [← repTo_all]; exact Heap.own hf (n := 0) rfl

end Go.Fip

set_option linter.unusedVariables false
set_option linter.unusedSimpArgs false
set_option linter.unusedSectionVars false
set_option linter.unnecessarySimpa false
namespace Go.Fip
open Go.Proofs Go.RowKit

theorem c115 {y : Int} {b1 b3 b b7 : Nat} {ov v cv : Value} {o l : List Int} {fi : Int} {w : World} (k1 : Bx b1 22 [ov] w) (hO : Rd encI 1 ov o w) (k3 : Bx b3 73 [.pointer (some ⟨b, 0, none⟩)] w) (kb : Bx b 89 [v] w) (h0 : Rd encI 1 v l w) (k7 : Bx b7 22 [cv] w) (hc : Rd encI 1 cv (S.circ l fi) w) (hj : S.J l) (hol : o.length = l.length) (hi0 : 0 ≤ fi) (hi1 : fi < (l.length : Int)) (hy : 0 ≤ y) (hy2 : y < (l.length : Int))  :
    Fn Try.prog 115 [(.int .i64 y), (.pointer (some ⟨b1, 0, none⟩)), (.pointer (some ⟨b3, 0, none⟩)), (.pointer (some ⟨b7, 0, none⟩))].toArray w (fun u _ => u = .bool (S.free l o fi y)) := by
  refine fn_of' (args := [(.int .i64 y), (.pointer (some ⟨b1, 0, none⟩)), (.pointer (some ⟨b3, 0, none⟩)), (.pointer (some ⟨b7, 0, none⟩))]) Try.func115 rfl (ent Try.func115 (by kernel_rfl) rfl) rfl rfl (fun hH => ?_)
  have hl10 := hj.2.1
  have hcl : (S.circ l fi).length = S.per l fi := S.circ_length
  have hcy : (S.circ l y).length = S.per l y := S.circ_length
  have hpl := (hj.per_at hi0 hi1).2
  have hpy := (hj.per_at hy hy2).2
  have hpp := S.per_pos (l := l) (a := fi)
  have hge := S.place_ge (c := (S.circ l fi)) (x := y)
  have hpt := S.place_lt (c := (S.circ l fi)) (x := y)
  have hcz : ((S.circ l fi).length : Int) = (S.per l fi : Int) := by omega
  refine seq (region (ops_y hH rfl rfl (yv_assign rfl) (ops_nil (thn_n (seq (seq ?_))))))
  refine region_draw (fun w' => Heap [base w] w') T.mixed (fun w1 hr2 => ?_)
  have hH3 := hH.redrawn hr2
  refine any_takes [0, 1, 2, 3, 4, 5] (by kernel_rfl) hH3 _ _ _ (by kernel_rfl) ?_
  refine qs_y rfl rfl (yv_load T.one22 rfl (fun _ hw => bx_cell (k1.now hw (n := 0) rfl) rfl)) ?_
  refine qs_y rfl rfl (yv_move rfl) ?_
  refine qs_y rfl rfl (yv_index T.sl22 rfl rfl (hO.now hH3 (n := 0) rfl).is (by omega)) ?_
  refine qs_y rfl rfl (yv_load T.one3 rfl (fun _ hw => Rd.at (hO.now hw (n := 0) rfl) (i := y) (by omega) (j := 0) rfl)) ?_
  refine qs_y rfl rfl (yv_geq rfl rfl) ?_
  refine qs_y rfl rfl (yv_move rfl) (qs_nil ?_)
  by_cases hc4 : 0 ≤ (nth o y)
  · skip
    refine any_takes [6, 7, 8, 9, 10, 11, 12, 13, 14, 15, 16] (by kernel_rfl) hH3 _ _ _ (by kernel_rfl) ?_
    refine qs_no rfl rfl rfl (decide_eq_true hc4) rfl ?_
    refine qs_no rfl rfl rfl (decide_eq_true hc4) rfl ?_
    refine qs_no rfl rfl rfl (decide_eq_true hc4) rfl ?_
    refine qs_no rfl rfl rfl (decide_eq_true hc4) rfl ?_
    refine qs_no rfl rfl rfl (decide_eq_true hc4) rfl ?_
    refine qs_no rfl rfl rfl (decide_eq_true hc4) rfl ?_
    refine qs_no rfl rfl rfl (decide_eq_true hc4) rfl ?_
    refine qs_no rfl rfl rfl (decide_eq_true hc4) rfl ?_
    refine qs_no rfl rfl rfl (decide_eq_true hc4) rfl ?_
    refine qs_no rfl rfl rfl (decide_eq_true hc4) rfl ?_
    refine qs_y rfl rfl (yv_pick_t rfl (decide_eq_true hc4) rfl) ?_
    refine qs_nil ?_
    refine any_done (by kernel_rfl) ?_
    refine thn_n ?_
    refine cond_t rfl rfl ?_
    refine seq (region (ops_y hH3 rfl rfl (yv_assign rfl) (ops_nil (thn_n (ret (thn_r ?_))))))
    refine fin hH3 (fun w' hf => (res1 rfl (show RV _ _ _ (.tmp 5) _ from rfl))) (fun w' hf => ?_)
    unfold S.free; first | (refine congrArg Value.bool (decide_eq_false (fun h => ?_)).symm; omega) | exact congrArg Value.bool (decide_eq_true ⟨by omega, by omega, .inl (by omega)⟩).symm | (refine congrArg Value.bool (decide_eq_decide.2 ⟨fun h => ⟨by omega, by omega, .inr (by rw [hcz] at h; exact h)⟩, fun h => ?_⟩); rw [hcz]; rcases h.2.2 with h5 | h5; omega; exact h5)
  · skip
    refine any_takes [6, 7, 8, 9, 10, 13, 14] (by kernel_rfl) hH3 _ _ _ (by kernel_rfl) ?_
    refine qs_yes rfl rfl rfl (decide_eq_false hc4) rfl (yv_load T.one73 rfl (fun _ hw => bx_cell (k3.now hw (n := 0) rfl) rfl)) ?_
    refine qs_yes rfl rfl rfl (decide_eq_false hc4) rfl (yv_nilck rfl) ?_
    refine qs_yes rfl rfl rfl (decide_eq_false hc4) rfl (yv_field T.f89_0 rfl) ?_
    refine qs_yes rfl rfl rfl (decide_eq_false hc4) rfl (yv_loadA (cs := [v]) T.agg87 rfl rfl (fun _ hw => bx_cells (kb.now hw (n := 0) rfl) (k := 0) rfl)) ?_
    refine qs_yes rfl rfl rfl (decide_eq_false hc4) rfl (yv_move rfl) ?_
    refine qs_yes rfl rfl rfl (decide_eq_false hc4) rfl (yv_load T.one22 rfl (fun _ hw => bx_cell (k7.now hw (n := 0) rfl) rfl)) ?_
    refine qs_yes rfl rfl rfl (decide_eq_false hc4) rfl (yv_len T.sl22 rfl (hc.now hH3 (n := 0) rfl).is) ?_
    refine qs_nil ?_
    refine any_all [11] (by kernel_rfl) rfl ?_
    refine ⟨⟨_, rfl, ?_⟩, trivial⟩
    · skip
      refine guard_yes rfl rfl (decide_eq_false hc4) ?_
      refine op_fn rfl rfl rfl hH3 (c105 (h0.now hH3 (n := 0) rfl) hj (by omega) (by omega)) (fun u7 w5 lo8 hi9 hH6 hv10 => ?_)
      have hH11 := Heap.toOw hH6 (n := 0) rfl
      refine ops_nil ?_
      refine ⟨(hH11.sub (List.Sublist.cons _ (List.Sublist.refl _))), ?_⟩
      refine any_takes [12, 15, 16] (by kernel_rfl) (hH11.sub (List.Sublist.cons _ (List.Sublist.refl _))) _ _ _ (by kernel_rfl) ?_
      refine qs_yes rfl rfl rfl (decide_eq_false hc4) rfl (yv_len T.sl22 rfl (Heap.rdw T.el22_encI hH11 (n := 0) rfl).is) ?_
      refine qs_yes rfl rfl rfl (decide_eq_false hc4) rfl (yv_neq rfl rfl) ?_
      refine qs_y rfl rfl (yv_pick_f rfl (decide_eq_false hc4) rfl) ?_
      refine qs_nil ?_
      refine any_done (by kernel_rfl) ?_
      refine thn_n ?_
      by_cases hc12 : ((S.circ l y).length : Int) = ((S.circ l fi).length : Int)
      · skip
        refine cond_f rfl (not_decide_n hc12) ?_
        refine skip (thn_n (seq (region ?_)))
        refine ops_y hH11 rfl rfl (yv_load T.one22 rfl (fun _ hw => bx_cell (k7.now hw (n := 1) rfl) rfl)) ?_
        refine ops_y hH11 rfl rfl (yv_move rfl) ?_
        refine op_fnV rfl rfl rfl hH11 (c116 (hc.now hH11 (n := 1) rfl) (by omega)) (fun w13 hH14 => ?_)
        refine ops_y hH14 rfl rfl (yv_assign rfl) (ops_nil (thn_n (seq ?_)))
        refine region_draw (fun w' => Heap [ow lo8 hi9 3 1 encI u7 (S.circ l y), base w] w') T.mixed (fun w15 hr16 => ?_)
        have hH17 := hH14.redrawn hr16
        refine any_takes [0, 1, 2] (by kernel_rfl) hH17 _ _ _ (by kernel_rfl) ?_
        refine qs_y rfl rfl (yv_move rfl) ?_
        refine qs_y rfl rfl (yv_lss rfl rfl) ?_
        refine qs_y rfl rfl (yv_move rfl) (qs_nil ?_)
        by_cases hc18 : (S.place (S.circ l fi) y) < 0
        · skip
          refine any_takes [3, 4, 5, 6, 7, 8, 9, 10, 11, 12, 13] (by kernel_rfl) hH17 _ _ _ (by kernel_rfl) ?_
          refine qs_no rfl rfl rfl (decide_eq_true hc18) rfl ?_
          refine qs_no rfl rfl rfl (decide_eq_true hc18) rfl ?_
          refine qs_no rfl rfl rfl (decide_eq_true hc18) rfl ?_
          refine qs_no rfl rfl rfl (decide_eq_true hc18) rfl ?_
          refine qs_no rfl rfl rfl (decide_eq_true hc18) rfl ?_
          refine qs_no rfl rfl rfl (decide_eq_true hc18) rfl ?_
          refine qs_no rfl rfl rfl (decide_eq_true hc18) rfl ?_
          refine qs_no rfl rfl rfl (decide_eq_true hc18) rfl ?_
          refine qs_no rfl rfl rfl (decide_eq_true hc18) rfl ?_
          refine qs_y rfl rfl (yv_pick_t rfl (decide_eq_true hc18) rfl) ?_
          refine qs_y rfl rfl (yv_assign rfl) (qs_nil ?_)
          refine any_done (by kernel_rfl) ?_
          refine thn_n (ret ?_)
          have hH19 := (hH17.sub (List.Sublist.cons _ (List.Sublist.refl _)))
          refine fin hH19 (fun w' hf => (res1 rfl (show RV _ _ _ (.tmp 5) _ from rfl))) (fun w' hf => ?_)
          unfold S.free; first | (refine congrArg Value.bool (decide_eq_false (fun h => ?_)).symm; omega) | exact congrArg Value.bool (decide_eq_true ⟨by omega, by omega, .inl (by omega)⟩).symm | (refine congrArg Value.bool (decide_eq_decide.2 ⟨fun h => ⟨by omega, by omega, .inr (by rw [hcz] at h; exact h)⟩, fun h => ?_⟩); rw [hcz]; rcases h.2.2 with h5 | h5; omega; exact h5)
        · skip
          refine any_takes [3, 4, 5, 6, 7, 8, 9, 10, 11, 12, 13] (by kernel_rfl) hH17 _ _ _ (by kernel_rfl) ?_
          refine qs_yes rfl rfl rfl (decide_eq_false hc18) rfl (yv_move rfl) ?_
          refine qs_yes rfl rfl rfl (decide_eq_false hc18) rfl (yv_mul rfl rfl (by omega)) ?_
          refine qs_yes rfl rfl rfl (decide_eq_false hc18) rfl (yv_load T.one22 rfl (fun _ hw => bx_cell (k7.now hw (n := 1) rfl) rfl)) ?_
          refine qs_yes rfl rfl rfl (decide_eq_false hc18) rfl (yv_len T.sl22 rfl (hc.now hH17 (n := 1) rfl).is) ?_
          refine qs_yes rfl rfl rfl (decide_eq_false hc18) rfl (yv_rem rfl rfl (by omega) (by omega)) ?_
          refine qs_yes rfl rfl rfl (decide_eq_false hc18) rfl (yv_load T.one22 rfl (fun _ hw => bx_cell (k7.now hw (n := 1) rfl) rfl)) ?_
          refine qs_yes rfl rfl rfl (decide_eq_false hc18) rfl (yv_len T.sl22 rfl (hc.now hH17 (n := 1) rfl).is) ?_
          refine qs_yes rfl rfl rfl (decide_eq_false hc18) rfl (yv_rem rfl rfl (by omega) (by omega)) ?_
          refine qs_yes rfl rfl rfl (decide_eq_false hc18) rfl (yv_eql rfl rfl) ?_
          refine qs_y rfl rfl (yv_pick_f rfl (decide_eq_false hc18) rfl) ?_
          refine qs_y rfl rfl (yv_assign rfl) (qs_nil ?_)
          refine any_done (by kernel_rfl) ?_
          refine thn_n (ret ?_)
          have hH20 := (hH17.sub (List.Sublist.cons _ (List.Sublist.refl _)))
          refine fin hH20 (fun w' hf => (res1 rfl (show RV _ _ _ (.tmp 5) _ from rfl))) (fun w' hf => ?_)
          unfold S.free; first | (refine congrArg Value.bool (decide_eq_false (fun h => ?_)).symm; omega) | exact congrArg Value.bool (decide_eq_true ⟨by omega, by omega, .inl (by omega)⟩).symm | (refine congrArg Value.bool (decide_eq_decide.2 ⟨fun h => ⟨by omega, by omega, .inr (by rw [hcz] at h; exact h)⟩, fun h => ?_⟩); rw [hcz]; rcases h.2.2 with h5 | h5; omega; exact h5)
      · skip
        refine cond_t rfl (not_decide_t hc12) ?_
        refine seq (region (ops_y hH11 rfl rfl (yv_assign rfl) (ops_nil (thn_n (ret (thn_r ?_))))))
        have hH21 := (hH11.sub (List.Sublist.cons _ (List.Sublist.refl _)))
        refine fin hH21 (fun w' hf => (res1 rfl (show RV _ _ _ (.tmp 5) _ from rfl))) (fun w' hf => ?_)
        unfold S.free; first | (refine congrArg Value.bool (decide_eq_false (fun h => ?_)).symm; omega) | exact congrArg Value.bool (decide_eq_true ⟨by omega, by omega, .inl (by omega)⟩).symm | (refine congrArg Value.bool (decide_eq_decide.2 ⟨fun h => ⟨by omega, by omega, .inr (by rw [hcz] at h; exact h)⟩, fun h => ?_⟩); rw [hcz]; rcases h.2.2 with h5 | h5; omega; exact h5)

theorem c85_115 {u : Value} {b1 b3 b b7 : Nat} {ov v cv : Value} {o l : List Int} {fi : Int} {w : World} (k1 : Bx b1 22 [ov] w) (hO : Rd encI 1 ov o w) (k3 : Bx b3 73 [.pointer (some ⟨b, 0, none⟩)] w) (kb : Bx b 89 [v] w) (h0 : Rd encI 1 v l w) (k7 : Bx b7 22 [cv] w) (hc : Rd encI 1 cv (S.circ l fi) w) (hj : S.J l) (hol : o.length = l.length) (hi0 : 0 ≤ fi) (hi1 : fi < (l.length : Int)) (h1 : Rd encI 1 u (S.right l.length) w)  :
    Fn Try.prog 85 [u, (.func (.func 115) #[] #[(.pointer (some ⟨b1, 0, none⟩)), (.pointer (some ⟨b3, 0, none⟩)), (.pointer (some ⟨b7, 0, none⟩))])].toArray w (fun u _ => u = .tuple #[.int .i64 (fnd (S.free l o fi) (S.right l.length)).1, .bool (fnd (S.free l o fi) (S.right l.length)).2]) := by
  refine fn_of' (args := [u, (.func (.func 115) #[] #[(.pointer (some ⟨b1, 0, none⟩)), (.pointer (some ⟨b3, 0, none⟩)), (.pointer (some ⟨b7, 0, none⟩))])]) Try.func85 rfl (ent Try.func85 (by kernel_rfl) rfl) rfl rfl (fun hH => ?_)
  have hl10 := hj.2.1
  have hrl := S.right_length l.length
  refine seq (region (ops_y hH rfl rfl (yv_assign rfl) (ops_y hH rfl rfl (yv_assign rfl) (ops_nil (thn_n (seq (seq (region (ops_y hH rfl rfl (yv_move rfl) ?_)))))))))
  refine ops_y hH rfl rfl (yv_len T.sl22 rfl (h1.now hH (n := 0) rfl).is) ?_
  refine ops_y hH rfl rfl (yv_move rfl) (ops_nil (thn_n (block ?_)))
  refine loop (S := Nat) (fun k => [(11, (.int .i64 (k : Int))), (1, (.func (.func 115) #[] #[(.pointer (some ⟨b1, 0, none⟩)), (.pointer (some ⟨b3, 0, none⟩)), (.pointer (some ⟨b7, 0, none⟩))])), (9, u), (10, (.int .i64 ((S.right l.length).length : Int)))]) (fun k w1 => Heap [base w] w1 ∧ k ≤ (S.right l.length).length ∧ ∀ i, i < k → (S.free l o fi) (nth (S.right l.length) (i : Int)) = false) (fun k => (S.right l.length).length - k) (0) (Sub.cons rfl (Sub.cons rfl (Sub.cons rfl (Sub.cons rfl (Sub.nil _))))) ?_ ?_
  · exact ⟨hH, by omega, S.all_zero⟩
  · rintro k w1 ⟨hH2, hk, hall⟩
    show Holds _ _ _ _ _ [(11, (.int .i64 (k : Int))), (1, (.func (.func 115) #[] #[(.pointer (some ⟨b1, 0, none⟩)), (.pointer (some ⟨b3, 0, none⟩)), (.pointer (some ⟨b7, 0, none⟩))])), (9, u), (10, (.int .i64 ((S.right l.length).length : Int)))] _ _
    refine seq (region ?_)
    refine ops_y hH2 rfl rfl (yv_lss rfl rfl) ?_
    refine ops_nil (thn_n (seq ?_))
    by_cases hc3 : (k : Int) < ((S.right l.length).length : Int)
    · skip
      refine cond_t rfl (decide_eq_true hc3) ?_
      refine skip (thn_n (seq (block (seq (region ?_)))))
      refine ops_y hH2 rfl rfl (yv_index T.sl22 rfl rfl (h1.now hH2 (n := 0) rfl).is (by omega)) ?_
      refine ops_y hH2 rfl rfl (yv_load T.one3 rfl (fun _ hw => Rd.at (h1.now hw (n := 0) rfl) (i := (k : Int)) (by omega) (j := 0) rfl)) ?_
      refine ops_y hH2 rfl rfl (yv_assign rfl) (ops_nil (thn_n (seq ?_)))
      have hnr := S.nth_right (n := l.length) (x := (k : Int)) (by omega) (by omega)
      refine region (ops_y hH2 rfl rfl (yv_move rfl) (ops_y hH2 rfl rfl (yv_move rfl) ?_))
      refine op_fnV rfl rfl rfl hH2 (c115 (k1.now hH2 (n := 0) rfl) (hO.now hH2 (n := 0) rfl) (k3.now hH2 (n := 0) rfl) (kb.now hH2 (n := 0) rfl) (h0.now hH2 (n := 0) rfl) (k7.now hH2 (n := 0) rfl) (hc.now hH2 (n := 0) rfl) hj hol hi0 hi1 (by omega) (by omega)) (fun w4 hH5 => ?_)
      refine ops_nil (thn_n ?_)
      by_cases hc6 : (S.free l o fi (nth (S.right l.length) (k : Int))) = true
      · skip
        have hp : (S.free l o fi) (nth (S.right l.length) (k : Int)) = true := hc6
        refine cond_t rfl hc6 ?_
        refine seq (region (ops_y hH5 rfl rfl (yv_move rfl) (ops_y hH5 rfl rfl (yv_assign rfl) (ops_y hH5 rfl rfl (yv_assign rfl) (ops_nil (thn_n (ret (blk_r (thn_r ?_)))))))))
        refine lp_r (blk_r (thn_r ?_))
        refine fin hH5 (fun w' hf => (res2 rfl (show RV _ _ _ (.tmp 4) _ from rfl) (show RV _ _ _ (.tmp 5) _ from rfl))) (fun w' hf => ?_)
        first | exact tupb (fnd_hit (k := k) (by omega) hall hp) | exact tupb (fnd_miss (fun i hi => hall i (by omega)))
      · skip
        have hp : (S.free l o fi) (nth (S.right l.length) (k : Int)) = false := (Bool.eq_false_iff.2 hc6)
        refine cond_f rfl (Bool.eq_false_iff.2 hc6) ?_
        refine skip (blk_n (thn_n (region ?_)))
        refine ops_y hH5 rfl rfl (yv_add rfl rfl (by omega)) ?_
        refine ops_y hH5 rfl rfl (yv_move rfl) (ops_nil ?_)
        refine lp_n (k + 1) (Sub.cons rfl (Sub.cons rfl (Sub.cons rfl (Sub.cons rfl (Sub.nil _))))) ?_ ?_
        · exact ⟨hH5, by omega, S.all_snoc hall hp⟩
        · first | (dsimp only; omega) | (show _ < _; omega)
    · skip
      refine cond_f rfl (decide_eq_false hc3) ?_
      refine exit (thn_x (lp_x (blk_here (thn_n (seq (region (ops_y hH2 rfl rfl (yv_assign rfl) (ops_nil (thn_n ?_)))))))))
      refine seq (region (ops_y hH2 rfl rfl (yv_move rfl) (ops_y hH2 rfl rfl (yv_assign rfl) (ops_y hH2 rfl rfl (yv_assign rfl) (ops_nil (thn_n (ret ?_)))))))
      refine fin hH2 (fun w' hf => (res2 rfl (show RV _ _ _ (.tmp 4) _ from rfl) (show RV _ _ _ (.tmp 5) _ from rfl))) (fun w' hf => ?_)
      first | exact tupb (fnd_hit (k := k) (by omega) hall hp) | exact tupb (fnd_miss (fun i hi => hall i (by omega)))

theorem c97 {b : Nat} {v : Value} {l : List Int} {w : World} (hb : Bx b 89 [v] w) (h0 : Rd encI 1 v l w) (hj : S.J l) (hnl : S.noneL l = 0)  :
    Fn Try.prog 97 [(.pointer (some ⟨b, 0, none⟩))].toArray w (fun u w => Own 3 1 encI u (S.rt l (S.none1 l.length)) w) := by
  refine fn_of' (args := [(.pointer (some ⟨b, 0, none⟩))]) Try.func97 rfl (ent Try.func97 (by kernel_rfl) rfl) rfl rfl (fun hH => ?_)
  have hl10 := hj.2.1
  have hl1 := hj.1
  have hrp : (List.replicate ((l.length : Int)).toNat (-1 : Int)).length = l.length := by simp
  refine seq (region ?_)
  refine op_box (us := [(.pointer (some ⟨b, 0, none⟩))]) rfl rfl rfl hH (fun b1 w2 hH3 => ?_)
  refine ops_y hH3 rfl rfl (yv_assign rfl) (ops_nil (thn_n (seq (region ?_))))
  refine op_lit (us := [(0, (.int .i64 (-1)))]) T.el22_encI [(-1)] rfl (by decide) rfl (fun a ha => by simp [ha.ev (show ev _ (.const (.int .i64 (-1))) = some _ from rfl)]) (fun w => by kernel_rfl) hH3 (fun u4 lo6 hi7 w5 hH8 => ?_)
  refine ops_y hH8 rfl rfl (yv_load T.one73 rfl (fun _ hw => Heap.cellw hw (n := 1) rfl rfl)) ?_
  refine ops_y hH8 rfl rfl (yv_nilck rfl) ?_
  refine ops_y hH8 rfl rfl (yv_field T.f89_0 rfl) ?_
  refine ops_y hH8 rfl rfl (yv_field T.f87_0 rfl) ?_
  refine ops_y hH8 rfl rfl (yv_load T.one22 rfl (fun _ hw => bx_cell (hb.now hw (n := 2) rfl) rfl)) ?_
  refine ops_y hH8 rfl rfl (yv_len T.sl22 rfl (h0.now hH8 (n := 2) rfl).is) ?_
  refine op_fn rfl rfl rfl hH8 (c114 ((Heap.rdw T.el22_encI hH8 (n := 0) rfl)) (by omega) (by omega)) (fun u11 w9 lo12 hi13 hH10 hv14 => ?_)
  have hH15 := Heap.toOw hH10 (n := 0) rfl
  refine op_alloc (z := (.slice none 0 0)) (us := [(.slice none 0 0)]) (fun _ => by kernel_rfl) rfl rfl hH15 (fun b16 w17 hH18 => ?_)
  refine op_store (n := 0) (j := 0) (us := [u11]) rfl rfl hH18 rfl T.sz22 (SliceIs.cells (Heap.rdw T.el22_encI hH18 (n := 1) rfl).is) rfl rfl (SliceIs.one (Heap.rdw T.el22_encI hH18 (n := 1) rfl).is) (fun w19 hH20 => ?_)
  refine ops_nil (thn_n (seq (seq (region ?_))))
  refine ops_y hH20 rfl rfl (yv_load T.one22 rfl (fun _ hw => Heap.cellw hw (n := 0) rfl rfl)) ?_
  refine ops_y hH20 rfl rfl (yv_len T.sl22 rfl (Heap.rdw T.el22_encI hH20 (n := 1) rfl).is) ?_
  refine ops_y hH20 rfl rfl (yv_move rfl) (ops_nil (thn_n (block ?_)))
  refine loop (S := Nat × List Int × Value × Nat × Nat) (fun (k, o, v_b3, lo_b3, hi_b3) => [(21, (.int .i64 (k : Int))), (1, (.pointer (some ⟨b1, 0, none⟩))), (2, (.slice none 0 0)), (3, (.pointer (some ⟨b16, 0, none⟩))), (20, (.int .i64 ((List.replicate ((l.length : Int)).toNat ((-1))).length : Int)))]) (fun (k, o, v_b3, lo_b3, hi_b3) w1 => Heap [bx b16 22 [v_b3], ow lo_b3 hi_b3 3 1 encI v_b3 o, ow lo6 hi7 3 1 encI u4 [(-1)], bx b1 73 [(.pointer (some ⟨b, 0, none⟩))], base w] w1 ∧ k ≤ l.length ∧ S.Good l o ∧ S.par l o = true ∧ S.rt l o = S.rt l (S.none1 l.length) ∧ ∀ j : Nat, j < k → 0 ≤ nth o (j : Int)) (fun (k, o, v_b3, lo_b3, hi_b3) => l.length - k) (0, (S.none1 l.length), u11, lo12, hi13) (Sub.cons rfl (Sub.cons rfl (Sub.cons rfl (Sub.cons rfl (Sub.cons rfl (Sub.nil _)))))) ?_ ?_
  · exact ⟨(Heap.recast (n := 1) hH20 rfl (rfl)), by omega, S.none1_good, (S.none1_par hj).2 hnl, rfl, S.all_zero⟩
  · rintro ⟨k, o, v_b3, lo_b3, hi_b3⟩ w21 ⟨hH22, hk, hG, hP, hR, hall⟩
    show Holds _ _ _ _ _ [(21, (.int .i64 (k : Int))), (1, (.pointer (some ⟨b1, 0, none⟩))), (2, (.slice none 0 0)), (3, (.pointer (some ⟨b16, 0, none⟩))), (20, (.int .i64 ((List.replicate ((l.length : Int)).toNat ((-1))).length : Int)))] _ _
    have hol := hG.1
    refine seq (region ?_)
    refine ops_y hH22 rfl rfl (yv_lss rfl rfl) ?_
    refine ops_nil (thn_n (seq ?_))
    by_cases hc23 : (k : Int) < ((List.replicate ((l.length : Int)).toNat ((-1))).length : Int)
    · skip
      refine cond_t rfl (decide_eq_true hc23) ?_
      refine skip (thn_n (seq (block (seq ?_))))
      have hkl : k < l.length := by omega
      refine region (ops_y hH22 rfl rfl (yv_move rfl) (ops_y hH22 rfl rfl (yv_assign rfl) (ops_nil (thn_n (seq (seq (region ?_)))))))
      refine ops_y hH22 rfl rfl (yv_load T.one22 rfl (fun _ hw => Heap.cellw hw (n := 0) rfl rfl)) ?_
      refine ops_y hH22 rfl rfl (yv_move rfl) ?_
      refine ops_y hH22 rfl rfl (yv_index T.sl22 rfl rfl (Heap.rdw T.el22_encI hH22 (n := 1) rfl).is (by omega)) ?_
      refine ops_y hH22 rfl rfl (yv_load T.one3 rfl (fun _ hw => Rd.at (Heap.rdw T.el22_encI hw (n := 1) rfl) (i := (k : Int)) (by omega) (j := 0) rfl)) ?_
      refine ops_y hH22 rfl rfl (yv_geq rfl rfl) ?_
      refine ops_nil (thn_n ?_)
      by_cases hc24 : 0 ≤ (nth o (k : Int))
      · skip
        refine cond_t rfl (decide_eq_true hc24) ?_
        refine exit (thn_x (blk_here (thn_n (region ?_))))
        refine ops_y hH22 rfl rfl (yv_add rfl rfl (by omega)) ?_
        refine ops_y hH22 rfl rfl (yv_move rfl) (ops_nil ?_)
        refine lp_n (k + 1, o, v_b3, lo_b3, hi_b3) (Sub.cons rfl (Sub.cons rfl (Sub.cons rfl (Sub.cons rfl (Sub.cons rfl (Sub.nil _)))))) ?_ ?_
        · exact ⟨hH22, by omega, hG, hP, hR, S.all_snoc hall (by omega)⟩
        · first | (dsimp only; omega) | (show _ < _; omega)
      · skip
        refine cond_f rfl (decide_eq_false hc24) ?_
        refine skip (thn_n (seq ?_))
        have hneg0 : nth o (k : Int) < 0 := by omega
        have hun : S.un o = some k := S.un_some.2 ⟨by omega, hneg0, hall⟩
        obtain ⟨hX0, hX1, hXf, hXa⟩ := S.un_first hj hG hP hun
        have hXf := hXf
        have hfd := fnd_first (p := S.free l o (k : Int)) hX0 hX1 hXf hXa (fun y _ _ => rfl)
        have hrl := S.right_length l.length
        refine region ?_
        refine ops_y hH22 rfl rfl (yv_load T.one73 rfl (fun _ hw => Heap.cellw hw (n := 3) rfl rfl)) ?_
        refine ops_y hH22 rfl rfl (yv_nilck rfl) ?_
        refine ops_y hH22 rfl rfl (yv_field T.f89_0 rfl) ?_
        refine ops_y hH22 rfl rfl (yv_loadA (cs := [v]) T.agg87 rfl rfl (fun _ hw => bx_cells (hb.now hw (n := 4) rfl) (k := 0) rfl)) ?_
        refine ops_y hH22 rfl rfl (yv_move rfl) ?_
        refine op_fn rfl rfl rfl hH22 (c105 (h0.now hH22 (n := 4) rfl) hj (by omega) (by omega)) (fun u27 w25 lo28 hi29 hH26 hv30 => ?_)
        have hH31 := Heap.toOw hH26 (n := 0) rfl
        refine op_alloc (z := (.slice none 0 0)) (us := [(.slice none 0 0)]) (fun _ => by kernel_rfl) rfl rfl hH31 (fun b32 w33 hH34 => ?_)
        refine op_store (n := 0) (j := 0) (us := [u27]) rfl rfl hH34 rfl T.sz22 (SliceIs.cells (Heap.rdw T.el22_encI hH34 (n := 1) rfl).is) rfl rfl (SliceIs.one (Heap.rdw T.el22_encI hH34 (n := 1) rfl).is) (fun w35 hH36 => ?_)
        refine ops_nil (thn_n (seq (region ?_)))
        refine ops_y hH36 rfl rfl (yv_func rfl rfl) ?_
        refine ops_y hH36 rfl rfl (yv_assign rfl) (ops_nil (thn_n (seq (region ?_))))
        refine ops_y hH36 rfl rfl (yv_load T.one73 rfl (fun _ hw => Heap.cellw hw (n := 5) rfl rfl)) ?_
        refine ops_y hH36 rfl rfl (yv_nilck rfl) ?_
        refine ops_y hH36 rfl rfl (yv_field T.f89_0 rfl) ?_
        refine ops_y hH36 rfl rfl (yv_loadA (cs := [v]) T.agg87 rfl rfl (fun _ hw => bx_cells (hb.now hw (n := 6) rfl) (k := 0) rfl)) ?_
        refine op_fn rfl rfl rfl hH36 (c86 (h0.now hH36 (n := 6) rfl) (by omega) (by omega)) (fun u39 w37 lo40 hi41 hH38 hv42 => ?_)
        have hH43 := Heap.toOw hH38 (n := 0) rfl
        refine ops_y hH43 rfl rfl (yv_move rfl) ?_
        have hev46 : Fn Try.prog 85 [u39, (.func (.func 115) #[] #[(.pointer (some ⟨b16, 0, none⟩)), (.pointer (some ⟨b1, 0, none⟩)), (.pointer (some ⟨b32, 0, none⟩))])].toArray _ _ := c85_115 (fi := (k : Int)) (Heap.bxw hH43 (n := 3) rfl) (Heap.rdw T.el22_encI hH43 (n := 4) rfl) (Heap.bxw hH43 (n := 6) rfl) ((hb.now hH43 (n := 7) rfl)) (h0.now hH43 (n := 7) rfl) (Heap.bxw hH43 (n := 1) rfl) (Heap.rdw T.el22_encI hH43 (n := 2) rfl) hj (by omega) (by omega) (by omega) (Heap.rdw T.el22_encI hH43 (n := 0) rfl)
        simp only [hfd] at hev46
        refine op_fnV rfl rfl rfl hH43 (hev46) (fun w44 hH45 => ?_)
        refine ops_y hH45 rfl rfl (yv_move rfl) (ops_y hH45 rfl rfl (yv_extract rfl rfl) (ops_y hH45 rfl rfl (yv_extract rfl rfl) (ops_y hH45 rfl rfl (yv_assign rfl) (ops_y hH45 rfl rfl (yv_assign rfl) (ops_nil (thn_n (seq (region (ops_y hH45 rfl rfl (yv_move rfl) ?_)))))))))
        refine ops_y hH45 rfl rfl (yv_move rfl) (ops_y hH45 rfl rfl (yv_assign rfl) (ops_y hH45 rfl rfl (yv_assign rfl) (ops_nil (thn_n (block ?_)))))
        refine loop (S := Nat × List Int × Value × Nat × Nat) (fun (q, now, v_b3, lo_b3, hi_b3) => [(9, (.int .i64 (S.alt l (k : Int) (S.first l.length (S.free l o (k : Int))) q))), (10, (.int .i64 (S.alt l (k : Int) (S.first l.length (S.free l o (k : Int))) (q + 1)))), (1, (.pointer (some ⟨b1, 0, none⟩))), (2, (.slice none 0 0)), (3, (.pointer (some ⟨b16, 0, none⟩))), (20, (.int .i64 ((List.replicate ((l.length : Int)).toNat ((-1))).length : Int))), (21, (.int .i64 (k : Int)))]) (fun (q, now, v_b3, lo_b3, hi_b3) w1 => Heap [ow lo40 hi41 3 1 encI u39 (S.right l.length), bx b32 22 [u27], ow lo28 hi29 3 1 encI u27 (S.circ l (k : Int)), bx b16 22 [v_b3], ow lo_b3 hi_b3 3 1 encI v_b3 now, ow lo6 hi7 3 1 encI u4 [(-1)], bx b1 73 [(.pointer (some ⟨b, 0, none⟩))], base w] w1 ∧ S.Fl l o (k : Int) (S.first l.length (S.free l o (k : Int))) q now ∧ S.fillN l now (S.alt l (k : Int) (S.first l.length (S.free l o (k : Int))) q) (S.alt l (k : Int) (S.first l.length (S.free l o (k : Int))) (q + 1)) = S.fillN l o (k : Int) (S.first l.length (S.free l o (k : Int)))) (fun (q, now, v_b3, lo_b3, hi_b3) => S.negs now) (0, o, v_b3, lo_b3, hi_b3) (Sub.cons rfl (Sub.cons rfl (Sub.cons rfl (Sub.cons rfl (Sub.cons rfl (Sub.cons rfl (Sub.cons rfl (Sub.nil _)))))))) ?_ ?_
        · exact ⟨hH45, S.Fl.start hol, rfl⟩
        · rintro ⟨q, now, v_b3, lo_b3, hi_b3⟩ w47 ⟨hH48, hF, hE⟩
          show Holds _ _ _ _ _ [(9, (.int .i64 (S.alt l (k : Int) (S.first l.length (S.free l o (k : Int))) q))), (10, (.int .i64 (S.alt l (k : Int) (S.first l.length (S.free l o (k : Int))) (q + 1)))), (1, (.pointer (some ⟨b1, 0, none⟩))), (2, (.slice none 0 0)), (3, (.pointer (some ⟨b16, 0, none⟩))), (20, (.int .i64 ((List.replicate ((l.length : Int)).toNat ((-1))).length : Int))), (21, (.int .i64 (k : Int)))] _ _
          have hnl2 := hF.len
          have haq := hj.alt (i := (k : Int)) (x := (S.first l.length (S.free l o (k : Int)))) (by omega) (by omega) hX0 hX1 q
          have haq1 := hj.alt (i := (k : Int)) (x := (S.first l.length (S.free l o (k : Int)))) (by omega) (by omega) hX0 hX1 (q + 1)
          refine seq (seq (region ?_))
          refine ops_y hH48 rfl rfl (yv_load T.one22 rfl (fun _ hw => Heap.cellw hw (n := 3) rfl rfl)) ?_
          refine ops_y hH48 rfl rfl (yv_move rfl) ?_
          refine ops_y hH48 rfl rfl (yv_index T.sl22 rfl rfl (Heap.rdw T.el22_encI hH48 (n := 4) rfl).is (by omega)) ?_
          refine ops_y hH48 rfl rfl (yv_load T.one3 rfl (fun _ hw => Rd.at (Heap.rdw T.el22_encI hw (n := 4) rfl) (i := (S.alt l (k : Int) (S.first l.length (S.free l o (k : Int))) q)) (by omega) (j := 0) rfl)) ?_
          refine ops_y hH48 rfl rfl (yv_lss rfl rfl) ?_
          refine ops_nil (thn_n ?_)
          by_cases hc49 : (nth now (S.alt l (k : Int) (S.first l.length (S.free l o (k : Int))) q)) < 0
          · skip
            have hneg : nth now (S.alt l (k : Int) (S.first l.length (S.free l o (k : Int))) q) < 0 := by omega
            have hEn : S.fillN l (now.set ((S.alt l (k : Int) (S.first l.length (S.free l o (k : Int))) q)).toNat (S.alt l (k : Int) (S.first l.length (S.free l o (k : Int))) (q + 1))) (S.alt l (k : Int) (S.first l.length (S.free l o (k : Int))) (q + 1)) (S.alt l (k : Int) (S.first l.length (S.free l o (k : Int))) (q + 1 + 1)) = S.fillN l o (k : Int) (S.first l.length (S.free l o (k : Int))) := by rw [← hE, S.fillN_step haq.1 (by omega) hneg haq1.1, ← S.alt_step]
            refine cond_t rfl (decide_eq_true hc49) ?_
            refine skip (thn_n (block (seq (region ?_))))
            refine ops_y hH48 rfl rfl (yv_load T.one22 rfl (fun _ hw => Heap.cellw hw (n := 3) rfl rfl)) ?_
            refine ops_y hH48 rfl rfl (yv_move rfl) (ops_y hH48 rfl rfl (yv_move rfl) ?_)
            refine ops_y hH48 rfl rfl (yv_index T.sl22 rfl rfl (Heap.rdw T.el22_encI hH48 (n := 4) rfl).is (by omega)) ?_
            refine op_setE (n := 4) (i := (S.alt l (k : Int) (S.first l.length (S.free l o (k : Int))) q)) (k := 0) (us := [(.int .i64 (S.alt l (k : Int) (S.first l.length (S.free l o (k : Int))) (q + 1)))]) (z := (S.alt l (k : Int) (S.first l.length (S.free l o (k : Int))) (q + 1))) T.el22_encI rfl rfl hH48 rfl (by omega) T.sz3 rfl rfl rfl (Nat.le_of_ble_eq_true rfl) (fun w50 hH51 => ?_)
            refine ops_nil (thn_n ?_)
            refine region_draw (fun w' => Heap [ow lo40 hi41 3 1 encI u39 (S.right l.length), bx b32 22 [u27], ow lo28 hi29 3 1 encI u27 (S.circ l (k : Int)), bx b16 22 [v_b3], ow lo_b3 hi_b3 3 1 encI v_b3 (now.set (S.alt l (k : Int) (S.first l.length (S.free l o (k : Int))) q).toNat (S.alt l (k : Int) (S.first l.length (S.free l o (k : Int))) (q + 1))), ow lo6 hi7 3 1 encI u4 [(-1)], bx b1 73 [(.pointer (some ⟨b, 0, none⟩))], base w] w') T.mixed (fun w52 hr53 => ?_)
            have hH54 := hH51.redrawn hr53
            refine any_takes [0, 1, 2, 3, 4, 5, 6, 7, 8, 9, 10] (by kernel_rfl) hH54 _ _ _ (by kernel_rfl) ?_
            refine qs_y rfl rfl (yv_move rfl) ?_
            refine qs_y rfl rfl (yv_load T.one73 rfl (fun _ hw => Heap.cellw hw (n := 6) rfl rfl)) ?_
            refine qs_y rfl rfl (yv_nilck rfl) ?_
            refine qs_y rfl rfl (yv_field T.f89_0 rfl) ?_
            refine qs_y rfl rfl (yv_field T.f87_0 rfl) ?_
            refine qs_y rfl rfl (yv_load T.one22 rfl (fun _ hw => bx_cell (hb.now hw (n := 7) rfl) rfl)) ?_
            refine qs_y rfl rfl (yv_move rfl) ?_
            refine qs_y rfl rfl (yv_index T.sl22 rfl rfl (h0.now hH54 (n := 7) rfl).is (by omega)) ?_
            refine qs_y rfl rfl (yv_load T.one3 rfl (fun _ hw => Rd.at (h0.now hw (n := 7) rfl) (i := (S.alt l (k : Int) (S.first l.length (S.free l o (k : Int))) q)) (by omega) (j := 0) rfl)) ?_
            refine qs_y rfl rfl (yv_assign rfl) (qs_y rfl rfl (yv_assign rfl) (qs_nil ?_))
            refine any_done (by kernel_rfl) ?_
            refine blk_n ?_
            refine lp_n ((q + 1), (now.set ((S.alt l (k : Int) (S.first l.length (S.free l o (k : Int))) q)).toNat (S.alt l (k : Int) (S.first l.length (S.free l o (k : Int))) (q + 1))), v_b3, lo_b3, hi_b3) (Sub.cons rfl (Sub.cons (congrArg (fun z => some (Value.int .i64 z)) (S.alt_step q).symm) (Sub.cons rfl (Sub.cons rfl (Sub.cons rfl (Sub.cons rfl (Sub.cons rfl (Sub.nil _)))))))) ?_ ?_
            · exact ⟨(Heap.recast (n := 4) hH54 rfl (rfl)), hF.step hj (by omega) (by omega) hX0 hX1 hneg, hEn⟩
            · (have h9 := S.negs_set (b := now) haq.1 (by omega) hneg haq1.1; dsimp only; omega)
          · skip
            have hst : 0 ≤ nth now (S.alt l (k : Int) (S.first l.length (S.free l o (k : Int))) q) := by omega
            have hnow : now = S.fillN l o (k : Int) (S.first l.length (S.free l o (k : Int))) := by rw [← hE, S.fillN_stop hst]
            have hG2 : S.Good l now := by rw [hnow]; exact S.fill_good hj hG (by omega) (by omega) hX0 hX1 hneg0 hXf
            have hP2 : S.par l now = true := by rw [hnow, S.fill_par hj hG (by omega) (by omega) hX0 hX1 hneg0 hXf]; exact hP
            have hR2 : S.rt l now = S.rt l (S.none1 l.length) := by rw [hnow, ← S.rt_step hj hG hP hun]; exact hR
            have hall2 : ∀ j : Nat, j < k + 1 → 0 ≤ nth now (j : Int) := fun j hjk => S.Stop.keep hj (by omega) (by omega) hX0 hX1 hneg0 ⟨hF, hst⟩ (by omega) (by omega) (by rcases Nat.lt_or_ge j k with h9 | h9; exact .inl (hall j h9); exact .inr (by omega))
            refine cond_f rfl (decide_eq_false hc49) ?_
            refine exit (thn_x (lp_x (blk_here (blk_n (thn_n (region ?_))))))
            refine ops_y hH48 rfl rfl (yv_add rfl rfl (by omega)) ?_
            refine ops_y hH48 rfl rfl (yv_move rfl) (ops_nil ?_)
            have hH55 := (hH48.sub (List.Sublist.cons _ (List.Sublist.cons _ (List.Sublist.cons _ (List.Sublist.refl _)))))
            refine lp_n (k + 1, now, v_b3, lo_b3, hi_b3) (Sub.cons rfl (Sub.cons rfl (Sub.cons rfl (Sub.cons rfl (Sub.cons rfl (Sub.nil _)))))) ?_ ?_
            · exact ⟨hH55, by omega, hG2, hP2, hR2, hall2⟩
            · first | (dsimp only; omega) | (show _ < _; omega)
    · skip
      refine cond_f rfl (decide_eq_false hc23) ?_
      refine exit (thn_x (lp_x (blk_here (thn_n (seq (region ?_))))))
      refine ops_y hH22 rfl rfl (yv_load T.one22 rfl (fun _ hw => Heap.cellw hw (n := 0) rfl rfl)) ?_
      refine ops_y hH22 rfl rfl (yv_assign rfl) (ops_nil (thn_n (ret ?_)))
      have hH56 := (hH22.sub (List.Sublist.cons _ (List.Sublist.cons_cons _ (List.Sublist.cons _ (List.Sublist.cons _ (List.Sublist.refl _))))))
      refine fin (hH56.front (n := 1) rfl) (fun w' hf => (res1 rfl (show RV _ _ _ (.tmp 2) _ from rfl))) (fun w' hf => ?_)
      have hun2 : S.un o = none := S.un_none.2 (fun j hjo => hall j (by omega))
      rw [← hR, S.rt_none hun2]; exact Heap.own hf (n := 0) rfl

end Go.Fip

set_option linter.unusedVariables false
set_option linter.unusedSimpArgs false
set_option linter.unusedSectionVars false
set_option linter.unnecessarySimpa false
namespace Go.Fip
open Go.Proofs Go.RowKit

theorem c42 {v : Value} {l : List Int} {w : World} (h0 : Rd encI 1 v l w) (hn : l.length ≤ 1000000)  :
    Fn Try.prog 42 [v].toArray w (fun u w => ∃ q, u = .tuple #[q, .int .i64 (S.rootR l).2] ∧ Own 3 1 encI q (S.rootR l).1 w) := by
  refine fn_of' (args := [v]) Try.func42 rfl (ent Try.func42 (by kernel_rfl) rfl) rfl rfl (fun hH => ?_)
  refine seq (region (ops_y hH rfl rfl (yv_assign rfl) (ops_y hH rfl rfl (yv_assign rfl) (ops_nil (thn_n (seq ?_))))))
  by_cases hc1 : S.check l 0 = 0
  · skip
    have hc0 : S.check l 0 = 0 := ‹_›
    have hj : S.J l := S.check_iff.1 hc0
    have hl1 := hj.1
    have hl10 := hj.2.1
    refine region (ops_y hH rfl rfl (yv_move rfl) ?_)
    refine op_fn rfl rfl rfl hH (c72 (h0.now hH (n := 0) rfl) (by omega) hj) (fun u4 w2 lo5 hi6 hH3 hv7 => ?_)
    obtain ⟨b8, r9, hu, hb10⟩ := hv7
    subst hu
    obtain ⟨g11, hH12⟩ := Heap.toBench hH3 (n := 0) rfl (fun w' h => by obtain ⟨b1, v1, e, h⟩ := h; cases e; exact ⟨v1, h⟩) hb10 (by omega)
    refine ops_y hH12 rfl rfl (yv_move rfl) (ops_y hH12 rfl rfl (yv_extract rfl rfl) (ops_y hH12 rfl rfl (yv_extract rfl rfl) (ops_y hH12 rfl rfl (yv_assign rfl) (ops_y hH12 rfl rfl (yv_assign rfl) (ops_nil (thn_n (seq (block (seq ?_)))))))))
    refine region (ops_y hH12 rfl rfl (yv_move rfl) ?_)
    refine ops_y hH12 rfl rfl (yv_neq rfl rfl) ?_
    refine ops_y hH12 rfl rfl (yv_assign rfl) (ops_nil (thn_n ?_))
    refine cond_f rfl rfl ?_
    refine seq (region (ops_y hH12 rfl rfl (yv_move rfl) ?_))
    refine op_fnV rfl rfl rfl hH12 (c96 (Heap.bxw hH12 (n := 1) rfl) (Heap.rdw T.el22_encI hH12 (n := 0) rfl) hj) (fun w13 hH14 => ?_)
    refine ops_y hH14 rfl rfl (yv_gtr rfl rfl) ?_
    refine ops_y hH14 rfl rfl (yv_assign rfl) (ops_nil (thn_n ?_))
    by_cases hc15 : 0 < (S.noneL l : Int)
    · skip
      have hnn : ¬ S.noneL l = 0 := by omega
      refine cond_t rfl (decide_eq_true hc15) ?_
      refine seq (region (ops_y hH14 rfl rfl (yv_assign rfl) (ops_y hH14 rfl rfl (yv_assign rfl) (ops_nil (thn_n (ret (blk_r (thn_r ?_))))))))
      have hH16 := (hH14.sub (List.Sublist.cons _ (List.Sublist.cons _ (List.Sublist.refl _))))
      refine fin hH16 (fun w' hf => (res2 rfl (show RV _ _ _ (.tmp 2) _ from rfl) (show RV _ _ _ (.tmp 3) _ from rfl))) (fun w' hf => ?_)
      first | (rw [S.ro1 hcn]; exact ⟨_, rfl, own_nil⟩) | (rw [S.ro2 hc0 hnn]; exact ⟨_, rfl, own_nil⟩) | (rw [S.ro3 hc0 hnl]; exact ⟨_, rfl, Heap.own hf (n := 0) rfl⟩)
    · skip
      have hnl : S.noneL l = 0 := by omega
      refine cond_f rfl (decide_eq_false hc15) ?_
      refine skip (blk_n (thn_n (seq (region (ops_y hH14 rfl rfl (yv_move rfl) ?_)))))
      refine op_fn rfl rfl rfl hH14 (c97 (Heap.bxw hH14 (n := 1) rfl) (Heap.rdw T.el22_encI hH14 (n := 0) rfl) hj hnl) (fun u19 w17 lo20 hi21 hH18 hv22 => ?_)
      have hH23 := Heap.toOw hH18 (n := 0) rfl
      refine ops_y hH23 rfl rfl (yv_assign rfl) (ops_y hH23 rfl rfl (yv_assign rfl) (ops_nil (thn_n (ret ?_))))
      have hH24 := (hH23.sub (List.Sublist.cons_cons _ (List.Sublist.cons _ (List.Sublist.cons _ (List.Sublist.refl _)))))
      refine fin (hH24.front (n := 1) rfl) (fun w' hf => (res2 rfl (show RV _ _ _ (.tmp 2) _ from rfl) (show RV _ _ _ (.tmp 3) _ from rfl))) (fun w' hf => ?_)
      first | (rw [S.ro1 hcn]; exact ⟨_, rfl, own_nil⟩) | (rw [S.ro2 hc0 hnn]; exact ⟨_, rfl, own_nil⟩) | (rw [S.ro3 hc0 hnl]; exact ⟨_, rfl, Heap.own hf (n := 0) rfl⟩)
  · skip
    have hcn : ¬ S.check l 0 = 0 := ‹_›
    refine region (ops_y hH rfl rfl (yv_move rfl) ?_)
    refine op_fnV rfl rfl rfl hH (c72n (h0.now hH (n := 0) rfl) (by omega) hcn) (fun w25 hH26 => ?_)
    refine ops_y hH26 rfl rfl (yv_move rfl) (ops_y hH26 rfl rfl (yv_extract rfl rfl) (ops_y hH26 rfl rfl (yv_extract rfl rfl) (ops_y hH26 rfl rfl (yv_assign rfl) (ops_y hH26 rfl rfl (yv_assign rfl) (ops_nil (thn_n (seq (block (seq ?_)))))))))
    refine region (ops_y hH26 rfl rfl (yv_move rfl) ?_)
    refine ops_y hH26 rfl rfl (yv_neq rfl rfl) ?_
    refine ops_y hH26 rfl rfl (yv_assign rfl) (ops_nil (thn_n ?_))
    have hc27 : ¬ ((S.check l 0) = 0) := hcn
    refine cond_t rfl (not_decide_t hc27) ?_
    refine seq (region (ops_y hH26 rfl rfl (yv_move rfl) (ops_y hH26 rfl rfl (yv_assign rfl) (ops_y hH26 rfl rfl (yv_assign rfl) (ops_nil (thn_n (ret (blk_r (thn_r ?_)))))))))
    refine fin hH26 (fun w' hf => (res2 rfl (show RV _ _ _ (.tmp 2) _ from rfl) (show RV _ _ _ (.tmp 3) _ from rfl))) (fun w' hf => ?_)
    first | (rw [S.ro1 hcn]; exact ⟨_, rfl, own_nil⟩) | (rw [S.ro2 hc0 hnn]; exact ⟨_, rfl, own_nil⟩) | (rw [S.ro3 hc0 hnl]; exact ⟨_, rfl, Heap.own hf (n := 0) rfl⟩)

theorem c117 {v : Value} {l : List Int} {w : World} (h0 : Rd encI 1 v l w) (hn : l.length ≤ 1000000)  :
    Fn Try.prog 117 [v].toArray w (fun u _ => u = .bool (decide (S.Diff l))) := by
  refine fn_of' (args := [v]) Try.func117 rfl (ent Try.func117 (by kernel_rfl) rfl) rfl rfl (fun hH => ?_)
  refine seq (region (ops_y hH rfl rfl (yv_assign rfl) (ops_nil (thn_n (seq (seq (region (ops_y hH rfl rfl (yv_assign rfl) (ops_nil ?_)))))))))
  refine thn_n (block ?_)
  refine loop (S := Nat) (fun i => [(3, (.int .i64 (i : Int))), (0, v)]) (fun i w1 => Heap [base w] w1 ∧ i ≤ l.length ∧ ∀ i2, i2 < i → ∀ k, k < i2 → ¬ (nth l (k : Int) = nth l (i2 : Int) ∧ 0 ≤ nth l (i2 : Int))) (fun i => l.length - i) (0) (Sub.cons rfl (Sub.cons rfl (Sub.nil _))) ?_ ?_
  · exact ⟨hH, by omega, S.all_zero⟩
  · rintro i w1 ⟨hH2, hi, hall2⟩
    show Holds _ _ _ _ _ [(3, (.int .i64 (i : Int))), (0, v)] _ _
    refine seq (seq (region (ops_y hH2 rfl rfl (yv_move rfl) (ops_y hH2 rfl rfl (yv_move rfl) ?_))))
    refine ops_y hH2 rfl rfl (yv_len T.sl22 rfl (h0.now hH2 (n := 0) rfl).is) ?_
    refine ops_y hH2 rfl rfl (yv_lss rfl rfl) ?_
    refine ops_nil (thn_n ?_)
    by_cases hc3 : (i : Int) < (l.length : Int)
    · skip
      refine cond_t rfl (decide_eq_true hc3) ?_
      refine skip (thn_n (seq (block (seq (region (ops_y hH2 rfl rfl (yv_assign rfl) (ops_nil (thn_n (block ?_)))))))))
      refine loop (S := Nat) (fun m => [(4, (.int .i64 (m : Int))), (0, v), (3, (.int .i64 (i : Int)))]) (fun m w1 => Heap [base w] w1 ∧ m ≤ i ∧ ∀ k, k < m → ¬ (nth l (k : Int) = nth l (i : Int) ∧ 0 ≤ nth l (i : Int))) (fun m => i - m) (0) (Sub.cons rfl (Sub.cons rfl (Sub.cons rfl (Sub.nil _)))) ?_ ?_
      · exact ⟨hH2, by omega, S.all_zero⟩
      · rintro m w4 ⟨hH5, hm, hall3⟩
        show Holds _ _ _ _ _ [(4, (.int .i64 (m : Int))), (0, v), (3, (.int .i64 (i : Int)))] _ _
        refine seq (seq (region (ops_y hH5 rfl rfl (yv_move rfl) (ops_y hH5 rfl rfl (yv_move rfl) ?_))))
        refine ops_y hH5 rfl rfl (yv_lss rfl rfl) ?_
        refine ops_nil (thn_n ?_)
        by_cases hc6 : (m : Int) < (i : Int)
        · skip
          refine cond_t rfl (decide_eq_true hc6) ?_
          refine skip (thn_n (seq (block (seq ?_))))
          refine region_draw (fun w' => Heap [base w] w') T.mixed (fun w7 hr8 => ?_)
          have hH9 := hH5.redrawn hr8
          refine any_takes [0, 1, 2, 3, 4, 5, 6, 7, 8, 9] (by kernel_rfl) hH9 _ _ _ (by kernel_rfl) ?_
          refine qs_y rfl rfl (yv_move rfl) (qs_y rfl rfl (yv_move rfl) ?_)
          refine qs_y rfl rfl (yv_index T.sl22 rfl rfl (h0.now hH9 (n := 0) rfl).is (by omega)) ?_
          refine qs_y rfl rfl (yv_load T.one3 rfl (fun _ hw => Rd.at (h0.now hw (n := 0) rfl) (i := (m : Int)) (by omega) (j := 0) rfl)) ?_
          refine qs_y rfl rfl (yv_move rfl) (qs_y rfl rfl (yv_move rfl) ?_)
          refine qs_y rfl rfl (yv_index T.sl22 rfl rfl (h0.now hH9 (n := 0) rfl).is (by omega)) ?_
          refine qs_y rfl rfl (yv_load T.one3 rfl (fun _ hw => Rd.at (h0.now hw (n := 0) rfl) (i := (i : Int)) (by omega) (j := 0) rfl)) ?_
          refine qs_y rfl rfl (yv_eql rfl rfl) ?_
          refine qs_y rfl rfl (yv_move rfl) (qs_nil ?_)
          by_cases hc10 : (nth l (m : Int)) = (nth l (i : Int))
          · skip
            refine any_takes [10, 11, 12, 13, 14, 15] (by kernel_rfl) hH9 _ _ _ (by kernel_rfl) ?_
            refine qs_yes rfl rfl rfl (decide_eq_true hc10) rfl (yv_move rfl) ?_
            refine qs_yes rfl rfl rfl (decide_eq_true hc10) rfl (yv_move rfl) ?_
            refine qs_yes rfl rfl rfl (decide_eq_true hc10) rfl (yv_index T.sl22 rfl rfl (h0.now hH9 (n := 0) rfl).is (by omega)) ?_
            refine qs_yes rfl rfl rfl (decide_eq_true hc10) rfl (yv_load T.one3 rfl (fun _ hw => Rd.at (h0.now hw (n := 0) rfl) (i := (i : Int)) (by omega) (j := 0) rfl)) ?_
            refine qs_yes rfl rfl rfl (decide_eq_true hc10) rfl (yv_geq rfl rfl) ?_
            refine qs_y rfl rfl (yv_pick_t rfl (decide_eq_true hc10) rfl) ?_
            refine qs_nil ?_
            refine any_done (by kernel_rfl) ?_
            refine thn_n ?_
            by_cases hc11 : 0 ≤ (nth l (i : Int))
            · skip
              refine cond_t rfl (decide_eq_true hc11) ?_
              refine seq (region (ops_y hH9 rfl rfl (yv_assign rfl) (ops_nil (thn_n (ret (blk_r (thn_r (lp_r (blk_r ?_)))))))))
              refine blk_r (thn_r (lp_r (blk_r (thn_r ?_))))
              refine fin hH9 (fun w' hf => (res1 rfl (show RV _ _ _ (.tmp 2) _ from rfl))) (fun w' hf => ?_)
              first | exact congrArg Value.bool (decide_eq_false (fun h => h i (by omega) m (by omega) ⟨by omega, by omega⟩)).symm | exact congrArg Value.bool (decide_eq_true (fun i2 h2 => hall2 i2 (by omega))).symm
            · skip
              refine cond_f rfl (decide_eq_false hc11) ?_
              refine skip (blk_n (thn_n (region (ops_y hH9 rfl rfl (yv_move rfl) ?_))))
              refine ops_y hH9 rfl rfl (yv_add rfl rfl (by omega)) ?_
              refine ops_y hH9 rfl rfl (yv_assign rfl) (ops_nil ?_)
              refine lp_n (m + 1) (Sub.cons rfl (Sub.cons rfl (Sub.cons rfl (Sub.nil _)))) ?_ ?_
              · exact ⟨hH9, by omega, S.all_snoc hall3 (by omega)⟩
              · first | (dsimp only; omega) | (show _ < _; omega)
          · skip
            refine any_takes [10, 11, 12, 13, 14, 15] (by kernel_rfl) hH9 _ _ _ (by kernel_rfl) ?_
            refine qs_no rfl rfl rfl (decide_eq_false hc10) rfl ?_
            refine qs_no rfl rfl rfl (decide_eq_false hc10) rfl ?_
            refine qs_no rfl rfl rfl (decide_eq_false hc10) rfl ?_
            refine qs_no rfl rfl rfl (decide_eq_false hc10) rfl ?_
            refine qs_no rfl rfl rfl (decide_eq_false hc10) rfl ?_
            refine qs_y rfl rfl (yv_pick_f rfl (decide_eq_false hc10) rfl) ?_
            refine qs_nil ?_
            refine any_done (by kernel_rfl) ?_
            refine thn_n ?_
            refine cond_f rfl rfl ?_
            refine skip (blk_n (thn_n (region (ops_y hH9 rfl rfl (yv_move rfl) ?_))))
            refine ops_y hH9 rfl rfl (yv_add rfl rfl (by omega)) ?_
            refine ops_y hH9 rfl rfl (yv_assign rfl) (ops_nil ?_)
            refine lp_n (m + 1) (Sub.cons rfl (Sub.cons rfl (Sub.cons rfl (Sub.nil _)))) ?_ ?_
            · exact ⟨hH9, by omega, S.all_snoc hall3 (by omega)⟩
            · first | (dsimp only; omega) | (show _ < _; omega)
        · skip
          refine cond_f rfl (decide_eq_false hc6) ?_
          refine exit (thn_x (lp_x (blk_here (blk_n (thn_n (region (ops_y hH5 rfl rfl (yv_move rfl) ?_)))))))
          refine ops_y hH5 rfl rfl (yv_add rfl rfl (by omega)) ?_
          refine ops_y hH5 rfl rfl (yv_assign rfl) (ops_nil ?_)
          refine lp_n (i + 1) (Sub.cons rfl (Sub.cons rfl (Sub.nil _))) ?_ ?_
          · exact ⟨hH5, by omega, S.all_snoc hall2 (fun k hk => hall3 k (by omega))⟩
          · first | (dsimp only; omega) | (show _ < _; omega)
    · skip
      refine cond_f rfl (decide_eq_false hc3) ?_
      refine exit (thn_x (lp_x (blk_here (thn_n (seq (region (ops_y hH2 rfl rfl (yv_assign rfl) (ops_nil (thn_n ?_)))))))))
      refine ret ?_
      refine fin hH2 (fun w' hf => (res1 rfl (show RV _ _ _ (.tmp 2) _ from rfl))) (fun w' hf => ?_)
      first | exact congrArg Value.bool (decide_eq_false (fun h => h i (by omega) m (by omega) ⟨by omega, by omega⟩)).symm | exact congrArg Value.bool (decide_eq_true (fun i2 h2 => hall2 i2 (by omega))).symm

theorem c98n {v vb : Value} {l b : List Int} {w : World} (h0 : Rd encI 1 v l w) (hb0 : Rd encI 1 vb b w) (hj : S.J l) (hbl : b.length = l.length) (hu : S.un b = none)  :
    Fn Try.prog 98 [v, vb].toArray w (fun u _ => u = vb) := by
  refine fn_of' (args := [v, vb]) Try.func98 rfl (ent Try.func98 (by kernel_rfl) rfl) rfl rfl (fun hH => ?_)
  have hl10 := hj.2.1
  have hua := S.un_none.1 hu
  refine seq (region (ops_y hH rfl rfl (yv_assign rfl) (ops_nil (thn_n (seq (region (ops_y hH rfl rfl (yv_assign rfl) (ops_nil (thn_n ?_)))))))))
  refine seq (block ?_)
  refine loop (S := Nat) (fun k => [(5, (.int .i64 (k : Int))), (0, v), (1, vb), (4, (.slice none 0 0))]) (fun k w1 => Heap [base w] w1 ∧ k ≤ l.length) (fun k => l.length - k) (0) (Sub.cons rfl (Sub.cons rfl (Sub.cons rfl (Sub.cons rfl (Sub.nil _))))) ?_ ?_
  · exact ⟨hH, by omega⟩
  · rintro k w1 ⟨hH2, hk⟩
    show Holds _ _ _ _ _ [(5, (.int .i64 (k : Int))), (0, v), (1, vb), (4, (.slice none 0 0))] _ _
    have huk : k < b.length → 0 ≤ nth b (k : Int) := hua k
    refine seq (seq (region (ops_y hH2 rfl rfl (yv_move rfl) (ops_y hH2 rfl rfl (yv_move rfl) ?_))))
    refine ops_y hH2 rfl rfl (yv_len T.sl22 rfl (h0.now hH2 (n := 0) rfl).is) ?_
    refine ops_y hH2 rfl rfl (yv_lss rfl rfl) ?_
    refine ops_y hH2 rfl rfl (yv_move rfl) ?_
    by_cases hc3 : (k : Int) < (l.length : Int)
    · skip
      refine guard_yes rfl rfl (decide_eq_true hc3) ?_
      refine ops_y hH2 rfl rfl (yv_move rfl) ?_
      refine guard_yes rfl rfl (decide_eq_true hc3) ?_
      refine ops_y hH2 rfl rfl (yv_move rfl) ?_
      refine guard_yes rfl rfl (decide_eq_true hc3) ?_
      refine ops_y hH2 rfl rfl (yv_index T.sl22 rfl rfl (hb0.now hH2 (n := 0) rfl).is (by omega)) ?_
      refine guard_yes rfl rfl (decide_eq_true hc3) ?_
      refine ops_y hH2 rfl rfl (yv_load T.one3 rfl (fun _ hw => Rd.at (hb0.now hw (n := 0) rfl) (i := (k : Int)) (by omega) (j := 0) rfl)) ?_
      refine guard_yes rfl rfl (decide_eq_true hc3) ?_
      refine ops_y hH2 rfl rfl (yv_geq rfl rfl) ?_
      refine ops_y hH2 rfl rfl (yv_pick_t rfl (decide_eq_true hc3) rfl) ?_
      refine ops_nil (thn_n ?_)
      by_cases hc4 : 0 ≤ (nth b (k : Int))
      · skip
        refine cond_t rfl (decide_eq_true hc4) ?_
        refine skip (thn_n (block (region (ops_y hH2 rfl rfl (yv_move rfl) ?_))))
        refine ops_y hH2 rfl rfl (yv_add rfl rfl (by omega)) ?_
        refine ops_y hH2 rfl rfl (yv_assign rfl) (ops_nil (blk_n ?_))
        refine lp_n (k + 1) (Sub.cons rfl (Sub.cons rfl (Sub.cons rfl (Sub.cons rfl (Sub.nil _))))) ?_ ?_
        · exact ⟨hH2, by omega⟩
        · first | (dsimp only; omega) | (show _ < _; omega)
      · skip
        refine cond_f rfl (decide_eq_false hc4) ?_
        refine exit (thn_x (lp_x (blk_here (thn_n (seq (seq (region (ops_y hH2 rfl rfl (yv_move rfl) (ops_y hH2 rfl rfl (yv_move rfl) ?_)))))))))
        refine ops_y hH2 rfl rfl (yv_len T.sl22 rfl (h0.now hH2 (n := 0) rfl).is) ?_
        refine ops_y hH2 rfl rfl (yv_eql rfl rfl) ?_
        refine ops_nil (thn_n ?_)
        have hc5 : (k : Int) = (l.length : Int) := by omega
        refine cond_t rfl (decide_eq_true hc5) ?_
        refine seq (region (ops_y hH2 rfl rfl (yv_move rfl) (ops_y hH2 rfl rfl (yv_assign rfl) (ops_nil (thn_n (ret (thn_r ?_)))))))
        refine fin hH2 (fun w' hf => (res1 rfl (show RV _ _ _ (.tmp 4) _ from rfl))) (fun w' hf => ?_)
        rfl
    · skip
      refine guard_no rfl rfl (decide_eq_false hc3) rfl ?_
      refine guard_no rfl rfl (decide_eq_false hc3) rfl ?_
      refine guard_no rfl rfl (decide_eq_false hc3) rfl ?_
      refine guard_no rfl rfl (decide_eq_false hc3) rfl ?_
      refine guard_no rfl rfl (decide_eq_false hc3) rfl ?_
      refine ops_y hH2 rfl rfl (yv_pick_f rfl (decide_eq_false hc3) rfl) ?_
      refine ops_nil (thn_n ?_)
      refine cond_f rfl rfl ?_
      refine exit (thn_x (lp_x (blk_here (thn_n (seq (seq (region (ops_y hH2 rfl rfl (yv_move rfl) (ops_y hH2 rfl rfl (yv_move rfl) ?_)))))))))
      refine ops_y hH2 rfl rfl (yv_len T.sl22 rfl (h0.now hH2 (n := 0) rfl).is) ?_
      refine ops_y hH2 rfl rfl (yv_eql rfl rfl) ?_
      refine ops_nil (thn_n ?_)
      have hc6 : (k : Int) = (l.length : Int) := by omega
      refine cond_t rfl (decide_eq_true hc6) ?_
      refine seq (region (ops_y hH2 rfl rfl (yv_move rfl) (ops_y hH2 rfl rfl (yv_assign rfl) (ops_nil (thn_n (ret (thn_r ?_)))))))
      refine fin hH2 (fun w' hf => (res1 rfl (show RV _ _ _ (.tmp 4) _ from rfl))) (fun w' hf => ?_)
      rfl

theorem c98s {v vb : Value} {l b : List Int} {w : World} (h0 : Rd encI 1 v l w) (hb0 : Rd encI 1 vb b w) (hj : S.J l) (hbl : b.length = l.length) {i : Nat} (hu : S.un b = some i) (hG : S.Good l b) (ih : ∀ (w2 : World) (v2 : Value) (b2 : List Int) (j : Nat), S.negs b2 < S.negs b → Rd encI 1 v l w2 → Rd encI 1 v2 b2 w2 → S.Good l b2 → S.un b2 = some j → Fn Try.prog 98 [v, v2].toArray w2 (fun u w => Rd encI 1 u (S.rootB l b2) w))  :
    Fn Try.prog 98 [v, vb].toArray w (fun u w => Rd encI 1 u (S.rootB l b) w) := by
  refine fn_of' (args := [v, vb]) Try.func98 rfl (ent Try.func98 (by kernel_rfl) rfl) rfl rfl (fun hH => ?_)
  have hl10 := hj.2.1
  obtain ⟨hib, hneg0, hua⟩ := S.un_some.1 hu
  refine seq (region (ops_y hH rfl rfl (yv_assign rfl) (ops_nil (thn_n (seq (region (ops_y hH rfl rfl (yv_assign rfl) (ops_nil (thn_n ?_)))))))))
  refine seq (block ?_)
  refine loop (S := Nat) (fun k => [(5, (.int .i64 (k : Int))), (0, v), (1, vb), (4, (.slice none 0 0))]) (fun k w1 => Heap [base w] w1 ∧ k ≤ i) (fun k => l.length - k) (0) (Sub.cons rfl (Sub.cons rfl (Sub.cons rfl (Sub.cons rfl (Sub.nil _))))) ?_ ?_
  · exact ⟨hH, by omega⟩
  · rintro k w1 ⟨hH2, hk⟩
    show Holds _ _ _ _ _ [(5, (.int .i64 (k : Int))), (0, v), (1, vb), (4, (.slice none 0 0))] _ _
    have huk : k < i → 0 ≤ nth b (k : Int) := hua k
    refine seq (seq (region (ops_y hH2 rfl rfl (yv_move rfl) (ops_y hH2 rfl rfl (yv_move rfl) ?_))))
    refine ops_y hH2 rfl rfl (yv_len T.sl22 rfl (h0.now hH2 (n := 0) rfl).is) ?_
    refine ops_y hH2 rfl rfl (yv_lss rfl rfl) ?_
    refine ops_y hH2 rfl rfl (yv_move rfl) ?_
    by_cases hc3 : (k : Int) < (l.length : Int)
    · skip
      refine guard_yes rfl rfl (decide_eq_true hc3) ?_
      refine ops_y hH2 rfl rfl (yv_move rfl) ?_
      refine guard_yes rfl rfl (decide_eq_true hc3) ?_
      refine ops_y hH2 rfl rfl (yv_move rfl) ?_
      refine guard_yes rfl rfl (decide_eq_true hc3) ?_
      refine ops_y hH2 rfl rfl (yv_index T.sl22 rfl rfl (hb0.now hH2 (n := 0) rfl).is (by omega)) ?_
      refine guard_yes rfl rfl (decide_eq_true hc3) ?_
      refine ops_y hH2 rfl rfl (yv_load T.one3 rfl (fun _ hw => Rd.at (hb0.now hw (n := 0) rfl) (i := (k : Int)) (by omega) (j := 0) rfl)) ?_
      refine guard_yes rfl rfl (decide_eq_true hc3) ?_
      refine ops_y hH2 rfl rfl (yv_geq rfl rfl) ?_
      refine ops_y hH2 rfl rfl (yv_pick_t rfl (decide_eq_true hc3) rfl) ?_
      refine ops_nil (thn_n ?_)
      by_cases hc4 : 0 ≤ (nth b (k : Int))
      · skip
        refine cond_t rfl (decide_eq_true hc4) ?_
        refine skip (thn_n (block (region (ops_y hH2 rfl rfl (yv_move rfl) ?_))))
        refine ops_y hH2 rfl rfl (yv_add rfl rfl (by omega)) ?_
        refine ops_y hH2 rfl rfl (yv_assign rfl) (ops_nil (blk_n ?_))
        refine lp_n (k + 1) (Sub.cons rfl (Sub.cons rfl (Sub.cons rfl (Sub.cons rfl (Sub.nil _))))) ?_ ?_
        · exact ⟨hH2, (by rcases Nat.lt_or_ge k i with h9 | h9; exact h9; (have e9 : k = i := by omega); rw [← e9] at hneg0; omega)⟩
        · first | (dsimp only; omega) | (show _ < _; omega)
      · skip
        have hki : k = i := Nat.le_antisymm hk (Nat.le_of_not_lt (fun h9 => by have h8 := huk h9; omega))
        refine cond_f rfl (decide_eq_false hc4) ?_
        refine exit (thn_x (lp_x (blk_here (thn_n (seq (seq ?_))))))
        have hki : k = i := by rcases Nat.lt_or_ge k i with h9 | h9; (have h8 := huk h9; omega); omega
        refine region (ops_y hH2 rfl rfl (yv_move rfl) (ops_y hH2 rfl rfl (yv_move rfl) ?_))
        refine ops_y hH2 rfl rfl (yv_len T.sl22 rfl (h0.now hH2 (n := 0) rfl).is) ?_
        refine ops_y hH2 rfl rfl (yv_eql rfl rfl) ?_
        refine ops_nil (thn_n ?_)
        have hc5 : ¬ ((k : Int) = (l.length : Int)) := by omega
        refine cond_f rfl (decide_eq_false hc5) ?_
        refine skip (thn_n (seq (seq (region (ops_y hH2 rfl rfl (yv_assign rfl) (ops_nil (thn_n (block ?_))))))))
        refine loop (S := Nat) (fun x => [(6, (.int .i64 (x : Int))), (0, v), (1, vb), (5, (.int .i64 (k : Int)))]) (fun x w1 => Heap [base w] w1 ∧ x ≤ l.length ∧ (S.par l b = true → ∀ y : Nat, y < x → S.free l b (i : Int) (y : Int) = false)) (fun x => l.length - x) (0) (Sub.cons rfl (Sub.cons rfl (Sub.cons rfl (Sub.cons rfl (Sub.nil _))))) ?_ ?_
        · exact ⟨hH2, by omega, fun _ => S.all_zero⟩
        · rintro x w6 ⟨hH7, hx, hfx⟩
          show Holds _ _ _ _ _ [(6, (.int .i64 (x : Int))), (0, v), (1, vb), (5, (.int .i64 (k : Int)))] _ _
          refine seq (seq (region (ops_y hH7 rfl rfl (yv_move rfl) (ops_y hH7 rfl rfl (yv_move rfl) ?_))))
          refine ops_y hH7 rfl rfl (yv_len T.sl22 rfl (h0.now hH7 (n := 0) rfl).is) ?_
          refine ops_y hH7 rfl rfl (yv_lss rfl rfl) ?_
          refine ops_nil (thn_n ?_)
          by_cases hc8 : (x : Int) < (l.length : Int)
          · skip
            refine cond_t rfl (decide_eq_true hc8) ?_
            refine skip (thn_n (seq (block (seq (region (ops_y hH7 rfl rfl (yv_move rfl) ?_))))))
            refine op_fn rfl rfl rfl hH7 (c60 (hb0.now hH7 (n := 0) rfl) (by omega)) (fun u11 w9 lo12 hi13 hH10 hv14 => ?_)
            have hH15 := Heap.toOw hH10 (n := 0) rfl
            refine ops_y hH15 rfl rfl (yv_assign rfl) (ops_nil (thn_n (seq (region (ops_y hH15 rfl rfl (yv_move rfl) (ops_y hH15 rfl rfl (yv_move rfl) (ops_y hH15 rfl rfl (yv_assign rfl) (ops_y hH15 rfl rfl (yv_assign rfl) (ops_nil ?_)))))))))
            refine thn_n (seq (block ?_))
            refine loop (S := Nat × List Int × Value × Nat × Nat) (fun (q, now, v_7, lo_7, hi_7) => [(8, (.int .i64 (S.alt l (i : Int) (x : Int) q))), (9, (.int .i64 (S.alt l (i : Int) (x : Int) (q + 1)))), (7, v_7), (0, v), (1, vb), (5, (.int .i64 (k : Int))), (6, (.int .i64 (x : Int)))]) (fun (q, now, v_7, lo_7, hi_7) w1 => Heap [ow lo_7 hi_7 3 1 encI v_7 now, base w] w1 ∧ S.Fl l b (i : Int) (x : Int) q now ∧ S.fillN l now (S.alt l (i : Int) (x : Int) q) (S.alt l (i : Int) (x : Int) (q + 1)) = S.fillN l b (i : Int) (x : Int)) (fun (q, now, v_7, lo_7, hi_7) => S.negs now) (0, b, u11, lo12, hi13) (Sub.cons (congrArg (fun z => some (Value.int .i64 z)) (show (k : Int) = S.alt l (i : Int) (x : Int) 0 by rw [S.alt_zero]; omega)) (Sub.cons rfl (Sub.cons rfl (Sub.cons rfl (Sub.cons rfl (Sub.cons rfl (Sub.cons rfl (Sub.nil _)))))))) ?_ ?_
            · exact ⟨hH15, S.Fl.start hbl, rfl⟩
            · rintro ⟨q, now, v_7, lo_7, hi_7⟩ w16 ⟨hH17, hF, hE⟩
              show Holds _ _ _ _ _ [(8, (.int .i64 (S.alt l (i : Int) (x : Int) q))), (9, (.int .i64 (S.alt l (i : Int) (x : Int) (q + 1)))), (7, v_7), (0, v), (1, vb), (5, (.int .i64 (k : Int))), (6, (.int .i64 (x : Int)))] _ _
              have hnl2 := hF.len
              have haq := hj.alt (i := (i : Int)) (x := (x : Int)) (by omega) (by omega) (by omega) (by omega) q
              have haq1 := hj.alt (i := (i : Int)) (x := (x : Int)) (by omega) (by omega) (by omega) (by omega) (q + 1)
              refine seq (seq (region (ops_y hH17 rfl rfl (yv_move rfl) (ops_y hH17 rfl rfl (yv_move rfl) ?_))))
              refine ops_y hH17 rfl rfl (yv_index T.sl22 rfl rfl (Heap.rdw T.el22_encI hH17 (n := 0) rfl).is (by omega)) ?_
              refine ops_y hH17 rfl rfl (yv_load T.one3 rfl (fun _ hw => Rd.at (Heap.rdw T.el22_encI hw (n := 0) rfl) (i := (S.alt l (i : Int) (x : Int) q)) (by omega) (j := 0) rfl)) ?_
              refine ops_y hH17 rfl rfl (yv_lss rfl rfl) ?_
              refine ops_nil (thn_n ?_)
              by_cases hc18 : (nth now (S.alt l (i : Int) (x : Int) q)) < 0
              · skip
                have hneg : nth now (S.alt l (i : Int) (x : Int) q) < 0 := by omega
                have hEn : S.fillN l (now.set ((S.alt l (i : Int) (x : Int) q)).toNat (S.alt l (i : Int) (x : Int) (q + 1))) (S.alt l (i : Int) (x : Int) (q + 1)) (S.alt l (i : Int) (x : Int) (q + 1 + 1)) = S.fillN l b (i : Int) (x : Int) := by rw [← hE, S.fillN_step haq.1 (by omega) hneg haq1.1, ← S.alt_step]
                refine cond_t rfl (decide_eq_true hc18) ?_
                refine skip (thn_n (block (seq (region (ops_y hH17 rfl rfl (yv_move rfl) (ops_y hH17 rfl rfl (yv_move rfl) (ops_y hH17 rfl rfl (yv_move rfl) ?_)))))))
                refine ops_y hH17 rfl rfl (yv_index T.sl22 rfl rfl (Heap.rdw T.el22_encI hH17 (n := 0) rfl).is (by omega)) ?_
                refine op_setE (n := 0) (i := (S.alt l (i : Int) (x : Int) q)) (k := 0) (us := [(.int .i64 (S.alt l (i : Int) (x : Int) (q + 1)))]) (z := (S.alt l (i : Int) (x : Int) (q + 1))) T.el22_encI rfl rfl hH17 rfl (by omega) T.sz3 rfl rfl rfl (Nat.le_of_ble_eq_true rfl) (fun w19 hH20 => ?_)
                refine ops_nil (thn_n ?_)
                refine region_draw (fun w' => Heap [ow lo_7 hi_7 3 1 encI v_7 (now.set (S.alt l (i : Int) (x : Int) q).toNat (S.alt l (i : Int) (x : Int) (q + 1))), base w] w') T.mixed (fun w21 hr22 => ?_)
                have hH23 := hH20.redrawn hr22
                refine any_takes [0, 1, 2, 3, 4, 5, 6] (by kernel_rfl) hH23 _ _ _ (by kernel_rfl) ?_
                refine qs_y rfl rfl (yv_move rfl) (qs_y rfl rfl (yv_move rfl) (qs_y rfl rfl (yv_move rfl) ?_))
                refine qs_y rfl rfl (yv_index T.sl22 rfl rfl (h0.now hH23 (n := 1) rfl).is (by omega)) ?_
                refine qs_y rfl rfl (yv_load T.one3 rfl (fun _ hw => Rd.at (h0.now hw (n := 1) rfl) (i := (S.alt l (i : Int) (x : Int) q)) (by omega) (j := 0) rfl)) ?_
                refine qs_y rfl rfl (yv_assign rfl) (qs_y rfl rfl (yv_assign rfl) (qs_nil ?_))
                refine any_done (by kernel_rfl) ?_
                refine blk_n ?_
                refine lp_n ((q + 1), (now.set ((S.alt l (i : Int) (x : Int) q)).toNat (S.alt l (i : Int) (x : Int) (q + 1))), v_7, lo_7, hi_7) (Sub.cons rfl (Sub.cons (congrArg (fun z => some (Value.int .i64 z)) (S.alt_step q).symm) (Sub.cons rfl (Sub.cons rfl (Sub.cons rfl (Sub.cons rfl (Sub.cons rfl (Sub.nil _)))))))) ?_ ?_
                · exact ⟨(Heap.recast (n := 0) hH23 rfl (rfl)), hF.step hj (by omega) (by omega) (by omega) (by omega) hneg, hEn⟩
                · (have h9 := S.negs_set (b := now) haq.1 (by omega) hneg haq1.1; dsimp only; omega)
              · skip
                have hst : 0 ≤ nth now (S.alt l (i : Int) (x : Int) q) := by omega
                have hS : S.Stop l b (i : Int) (x : Int) q now := ⟨hF, hst⟩
                have hnow : now = S.fillN l b (i : Int) (x : Int) := by rw [← hE, S.fillN_stop hst]
                have hni := hS.iff hj hG (by omega) (by omega) (by omega) (by omega) hneg0
                refine cond_f rfl (decide_eq_false hc18) ?_
                refine exit (thn_x (lp_x (blk_here (thn_n (seq (seq ?_))))))
                by_cases hc24 : S.free l b (i : Int) (x : Int) = true
                · skip
                  have hfr : S.free l b (i : Int) (x : Int) = true := ‹_›
                  have hnc := hni.2 hfr
                  have hG2 : S.Good l now := by rw [hnow]; exact S.fill_good hj hG (by omega) (by omega) (by omega) (by omega) hneg0 hfr
                  have hlt : S.negs now < S.negs b := by rw [hnow]; exact S.fill_negs hj hG (by omega) (by omega) (by omega) (by omega) hneg0 hfr
                  have hPe : S.par l now = S.par l b := by rw [hnow]; exact S.fill_par hj hG (by omega) (by omega) (by omega) (by omega) hneg0 hfr
                  refine region (ops_y hH17 rfl rfl (yv_move rfl) (ops_y hH17 rfl rfl (yv_move rfl) ?_))
                  refine ops_y hH17 rfl rfl (yv_index T.sl22 rfl rfl (Heap.rdw T.el22_encI hH17 (n := 0) rfl).is (by omega)) ?_
                  refine ops_y hH17 rfl rfl (yv_load T.one3 rfl (fun _ hw => Rd.at (Heap.rdw T.el22_encI hw (n := 0) rfl) (i := (S.alt l (i : Int) (x : Int) q)) (by omega) (j := 0) rfl)) ?_
                  refine ops_y hH17 rfl rfl (yv_move rfl) ?_
                  refine ops_y hH17 rfl rfl (yv_neq rfl rfl) ?_
                  refine ops_y hH17 rfl rfl (yv_move rfl) ?_
                  have hc25 : ¬ (¬ ((nth now (S.alt l (i : Int) (x : Int) q)) = (S.alt l (i : Int) (x : Int) (q + 1)))) := fun h => h hnc.1
                  refine guard_yes rfl rfl (not_decide_f hc25) ?_
                  refine ops_y hH17 rfl rfl (yv_move rfl) ?_
                  refine guard_yes rfl rfl (not_decide_f hc25) ?_
                  refine op_fnV rfl rfl rfl hH17 (c117 (Heap.rdw T.el22_encI hH17 (n := 0) rfl) (by omega)) (fun w26 hH27 => ?_)
                  refine guard_yes rfl rfl (not_decide_f hc25) ?_
                  refine ops_y hH27 rfl rfl (yv_not rfl) ?_
                  refine ops_y hH27 rfl rfl (yv_pick_f rfl (not_decide_f hc25) rfl) ?_
                  refine ops_nil (thn_n ?_)
                  have hc28 : ¬ (¬ (S.Diff now)) := fun h => h hnc.2
                  refine cond_f rfl (not_decide_f hc28) ?_
                  refine skip (thn_n (seq ?_))
                  by_cases hc29 : S.un now = none
                  · skip
                    have hun2 : S.un now = none := ‹_›
                    have hp2 : S.par l b = true := by rw [← hPe]; exact S.par_full hj hnl2 hun2
                    have hrt := S.rt_at hj hG hp2 hu (by omega) (by omega) hfr (fun y y0 y1 => by have h9 := hfx hp2 y.toNat (by omega); rwa [Int.toNat_of_nonneg y0] at h9)
                    rw [← hnow, S.rt_none hun2] at hrt
                    refine region (ops_y hH27 rfl rfl (yv_move rfl) (ops_y hH27 rfl rfl (yv_move rfl) ?_))
                    refine op_fnV rfl rfl rfl hH27 (c98n (h0.now hH27 (n := 1) rfl) (Heap.rdw T.el22_encI hH27 (n := 0) rfl) hj hnl2 hun2) (fun w30 hH31 => ?_)
                    refine ops_y hH31 rfl rfl (yv_assign rfl) (ops_nil (thn_n (seq ?_)))
                    by_cases hc32 : S.par l b = true
                    · skip
                      have hp3 : S.par l b = true := ‹_›
                      have hrb : S.rootB l now = S.rt l now := S.rb_t (hPe.trans hp3)
                      have hrl : (S.rootB l now).length = l.length := by rw [hrb]; exact S.rt_len hj hG2 (hPe.trans hp3)
                      have hrt3 := S.rt_at hj hG hp3 hu (by omega) (by omega) hfr (fun y y0 y1 => by have h9 := hfx hp3 y.toNat (by omega); rwa [Int.toNat_of_nonneg y0] at h9)
                      rw [← hnow] at hrt3
                      refine region (ops_y hH31 rfl rfl (yv_move rfl) ?_)
                      refine ops_y hH31 rfl rfl (yv_len T.sl22 rfl (Heap.rdw T.el22_encI hH31 (n := 0) rfl).is) ?_
                      refine ops_y hH31 rfl rfl (yv_gtr rfl rfl) ?_
                      refine ops_nil (thn_n ?_)
                      have hc33 : 0 < (now.length : Int) := by omega
                      refine cond_t rfl (decide_eq_true hc33) ?_
                      refine seq (region (ops_y hH31 rfl rfl (yv_move rfl) (ops_y hH31 rfl rfl (yv_assign rfl) (ops_nil (thn_n (ret (blk_r (thn_r (lp_r ?_)))))))))
                      refine blk_r (thn_r ?_)
                      refine fin (hH31.front (n := 1) rfl) (fun w' hf => (res1 rfl (show RV _ _ _ (.tmp 4) _ from rfl))) (fun w' hf => ?_)
                      first | (rw [S.rb_f hnp2]; exact Rd.nil) | (rw [S.rb_t hp2, hrt]; exact Heap.rdw T.el22_encI hf (n := 0) rfl) | (rw [S.rb_t hp3, hrt3, ← hrb]; exact hf.get (n := 0) rfl)
                    · skip
                      have hnp : ¬ S.par l b = true := ‹_›
                      have hrb : S.rootB l now = [] := S.rb_f (fun h => hnp (hPe.symm.trans h))
                      have hrl : (S.rootB l now).length = 0 := by rw [hrb]; rfl
                      refine region (ops_y hH31 rfl rfl (yv_move rfl) ?_)
                      refine ops_y hH31 rfl rfl (yv_len T.sl22 rfl (Heap.rdw T.el22_encI hH31 (n := 0) rfl).is) ?_
                      refine ops_y hH31 rfl rfl (yv_gtr rfl rfl) ?_
                      refine ops_nil (thn_n ?_)
                      have hc34 : 0 < (now.length : Int) := by omega
                      refine cond_t rfl (decide_eq_true hc34) ?_
                      refine seq (region (ops_y hH31 rfl rfl (yv_move rfl) (ops_y hH31 rfl rfl (yv_assign rfl) (ops_nil (thn_n (ret (blk_r (thn_r (lp_r ?_)))))))))
                      refine blk_r (thn_r ?_)
                      refine fin (hH31.front (n := 1) rfl) (fun w' hf => (res1 rfl (show RV _ _ _ (.tmp 4) _ from rfl))) (fun w' hf => ?_)
                      first | (rw [S.rb_f hnp2]; exact Rd.nil) | (rw [S.rb_t hp2, hrt]; exact Heap.rdw T.el22_encI hf (n := 0) rfl) | (rw [S.rb_t hp3, hrt3, ← hrb]; exact hf.get (n := 0) rfl)
                  · skip
                    obtain ⟨jn, hun3⟩ := Option.ne_none_iff_exists'.1 ‹¬ S.un now = none›
                    have hun4 := hun3
                    refine region (ops_y hH27 rfl rfl (yv_move rfl) (ops_y hH27 rfl rfl (yv_move rfl) ?_))
                    refine op_fn rfl rfl rfl hH27 (ih _ _ _ _ hlt (h0.now hH27 (n := 1) rfl) (Heap.rdw T.el22_encI hH27 (n := 0) rfl) hG2 hun3) (fun u37 w35 lo38 hi39 hH36 hv40 => ?_)
                    refine ops_y hH36 rfl rfl (yv_assign rfl) (ops_nil (thn_n (seq ?_)))
                    by_cases hc41 : S.par l b = true
                    · skip
                      have hp3 : S.par l b = true := ‹_›
                      have hrb : S.rootB l now = S.rt l now := S.rb_t (hPe.trans hp3)
                      have hrl : (S.rootB l now).length = l.length := by rw [hrb]; exact S.rt_len hj hG2 (hPe.trans hp3)
                      have hrt3 := S.rt_at hj hG hp3 hu (by omega) (by omega) hfr (fun y y0 y1 => by have h9 := hfx hp3 y.toNat (by omega); rwa [Int.toNat_of_nonneg y0] at h9)
                      rw [← hnow] at hrt3
                      refine region (ops_y hH36 rfl rfl (yv_move rfl) ?_)
                      refine ops_y hH36 rfl rfl (yv_len T.sl22 rfl ((show Rd encI 1 u37 (S.rootB l now) _ from hH36.get (n := 0) rfl)).is) ?_
                      refine ops_y hH36 rfl rfl (yv_gtr rfl rfl) ?_
                      refine ops_nil (thn_n ?_)
                      have hc42 : 0 < ((S.rootB l now).length : Int) := by omega
                      refine cond_t rfl (decide_eq_true hc42) ?_
                      refine seq (region (ops_y hH36 rfl rfl (yv_move rfl) (ops_y hH36 rfl rfl (yv_assign rfl) (ops_nil (thn_n (ret (blk_r (thn_r (lp_r ?_)))))))))
                      refine blk_r (thn_r ?_)
                      have hH43 := (hH36.sub (List.Sublist.cons_cons _ (List.Sublist.cons _ (List.Sublist.refl _))))
                      refine fin (hH43.front (n := 1) rfl) (fun w' hf => (res1 rfl (show RV _ _ _ (.tmp 4) _ from rfl))) (fun w' hf => ?_)
                      first | (rw [S.rb_f hnp2]; exact Rd.nil) | (rw [S.rb_t hp2, hrt]; exact Heap.rdw T.el22_encI hf (n := 0) rfl) | (rw [S.rb_t hp3, hrt3, ← hrb]; exact hf.get (n := 0) rfl)
                    · skip
                      have hnp : ¬ S.par l b = true := ‹_›
                      have hrb : S.rootB l now = [] := S.rb_f (fun h => hnp (hPe.symm.trans h))
                      have hrl : (S.rootB l now).length = 0 := by rw [hrb]; rfl
                      refine region (ops_y hH36 rfl rfl (yv_move rfl) ?_)
                      refine ops_y hH36 rfl rfl (yv_len T.sl22 rfl ((show Rd encI 1 u37 (S.rootB l now) _ from hH36.get (n := 0) rfl)).is) ?_
                      refine ops_y hH36 rfl rfl (yv_gtr rfl rfl) ?_
                      refine ops_nil (thn_n ?_)
                      have hc44 : ¬ (0 < ((S.rootB l now).length : Int)) := by omega
                      refine cond_f rfl (decide_eq_false hc44) ?_
                      refine skip (blk_n (thn_n (region (ops_y hH36 rfl rfl (yv_move rfl) ?_))))
                      refine ops_y hH36 rfl rfl (yv_add rfl rfl (by omega)) ?_
                      refine ops_y hH36 rfl rfl (yv_assign rfl) (ops_nil ?_)
                      have hH45 := (hH36.sub (List.Sublist.cons _ (List.Sublist.cons _ (List.Sublist.refl _))))
                      refine lp_n (x + 1) (Sub.cons rfl (Sub.cons rfl (Sub.cons rfl (Sub.cons rfl (Sub.nil _))))) ?_ ?_
                      · exact ⟨hH45, by omega, fun h9 => absurd h9 hnp⟩
                      · first | (dsimp only; omega) | (show _ < _; omega)
                · skip
                  have hfr : ¬ S.free l b (i : Int) (x : Int) = true := ‹_›
                  refine region (ops_y hH17 rfl rfl (yv_move rfl) (ops_y hH17 rfl rfl (yv_move rfl) ?_))
                  refine ops_y hH17 rfl rfl (yv_index T.sl22 rfl rfl (Heap.rdw T.el22_encI hH17 (n := 0) rfl).is (by omega)) ?_
                  refine ops_y hH17 rfl rfl (yv_load T.one3 rfl (fun _ hw => Rd.at (Heap.rdw T.el22_encI hw (n := 0) rfl) (i := (S.alt l (i : Int) (x : Int) q)) (by omega) (j := 0) rfl)) ?_
                  refine ops_y hH17 rfl rfl (yv_move rfl) ?_
                  refine ops_y hH17 rfl rfl (yv_neq rfl rfl) ?_
                  refine ops_y hH17 rfl rfl (yv_move rfl) ?_
                  by_cases hc46 : (nth now (S.alt l (i : Int) (x : Int) q)) = (S.alt l (i : Int) (x : Int) (q + 1))
                  · skip
                    refine guard_yes rfl rfl (not_decide_n hc46) ?_
                    refine ops_y hH17 rfl rfl (yv_move rfl) ?_
                    refine guard_yes rfl rfl (not_decide_n hc46) ?_
                    refine op_fnV rfl rfl rfl hH17 (c117 (Heap.rdw T.el22_encI hH17 (n := 0) rfl) (by omega)) (fun w47 hH48 => ?_)
                    refine guard_yes rfl rfl (not_decide_n hc46) ?_
                    refine ops_y hH48 rfl rfl (yv_not rfl) ?_
                    refine ops_y hH48 rfl rfl (yv_pick_f rfl (not_decide_n hc46) rfl) ?_
                    refine ops_nil (thn_n ?_)
                    have hc49 : ¬ (S.Diff now) := fun h => hfr (hni.1 ⟨by omega, h⟩)
                    refine cond_t rfl (not_decide_t hc49) ?_
                    refine exit (thn_x (blk_here (thn_n (region (ops_y hH48 rfl rfl (yv_move rfl) ?_)))))
                    refine ops_y hH48 rfl rfl (yv_add rfl rfl (by omega)) ?_
                    refine ops_y hH48 rfl rfl (yv_assign rfl) (ops_nil ?_)
                    have hH50 := (hH48.sub (List.Sublist.cons _ (List.Sublist.refl _)))
                    refine lp_n (x + 1) (Sub.cons rfl (Sub.cons rfl (Sub.cons rfl (Sub.cons rfl (Sub.nil _))))) ?_ ?_
                    · exact ⟨hH50, by omega, fun h9 => S.all_snoc (hfx h9) (Bool.eq_false_iff.2 hfr)⟩
                    · first | (dsimp only; omega) | (show _ < _; omega)
                  · skip
                    refine guard_no rfl rfl (not_decide_t hc46) rfl ?_
                    refine guard_no rfl rfl (not_decide_t hc46) rfl ?_
                    refine guard_no rfl rfl (not_decide_t hc46) rfl ?_
                    refine ops_y hH17 rfl rfl (yv_pick_t rfl (not_decide_t hc46) rfl) ?_
                    refine ops_nil (thn_n ?_)
                    refine cond_t rfl rfl ?_
                    refine exit (thn_x (blk_here (thn_n (region (ops_y hH17 rfl rfl (yv_move rfl) ?_)))))
                    refine ops_y hH17 rfl rfl (yv_add rfl rfl (by omega)) ?_
                    refine ops_y hH17 rfl rfl (yv_assign rfl) (ops_nil ?_)
                    have hH51 := (hH17.sub (List.Sublist.cons _ (List.Sublist.refl _)))
                    refine lp_n (x + 1) (Sub.cons rfl (Sub.cons rfl (Sub.cons rfl (Sub.cons rfl (Sub.nil _))))) ?_ ?_
                    · exact ⟨hH51, by omega, fun h9 => S.all_snoc (hfx h9) (Bool.eq_false_iff.2 hfr)⟩
                    · first | (dsimp only; omega) | (show _ < _; omega)
          · skip
            refine cond_f rfl (decide_eq_false hc8) ?_
            refine exit (thn_x (lp_x (blk_here (thn_n (seq ?_)))))
            have hnp2 : ¬ S.par l b = true := fun hp => by
              obtain ⟨y, y0, y1, hy⟩ := S.free_ex hj hG (i := (i : Int)) (by omega) (by omega) hneg0 hp
              have h9 := hfx hp y.toNat (by omega)
              rw [Int.toNat_of_nonneg y0, hy] at h9
              cases h9
            refine region (ops_y hH7 rfl rfl (yv_assign rfl) (ops_nil (thn_n (ret ?_))))
            refine fin hH7 (fun w' hf => (res1 rfl (show RV _ _ _ (.tmp 4) _ from rfl))) (fun w' hf => ?_)
            first | (rw [S.rb_f hnp2]; exact Rd.nil) | (rw [S.rb_t hp2, hrt]; exact Heap.rdw T.el22_encI hf (n := 0) rfl) | (rw [S.rb_t hp3, hrt3, ← hrb]; exact hf.get (n := 0) rfl)
    · skip
      refine guard_no rfl rfl (decide_eq_false hc3) rfl ?_
      refine guard_no rfl rfl (decide_eq_false hc3) rfl ?_
      refine guard_no rfl rfl (decide_eq_false hc3) rfl ?_
      refine guard_no rfl rfl (decide_eq_false hc3) rfl ?_
      refine guard_no rfl rfl (decide_eq_false hc3) rfl ?_
      refine ops_y hH2 rfl rfl (yv_pick_f rfl (decide_eq_false hc3) rfl) ?_
      refine ops_nil (thn_n ?_)
      refine cond_f rfl rfl ?_
      refine exit (thn_x (lp_x (blk_here (thn_n (seq (seq ?_))))))
      have hki : k = i := by rcases Nat.lt_or_ge k i with h9 | h9; (have h8 := huk h9; omega); omega
      refine region (ops_y hH2 rfl rfl (yv_move rfl) (ops_y hH2 rfl rfl (yv_move rfl) ?_))
      refine ops_y hH2 rfl rfl (yv_len T.sl22 rfl (h0.now hH2 (n := 0) rfl).is) ?_
      refine ops_y hH2 rfl rfl (yv_eql rfl rfl) ?_
      refine ops_nil (thn_n ?_)
      have hc52 : ¬ ((k : Int) = (l.length : Int)) := by omega
      refine cond_f rfl (decide_eq_false hc52) ?_
      refine skip (thn_n (seq (seq (region (ops_y hH2 rfl rfl (yv_assign rfl) (ops_nil (thn_n (block ?_))))))))
      refine loop (S := Nat) (fun x => [(6, (.int .i64 (x : Int))), (0, v), (1, vb), (5, (.int .i64 (k : Int)))]) (fun x w1 => Heap [base w] w1 ∧ x ≤ l.length ∧ (S.par l b = true → ∀ y : Nat, y < x → S.free l b (i : Int) (y : Int) = false)) (fun x => l.length - x) (0) (Sub.cons rfl (Sub.cons rfl (Sub.cons rfl (Sub.cons rfl (Sub.nil _))))) ?_ ?_
      · exact ⟨hH2, by omega, fun _ => S.all_zero⟩
      · rintro x w53 ⟨hH54, hx, hfx⟩
        show Holds _ _ _ _ _ [(6, (.int .i64 (x : Int))), (0, v), (1, vb), (5, (.int .i64 (k : Int)))] _ _
        refine seq (seq (region (ops_y hH54 rfl rfl (yv_move rfl) (ops_y hH54 rfl rfl (yv_move rfl) ?_))))
        refine ops_y hH54 rfl rfl (yv_len T.sl22 rfl (h0.now hH54 (n := 0) rfl).is) ?_
        refine ops_y hH54 rfl rfl (yv_lss rfl rfl) ?_
        refine ops_nil (thn_n ?_)
        by_cases hc55 : (x : Int) < (l.length : Int)
        · skip
          refine cond_t rfl (decide_eq_true hc55) ?_
          refine skip (thn_n (seq (block (seq (region (ops_y hH54 rfl rfl (yv_move rfl) ?_))))))
          refine op_fn rfl rfl rfl hH54 (c60 (hb0.now hH54 (n := 0) rfl) (by omega)) (fun u58 w56 lo59 hi60 hH57 hv61 => ?_)
          have hH62 := Heap.toOw hH57 (n := 0) rfl
          refine ops_y hH62 rfl rfl (yv_assign rfl) (ops_nil (thn_n (seq (region (ops_y hH62 rfl rfl (yv_move rfl) (ops_y hH62 rfl rfl (yv_move rfl) (ops_y hH62 rfl rfl (yv_assign rfl) (ops_y hH62 rfl rfl (yv_assign rfl) (ops_nil ?_)))))))))
          refine thn_n (seq (block ?_))
          refine loop (S := Nat × List Int × Value × Nat × Nat) (fun (q, now, v_7, lo_7, hi_7) => [(8, (.int .i64 (S.alt l (i : Int) (x : Int) q))), (9, (.int .i64 (S.alt l (i : Int) (x : Int) (q + 1)))), (7, v_7), (0, v), (1, vb), (5, (.int .i64 (k : Int))), (6, (.int .i64 (x : Int)))]) (fun (q, now, v_7, lo_7, hi_7) w1 => Heap [ow lo_7 hi_7 3 1 encI v_7 now, base w] w1 ∧ S.Fl l b (i : Int) (x : Int) q now ∧ S.fillN l now (S.alt l (i : Int) (x : Int) q) (S.alt l (i : Int) (x : Int) (q + 1)) = S.fillN l b (i : Int) (x : Int)) (fun (q, now, v_7, lo_7, hi_7) => S.negs now) (0, b, u58, lo59, hi60) (Sub.cons (congrArg (fun z => some (Value.int .i64 z)) (show (k : Int) = S.alt l (i : Int) (x : Int) 0 by rw [S.alt_zero]; omega)) (Sub.cons rfl (Sub.cons rfl (Sub.cons rfl (Sub.cons rfl (Sub.cons rfl (Sub.cons rfl (Sub.nil _)))))))) ?_ ?_
          · exact ⟨hH62, S.Fl.start hbl, rfl⟩
          · rintro ⟨q, now, v_7, lo_7, hi_7⟩ w63 ⟨hH64, hF, hE⟩
            show Holds _ _ _ _ _ [(8, (.int .i64 (S.alt l (i : Int) (x : Int) q))), (9, (.int .i64 (S.alt l (i : Int) (x : Int) (q + 1)))), (7, v_7), (0, v), (1, vb), (5, (.int .i64 (k : Int))), (6, (.int .i64 (x : Int)))] _ _
            have hnl2 := hF.len
            have haq := hj.alt (i := (i : Int)) (x := (x : Int)) (by omega) (by omega) (by omega) (by omega) q
            have haq1 := hj.alt (i := (i : Int)) (x := (x : Int)) (by omega) (by omega) (by omega) (by omega) (q + 1)
            refine seq (seq (region (ops_y hH64 rfl rfl (yv_move rfl) (ops_y hH64 rfl rfl (yv_move rfl) ?_))))
            refine ops_y hH64 rfl rfl (yv_index T.sl22 rfl rfl (Heap.rdw T.el22_encI hH64 (n := 0) rfl).is (by omega)) ?_
            refine ops_y hH64 rfl rfl (yv_load T.one3 rfl (fun _ hw => Rd.at (Heap.rdw T.el22_encI hw (n := 0) rfl) (i := (S.alt l (i : Int) (x : Int) q)) (by omega) (j := 0) rfl)) ?_
            refine ops_y hH64 rfl rfl (yv_lss rfl rfl) ?_
            refine ops_nil (thn_n ?_)
            by_cases hc65 : (nth now (S.alt l (i : Int) (x : Int) q)) < 0
            · skip
              have hneg : nth now (S.alt l (i : Int) (x : Int) q) < 0 := by omega
              have hEn : S.fillN l (now.set ((S.alt l (i : Int) (x : Int) q)).toNat (S.alt l (i : Int) (x : Int) (q + 1))) (S.alt l (i : Int) (x : Int) (q + 1)) (S.alt l (i : Int) (x : Int) (q + 1 + 1)) = S.fillN l b (i : Int) (x : Int) := by rw [← hE, S.fillN_step haq.1 (by omega) hneg haq1.1, ← S.alt_step]
              refine cond_t rfl (decide_eq_true hc65) ?_
              refine skip (thn_n (block (seq (region (ops_y hH64 rfl rfl (yv_move rfl) (ops_y hH64 rfl rfl (yv_move rfl) (ops_y hH64 rfl rfl (yv_move rfl) ?_)))))))
              refine ops_y hH64 rfl rfl (yv_index T.sl22 rfl rfl (Heap.rdw T.el22_encI hH64 (n := 0) rfl).is (by omega)) ?_
              refine op_setE (n := 0) (i := (S.alt l (i : Int) (x : Int) q)) (k := 0) (us := [(.int .i64 (S.alt l (i : Int) (x : Int) (q + 1)))]) (z := (S.alt l (i : Int) (x : Int) (q + 1))) T.el22_encI rfl rfl hH64 rfl (by omega) T.sz3 rfl rfl rfl (Nat.le_of_ble_eq_true rfl) (fun w66 hH67 => ?_)
              refine ops_nil (thn_n ?_)
              refine region_draw (fun w' => Heap [ow lo_7 hi_7 3 1 encI v_7 (now.set (S.alt l (i : Int) (x : Int) q).toNat (S.alt l (i : Int) (x : Int) (q + 1))), base w] w') T.mixed (fun w68 hr69 => ?_)
              have hH70 := hH67.redrawn hr69
              refine any_takes [0, 1, 2, 3, 4, 5, 6] (by kernel_rfl) hH70 _ _ _ (by kernel_rfl) ?_
              refine qs_y rfl rfl (yv_move rfl) (qs_y rfl rfl (yv_move rfl) (qs_y rfl rfl (yv_move rfl) ?_))
              refine qs_y rfl rfl (yv_index T.sl22 rfl rfl (h0.now hH70 (n := 1) rfl).is (by omega)) ?_
              refine qs_y rfl rfl (yv_load T.one3 rfl (fun _ hw => Rd.at (h0.now hw (n := 1) rfl) (i := (S.alt l (i : Int) (x : Int) q)) (by omega) (j := 0) rfl)) ?_
              refine qs_y rfl rfl (yv_assign rfl) (qs_y rfl rfl (yv_assign rfl) (qs_nil ?_))
              refine any_done (by kernel_rfl) ?_
              refine blk_n ?_
              refine lp_n ((q + 1), (now.set ((S.alt l (i : Int) (x : Int) q)).toNat (S.alt l (i : Int) (x : Int) (q + 1))), v_7, lo_7, hi_7) (Sub.cons rfl (Sub.cons (congrArg (fun z => some (Value.int .i64 z)) (S.alt_step q).symm) (Sub.cons rfl (Sub.cons rfl (Sub.cons rfl (Sub.cons rfl (Sub.cons rfl (Sub.nil _)))))))) ?_ ?_
              · exact ⟨(Heap.recast (n := 0) hH70 rfl (rfl)), hF.step hj (by omega) (by omega) (by omega) (by omega) hneg, hEn⟩
              · (have h9 := S.negs_set (b := now) haq.1 (by omega) hneg haq1.1; dsimp only; omega)
            · skip
              have hst : 0 ≤ nth now (S.alt l (i : Int) (x : Int) q) := by omega
              have hS : S.Stop l b (i : Int) (x : Int) q now := ⟨hF, hst⟩
              have hnow : now = S.fillN l b (i : Int) (x : Int) := by rw [← hE, S.fillN_stop hst]
              have hni := hS.iff hj hG (by omega) (by omega) (by omega) (by omega) hneg0
              refine cond_f rfl (decide_eq_false hc65) ?_
              refine exit (thn_x (lp_x (blk_here (thn_n (seq (seq ?_))))))
              by_cases hc71 : S.free l b (i : Int) (x : Int) = true
              · skip
                have hfr : S.free l b (i : Int) (x : Int) = true := ‹_›
                have hnc := hni.2 hfr
                have hG2 : S.Good l now := by rw [hnow]; exact S.fill_good hj hG (by omega) (by omega) (by omega) (by omega) hneg0 hfr
                have hlt : S.negs now < S.negs b := by rw [hnow]; exact S.fill_negs hj hG (by omega) (by omega) (by omega) (by omega) hneg0 hfr
                have hPe : S.par l now = S.par l b := by rw [hnow]; exact S.fill_par hj hG (by omega) (by omega) (by omega) (by omega) hneg0 hfr
                refine region (ops_y hH64 rfl rfl (yv_move rfl) (ops_y hH64 rfl rfl (yv_move rfl) ?_))
                refine ops_y hH64 rfl rfl (yv_index T.sl22 rfl rfl (Heap.rdw T.el22_encI hH64 (n := 0) rfl).is (by omega)) ?_
                refine ops_y hH64 rfl rfl (yv_load T.one3 rfl (fun _ hw => Rd.at (Heap.rdw T.el22_encI hw (n := 0) rfl) (i := (S.alt l (i : Int) (x : Int) q)) (by omega) (j := 0) rfl)) ?_
                refine ops_y hH64 rfl rfl (yv_move rfl) ?_
                refine ops_y hH64 rfl rfl (yv_neq rfl rfl) ?_
                refine ops_y hH64 rfl rfl (yv_move rfl) ?_
                have hc72 : ¬ (¬ ((nth now (S.alt l (i : Int) (x : Int) q)) = (S.alt l (i : Int) (x : Int) (q + 1)))) := fun h => h hnc.1
                refine guard_yes rfl rfl (not_decide_f hc72) ?_
                refine ops_y hH64 rfl rfl (yv_move rfl) ?_
                refine guard_yes rfl rfl (not_decide_f hc72) ?_
                refine op_fnV rfl rfl rfl hH64 (c117 (Heap.rdw T.el22_encI hH64 (n := 0) rfl) (by omega)) (fun w73 hH74 => ?_)
                refine guard_yes rfl rfl (not_decide_f hc72) ?_
                refine ops_y hH74 rfl rfl (yv_not rfl) ?_
                refine ops_y hH74 rfl rfl (yv_pick_f rfl (not_decide_f hc72) rfl) ?_
                refine ops_nil (thn_n ?_)
                have hc75 : ¬ (¬ (S.Diff now)) := fun h => h hnc.2
                refine cond_f rfl (not_decide_f hc75) ?_
                refine skip (thn_n (seq ?_))
                by_cases hc76 : S.un now = none
                · skip
                  have hun2 : S.un now = none := ‹_›
                  have hp2 : S.par l b = true := by rw [← hPe]; exact S.par_full hj hnl2 hun2
                  have hrt := S.rt_at hj hG hp2 hu (by omega) (by omega) hfr (fun y y0 y1 => by have h9 := hfx hp2 y.toNat (by omega); rwa [Int.toNat_of_nonneg y0] at h9)
                  rw [← hnow, S.rt_none hun2] at hrt
                  refine region (ops_y hH74 rfl rfl (yv_move rfl) (ops_y hH74 rfl rfl (yv_move rfl) ?_))
                  refine op_fnV rfl rfl rfl hH74 (c98n (h0.now hH74 (n := 1) rfl) (Heap.rdw T.el22_encI hH74 (n := 0) rfl) hj hnl2 hun2) (fun w77 hH78 => ?_)
                  refine ops_y hH78 rfl rfl (yv_assign rfl) (ops_nil (thn_n (seq ?_)))
                  by_cases hc79 : S.par l b = true
                  · skip
                    have hp3 : S.par l b = true := ‹_›
                    have hrb : S.rootB l now = S.rt l now := S.rb_t (hPe.trans hp3)
                    have hrl : (S.rootB l now).length = l.length := by rw [hrb]; exact S.rt_len hj hG2 (hPe.trans hp3)
                    have hrt3 := S.rt_at hj hG hp3 hu (by omega) (by omega) hfr (fun y y0 y1 => by have h9 := hfx hp3 y.toNat (by omega); rwa [Int.toNat_of_nonneg y0] at h9)
                    rw [← hnow] at hrt3
                    refine region (ops_y hH78 rfl rfl (yv_move rfl) ?_)
                    refine ops_y hH78 rfl rfl (yv_len T.sl22 rfl (Heap.rdw T.el22_encI hH78 (n := 0) rfl).is) ?_
                    refine ops_y hH78 rfl rfl (yv_gtr rfl rfl) ?_
                    refine ops_nil (thn_n ?_)
                    have hc80 : 0 < (now.length : Int) := by omega
                    refine cond_t rfl (decide_eq_true hc80) ?_
                    refine seq (region (ops_y hH78 rfl rfl (yv_move rfl) (ops_y hH78 rfl rfl (yv_assign rfl) (ops_nil (thn_n (ret (blk_r (thn_r (lp_r ?_)))))))))
                    refine blk_r (thn_r ?_)
                    refine fin (hH78.front (n := 1) rfl) (fun w' hf => (res1 rfl (show RV _ _ _ (.tmp 4) _ from rfl))) (fun w' hf => ?_)
                    first | (rw [S.rb_f hnp2]; exact Rd.nil) | (rw [S.rb_t hp2, hrt]; exact Heap.rdw T.el22_encI hf (n := 0) rfl) | (rw [S.rb_t hp3, hrt3, ← hrb]; exact hf.get (n := 0) rfl)
                  · skip
                    have hnp : ¬ S.par l b = true := ‹_›
                    have hrb : S.rootB l now = [] := S.rb_f (fun h => hnp (hPe.symm.trans h))
                    have hrl : (S.rootB l now).length = 0 := by rw [hrb]; rfl
                    refine region (ops_y hH78 rfl rfl (yv_move rfl) ?_)
                    refine ops_y hH78 rfl rfl (yv_len T.sl22 rfl (Heap.rdw T.el22_encI hH78 (n := 0) rfl).is) ?_
                    refine ops_y hH78 rfl rfl (yv_gtr rfl rfl) ?_
                    refine ops_nil (thn_n ?_)
                    have hc81 : 0 < (now.length : Int) := by omega
                    refine cond_t rfl (decide_eq_true hc81) ?_
                    refine seq (region (ops_y hH78 rfl rfl (yv_move rfl) (ops_y hH78 rfl rfl (yv_assign rfl) (ops_nil (thn_n (ret (blk_r (thn_r (lp_r ?_)))))))))
                    refine blk_r (thn_r ?_)
                    refine fin (hH78.front (n := 1) rfl) (fun w' hf => (res1 rfl (show RV _ _ _ (.tmp 4) _ from rfl))) (fun w' hf => ?_)
                    first | (rw [S.rb_f hnp2]; exact Rd.nil) | (rw [S.rb_t hp2, hrt]; exact Heap.rdw T.el22_encI hf (n := 0) rfl) | (rw [S.rb_t hp3, hrt3, ← hrb]; exact hf.get (n := 0) rfl)
                · skip
                  obtain ⟨jn, hun3⟩ := Option.ne_none_iff_exists'.1 ‹¬ S.un now = none›
                  have hun4 := hun3
                  refine region (ops_y hH74 rfl rfl (yv_move rfl) (ops_y hH74 rfl rfl (yv_move rfl) ?_))
                  refine op_fn rfl rfl rfl hH74 (ih _ _ _ _ hlt (h0.now hH74 (n := 1) rfl) (Heap.rdw T.el22_encI hH74 (n := 0) rfl) hG2 hun3) (fun u84 w82 lo85 hi86 hH83 hv87 => ?_)
                  refine ops_y hH83 rfl rfl (yv_assign rfl) (ops_nil (thn_n (seq ?_)))
                  by_cases hc88 : S.par l b = true
                  · skip
                    have hp3 : S.par l b = true := ‹_›
                    have hrb : S.rootB l now = S.rt l now := S.rb_t (hPe.trans hp3)
                    have hrl : (S.rootB l now).length = l.length := by rw [hrb]; exact S.rt_len hj hG2 (hPe.trans hp3)
                    have hrt3 := S.rt_at hj hG hp3 hu (by omega) (by omega) hfr (fun y y0 y1 => by have h9 := hfx hp3 y.toNat (by omega); rwa [Int.toNat_of_nonneg y0] at h9)
                    rw [← hnow] at hrt3
                    refine region (ops_y hH83 rfl rfl (yv_move rfl) ?_)
                    refine ops_y hH83 rfl rfl (yv_len T.sl22 rfl ((show Rd encI 1 u84 (S.rootB l now) _ from hH83.get (n := 0) rfl)).is) ?_
                    refine ops_y hH83 rfl rfl (yv_gtr rfl rfl) ?_
                    refine ops_nil (thn_n ?_)
                    have hc89 : 0 < ((S.rootB l now).length : Int) := by omega
                    refine cond_t rfl (decide_eq_true hc89) ?_
                    refine seq (region (ops_y hH83 rfl rfl (yv_move rfl) (ops_y hH83 rfl rfl (yv_assign rfl) (ops_nil (thn_n (ret (blk_r (thn_r (lp_r ?_)))))))))
                    refine blk_r (thn_r ?_)
                    have hH90 := (hH83.sub (List.Sublist.cons_cons _ (List.Sublist.cons _ (List.Sublist.refl _))))
                    refine fin (hH90.front (n := 1) rfl) (fun w' hf => (res1 rfl (show RV _ _ _ (.tmp 4) _ from rfl))) (fun w' hf => ?_)
                    first | (rw [S.rb_f hnp2]; exact Rd.nil) | (rw [S.rb_t hp2, hrt]; exact Heap.rdw T.el22_encI hf (n := 0) rfl) | (rw [S.rb_t hp3, hrt3, ← hrb]; exact hf.get (n := 0) rfl)
                  · skip
                    have hnp : ¬ S.par l b = true := ‹_›
                    have hrb : S.rootB l now = [] := S.rb_f (fun h => hnp (hPe.symm.trans h))
                    have hrl : (S.rootB l now).length = 0 := by rw [hrb]; rfl
                    refine region (ops_y hH83 rfl rfl (yv_move rfl) ?_)
                    refine ops_y hH83 rfl rfl (yv_len T.sl22 rfl ((show Rd encI 1 u84 (S.rootB l now) _ from hH83.get (n := 0) rfl)).is) ?_
                    refine ops_y hH83 rfl rfl (yv_gtr rfl rfl) ?_
                    refine ops_nil (thn_n ?_)
                    have hc91 : ¬ (0 < ((S.rootB l now).length : Int)) := by omega
                    refine cond_f rfl (decide_eq_false hc91) ?_
                    refine skip (blk_n (thn_n (region (ops_y hH83 rfl rfl (yv_move rfl) ?_))))
                    refine ops_y hH83 rfl rfl (yv_add rfl rfl (by omega)) ?_
                    refine ops_y hH83 rfl rfl (yv_assign rfl) (ops_nil ?_)
                    have hH92 := (hH83.sub (List.Sublist.cons _ (List.Sublist.cons _ (List.Sublist.refl _))))
                    refine lp_n (x + 1) (Sub.cons rfl (Sub.cons rfl (Sub.cons rfl (Sub.cons rfl (Sub.nil _))))) ?_ ?_
                    · exact ⟨hH92, by omega, fun h9 => absurd h9 hnp⟩
                    · first | (dsimp only; omega) | (show _ < _; omega)
              · skip
                have hfr : ¬ S.free l b (i : Int) (x : Int) = true := ‹_›
                refine region (ops_y hH64 rfl rfl (yv_move rfl) (ops_y hH64 rfl rfl (yv_move rfl) ?_))
                refine ops_y hH64 rfl rfl (yv_index T.sl22 rfl rfl (Heap.rdw T.el22_encI hH64 (n := 0) rfl).is (by omega)) ?_
                refine ops_y hH64 rfl rfl (yv_load T.one3 rfl (fun _ hw => Rd.at (Heap.rdw T.el22_encI hw (n := 0) rfl) (i := (S.alt l (i : Int) (x : Int) q)) (by omega) (j := 0) rfl)) ?_
                refine ops_y hH64 rfl rfl (yv_move rfl) ?_
                refine ops_y hH64 rfl rfl (yv_neq rfl rfl) ?_
                refine ops_y hH64 rfl rfl (yv_move rfl) ?_
                by_cases hc93 : (nth now (S.alt l (i : Int) (x : Int) q)) = (S.alt l (i : Int) (x : Int) (q + 1))
                · skip
                  refine guard_yes rfl rfl (not_decide_n hc93) ?_
                  refine ops_y hH64 rfl rfl (yv_move rfl) ?_
                  refine guard_yes rfl rfl (not_decide_n hc93) ?_
                  refine op_fnV rfl rfl rfl hH64 (c117 (Heap.rdw T.el22_encI hH64 (n := 0) rfl) (by omega)) (fun w94 hH95 => ?_)
                  refine guard_yes rfl rfl (not_decide_n hc93) ?_
                  refine ops_y hH95 rfl rfl (yv_not rfl) ?_
                  refine ops_y hH95 rfl rfl (yv_pick_f rfl (not_decide_n hc93) rfl) ?_
                  refine ops_nil (thn_n ?_)
                  have hc96 : ¬ (S.Diff now) := fun h => hfr (hni.1 ⟨by omega, h⟩)
                  refine cond_t rfl (not_decide_t hc96) ?_
                  refine exit (thn_x (blk_here (thn_n (region (ops_y hH95 rfl rfl (yv_move rfl) ?_)))))
                  refine ops_y hH95 rfl rfl (yv_add rfl rfl (by omega)) ?_
                  refine ops_y hH95 rfl rfl (yv_assign rfl) (ops_nil ?_)
                  have hH97 := (hH95.sub (List.Sublist.cons _ (List.Sublist.refl _)))
                  refine lp_n (x + 1) (Sub.cons rfl (Sub.cons rfl (Sub.cons rfl (Sub.cons rfl (Sub.nil _))))) ?_ ?_
                  · exact ⟨hH97, by omega, fun h9 => S.all_snoc (hfx h9) (Bool.eq_false_iff.2 hfr)⟩
                  · first | (dsimp only; omega) | (show _ < _; omega)
                · skip
                  refine guard_no rfl rfl (not_decide_t hc93) rfl ?_
                  refine guard_no rfl rfl (not_decide_t hc93) rfl ?_
                  refine guard_no rfl rfl (not_decide_t hc93) rfl ?_
                  refine ops_y hH64 rfl rfl (yv_pick_t rfl (not_decide_t hc93) rfl) ?_
                  refine ops_nil (thn_n ?_)
                  refine cond_t rfl rfl ?_
                  refine exit (thn_x (blk_here (thn_n (region (ops_y hH64 rfl rfl (yv_move rfl) ?_)))))
                  refine ops_y hH64 rfl rfl (yv_add rfl rfl (by omega)) ?_
                  refine ops_y hH64 rfl rfl (yv_assign rfl) (ops_nil ?_)
                  have hH98 := (hH64.sub (List.Sublist.cons _ (List.Sublist.refl _)))
                  refine lp_n (x + 1) (Sub.cons rfl (Sub.cons rfl (Sub.cons rfl (Sub.cons rfl (Sub.nil _))))) ?_ ?_
                  · exact ⟨hH98, by omega, fun h9 => S.all_snoc (hfx h9) (Bool.eq_false_iff.2 hfr)⟩
                  · first | (dsimp only; omega) | (show _ < _; omega)
        · skip
          refine cond_f rfl (decide_eq_false hc55) ?_
          refine exit (thn_x (lp_x (blk_here (thn_n (seq ?_)))))
          have hnp2 : ¬ S.par l b = true := fun hp => by
            obtain ⟨y, y0, y1, hy⟩ := S.free_ex hj hG (i := (i : Int)) (by omega) (by omega) hneg0 hp
            have h9 := hfx hp y.toNat (by omega)
            rw [Int.toNat_of_nonneg y0, hy] at h9
            cases h9
          refine region (ops_y hH54 rfl rfl (yv_assign rfl) (ops_nil (thn_n (ret ?_))))
          refine fin hH54 (fun w' hf => (res1 rfl (show RV _ _ _ (.tmp 4) _ from rfl))) (fun w' hf => ?_)
          first | (rw [S.rb_f hnp2]; exact Rd.nil) | (rw [S.rb_t hp2, hrt]; exact Heap.rdw T.el22_encI hf (n := 0) rfl) | (rw [S.rb_t hp3, hrt3, ← hrb]; exact hf.get (n := 0) rfl)

theorem c98_all : ∀ (n : Nat) {v vb : Value} {l b : List Int} {w : World} {i : Nat}, S.negs b = n → Rd encI 1 v l w → Rd encI 1 vb b w → S.J l → S.Good l b → S.un b = some i → Fn Try.prog 98 [v, vb].toArray w (fun u w => Rd encI 1 u (S.rootB l b) w) := by
  intro n
  induction n using Nat.strongRecOn with
  | ind n ih =>
    intro v vb l b w i hn h0 hb0 hj hG hu
    exact c98s h0 hb0 hj hG.1 hu hG (fun w2 v2 b2 j hlt h2 hb2 hG2 hu2 => ih _ (hn ▸ hlt) rfl h2 hb2 hj hG2 hu2)

end Go.Fip

set_option linter.unusedVariables false
set_option linter.unusedSimpArgs false
set_option linter.unusedSectionVars false
set_option linter.unnecessarySimpa false
namespace Go.Fip
open Go.Proofs Go.RowKit

theorem c43 {v : Value} {l : List Int} {w : World} (h0 : Rd encI 1 v l w) (hn : l.length ≤ 1000000)  :
    Fn Try.prog 43 [v].toArray w (fun u w => ∃ q, u = .tuple #[q, .int .i64 (S.rootR l).2] ∧ Rd encI 1 q (S.rootR l).1 w) := by
  refine fn_of' (args := [v]) Try.func43 rfl (ent Try.func43 (by kernel_rfl) rfl) rfl rfl (fun hH => ?_)
  refine seq (region (ops_y hH rfl rfl (yv_assign rfl) (ops_y hH rfl rfl (yv_assign rfl) (ops_nil (thn_n (seq (seq ?_)))))))
  by_cases hc1 : S.check l 0 = 0
  · skip
    have hc0 : S.check l 0 = 0 := ‹_›
    have hj : S.J l := S.check_iff.1 hc0
    have hl1 := hj.1
    have hl10 := hj.2.1
    refine region (ops_y hH rfl rfl (yv_move rfl) ?_)
    refine op_fnV rfl rfl rfl hH (c24 (h0.now hH (n := 0) rfl) (by omega)) (fun w2 hH3 => ?_)
    refine ops_y hH3 rfl rfl (yv_neq rfl rfl) ?_
    refine ops_nil (thn_n ?_)
    have hc4 : ¬ (¬ ((S.check l 0) = 0)) := fun h => h hc0
    refine cond_f rfl (not_decide_f hc4) ?_
    refine skip (thn_n (seq (region (ops_y hH3 rfl rfl (yv_move rfl) ?_))))
    refine ops_y hH3 rfl rfl (yv_len T.sl22 rfl (h0.now hH3 (n := 0) rfl).is) ?_
    refine op_make T.el22_encI (0 : Int) T.z22_encI rfl rfl rfl hH3 (by omega) (by omega) (fun u5 lo7 hi8 w6 hH9 => ?_)
    refine ops_y hH9 rfl rfl (yv_assign rfl) (ops_nil (thn_n (seq (seq (region (ops_y hH9 rfl rfl (yv_assign rfl) (ops_nil (thn_n (block ?_)))))))))
    refine loop (S := Nat × List Int × Value × Nat × Nat) (fun (k, o, v_4, lo_4, hi_4) => [(5, (.int .i64 (k : Int))), (4, v_4), (0, v), (2, (.slice none 0 0)), (3, (.int .i64 0))]) (fun (k, o, v_4, lo_4, hi_4) w1 => Heap [ow lo_4 hi_4 3 1 encI v_4 o, base w] w1 ∧ k ≤ l.length ∧ o.length = l.length ∧ ∀ i, i < k → nth o (i : Int) = -1) (fun (k, o, v_4, lo_4, hi_4) => l.length - k) (0, (List.replicate ((l.length : Int)).toNat (0 : Int)), u5, lo7, hi8) (Sub.cons rfl (Sub.cons rfl (Sub.cons rfl (Sub.cons rfl (Sub.cons rfl (Sub.nil _)))))) ?_ ?_
    · exact ⟨hH9, by omega, by simp, S.all_zero⟩
    · rintro ⟨k, o, v_4, lo_4, hi_4⟩ w10 ⟨hH11, hk, hol, ho⟩
      show Holds _ _ _ _ _ [(5, (.int .i64 (k : Int))), (4, v_4), (0, v), (2, (.slice none 0 0)), (3, (.int .i64 0))] _ _
      refine seq (seq (region (ops_y hH11 rfl rfl (yv_move rfl) (ops_y hH11 rfl rfl (yv_move rfl) ?_))))
      refine ops_y hH11 rfl rfl (yv_len T.sl22 rfl (h0.now hH11 (n := 1) rfl).is) ?_
      refine ops_y hH11 rfl rfl (yv_lss rfl rfl) ?_
      refine ops_nil (thn_n ?_)
      by_cases hc12 : (k : Int) < (l.length : Int)
      · skip
        refine cond_t rfl (decide_eq_true hc12) ?_
        refine skip (thn_n (seq (block (region (ops_y hH11 rfl rfl (yv_move rfl) (ops_y hH11 rfl rfl (yv_move rfl) ?_))))))
        refine ops_y hH11 rfl rfl (yv_index T.sl22 rfl rfl (Heap.rdw T.el22_encI hH11 (n := 0) rfl).is (by omega)) ?_
        refine op_setE (n := 0) (i := (k : Int)) (k := 0) (us := [(.int .i64 (-1))]) (z := (-1)) T.el22_encI rfl rfl hH11 rfl (by omega) T.sz3 rfl rfl rfl (Nat.le_of_ble_eq_true rfl) (fun w13 hH14 => ?_)
        refine ops_nil (blk_n (thn_n (region (ops_y hH14 rfl rfl (yv_move rfl) ?_))))
        refine ops_y hH14 rfl rfl (yv_add rfl rfl (by omega)) ?_
        refine ops_y hH14 rfl rfl (yv_assign rfl) (ops_nil ?_)
        refine lp_n (k + 1, (o.set ((k : Int)).toNat (-1)), v_4, lo_4, hi_4) (Sub.cons rfl (Sub.cons rfl (Sub.cons rfl (Sub.cons rfl (Sub.cons rfl (Sub.nil _)))))) ?_ ?_
        · exact ⟨hH14, by omega, (List.length_set).trans hol, S.set_all (by omega) ho⟩
        · first | (dsimp only; omega) | (show _ < _; omega)
      · skip
        refine cond_f rfl (decide_eq_false hc12) ?_
        refine exit (thn_x (lp_x (blk_here (thn_n (seq ?_)))))
        have hbn : o = S.none1 l.length := S.ext_nth (by rw [hol]; simp [S.none1]) (fun i hi => by rw [ho i (by omega), S.nth_none1 (by omega) (by omega)])
        refine region (ops_y hH11 rfl rfl (yv_move rfl) (ops_y hH11 rfl rfl (yv_move rfl) ?_))
        refine op_fn rfl rfl rfl hH11 (c98_all _ rfl (h0.now hH11 (n := 1) rfl) (hbn ▸ (Heap.rdw T.el22_encI hH11 (n := 0) rfl)) hj S.none1_good (S.un_none1 hj)) (fun u17 w15 lo18 hi19 hH16 hv20 => ?_)
        refine ops_y hH16 rfl rfl (yv_assign rfl) (ops_nil (thn_n (seq (seq ?_))))
        by_cases hc21 : S.noneL l = 0
        · skip
          have hnl : S.noneL l = 0 := ‹_›
          have hpr := (S.none1_par hj).2 hnl
          have hrb : S.rootB l (S.none1 l.length) = S.rt l (S.none1 l.length) := S.rb_t hpr
          have hrl : (S.rootB l (S.none1 l.length)).length = l.length := by rw [hrb]; exact S.rt_len hj S.none1_good hpr
          refine region (ops_y hH16 rfl rfl (yv_move rfl) ?_)
          refine ops_y hH16 rfl rfl (yv_len T.sl22 rfl ((show Rd encI 1 u17 (S.rootB l (S.none1 l.length)) _ from hH16.get (n := 0) rfl)).is) ?_
          refine ops_y hH16 rfl rfl (yv_eql rfl rfl) ?_
          refine ops_nil (thn_n ?_)
          have hc22 : ¬ (((S.rootB l (S.none1 l.length)).length : Int) = 0) := by omega
          refine cond_f rfl (decide_eq_false hc22) ?_
          refine skip (thn_n (seq (region (ops_y hH16 rfl rfl (yv_move rfl) (ops_y hH16 rfl rfl (yv_assign rfl) (ops_y hH16 rfl rfl (yv_assign rfl) (ops_nil (thn_n (ret ?_)))))))))
          have hH23 := (hH16.sub (List.Sublist.cons_cons _ (List.Sublist.cons _ (List.Sublist.refl _))))
          refine fin (hH23.front (n := 1) rfl) (fun w' hf => (res2 rfl (show RV _ _ _ (.tmp 2) _ from rfl) (show RV _ _ _ (.tmp 3) _ from rfl))) (fun w' hf => ?_)
          first | (rw [S.ro1 hcn]; exact ⟨_, rfl, Rd.nil⟩) | (rw [S.ro2 hc0 hnn]; exact ⟨_, rfl, Rd.nil⟩) | (rw [S.ro3 hc0 hnl, ← hrb]; exact ⟨_, rfl, hf.get (n := 0) rfl⟩)
        · skip
          have hnn : ¬ S.noneL l = 0 := ‹_›
          have hrb : S.rootB l (S.none1 l.length) = [] := S.rb_f (fun h => hnn ((S.none1_par hj).1 h))
          have hrl : (S.rootB l (S.none1 l.length)).length = 0 := by rw [hrb]; rfl
          refine region (ops_y hH16 rfl rfl (yv_move rfl) ?_)
          refine ops_y hH16 rfl rfl (yv_len T.sl22 rfl ((show Rd encI 1 u17 (S.rootB l (S.none1 l.length)) _ from hH16.get (n := 0) rfl)).is) ?_
          refine ops_y hH16 rfl rfl (yv_eql rfl rfl) ?_
          refine ops_nil (thn_n ?_)
          have hc24 : ((S.rootB l (S.none1 l.length)).length : Int) = 0 := by omega
          refine cond_t rfl (decide_eq_true hc24) ?_
          refine seq (region (ops_y hH16 rfl rfl (yv_assign rfl) (ops_y hH16 rfl rfl (yv_assign rfl) (ops_nil (thn_n (ret (thn_r ?_)))))))
          have hH25 := (hH16.sub (List.Sublist.cons _ (List.Sublist.cons _ (List.Sublist.refl _))))
          refine fin hH25 (fun w' hf => (res2 rfl (show RV _ _ _ (.tmp 2) _ from rfl) (show RV _ _ _ (.tmp 3) _ from rfl))) (fun w' hf => ?_)
          first | (rw [S.ro1 hcn]; exact ⟨_, rfl, Rd.nil⟩) | (rw [S.ro2 hc0 hnn]; exact ⟨_, rfl, Rd.nil⟩) | (rw [S.ro3 hc0 hnl, ← hrb]; exact ⟨_, rfl, hf.get (n := 0) rfl⟩)
  · skip
    have hcn : ¬ S.check l 0 = 0 := ‹_›
    refine region (ops_y hH rfl rfl (yv_move rfl) ?_)
    refine op_fnV rfl rfl rfl hH (c24 (h0.now hH (n := 0) rfl) (by omega)) (fun w26 hH27 => ?_)
    refine ops_y hH27 rfl rfl (yv_neq rfl rfl) ?_
    refine ops_nil (thn_n ?_)
    have hc28 : ¬ ((S.check l 0) = 0) := hcn
    refine cond_t rfl (not_decide_t hc28) ?_
    refine seq (region (ops_y hH27 rfl rfl (yv_move rfl) ?_))
    refine op_fnV rfl rfl rfl hH27 (c24 (h0.now hH27 (n := 0) rfl) (by omega)) (fun w29 hH30 => ?_)
    refine ops_y hH30 rfl rfl (yv_assign rfl) (ops_y hH30 rfl rfl (yv_assign rfl) (ops_nil (thn_n (ret (thn_r ?_)))))
    refine fin hH30 (fun w' hf => (res2 rfl (show RV _ _ _ (.tmp 2) _ from rfl) (show RV _ _ _ (.tmp 3) _ from rfl))) (fun w' hf => ?_)
    first | (rw [S.ro1 hcn]; exact ⟨_, rfl, Rd.nil⟩) | (rw [S.ro2 hc0 hnn]; exact ⟨_, rfl, Rd.nil⟩) | (rw [S.ro3 hc0 hnl, ← hrb]; exact ⟨_, rfl, hf.get (n := 0) rfl⟩)

end Go.Fip
